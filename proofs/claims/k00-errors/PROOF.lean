import PyProof.Rows.All
import Wide.All
import OpenK.AllK
import Wide.FinOn
import HandS.ForMost
import HandS.ForExc
import HandS.Flow
import HandS.IsInst
import HandS.Style
import HandS.ExcInit
import HandS.ExcValue
import HandS.ExcIs
import HandS.Nested
import KE.KExcSuper
import HandS.ExcField
import HandS.RaiseMore
import HandS.Dict
import HandS.List
import HandS.Comp
import HandS.Iter
import HandS.EndBits
import HandS.HeadHook1
import HandS.HeadHook2
import HandS.Head2
import HandS.HeadWalk
import PySem.Challenge.RW_playsalike_k00_errors_of_all_parts
set_option Elab.async false
set_option linter.all false
set_option maxRecDepth 100000
set_option maxHeartbeats 4000000
/-! PB0: Python values as trees, slots with ownership, the relation to the abstract heap, extension. -/
namespace PB
open PySem L2

/-! ### values as trees -/
inductive D where
  | non | bl (b : Bool) | int (i : Int) | str (x : Str) | ty (n : String) | at (n : Nat)
  | tup (xs : List D) | lst (xs : List D) | fls (xs : List D) | dct (ks : List Key) (xs : List D)
  | ins (c : Nat) (ns : List Str) (xs : List D)
  | exc (c : Nat) (ns : List Str) (xs : List D)
  | drw (large : List Int) (rest : Int) (cells : List Int) (turn : Int)
  deriving Inhabited

/-- the written part and where the program's classes stand -/
structure Gc where
  K : PySem.W.Frag
  cl : Nat → Addr

/-- an exception object of the class c with the dict d -/
def ExcO (c : Value) (d : Option Addr) (a : Addr) : HO := .ext fun h => ∃ (oe : Obj) (vs : Array Value), h.get? a = some oe ∧ oe.cls = c ∧ oe.dict = d ∧ oe.data = .fields vs

/-- a tuple, a list of the written part -/
def WrT (K : PySem.W.Frag) (a : Addr) (vs : List V) : Prop := ∃ (o : Obj) (its : Array Value) (n : Nat), K.lookup a = some o ∧ o.cls = .type "tuple" ∧ o.data = .seq its n ∧ its.size ≤ sizeLine ∧ Vals vs its.toList
def WrL (K : PySem.W.Frag) (a : Addr) (vs : List V) : Prop := ∃ (o : Obj) (its : Array Value) (n : Nat), K.lookup a = some o ∧ o.cls = .type "list" ∧ o.dict = none ∧ o.data = .seq its n ∧ its.size ≤ sizeLine ∧ Vals vs its.toList
def FzT (G : Gc) (Z : Addr → Prop) (H : Hp) (a : Addr) (vs : List V) : Prop := (Z a ∧ H a = some (.tup vs)) ∨ WrT G.K a vs
def FzL (Z : Addr → Prop) (H : Hp) (a : Addr) (vs : List V) : Prop := Z a ∧ H a = some (.lst vs)
/-- a list from outside, or written -/
def FoL (G : Gc) (Z : Addr → Prop) (H : Hp) (a : Addr) (vs : List V) : Prop := (Z a ∧ ∃ o, H a = some (.frz o (.lst vs))) ∨ WrL G.K a vs
def FzD (Z : Addr → Prop) (H : Hp) (a : Addr) (kvs : List (Key × V)) : Prop := Z a ∧ Rd H a (.dK kvs)

/-- the own dict of an exception: none, or what it tells -/
def XcD (Z : Addr → Prop) (H : Hp) (d : Option Addr) (fs : List (Str × V)) : Prop := match d with
  | none => fs = []
  | some dd => Z dd ∧ H dd = some (.xd fs)
theorem XcD.keep {Z Z' : Addr → Prop} {H H' : Hp} {d : Option Addr} {fs : List (Str × V)} (zs : ∀ a, Z a → Z' a) (k : ∀ a o, Z a → H a = some o → H' a = some o) (h : XcD Z H d fs) : XcD Z' H' d fs := by
  cases d with
  | none => exact h
  | some dd => exact ⟨zs _ h.1, k _ _ h.1 h.2⟩
mutual
/-- v is d, all of it frozen: what Z tells is never changed again -/
def Rf (G : Gc) (Z : Addr → Prop) (H : Hp) : D → V → Prop
  | .non, v => v = .non
  | .bl b, v => v = .bl b
  | .int i, v => v = .int i
  | .str x, v => v = .str x
  | .ty n, v => v = .ty n
  | .at n, v => v = .ref (G.cl n)
  | .tup xs, v => ∃ a vs, v = .ref a ∧ FzT G Z H a vs ∧ RfL G Z H xs vs
  | .lst xs, v => ∃ a vs, v = .ref a ∧ FzL Z H a vs ∧ RfL G Z H xs vs
  | .fls xs, v => ∃ a vs, v = .ref a ∧ FoL G Z H a vs ∧ RfL G Z H xs vs
  | .dct ks xs, v => ∃ a vs, v = .ref a ∧ FzD Z H a (ks.zip vs) ∧ ks.length = xs.length ∧ RfL G Z H xs vs
  | .ins c ns xs, v => ∃ a dx vs, v = .ref a ∧ (Z a ∧ Z dx) ∧ H a = some (.ins (G.cl c) dx (ns.zip vs)) ∧ H dx = some (.own a) ∧ ns.length = xs.length ∧ RfL G Z H xs vs
  | .exc c ns xs, v => ∃ a d vs, v = .ref a ∧ Z a ∧ H a = some (ExcO (.ref (G.cl c)) d a) ∧ XcD Z H d (ns.zip vs) ∧ ns.length = xs.length ∧ RfL G Z H xs vs
  | .drw _ _ _ _, _ => False
def RfL (G : Gc) (Z : Addr → Prop) (H : Hp) : List D → List V → Prop
  | [], vs => vs = []
  | x :: xs, vs => ∃ v r, vs = v :: r ∧ Rf G Z H x v ∧ RfL G Z H xs r
end

/-- v is d, its top not frozen: at fp stands what its owner may change -/
def Own (G : Gc) (Z : Addr → Prop) (H : Hp) (d : D) (v : V) (fp : List Addr) : Prop :=
  match d with
  | .lst xs => ∃ a vs, v = .ref a ∧ fp = [a] ∧ H a = some (.lst vs) ∧ RfL G Z H xs vs
  | .dct ks xs => ∃ a vs, v = .ref a ∧ fp = [a] ∧ H a = some (.dK (ks.zip vs)) ∧ ks.length = xs.length ∧ RfL G Z H xs vs
  | .ins c ns xs => ∃ a dx vs, v = .ref a ∧ fp = [a, dx] ∧ H a = some (.ins (G.cl c) dx (ns.zip vs)) ∧ H dx = some (.own a) ∧ ns.length = xs.length ∧ RfL G Z H xs vs
  | .drw large rest cells turn => ∃ a l c, v = .ref a ∧ fp = [a, l] ∧ H a = some (.dK [(.inr "large", .ref l), (.inr "rest", .int rest), (.inr "cells", .ref c), (.inr "turn", .int turn)]) ∧
      H l = some (.lst (large.map V.int)) ∧ FzL Z H c (cells.map V.int)
  | _ => False

/-- a slot: nothing told, frozen, owned, borrowed -/
inductive Sl where
  | un | fr (d : D) | ow (d : D) | io (d : D)
  deriving Inhabited
abbrev Env := List Sl

def RS (G : Gc) (Z : Addr → Prop) (H : Hp) (s : Sl) (w : Option V) (fp : List Addr) : Prop :=
  match s with
  | .un => True
  | .fr d => fp = [] ∧ ∃ v, w = some v ∧ Rf G Z H d v
  | .ow d => ∃ v, w = some v ∧ Own G Z H d v fp
  | .io d => ∃ v, w = some v ∧ Own G Z H d v fp

structure R (G : Gc) (Z : Addr → Prop) (O : Nat → List Addr) (ρ : Env) (σ : St) (H : Hp) : Prop where
  len : ρ.length = σ.length
  sl : ∀ i s, ρ[i]? = some s → RS G Z H s (σ[i]?.getD none) (O i)
  nd : ∀ i, (O i).Nodup
  dj : ∀ i j a, a ∈ O i → a ∈ O j → i = j
  oz : ∀ i a, a ∈ O i → ¬ Z a
  od : ∀ i a, a ∈ O i → H a ≠ none
  zd : ∀ a, Z a → H a ≠ none

abbrev Ow (O : Nat → List Addr) (a : Addr) : Prop := ∃ i, a ∈ O i
def setO (O : Nat → List Addr) (i : Nat) (fp : List Addr) : Nat → List Addr := fun j => if j = i then fp else O j

/-- what a piece of code may do: all that was not owned stands; what comes in was owned, or is new -/
structure Ext (Z : Addr → Prop) (O : Nat → List Addr) (H : Hp) (Z' : Addr → Prop) (O' : Nat → List Addr) (H' : Hp) : Prop where
  zs : ∀ a, Z a → Z' a
  kp : ∀ a o, H a = some o → ¬ Ow O a → H' a = some o
  zn : ∀ a, Z' a → Z a ∨ Ow O a ∨ H a = none
  on : ∀ a, Ow O' a → Ow O a ∨ H a = none
  dm : ∀ a, H' a = none → H a = none

theorem Ext.refl {Z : Addr → Prop} {O : Nat → List Addr} {H : Hp} : Ext Z O H Z O H :=
  ⟨fun _ h => h, fun _ _ h _ => h, fun _ h => .inl h, fun _ h => .inl h, fun _ h => h⟩
theorem Ext.trans {Z Z1 Z2 : Addr → Prop} {O O1 O2 : Nat → List Addr} {H H1 H2 : Hp} (a : Ext Z O H Z1 O1 H1) (b : Ext Z1 O1 H1 Z2 O2 H2) : Ext Z O H Z2 O2 H2 where
  zs := fun x h => b.zs x (a.zs x h)
  kp := fun x o h n => b.kp x o (a.kp x o h n) fun q => (a.on x q).elim n fun z => by rw [z] at h; cases h
  zn := fun x h => by
    rcases b.zn x h with h | h | h
    · exact a.zn x h
    · exact .inr (a.on x h)
    · exact .inr (.inr (a.dm x h))
  on := fun x h => by
    rcases b.on x h with h | h
    · exact a.on x h
    · exact .inr (a.dm x h)
  dm := fun x h => a.dm x (b.dm x h)

section
variable {G : Gc} {Z Z' : Addr → Prop} {H H' : Hp}
theorem FzT.sq {a : Addr} {vs : List V} (h : FzT G Z H a vs) : SqT G.K H a vs := h.elim (fun h => .of h.2) .inr
theorem FzL.sq {a : Addr} {vs : List V} (h : FzL Z H a vs) : SqL G.K H a vs := .of h.2
theorem FoL.sq {a : Addr} {vs : List V} (h : FoL G Z H a vs) : SqL G.K H a vs := h.elim (fun h => .inl (.inr h.2)) .inr
/-- what Z tells stands -/
def Kp (Z : Addr → Prop) (H H' : Hp) : Prop := ∀ a o, Z a → H a = some o → H' a = some o
theorem Kp.rd {a : Addr} {u : HO} (k : Kp Z H H') (z : Z a) (h : Rd H a u) : Rd H' a u := h.elim (fun h => .inl (k a _ z h)) fun ⟨o, h⟩ => .inr ⟨o, k a _ z h⟩

mutual
theorem Rf.keep (zs : ∀ a, Z a → Z' a) (k : Kp Z H H') : ∀ {d : D} {v : V}, Rf G Z H d v → Rf G Z' H' d v
  | .non, _, h | .bl _, _, h | .int _, _, h | .str _, _, h | .ty _, _, h | .at _, _, h => h
  | .tup xs, _, ⟨a, vs, e, f, r⟩ => ⟨a, vs, e, f.elim (fun ⟨z, f⟩ => .inl ⟨zs a z, k a _ z f⟩) .inr, RfL.keep zs k r⟩
  | .lst xs, _, ⟨a, vs, e, ⟨z, f⟩, r⟩ => ⟨a, vs, e, ⟨zs a z, k a _ z f⟩, RfL.keep zs k r⟩
  | .fls xs, _, ⟨a, vs, e, f, r⟩ => ⟨a, vs, e, f.elim (fun ⟨z, o, f⟩ => .inl ⟨zs a z, o, k a _ z f⟩) .inr, RfL.keep zs k r⟩
  | .dct ks xs, _, ⟨a, vs, e, ⟨z, f⟩, l, r⟩ => ⟨a, vs, e, ⟨zs a z, k.rd z f⟩, l, RfL.keep zs k r⟩
  | .ins c ns xs, _, ⟨a, dx, vs, e, ⟨z1, z2⟩, f1, f2, l, r⟩ => ⟨a, dx, vs, e, ⟨zs a z1, zs dx z2⟩, k a _ z1 f1, k dx _ z2 f2, l, RfL.keep zs k r⟩
  | .exc c ns xs, _, ⟨a, d, vs, e, z, f, g, l, r⟩ => ⟨a, d, vs, e, zs a z, k a _ z f, g.keep zs k, l, RfL.keep zs k r⟩
  | .drw _ _ _ _, _, h => h
theorem RfL.keep (zs : ∀ a, Z a → Z' a) (k : Kp Z H H') : ∀ {xs : List D} {vs : List V}, RfL G Z H xs vs → RfL G Z' H' xs vs
  | [], _, h => h
  | _ :: _, _, ⟨v, r, e, h1, h2⟩ => ⟨v, r, e, Rf.keep zs k h1, RfL.keep zs k h2⟩
end
theorem RfL.length : ∀ {xs : List D} {vs : List V}, RfL G Z H xs vs → xs.length = vs.length
  | [], _, h => by cases h; rfl
  | _ :: _, _, ⟨_, _, e, _, h⟩ => by rw [e, List.length_cons, List.length_cons, h.length]
theorem RfL.get : ∀ {xs : List D} {vs : List V} {i : Nat} {x : D}, RfL G Z H xs vs → xs[i]? = some x → ∃ v, vs[i]? = some v ∧ Rf G Z H x v
  | [], _, _, _, _, e => by simp at e
  | _ :: _, _, 0, _, ⟨v, r, q, h, _⟩, e => by simp at e; subst e; exact ⟨v, by rw [q]; rfl, h⟩
  | _ :: _, _, i + 1, x, ⟨v, r, q, _, h⟩, e => by
    obtain ⟨w, e1, e2⟩ := RfL.get (i := i) (x := x) h (by simpa using e)
    exact ⟨w, by rw [q]; simpa using e1, e2⟩
theorem RfL.append : ∀ {xs ys : List D} {vs ws : List V}, RfL G Z H xs vs → RfL G Z H ys ws → RfL G Z H (xs ++ ys) (vs ++ ws)
  | [], _, _, _, h, k => by cases h; exact k
  | _ :: _, _, _, _, ⟨v, r, e, h1, h2⟩, k => ⟨v, r ++ _, by rw [e]; rfl, h1, h2.append k⟩
theorem RfL.one {x : D} {v : V} (h : Rf G Z H x v) : RfL G Z H [x] [v] := ⟨v, [], rfl, h, rfl⟩

theorem Own.keep {d : D} {v : V} {fp : List Addr} (zs : ∀ a, Z a → Z' a) (k : Kp Z H H') (ko : ∀ a ∈ fp, ∀ o, H a = some o → H' a = some o) (h : Own G Z H d v fp) : Own G Z' H' d v fp := by
  cases d with
  | lst xs =>
    obtain ⟨a, vs, e, rfl, f, r⟩ := h
    exact ⟨a, vs, e, rfl, ko a (by simp) _ f, r.keep zs k⟩
  | dct ks xs =>
    obtain ⟨a, vs, e, rfl, f, l, r⟩ := h
    exact ⟨a, vs, e, rfl, ko a (by simp) _ f, l, r.keep zs k⟩
  | ins c ns xs =>
    obtain ⟨a, dx, vs, e, rfl, f, f2, l, r⟩ := h
    exact ⟨a, dx, vs, e, rfl, ko a (by simp) _ f, ko dx (by simp) _ f2, l, r.keep zs k⟩
  | drw _ _ _ _ =>
    obtain ⟨a, l, c, e, rfl, f1, f2, f3⟩ := h
    exact ⟨a, l, c, e, rfl, ko a (by simp) _ f1, ko l (by simp) _ f2, zs c f3.1, k c _ f3.1 f3.2⟩
  | _ => exact h.elim
theorem Own.there {d : D} {v : V} {fp : List Addr} (h : Own G Z H d v fp) : ∀ a ∈ fp, H a ≠ none := by
  intro b hb
  cases d with
  | lst xs =>
    obtain ⟨a, vs, e, rfl, f, r⟩ := h
    simp at hb; subst hb; rw [f]; simp
  | dct ks xs =>
    obtain ⟨a, vs, e, rfl, f, l, r⟩ := h
    simp at hb; subst hb; rw [f]; simp
  | ins c ns xs =>
    obtain ⟨a, dx, vs, e, rfl, f, f2, l, r⟩ := h
    simp at hb
    rcases hb with rfl | rfl
    · rw [f]; simp
    · rw [f2]; simp
  | drw _ _ _ _ =>
    obtain ⟨a, l, c, e, rfl, f1, f2, f3⟩ := h
    simp at hb
    rcases hb with rfl | rfl
    · rw [f1]; simp
    · rw [f2]; simp
  | _ => exact h.elim
/-- owned, then let go into Z -/
theorem Own.freeze {d : D} {v : V} {fp : List Addr} (h : Own G Z H d v fp) (nd : ∀ l r c t, d ≠ .drw l r c t) : Rf G (fun a => Z a ∨ a ∈ fp) H d v := by
  have zs : ∀ a, Z a → (fun a => Z a ∨ a ∈ fp) a := fun a z => .inl z
  have k : Kp Z H H := fun _ _ _ e => e
  cases d with
  | lst xs =>
    obtain ⟨a, vs, e, rfl, f, r⟩ := h
    exact ⟨a, vs, e, ⟨.inr (by simp), f⟩, r.keep zs k⟩
  | dct ks xs =>
    obtain ⟨a, vs, e, rfl, f, l, r⟩ := h
    exact ⟨a, vs, e, ⟨.inr (by simp), .inl f⟩, l, r.keep zs k⟩
  | ins c ns xs =>
    obtain ⟨a, dx, vs, e, rfl, f, f2, l, r⟩ := h
    exact ⟨a, dx, vs, e, ⟨.inr (by simp), .inr (by simp)⟩, f, f2, l, r.keep zs k⟩
  | drw l r c t => exact absurd rfl (nd l r c t)
  | _ => exact h.elim

theorem RS.keep {s : Sl} {w : Option V} {fp : List Addr} (zs : ∀ a, Z a → Z' a) (k : Kp Z H H') (ko : ∀ a ∈ fp, ∀ o, H a = some o → H' a = some o) (h : RS G Z H s w fp) : RS G Z' H' s w fp := by
  cases s with
  | un => exact h
  | fr d =>
    obtain ⟨e, v, e2, r⟩ := h
    exact ⟨e, v, e2, r.keep zs k⟩
  | ow d =>
    obtain ⟨v, e2, r⟩ := h
    exact ⟨v, e2, r.keep zs k ko⟩
  | io d =>
    obtain ⟨v, e2, r⟩ := h
    exact ⟨v, e2, r.keep zs k ko⟩
end
section
variable {G : Gc} {Z Z' : Addr → Prop} {H H' : Hp} {O : Nat → List Addr} {ρ : Env} {σ : St}
theorem Kp.of_ext {Z1 : Addr → Prop} {O1 : Nat → List Addr} (r : R G Z O ρ σ H) (x : Ext Z O H Z1 O1 H') : Kp Z H H' := fun a o z e => x.kp a o e fun ⟨i, q⟩ => r.oz i a q z
theorem R.rf {Z1 : Addr → Prop} {O1 : Nat → List Addr} {d : D} {v : V} (r : R G Z O ρ σ H) (x : Ext Z O H Z1 O1 H') (h : Rf G Z H d v) : Rf G Z1 H' d v := h.keep x.zs (Kp.of_ext r x)
theorem R.rfL {Z1 : Addr → Prop} {O1 : Nat → List Addr} {ds : List D} {vs : List V} (r : R G Z O ρ σ H) (x : Ext Z O H Z1 O1 H') (h : RfL G Z H ds vs) : RfL G Z1 H' ds vs := h.keep x.zs (Kp.of_ext r x)
/-- the heap grows, Z too, what is there stands -/
theorem R.grow (r : R G Z O ρ σ H) (zs : ∀ a, Z a → Z' a) (kp : ∀ a o, H a = some o → H' a = some o) (zo : ∀ i a, a ∈ O i → ¬ Z' a) (zd : ∀ a, Z' a → H' a ≠ none) : R G Z' O ρ σ H' where
  len := r.len
  sl := fun i s e => (r.sl i s e).keep zs (fun a o _ e => kp a o e) fun a _ o e => kp a o e
  nd := r.nd
  dj := r.dj
  oz := zo
  od := fun i a h => by
    cases e : H a with
    | none => exact absurd e (r.od i a h)
    | some o => rw [kp a o e]; simp
  zd := zd
abbrev addZ (Z : Addr → Prop) (p : Addr) : Addr → Prop := fun a => Z a ∨ a = p
theorem upd_keep {p : Addr} {o : HO} (hp : H p = none) : ∀ a u, H a = some u → upd H p o a = some u := fun a u e => by rw [upd_ne (ne_of_none e hp)]; exact e
/-- a new frozen object -/
theorem R.new {p : Addr} {o : HO} (r : R G Z O ρ σ H) (hp : H p = none) : R G (addZ Z p) O ρ σ (upd H p o) :=
  r.grow (fun _ z => .inl z) (upd_keep hp) (fun i a h z => z.elim (r.oz i a h) fun e => r.od i a h (e ▸ hp)) fun a z => z.elim (fun z => by
    cases e : H a with
    | none => exact absurd e (r.zd a z)
    | some u => rw [upd_keep hp a u e]; simp) fun e => by subst e; rw [upd_same]; simp
theorem Ext.new {p : Addr} {o : HO} (hp : H p = none) : Ext Z O H (addZ Z p) O (upd H p o) :=
  ⟨fun _ z => .inl z, fun a u e _ => upd_keep hp a u e, fun a z => z.elim .inl fun e => .inr (.inr (e ▸ hp)), fun _ h => .inl h, fun a e => by
    by_cases q : a = p
    · rw [q]; exact hp
    · rw [upd_ne q] at e; exact e⟩
/-- a new object that stands apart -/
theorem R.newO {p : Addr} {o : HO} (r : R G Z O ρ σ H) (hp : H p = none) : R G Z O ρ σ (upd H p o) :=
  r.grow (fun _ z => z) (upd_keep hp) r.oz fun a z => by
    cases e : H a with
    | none => exact absurd e (r.zd a z)
    | some u => rw [upd_keep hp a u e]; simp
theorem Ext.newO {p : Addr} {o : HO} (hp : H p = none) : Ext Z O H Z O (upd H p o) :=
  ⟨fun _ z => z, fun a u e _ => upd_keep hp a u e, fun a z => .inl z, fun _ h => .inl h, fun a e => by
    by_cases q : a = p
    · rw [q]; exact hp
    · rw [upd_ne q] at e; exact e⟩
end
end PB
set_option maxRecDepth 100000
set_option maxHeartbeats 4000000
/-! PB1: what a slot may do; results; the lifted readings. -/
namespace PB
open PySem L2
section
variable {G : Gc} {Z Z' : Addr → Prop} {H H' : Hp} {O : Nat → List Addr} {ρ : Env} {σ : St}
theorem setO_same {i : Nat} {fp : List Addr} : setO O i fp i = fp := by unfold setO; rw [if_pos rfl]
theorem setO_ne {i j : Nat} {fp : List Addr} (h : j ≠ i) : setO O i fp j = O j := by unfold setO; rw [if_neg h]
theorem getD_set {i j : Nat} {w : Option V} : (σ.set i w)[j]?.getD none = if j = i then (if i < σ.length then w else none) else σ[j]?.getD none := by
  rw [List.getElem?_set]
  by_cases e : i = j
  · subst e
    rw [if_pos rfl, if_pos rfl]
    by_cases h : i < σ.length
    · rw [if_pos h, if_pos h]; rfl
    · rw [if_neg h, if_neg h]; rfl
  · rw [if_neg e, if_neg (fun h => e h.symm)]
/-- a slot takes a frozen value -/
theorem R.setFr (r : R G Z O ρ σ H) {i : Nat} {d : D} {v : V} (h : Rf G Z H d v) : R G Z (setO O i []) (ρ.set i (.fr d)) (σ.set i (some v)) H where
  len := by rw [List.length_set, List.length_set]; exact r.len
  sl := fun j s e => by
    rw [getD_set]
    by_cases q : j = i
    · subst q
      rw [if_pos rfl, setO_same]
      obtain ⟨hl, _⟩ := List.getElem?_eq_some_iff.mp e
      rw [List.length_set] at hl
      rw [List.getElem?_set, if_pos rfl, if_pos hl] at e
      cases e
      rw [if_pos (by rw [← r.len]; exact hl)]
      exact ⟨rfl, v, rfl, h⟩
    · rw [if_neg q, setO_ne q]
      rw [List.getElem?_set, if_neg (fun z => q z.symm)] at e
      exact r.sl j s e
  nd := fun j => by
    by_cases q : j = i
    · subst q; rw [setO_same]; exact List.nodup_nil
    · rw [setO_ne q]; exact r.nd j
  dj := fun j k a h1 h2 => by
    by_cases q : j = i
    · subst q; rw [setO_same] at h1; cases h1
    · by_cases q2 : k = i
      · subst q2; rw [setO_same] at h2; cases h2
      · rw [setO_ne q] at h1; rw [setO_ne q2] at h2; exact r.dj j k a h1 h2
  oz := fun j a h => by
    by_cases q : j = i
    · subst q; rw [setO_same] at h; cases h
    · rw [setO_ne q] at h; exact r.oz j a h
  od := fun j a h => by
    by_cases q : j = i
    · subst q; rw [setO_same] at h; cases h
    · rw [setO_ne q] at h; exact r.od j a h
  zd := r.zd
theorem ow_setO {i : Nat} {fp : List Addr} {a : Addr} (h : Ow (setO O i fp) a) : a ∈ fp ∨ Ow O a := by
  obtain ⟨j, h⟩ := h
  by_cases q : j = i
  · subst q; rw [setO_same] at h; exact .inl h
  · rw [setO_ne q] at h; exact .inr ⟨j, h⟩
theorem Ext.drop {i : Nat} : Ext Z O H Z (setO O i []) H :=
  ⟨fun _ z => z, fun _ _ e _ => e, fun _ z => .inl z, fun _ h => (ow_setO h).elim (fun z => nomatch z) .inl, fun _ e => e⟩
/-- what a slot owns apart: new, or taken out -/
structure Apart (Z : Addr → Prop) (O : Nat → List Addr) (H : Hp) (fp : List Addr) : Prop where
  nd : fp.Nodup
  z : ∀ a ∈ fp, ¬ Z a
  o : ∀ a ∈ fp, ¬ Ow O a
  h : ∀ a ∈ fp, H a ≠ none
theorem R.setOw (r : R G Z O ρ σ H) {i : Nat} {d : D} {v : V} {fp : List Addr} (h : Own G Z H d v fp) (ap : Apart Z O H fp) : R G Z (setO O i fp) (ρ.set i (.ow d)) (σ.set i (some v)) H where
  len := by rw [List.length_set, List.length_set]; exact r.len
  sl := fun j s e => by
    rw [getD_set]
    by_cases q : j = i
    · subst q
      rw [if_pos rfl, setO_same]
      obtain ⟨hl, _⟩ := List.getElem?_eq_some_iff.mp e
      rw [List.length_set] at hl
      rw [List.getElem?_set, if_pos rfl, if_pos hl] at e
      cases e
      rw [if_pos (by rw [← r.len]; exact hl)]
      exact ⟨v, rfl, h⟩
    · rw [if_neg q, setO_ne q]
      rw [List.getElem?_set, if_neg (fun z => q z.symm)] at e
      exact r.sl j s e
  nd := fun j => by
    by_cases q : j = i
    · subst q; rw [setO_same]; exact ap.nd
    · rw [setO_ne q]; exact r.nd j
  dj := fun j k a h1 h2 => by
    by_cases q : j = i
    · by_cases q2 : k = i
      · rw [q, q2]
      · subst q; rw [setO_same] at h1; rw [setO_ne q2] at h2; exact absurd ⟨k, h2⟩ (ap.o a h1)
    · by_cases q2 : k = i
      · subst q2; rw [setO_same] at h2; rw [setO_ne q] at h1; exact absurd ⟨j, h1⟩ (ap.o a h2)
      · rw [setO_ne q] at h1; rw [setO_ne q2] at h2; exact r.dj j k a h1 h2
  oz := fun j a h => by
    by_cases q : j = i
    · subst q; rw [setO_same] at h; exact ap.z a h
    · rw [setO_ne q] at h; exact r.oz j a h
  od := fun j a h => by
    by_cases q : j = i
    · subst q; rw [setO_same] at h; exact ap.h a h
    · rw [setO_ne q] at h; exact r.od j a h
  zd := r.zd
/-- a slot's owned value is let go: frozen -/
theorem R.freeze (r : R G Z O ρ σ H) {i : Nat} {d : D} (e : ρ[i]? = some (.ow d)) (nd : ∀ l r c t, d ≠ .drw l r c t) :
    ∃ v, σ[i]? = some (some v) ∧ R G (fun a => Z a ∨ a ∈ O i) (setO O i []) (ρ.set i (.fr d)) σ H ∧ Rf G (fun a => Z a ∨ a ∈ O i) H d v := by
  obtain ⟨v, e2, ow⟩ := r.sl i _ e
  have e3 : σ[i]? = some (some v) := by
    cases q : σ[i]? with
    | none => rw [q] at e2; cases e2
    | some w => rw [q] at e2; exact congrArg some e2
  have f := ow.freeze nd
  refine ⟨v, e3, ?_, f⟩
  have r1 : R G (fun a => Z a ∨ a ∈ O i) (setO O i []) ρ (σ.set i none) H → True := fun _ => trivial
  have hs : σ.set i (some v) = σ := by
    apply List.ext_getElem?
    intro j
    rw [List.getElem?_set]
    by_cases q : i = j
    · subst q
      rw [if_pos rfl, e3]
      obtain ⟨hl, _⟩ := List.getElem?_eq_some_iff.mp e3
      rw [if_pos hl]
    · rw [if_neg q]
  refine ⟨by rw [List.length_set]; exact r.len, fun j s q => ?_, fun j => ?_, fun j k a h1 h2 => ?_, fun j a h => ?_, fun j a h => ?_, fun a z => z.elim (r.zd a) (r.od i a)⟩
  · by_cases q2 : j = i
    · subst q2
      obtain ⟨hl, _⟩ := List.getElem?_eq_some_iff.mp q
      rw [List.length_set] at hl
      rw [List.getElem?_set, if_pos rfl, if_pos hl] at q
      cases q
      rw [setO_same, e3]
      exact ⟨rfl, v, rfl, f⟩
    · rw [List.getElem?_set, if_neg (fun z => q2 z.symm)] at q
      rw [setO_ne q2]
      exact (r.sl j s q).keep (fun a z => .inl z) (fun _ _ _ e => e) fun _ _ _ e => e
  · by_cases q : j = i
    · subst q; rw [setO_same]; exact List.nodup_nil
    · rw [setO_ne q]; exact r.nd j
  · by_cases q : j = i
    · subst q; rw [setO_same] at h1; cases h1
    · by_cases q2 : k = i
      · subst q2; rw [setO_same] at h2; cases h2
      · rw [setO_ne q] at h1; rw [setO_ne q2] at h2; exact r.dj j k a h1 h2
  · by_cases q : j = i
    · subst q; rw [setO_same] at h; cases h
    · rw [setO_ne q] at h
      exact fun z => z.elim (r.oz j a h) fun z => q (r.dj j i a h z)
  · by_cases q : j = i
    · subst q; rw [setO_same] at h; cases h
    · rw [setO_ne q] at h; exact r.od j a h
theorem Ext.freeze {i : Nat} : Ext Z O H (fun a => Z a ∨ a ∈ O i) (setO O i []) H :=
  ⟨fun _ z => .inl z, fun _ _ e _ => e, fun a z => z.elim .inl fun z => .inr (.inl ⟨i, z⟩), fun _ h => (ow_setO h).elim (fun z => nomatch z) .inl, fun _ e => e⟩
/-- an owned object is written -/
theorem R.write (r : R G Z O ρ σ H) {i : Nat} {s s' : Sl} {a : Addr} {o : HO} (e : ρ[i]? = some s) (ha : a ∈ O i)
    (h : RS G Z (upd H a o) s' (σ[i]?.getD none) (O i)) : R G Z O (ρ.set i s') σ (upd H a o) where
  len := by rw [List.length_set]; exact r.len
  sl := fun j t q => by
    by_cases q2 : j = i
    · subst q2
      obtain ⟨hl, _⟩ := List.getElem?_eq_some_iff.mp q
      rw [List.length_set] at hl
      rw [List.getElem?_set, if_pos rfl, if_pos hl] at q
      cases q
      exact h
    · rw [List.getElem?_set, if_neg (fun z => q2 z.symm)] at q
      refine (r.sl j t q).keep (fun _ z => z) (fun b u z e => ?_) fun b hb u e => ?_
      · rw [upd_ne fun (z2 : b = a) => r.oz i a ha (z2 ▸ z)]; exact e
      · rw [upd_ne fun (z2 : b = a) => q2 (r.dj j i b hb (z2 ▸ ha))]; exact e
  nd := r.nd
  dj := r.dj
  oz := r.oz
  od := fun j b h => by
    by_cases q : b = a
    · rw [q, upd_same]; simp
    · rw [upd_ne q]; exact r.od j b h
  zd := fun b z => by
    by_cases q : b = a
    · rw [q, upd_same]; simp
    · rw [upd_ne q]; exact r.zd b z
theorem Ext.write {a : Addr} {o : HO} (ha : Ow O a) (hn : H a ≠ none) : Ext Z O H Z O (upd H a o) :=
  ⟨fun _ z => z, fun b u e n => by rw [upd_ne fun (z : b = a) => n (z ▸ ha)]; exact e, fun _ z => .inl z, fun _ h => .inl h, fun b e => by
    by_cases q : b = a
    · rw [q, upd_same] at e; cases e
    · rw [upd_ne q] at e; exact e⟩
/-- frozen by value in Rf of the written object: nothing frozen hangs on it -/
theorem Rf.write (r : R G Z O ρ σ H) {a : Addr} {o : HO} {d : D} {v : V} (ha : Ow O a) (h : Rf G Z H d v) : Rf G Z (upd H a o) d v :=
  h.keep (fun _ z => z) fun b u z e => by rw [upd_ne fun (z2 : b = a) => ha.elim fun i q => r.oz i a q (z2 ▸ z)]; exact e
theorem RfL.write (r : R G Z O ρ σ H) {a : Addr} {o : HO} {d : List D} {v : List V} (ha : Ow O a) (h : RfL G Z H d v) : RfL G Z (upd H a o) d v :=
  h.keep (fun _ z => z) fun b u z e => by rw [upd_ne fun (z2 : b = a) => ha.elim fun i q => r.oz i a q (z2 ▸ z)]; exact e
end

def isDrw : D → Bool
  | .drw _ _ _ _ => true
  | _ => false
theorem isDrw_no {d : D} (h : isDrw d = false) : ∀ l r c t, d ≠ .drw l r c t := fun l r c t e => by subst e; cases h
/-! ### results -/
inductive Res (α : Type) where
  | ok (a : α) (ρ : Env)
  | ex (x : D) (ρ : Env)
  | bad
@[inline] def Res.bind {α β : Type} (r : Res α) (f : α → Env → Res β) : Res β := match r with
  | .ok a ρ => f a ρ
  | .ex x ρ => .ex x ρ
  | .bad => .bad
abbrev M (α : Type) := Env → Res α

/-- an exception in flight is the datum x: its class, its own dict -/
def XR (G : Gc) (Z : Addr → Prop) (H : Hp) (x : D) (c : Value) (dd : Option Addr) : Prop := match x with
  | .exc n ns xs => c = .ref (G.cl n) ∧ ∃ vs, XcD Z H dd (ns.zip vs) ∧ ns.length = xs.length ∧ RfL G Z H xs vs
  | _ => False

/-- how a datum lies -/
abbrev Rep (α β : Type) := (Addr → Prop) → (Nat → List Addr) → Env → St → Hp → α → β → Prop
/-- behind a result: what is wanted of it -/
def contG {α β : Type} (G : Gc) (W : WX) (rep : Rep α β) (r : Res α) (Z : Addr → Prop) (O : Nat → List Addr) (σ : St) (H : Hp) (Q : β → Hp → Prop) : Prop := match r with
  | .ok d ρ' => ∀ v Z' O' H', Ext Z O H Z' O' H' → R G Z' O' ρ' σ H' → rep Z' O' ρ' σ H' d v → Q v H'
  | .ex x ρ' => ∀ c dd Z' O' H', Ext Z O H Z' O' H' → R G Z' O' ρ' σ H' → XR G Z' H' x c dd → W c dd σ H'
  | .bad => False
/-- a reading out of what the code does -/
def liftG {α β : Type} (G : Gc) (W : WX) (rep : Rep α β) (m : M α) : St → Hp → (β → Hp → Prop) → Prop := fun σ H Q => ∃ Z O ρ, R G Z O ρ σ H ∧ contG G W rep (m ρ) Z O σ H Q
abbrev repB : Rep Bool Bool := fun _ _ _ _ _ a b => a = b
abbrev repF (G : Gc) : Rep D V := fun Z _ _ _ H d v => Rf G Z H d v
abbrev repL (G : Gc) : Rep (List D) (List V) := fun Z _ _ _ H d v => RfL G Z H d v
/-- owned: at the place behind the slots -/
abbrev repO (G : Gc) : Rep D V := fun Z O ρ _ H d v => Own G Z H d v (O ρ.length)
abbrev cont (G : Gc) (W : WX) := contG G W (repF G)
abbrev lift (G : Gc) (W : WX) (m : M D) : TE := liftG G W (repF G) m
abbrev liftO (G : Gc) (W : WX) (m : M D) : TE := liftG G W (repO G) m
abbrev liftL (G : Gc) (W : WX) (m : M (List D)) : TA := liftG G W (repL G) m
abbrev liftB (G : Gc) (W : WX) (m : M Bool) : TT := liftG G W repB m

section
variable {α β γ δ : Type} {G : Gc} {W : WX} {rep : Rep α β} {rep' : Rep γ δ} {Z : Addr → Prop} {O : Nat → List Addr} {ρ : Env} {σ : St} {H : Hp}
theorem contG.ext {r : Res α} {Z1 : Addr → Prop} {O1 : Nat → List Addr} {H1 : Hp} {Q : β → Hp → Prop} (x : Ext Z O H Z1 O1 H1) (h : contG G W rep r Z O σ H Q) : contG G W rep r Z1 O1 σ H1 Q := by
  cases r with
  | ok d ρ' => exact fun v Z' O' H' y => h v Z' O' H' (x.trans y)
  | ex d ρ' => exact fun c dd Z' O' H' y => h c dd Z' O' H' (x.trans y)
  | bad => exact h
/-- one after the other -/
theorem contG.bind {r : Res α} {f : α → Env → Res γ} {Q : δ → Hp → Prop} (h : contG G W rep' (r.bind f) Z O σ H Q) :
    contG G W rep r Z O σ H (fun v H1 => ∃ Z1 O1 ρ1 d1, Ext Z O H Z1 O1 H1 ∧ R G Z1 O1 ρ1 σ H1 ∧ rep Z1 O1 ρ1 σ H1 d1 v ∧ contG G W rep' (f d1 ρ1) Z1 O1 σ H1 Q) := by
  cases r with
  | ok d ρ' => exact fun v Z' O' H' y rr hf => ⟨Z', O', ρ', d, y, rr, hf, h.ext y⟩
  | ex d ρ' => exact h
  | bad => exact h
theorem contG.mono {r : Res α} {Q Q' : β → Hp → Prop} (h : contG G W rep r Z O σ H Q) (hQ : ∀ v H, Q v H → Q' v H) : contG G W rep r Z O σ H Q' := by
  cases r with
  | ok d ρ' => exact fun v Z' O' H' y rr hf => hQ _ _ (h v Z' O' H' y rr hf)
  | ex d ρ' => exact h
  | bad => exact h
/-- the first of two readings -/
theorem liftG.bind {m : M α} {f : α → Env → Res γ} {Q : δ → Hp → Prop} (h : liftG G W rep' (fun ρ => (m ρ).bind f) σ H Q) :
    liftG G W rep m σ H (fun v H1 => ∃ Z1 O1 ρ1 d1, R G Z1 O1 ρ1 σ H1 ∧ rep Z1 O1 ρ1 σ H1 d1 v ∧ contG G W rep' (f d1 ρ1) Z1 O1 σ H1 Q) := by
  obtain ⟨Z, O, ρ, r, h⟩ := h
  exact ⟨Z, O, ρ, r, h.bind.mono fun v H ⟨Z1, O1, ρ1, d1, _, b, c, d⟩ => ⟨Z1, O1, ρ1, d1, b, c, d⟩⟩
theorem liftG.mk {m : M α} {Q : β → Hp → Prop} (r : R G Z O ρ σ H) (h : contG G W rep (m ρ) Z O σ H Q) : liftG G W rep m σ H Q := ⟨Z, O, ρ, r, h⟩
theorem liftG.mono {m : M α} {Q Q' : β → Hp → Prop} (h : liftG G W rep m σ H Q) (hQ : ∀ v H, Q v H → Q' v H) : liftG G W rep m σ H Q' := by
  obtain ⟨Z, O, ρ, r, h⟩ := h
  exact ⟨Z, O, ρ, r, h.mono hQ⟩
/-- another way to represent -/
theorem contG.chg {rep2 : Rep α β} {r : Res α} {Q : β → Hp → Prop} (w : ∀ Z' O' ρ' H' d v, R G Z' O' ρ' σ H' → rep2 Z' O' ρ' σ H' d v → ∃ Z2 O2 H2, Ext Z' O' H' Z2 O2 H2 ∧ H2 = H' ∧ R G Z2 O2 ρ' σ H2 ∧ rep Z2 O2 ρ' σ H2 d v)
    (h : contG G W rep r Z O σ H Q) : contG G W rep2 r Z O σ H Q := by
  cases r with
  | ok d ρ' =>
    intro v Z' O' H' y rr hf
    obtain ⟨Z2, O2, H2, x2, rfl, r2, f2⟩ := w Z' O' ρ' H' d v rr hf
    exact h v Z2 O2 H2 (y.trans x2) r2 f2
  | ex d ρ' => exact h
  | bad => exact h
end
/-- an option as a result -/
def optR {α : Type} (o : Option α) (ρ : Env) : Res α := match o with
  | some a => .ok a ρ
  | none => .bad

/-! ### the place behind the slots -/
section
variable {G : Gc} {Z Z' : Addr → Prop} {H H' : Hp} {O : Nat → List Addr} {ρ : Env} {σ : St}
theorem R.freezeT (r : R G Z O ρ σ H) {t : Nat} (ht : ρ.length ≤ t) : R G (fun a => Z a ∨ a ∈ O t) (setO O t []) ρ σ H where
  len := r.len
  sl := fun j s q => by
    have hj : j ≠ t := fun e => by
      obtain ⟨hl, _⟩ := List.getElem?_eq_some_iff.mp q
      omega
    rw [setO_ne hj]
    exact (r.sl j s q).keep (fun a z => .inl z) (fun _ _ _ e => e) fun _ _ _ e => e
  nd := fun j => by
    by_cases q : j = t
    · subst q; rw [setO_same]; exact List.nodup_nil
    · rw [setO_ne q]; exact r.nd j
  dj := fun j k a h1 h2 => by
    by_cases q : j = t
    · subst q; rw [setO_same] at h1; cases h1
    · by_cases q2 : k = t
      · subst q2; rw [setO_same] at h2; cases h2
      · rw [setO_ne q] at h1; rw [setO_ne q2] at h2; exact r.dj j k a h1 h2
  oz := fun j a h => by
    by_cases q : j = t
    · subst q; rw [setO_same] at h; cases h
    · rw [setO_ne q] at h
      exact fun z => z.elim (r.oz j a h) fun z => q (r.dj j t a h z)
  od := fun j a h => by
    by_cases q : j = t
    · subst q; rw [setO_same] at h; cases h
    · rw [setO_ne q] at h; exact r.od j a h
  zd := fun a z => z.elim (r.zd a) (r.od t a)
/-- what is behind the slots is let go -/
theorem frz_rep {d : D} {v : V} (nd : isDrw d = false) (r : R G Z O ρ σ H) (h : Own G Z H d v (O ρ.length)) : ∃ Z2 O2 H2, Ext Z O H Z2 O2 H2 ∧ H2 = H ∧ R G Z2 O2 ρ σ H2 ∧ Rf G Z2 H2 d v :=
  ⟨_, _, H, .freeze (i := ρ.length), rfl, r.freezeT (Nat.le_refl _), h.freeze (isDrw_no nd)⟩
/-- a new object, owned behind the slots -/
theorem R.newT (r : R G Z O ρ σ H) {t : Nat} {p : Addr} {o : HO} (ht : ρ.length ≤ t) (hp : H p = none) : R G Z (setO O t [p]) ρ σ (upd H p o) where
  len := r.len
  sl := fun j s q => by
    have hj : j ≠ t := fun e => by
      obtain ⟨hl, _⟩ := List.getElem?_eq_some_iff.mp q
      omega
    rw [setO_ne hj]
    exact (r.sl j s q).keep (fun a z => z) (fun a u _ e => upd_keep hp a u e) fun a _ u e => upd_keep hp a u e
  nd := fun j => by
    by_cases q : j = t
    · subst q; rw [setO_same]; exact List.nodup_cons.mpr ⟨by simp, List.nodup_nil⟩
    · rw [setO_ne q]; exact r.nd j
  dj := fun j k a h1 h2 => by
    have no : ∀ i, p ∉ O i := fun i h => r.od i p h hp
    by_cases q : j = t
    · by_cases q2 : k = t
      · rw [q, q2]
      · subst q; rw [setO_same] at h1; rw [setO_ne q2] at h2
        simp at h1; subst h1; exact absurd h2 (no k)
    · by_cases q2 : k = t
      · subst q2; rw [setO_same] at h2; rw [setO_ne q] at h1
        simp at h2; subst h2; exact absurd h1 (no j)
      · rw [setO_ne q] at h1; rw [setO_ne q2] at h2; exact r.dj j k a h1 h2
  oz := fun j a h z => by
    by_cases q : j = t
    · subst q; rw [setO_same] at h; simp at h; subst h; exact r.zd _ z hp
    · rw [setO_ne q] at h; exact r.oz j a h z
  od := fun j a h => by
    by_cases q : j = t
    · subst q; rw [setO_same] at h; simp at h; subst h; rw [upd_same]; simp
    · rw [setO_ne q] at h
      cases e : H a with
      | none => exact absurd e (r.od j a h)
      | some u => rw [upd_keep hp a u e]; simp
  zd := fun a z => by
    cases e : H a with
    | none => exact absurd e (r.zd a z)
    | some u => rw [upd_keep hp a u e]; simp
theorem Ext.newT {t : Nat} {p : Addr} {o : HO} (hp : H p = none) : Ext Z O H Z (setO O t [p]) (upd H p o) :=
  ⟨fun _ z => z, fun a u e _ => upd_keep hp a u e, fun a z => .inl z, fun a h => (ow_setO h).elim (fun z => .inr (by simp at z; subst z; exact hp)) .inl, fun a e => by
    by_cases q : a = p
    · rw [q]; exact hp
    · rw [upd_ne q] at e; exact e⟩
/-- what is behind the slots goes into a slot -/
theorem R.moveT (r : R G Z O ρ σ H) {t i : Nat} {d : D} {v : V} (ht : ρ.length ≤ t) (h : Own G Z H d v (O t)) (hi : i < ρ.length) : R G Z (setO (setO O t []) i (O t)) (ρ.set i (.ow d)) (σ.set i (some v)) H := by
  have hit : i ≠ t := by omega
  have r1 : R G Z (setO O t []) ρ σ H := {
    len := r.len
    sl := fun j s q => by
      have hj : j ≠ t := fun e => by
        obtain ⟨hl, _⟩ := List.getElem?_eq_some_iff.mp q
        omega
      rw [setO_ne hj]
      exact r.sl j s q
    nd := fun j => by
      by_cases q : j = t
      · subst q; rw [setO_same]; exact List.nodup_nil
      · rw [setO_ne q]; exact r.nd j
    dj := fun j k a h1 h2 => by
      by_cases q : j = t
      · subst q; rw [setO_same] at h1; cases h1
      · by_cases q2 : k = t
        · subst q2; rw [setO_same] at h2; cases h2
        · rw [setO_ne q] at h1; rw [setO_ne q2] at h2; exact r.dj j k a h1 h2
    oz := fun j a h => by
      by_cases q : j = t
      · subst q; rw [setO_same] at h; cases h
      · rw [setO_ne q] at h; exact r.oz j a h
    od := fun j a h => by
      by_cases q : j = t
      · subst q; rw [setO_same] at h; cases h
      · rw [setO_ne q] at h; exact r.od j a h
    zd := r.zd }
  refine r1.setOw h ⟨r.nd t, r.oz t, fun a ha z => ?_, r.od t⟩
  obtain ⟨j, z⟩ := z
  by_cases q : j = t
  · subst q; rw [setO_same] at z; cases z
  · rw [setO_ne q] at z; exact q (r.dj j t a z ha)
theorem Ext.moveT {t i : Nat} : Ext Z O H Z (setO (setO O t []) i (O t)) H :=
  ⟨fun _ z => z, fun _ _ e _ => e, fun _ z => .inl z, fun a h => (ow_setO h).elim (fun z => .inl ⟨t, z⟩) fun z => (ow_setO z).elim (fun z => nomatch z) .inl, fun _ e => e⟩
end
end PB
set_option maxRecDepth 100000
set_option maxHeartbeats 4000000
/-! PB2: rules for expressions. -/
namespace PB
open PySem L2
variable {G : Gc} {W : WX} {X : Cx}

theorem PE_imp {e : Expr} {t t' : TE} (h : PE X e t) (w : ∀ σ H Q, t' σ H Q → t σ H Q) : PE X e t' := ⟨fun pins s σ H Q I q => h.run pins s σ H Q I (w _ _ _ q)⟩
theorem PT_imp {e : Expr} {t t' : TT} (h : PT X e t) (w : ∀ σ H Q, t' σ H Q → t σ H Q) : PT X e t' := ⟨fun pins s σ H Q I q => h.run pins s σ H Q I (w _ _ _ q)⟩
theorem PW_imp {e : Expr} {t t' : TT} (h : PW X e t) (w : ∀ σ H Q, t' σ H Q → t σ H Q) : PW X e t' := ⟨fun wh pins s σ H Q I q => h.run wh pins s σ H Q I (w _ _ _ q)⟩
theorem PA_imp {es : List Expr} {t t' : TA} (h : PA X es t) (w : ∀ σ H Q, t' σ H Q → t σ H Q) : PA X es t' := ⟨fun pos pins s σ H Q I q => h.run pos pins s σ H Q I (w _ _ _ q)⟩
theorem PS_imp {st : Stmt} {t t' : TS} (h : PS X st t) (w : ∀ D σ H, t' D σ H → t D σ H) : PS X st t' := ⟨fun pins s σ H D I q => h.run pins s σ H D I (w _ _ _ q)⟩
theorem PSs_imp {st : List Stmt} {t t' : TS} (h : PSs X st t) (w : ∀ D σ H, t' D σ H → t D σ H) : PSs X st t' := ⟨fun pins s σ H D I q => h.run pins s σ H D I (w _ _ _ q)⟩

/-! ### names, constants -/
/-- a name read as a value: what it owned is frozen from now on -/
def rdV (i : Nat) : M D := fun ρ => match ρ[i]? with
  | some (.fr d) => .ok d ρ
  | some (.ow d) => if isDrw d then .bad else .ok d (ρ.set i (.fr d))
  | _ => .bad
theorem slot_some {σ : St} {i : Nat} {v : V} (h : σ[i]?.getD none = some v) : σ[i]? = some (some v) := by
  cases q : σ[i]? with
  | none => rw [q] at h; cases h
  | some w => rw [q] at h; exact congrArg some h
theorem d_var {e : Expr} {i : Nat} (h : PE X e (tVar i)) : PE X e (lift G W (rdV i)) := PE_imp h fun σ H Q ⟨Z, O, ρ, r, q⟩ => by
  unfold rdV at q
  cases e1 : ρ[i]? with
  | none => rw [e1] at q; exact q.elim
  | some s =>
    rw [e1] at q
    cases s with
    | un => exact q.elim
    | io d => exact q.elim
    | fr d =>
      obtain ⟨_, v, e2, hf⟩ := r.sl i _ e1
      exact ⟨v, slot_some e2, q v Z O H .refl r hf⟩
    | ow d =>
      simp only at q
      cases e2 : isDrw d with
      | true => rw [e2] at q; exact q.elim
      | false =>
        rw [e2] at q
        obtain ⟨v, e3, r1, hf⟩ := r.freeze e1 (isDrw_no e2)
        exact ⟨v, e3, q v _ _ H .freeze r1 hf⟩
def rdC (d : D) : M D := fun ρ => .ok d ρ
theorem d_const {e : Expr} {d : D} {v : V} (h : PE X e (tC v)) (f : ∀ Z H, Rf G Z H d v) : PE X e (lift G W (rdC d)) := PE_imp h fun σ H Q ⟨Z, O, ρ, r, q⟩ => q v Z O H .refl r (f Z H)
theorem d_int {i : Int} {j pos} : PE X (.Constant (.int i) j pos) (lift G W (rdC (.int i))) := d_const pe_int fun _ _ => rfl
theorem d_bl {b : Bool} {j pos} : PE X (.Constant (.bool b) j pos) (lift G W (rdC (.bl b))) := d_const pe_bl fun _ _ => rfl
theorem d_non {j pos} : PE X (.Constant .none j pos) (lift G W (rdC .non)) := d_const pe_non fun _ _ => rfl
theorem d_str {x : Str} {j pos} : PE X (.Constant (.str x) j pos) (lift G W (rdC (.str x))) := d_const pe_str fun _ _ => rfl

/-! ### operators by values -/
/-- an operator of values does f -/
def Op2 (G : Gc) (W : WX) (r : R2) (f : D → D → Option D) : Prop := ∀ Z O ρ σ H v w d1 d2 d Q, R G Z O ρ σ H → Rf G Z H d1 v → Rf G Z H d2 w → f d1 d2 = some d → cont G W (.ok d ρ) Z O σ H Q → r v w H Q
def bin2 (f : D → D → Option D) (ma mb : M D) : M D := fun ρ => (ma ρ).bind fun x ρ => (mb ρ).bind fun y ρ => optR (f x y) ρ
theorem op2_tOp {r : R2} {f : D → D → Option D} {ta tb : TE} {ma mb : M D} (hf : Op2 G W r f) (ha : ta = lift G W ma) (hb : tb = lift G W mb) {σ : St} {H : Hp} {Q : VK} (q : lift G W (bin2 f ma mb) σ H Q) : tOp r ta tb σ H Q := by
  subst ha hb
  refine liftG.mono (liftG.bind q) fun v H1 ⟨Z1, O1, ρ1, d1, r1, f1, q1⟩ => ?_
  refine ⟨Z1, O1, ρ1, r1, (contG.bind q1).mono fun w H2 ⟨Z2, O2, ρ2, d2, x, r2, f2, q2⟩ => ?_⟩
  cases e : f d1 d2 with
  | none => rw [e] at q2; exact q2.elim
  | some d =>
    rw [e] at q2
    exact hf Z2 O2 ρ2 σ H2 v w d1 d2 d Q r2 (r1.rf x f1) f2 e q2
theorem d_bin {a b : Expr} {op : Operator} {r : R2} {f : D → D → Option D} {ma mb : M D} {pos : Pos} (ho : OpR X (binaryOp op) r) (hf : Op2 G W r f) (ha : PE X a (lift G W ma)) (hb : PE X b (lift G W mb)) : PE X (.BinOp a op b pos) (lift G W (bin2 f ma mb)) :=
  PE_imp (pe_op ho ha hb) fun σ H Q q => op2_tOp hf rfl rfl q
theorem d_cmp {a b : Expr} {op : CmpOp} {r : R2} {f : D → D → Option D} {ma mb : M D} {pos : Pos} (ho : OpR X (compareOp op) r) (hf : Op2 G W r f) (ha : PE X a (lift G W ma)) (hb : PE X b (lift G W mb)) (hm : behindInMarks op b = false) :
    PE X (.Compare a [op] [b] pos) (lift G W (bin2 f ma mb)) := PE_imp (pe_cmpR ho ha hb hm) fun σ H Q q => op2_tOp hf rfl rfl q
theorem d_ix {a b : Expr} {r : R2} {f : D → D → Option D} {ma mb : M D} {pos : Pos} (ho : IxR X r) (hf : Op2 G W r f) (ha : PE X a (lift G W ma)) (hb : PE X b (lift G W mb)) (hs : PlainIx b) : PE X (.Subscript a b pos) (lift G W (bin2 f ma mb)) :=
  PE_imp (pe_ix ho ha hb hs) fun σ H Q q => op2_tOp hf rfl rfl q
/-- two rules for one operator, by the data's kinds -/
theorem Op2.or {r r' : R2} {f f' : D → D → Option D} (h : Op2 G W r f) (h' : Op2 G W r' f') : Op2 G W (fun x y H Q => r x y H Q ∨ r' x y H Q) (fun x y => (f x y).orElse fun _ => f' x y) := fun Z O ρ σ H v w d1 d2 d Q rr f1 f2 e q => by
  have e : (f d1 d2).orElse (fun _ => f' d1 d2) = some d := e
  cases e1 : f d1 d2 with
  | some d' =>
    rw [e1] at e
    cases e
    exact .inl (h Z O ρ σ H v w d1 d2 _ Q rr f1 f2 e1 q)
  | none =>
    rw [e1] at e
    exact .inr (h' Z O ρ σ H v w d1 d2 _ Q rr f1 f2 e q)
/-- a flat answer -/
theorem Op2.flat {r : R2} {f : D → D → Option D} (h : ∀ Z H v w d1 d2 d Q, Rf G Z H d1 v → Rf G Z H d2 w → f d1 d2 = some d → (∀ u, (∀ Z' H', Rf G Z' H' d u) → Q u H) → r v w H Q) : Op2 G W r f := fun Z O ρ σ H v w d1 d2 d Q rr f1 f2 e q =>
  h Z H v w d1 d2 d Q f1 f2 e fun u hu => q u Z O H .refl rr (hu _ _)

def fI (g : Int → Int → Int) : D → D → Option D
  | .int i, .int j => some (.int (g i j))
  | _, _ => none
def fIB (g : Int → Int → Bool) : D → D → Option D
  | .int i, .int j => some (.bl (g i j))
  | _, _ => none
theorem o_I {g : Int → Int → Int} : Op2 G W (rI0 fun i j => .int (g i j)) (fI g) := .flat fun Z H v w d1 d2 d Q f1 f2 e q => by
  cases d1 <;> cases d2 <;> first | (cases e; done) | skip
  cases e
  cases f1; cases f2
  exact ⟨_, _, rfl, rfl, q _ fun _ _ => rfl⟩
theorem o_IB {g : Int → Int → Bool} : Op2 G W (rI0 fun i j => .bl (g i j)) (fIB g) := .flat fun Z H v w d1 d2 d Q f1 f2 e q => by
  cases d1 <;> cases d2 <;> first | (cases e; done) | skip
  cases e
  cases f1; cases f2
  exact ⟨_, _, rfl, rfl, q _ fun _ _ => rfl⟩
def fIC (c : Int → Int → Bool) (g : Int → Int → Int) : D → D → Option D
  | .int i, .int j => if c i j = true then some (.int (g i j)) else none
  | _, _ => none
theorem o_IC {C : Int → Int → Prop} {c : Int → Int → Bool} (hc : ∀ i j, c i j = true → C i j) {g : Int → Int → Int} : Op2 G W (rI C fun i j => .int (g i j)) (fIC c g) := .flat fun Z H v w d1 d2 d Q f1 f2 e q => by
  cases d1 <;> cases d2 <;> first | (cases e; done) | skip
  rename_i i j
  cases e1 : c i j with
  | false => simp only [fIC, e1] at e; cases e
  | true =>
    simp only [fIC, e1, if_true] at e
    cases e
    cases f1; cases f2
    exact ⟨_, _, rfl, rfl, hc _ _ e1, q _ fun _ _ => rfl⟩

/-! ### sizes -/
abbrev lim : Nat := 16777216
theorem lim_eq : lim = sizeLine := by rw [sizeLine_eq]
def fMulI : D → D → Option D := fIC (fun i j => decide (-(2 ^ 64) < i ∧ i < 2 ^ 64) || decide (-(2 ^ 64) < j ∧ j < 2 ^ 64)) (fun i j => i * j)
theorem o_mulI : Op2 G W (rI CMul fun i j => .int (i * j)) fMulI := o_IC fun i j h => by
  rcases Bool.or_eq_true_iff.mp h with h | h
  · exact .inl (of_decide_eq_true h)
  · exact .inr (of_decide_eq_true h)
def fModI : D → D → Option D := fIC (fun _ j => decide (j ≠ 0)) fun i j => i.fmod j
theorem o_modI : Op2 G W (rI (fun _ j => j ≠ 0) fun i j => .int (i.fmod j)) fModI := o_IC fun i j h => of_decide_eq_true h
def fDivI : D → D → Option D := fIC (fun _ j => decide (j ≠ 0 ∧ j.natAbs < 1073741824)) fun i j => i.fdiv j
theorem o_divI : Op2 G W (rI CDivN fun i j => .int (i.fdiv j)) fDivI := o_IC fun i j h => show j ≠ 0 ∧ j.natAbs < 1073741824 from of_decide_eq_true h
def fPowI : D → D → Option D := fIC (fun i j => decide (0 ≤ j ∧ j ≤ 1000000 ∧ i.natAbs < 2 ^ 64)) fun i j => i ^ j.toNat
theorem o_powI : Op2 G W (rI CPow fun i j => .int (i ^ j.toNat)) fPowI := o_IC fun i j h => show 0 ≤ j ∧ j ≤ 1000000 ∧ i.natAbs < 2 ^ 64 from of_decide_eq_true h

/-- texts joined -/
def fAddS : D → D → Option D
  | .str x, .str y => if x.length + y.length ≤ lim then some (.str (x ++ y)) else none
  | _, _ => none
theorem o_addS : Op2 G W (fun x y H Q => ∃ i j, x = .str i ∧ y = .str j ∧ i.length + j.length ≤ sizeLine ∧ Q (.str (i ++ j)) H) fAddS := .flat fun Z H v w d1 d2 d Q f1 f2 e q => by
  cases d1 <;> cases d2 <;> first | (cases e; done) | skip
  rename_i x y
  by_cases h : x.length + y.length ≤ lim
  · simp only [fAddS, if_pos h] at e
    cases e; cases f1; cases f2
    exact ⟨_, _, rfl, rfl, by rw [← lim_eq]; exact h, q _ fun _ _ => rfl⟩
  · simp only [fAddS, if_neg h] at e; cases e
/-- lists joined: a new one -/
def fAddL : D → D → Option D
  | .lst x, .lst y => if x.length + y.length ≤ lim then some (.lst (x ++ y)) else none
  | _, _ => none
theorem FzL.at {Z : Addr → Prop} {H : Hp} {a : Addr} {vs : List V} (h : FzL Z H a vs) : H a = some (.lst vs) := h.2
/-- a new list, frozen -/
theorem cont_lst {Z : Addr → Prop} {O : Nat → List Addr} {ρ : Env} {σ : St} {H : Hp} {Q : VK} {ds : List D} {vs : List V} (r : R G Z O ρ σ H) (f : RfL G Z H ds vs) (q : cont G W (.ok (.lst ds) ρ) Z O σ H Q) (p : Addr) (hp : H p = none) :
    Q (.ref p) (upd H p (.lst vs)) :=
  q _ _ _ _ (.new hp) (r.new hp) ⟨p, vs, rfl, ⟨.inr rfl, upd_same⟩, f.keep (fun _ z => .inl z) fun a o _ e => upd_keep hp a o e⟩
theorem cont_tup {Z : Addr → Prop} {O : Nat → List Addr} {ρ : Env} {σ : St} {H : Hp} {Q : VK} {ds : List D} {vs : List V} (r : R G Z O ρ σ H) (f : RfL G Z H ds vs) (q : cont G W (.ok (.tup ds) ρ) Z O σ H Q) (p : Addr) (hp : H p = none) :
    Q (.ref p) (upd H p (.tup vs)) :=
  q _ _ _ _ (.new hp) (r.new hp) ⟨p, vs, rfl, .inl ⟨.inr rfl, upd_same⟩, f.keep (fun _ z => .inl z) fun a o _ e => upd_keep hp a o e⟩
theorem o_addL : Op2 G W rCat fAddL := fun Z O ρ σ H v w d1 d2 d Q rr f1 f2 e q => by
  cases d1 <;> cases d2 <;> first | (cases e; done) | skip
  rename_i x y
  by_cases h : x.length + y.length ≤ lim
  · simp only [fAddL, if_pos h] at e
    cases e
    obtain ⟨a, vs, rfl, g1, r1⟩ := f1
    obtain ⟨b, ws, rfl, g2, r2⟩ := f2
    exact ⟨a, b, vs, ws, rfl, rfl, g1.at, g2.at, by rw [← lim_eq, ← r1.length, ← r2.length]; exact h, cont_lst rr (r1.append r2) q⟩
  · simp only [fAddL, if_neg h] at e; cases e
/-- tuples joined -/
def fAddT : D → D → Option D
  | .tup (x :: xs), .tup y => if (x :: xs).length + y.length ≤ lim then some (.tup (x :: xs ++ y)) else none
  | _, _ => none
theorem o_addT : Op2 G W (rCatT G.K) fAddT := fun Z O ρ σ H v w d1 d2 d Q rr f1 f2 e q => by
  cases d1 with
  | tup xs0 =>
    cases xs0 with
    | nil => cases d2 <;> cases e
    | cons x xs =>
      cases d2 with
      | tup y =>
        by_cases h : (x :: xs).length + y.length ≤ lim
        · simp only [fAddT, if_pos h] at e
          cases e
          obtain ⟨a, vs, rfl, g1, r1⟩ := f1
          obtain ⟨b, ws, rfl, g2, r2⟩ := f2
          refine ⟨a, b, vs, ws, rfl, rfl, g1.sq, g2.sq, ?_, by rw [← lim_eq, ← r1.length, ← r2.length]; exact h, fun e => ?_, fun _ => cont_tup rr (r1.append r2) q⟩
          · obtain ⟨v, r, e, _⟩ := r1
            rw [e]; exact List.cons_ne_nil _ _
          · subst e
            have hy : y = [] := by
              have := r2.length
              exact List.eq_nil_of_length_eq_zero this
            subst hy
            rw [List.append_nil] at q
            exact q _ Z O H .refl rr ⟨a, vs, rfl, g1, r1⟩
        · simp only [fAddT, if_neg h] at e; cases e
      | _ => cases e
  | _ => cases e

/-! ### equality of data -/
mutual
def toP : D → Option PyData
  | .non => some .none
  | .bl b => some (.bool b)
  | .int i => some (.int i)
  | .str x => some (.str x)
  | .tup xs => (toPL xs).map .tuple
  | .lst xs => (toPL xs).map .list
  | _ => none
def toPL : List D → Option (List PyData)
  | [] => some []
  | x :: xs => match toP x, toPL xs with
    | some p, some ps => some (p :: ps)
    | _, _ => none
end
mutual
theorem toP_dp {Z : Addr → Prop} {H : Hp} : ∀ {d : D} {v : V} {p : PyData}, Rf G Z H d v → toP d = some p → Dp G.K H v p
  | .non, _, _, h, e => by cases e; cases h; exact .non
  | .bl _, _, _, h, e => by cases e; cases h; exact .bl _
  | .int _, _, _, h, e => by cases e; cases h; exact .int _
  | .str _, _, _, h, e => by cases e; cases h; exact .str _
  | .tup xs, _, _, ⟨a, vs, q, f, r⟩, e => by
    unfold toP at e
    cases e1 : toPL xs with
    | none => rw [e1] at e; cases e
    | some ps => rw [e1] at e; cases e; subst q; exact .tup f.sq (toPL_dp r e1)
  | .lst xs, _, _, ⟨a, vs, q, f, r⟩, e => by
    unfold toP at e
    cases e1 : toPL xs with
    | none => rw [e1] at e; cases e
    | some ps => rw [e1] at e; cases e; subst q; exact .lst f.sq (toPL_dp r e1)
  | .ty _, _, _, _, e | .at _, _, _, _, e | .dct _ _, _, _, _, e | .ins _ _ _, _, _, _, e | .exc _ _ _, _, _, _, e | .drw _ _ _ _, _, _, _, e | .fls _, _, _, _, e => by cases e
theorem toPL_dp {Z : Addr → Prop} {H : Hp} : ∀ {ds : List D} {vs : List V} {ps : List PyData}, RfL G Z H ds vs → toPL ds = some ps → DpAll G.K H vs ps
  | [], _, _, h, e => by cases e; cases h; exact .nil
  | x :: xs, _, _, ⟨v, r, q, h1, h2⟩, e => by
    unfold toPL at e
    cases e1 : toP x with
    | none => rw [e1] at e; cases e
    | some p =>
      cases e2 : toPL xs with
      | none => rw [e1, e2] at e; cases e
      | some ps => rw [e1, e2] at e; cases e; subst q; exact .cons (toP_dp h1 e1) (toPL_dp h2 e2)
end
def fEqB (g : Bool → Bool) (x y : D) : Option D := match toP x, toP y with
  | some p, some q => if (SeqAt.shaped p && SeqAt.shaped q) = true then some (.bl (g (PyData.eqv p q))) else none
  | _, _ => none
def fEq : D → D → Option D := fEqB id
def fNe : D → D → Option D := fEqB not
theorem fEqB_some {g : Bool → Bool} {x y d : D} (e : fEqB g x y = some d) : ∃ p q, toP x = some p ∧ toP y = some q ∧ SeqAt.shaped p = true ∧ SeqAt.shaped q = true ∧ d = .bl (g (PyData.eqv p q)) := by
  unfold fEqB at e
  cases e1 : toP x with
  | none => rw [e1] at e; cases e
  | some p =>
    cases e2 : toP y with
    | none => rw [e1, e2] at e; cases e
    | some q =>
      rw [e1, e2] at e
      simp only at e
      by_cases h : (SeqAt.shaped p && SeqAt.shaped q) = true
      · rw [if_pos h] at e
        cases e
        exact ⟨p, q, rfl, rfl, (Bool.and_eq_true_iff.mp h).1, (Bool.and_eq_true_iff.mp h).2, rfl⟩
      · rw [if_neg h] at e; cases e
theorem o_eq : Op2 G W (rEqD G.K) fEq := .flat fun Z H v w d1 d2 d Q f1 f2 e q => by
  obtain ⟨p, p', e1, e2, s1, s2, rfl⟩ := fEqB_some e
  exact ⟨p, p', toP_dp f1 e1, toP_dp f2 e2, s1, s2, q _ fun _ _ => rfl⟩
theorem o_ne : Op2 G W (rNeD G.K) fNe := .flat fun Z H v w d1 d2 d Q f1 f2 e q => by
  obtain ⟨p, p', e1, e2, s1, s2, rfl⟩ := fEqB_some e
  exact ⟨p, p', toP_dp f1 e1, toP_dp f2 e2, s1, s2, q _ fun _ _ => rfl⟩

/-! ### in, is -/
def flatD : D → Bool
  | .non | .bl _ | .int _ | .str _ => true
  | _ => false
def toV : D → V
  | .bl b => .bl b
  | .int i => .int i
  | .str x => .str x
  | _ => .non
theorem flatD_v {Z : Addr → Prop} {H : Hp} {d : D} {v : V} (h : Rf G Z H d v) (f : flatD d = true) : v = toV d ∧ flatV v = true := by
  cases d <;> first | (cases f; done) | (cases h; exact ⟨rfl, rfl⟩)
theorem flatL_v {Z : Addr → Prop} {H : Hp} : ∀ {ds : List D} {vs : List V}, RfL G Z H ds vs → ds.all flatD = true → vs = ds.map toV ∧ vs.all flatV = true
  | [], _, h, _ => by cases h; exact ⟨rfl, rfl⟩
  | x :: xs, _, ⟨v, r, e, h1, h2⟩, f => by
    rw [List.all_cons, Bool.and_eq_true_iff] at f
    obtain ⟨a, b⟩ := flatD_v h1 f.1
    obtain ⟨c, d⟩ := flatL_v h2 f.2
    rw [e, List.map_cons, List.all_cons, ← a, ← c, b, d]
    exact ⟨rfl, rfl⟩
/-- x in a written list or tuple of flat things -/
def fInB (neg : Bool) (x y : D) : Option D := match y with
  | .tup ys => if (flatD x && ys.all flatD) = true then some (.bl (if neg then !inV (toV x) (ys.map toV) else inV (toV x) (ys.map toV))) else none
  | .lst ys => if (flatD x && ys.all flatD) = true then some (.bl (if neg then !inV (toV x) (ys.map toV) else inV (toV x) (ys.map toV))) else none
  | _ => none
theorem o_inB {neg : Bool} : Op2 G W (rIn G.K neg) (fInB neg) := .flat fun Z H v w d1 d2 d Q f1 f2 e q => by
  cases d2 <;> first | (cases e; done) | skip
  all_goals
    rename_i ys
    by_cases h : (flatD d1 && ys.all flatD) = true
    · simp only [fInB, if_pos h] at e
      cases e
      obtain ⟨a, vs, rfl, g, r⟩ := f2
      obtain ⟨h1, h2⟩ := Bool.and_eq_true_iff.mp h
      obtain ⟨e1, e2⟩ := flatD_v f1 h1
      obtain ⟨e3, e4⟩ := flatL_v r h2
      refine ⟨a, vs, rfl, by first | exact .inl g.sq | exact .inr g.sq, e2, e4, ?_⟩
      rw [e1, e3]
      exact q _ fun _ _ => rfl
    · simp only [fInB, if_neg h] at e; cases e
/-- a sign in a text -/
def fInS (g : Bool → Bool) : D → D → Option D
  | .str x, .str y => match x with
    | ⟨⟨[c]⟩⟩ => some (.bl (g (decide (c ∈ y.cps.toList))))
    | _ => none
  | _, _ => none
theorem o_inS : Op2 G W (fun x y H Q => ∃ (c : Nat) (z : Str), x = .str ⟨#[c]⟩ ∧ y = .str z ∧ Q (.bl (decide (c ∈ z.cps.toList))) H) (fInS id) := .flat fun Z H v w d1 d2 d Q f1 f2 e q => by
  cases d1 <;> cases d2 <;> first | (cases e; done) | skip
  rename_i x y
  obtain ⟨⟨l⟩⟩ := x
  match l, e, f1 with
  | [], e, _ => cases e
  | [c], e, f1 => cases e; cases f1; cases f2; exact ⟨c, y, rfl, rfl, q _ fun _ _ => rfl⟩
  | _ :: _ :: _, e, _ => cases e
/-- is None -/
def fIsN (g : Bool → Bool) : D → D → Option D
  | x, .non => match x with
    | .drw _ _ _ _ => none
    | .non => some (.bl (g true))
    | _ => some (.bl (g false))
  | _, _ => none
theorem isN_dec {Z : Addr → Prop} {H : Hp} {d : D} {v : V} (h : Rf G Z H d v) : decide (v = .non) = (match d with | .non => true | _ => false) := by
  cases d with
  | non => cases h; rfl
  | bl _ => cases h; rfl
  | int _ => cases h; rfl
  | str _ => cases h; rfl
  | ty _ => cases h; rfl
  | «at» _ => cases h; rfl
  | tup _ => obtain ⟨a, vs, rfl, _⟩ := h; rfl
  | lst _ => obtain ⟨a, vs, rfl, _⟩ := h; rfl
  | fls _ => obtain ⟨a, vs, rfl, _⟩ := h; rfl
  | dct _ _ => obtain ⟨a, vs, rfl, _⟩ := h; rfl
  | ins _ _ _ => obtain ⟨a, dx, vs, rfl, _⟩ := h; rfl
  | exc _ _ _ => obtain ⟨a, dx, vs, rfl, _⟩ := h; rfl
  | drw _ _ _ _ => exact h.elim
theorem o_isN : Op2 G W (fun x y H Q => y = .non ∧ Q (.bl (decide (x = .non))) H) (fIsN id) := .flat fun Z H v w d1 d2 d Q f1 f2 e q => by
  cases d2 <;> first | (cases d1 <;> cases e; done) | skip
  cases f2
  refine ⟨rfl, ?_⟩
  rw [isN_dec f1]
  cases d1 <;> first | (cases e; done) | (cases e; exact q _ fun _ _ => rfl)
theorem o_notN : Op2 G W (fun x y H Q => y = .non ∧ Q (.bl (!decide (x = .non))) H) (fIsN not) := .flat fun Z H v w d1 d2 d Q f1 f2 e q => by
  cases d2 <;> first | (cases d1 <;> cases e; done) | skip
  cases f2
  refine ⟨rfl, ?_⟩
  rw [isN_dec f1]
  cases d1 <;> first | (cases e; done) | (cases e; exact q _ fun _ _ => rfl)

/-! ### subscripts -/
def fIxT : D → D → Option D
  | .tup xs, .int i => atI xs i
  | _, _ => none
def fIxL : D → D → Option D
  | .lst xs, .int i => atI xs i
  | _, _ => none
theorem RfL.at {Z : Addr → Prop} {H : Hp} {ds : List D} {vs : List V} {i : Int} {d : D} (r : RfL G Z H ds vs) (e : atI ds i = some d) : ∃ v, atI vs i = some v ∧ Rf G Z H d v := by
  unfold atI at e ⊢
  rw [← r.length]
  cases q : ixN ds.length i with
  | none => rw [q] at e; cases e
  | some j => rw [q] at e; exact r.get e
theorem o_ixT : Op2 G W (rIxT G.K) fIxT := fun Z O ρ σ H v w d1 d2 d Q rr f1 f2 e q => by
  cases d1 <;> cases d2 <;> first | (cases e; done) | skip
  obtain ⟨a, vs, rfl, g, r⟩ := f1
  cases f2
  obtain ⟨x, e1, f⟩ := r.at e
  exact ⟨a, vs, _, x, rfl, rfl, g.sq, e1, q _ Z O H .refl rr f⟩
theorem o_ixL : Op2 G W (rIxL G.K) fIxL := fun Z O ρ σ H v w d1 d2 d Q rr f1 f2 e q => by
  cases d1 <;> cases d2 <;> first | (cases e; done) | skip
  obtain ⟨a, vs, rfl, g, r⟩ := f1
  cases f2
  obtain ⟨x, e1, f⟩ := r.at e
  exact ⟨a, vs, _, x, rfl, rfl, g.sq, e1, q _ Z O H .refl rr f⟩
end PB
set_option maxRecDepth 100000
set_option maxHeartbeats 4000000
/-! PB3: tests, displays, statements. -/
namespace PB
open PySem L2
variable {G : Gc} {W : WX} {X : Cx}

/-! ### truth, tests -/
def truD : D → Option Bool
  | .non => some false
  | .bl b => some b
  | .int i => some (i != 0)
  | .str x => if x.length ≤ lim then some ((x.length : Int) != 0) else none
  | .tup xs => some (!xs.isEmpty)
  | .lst xs => some (!xs.isEmpty)
  | .fls xs => some (!xs.isEmpty)
  | _ => none
theorem isEmpty_L {Z : Addr → Prop} {H : Hp} {ds : List D} {vs : List V} (r : RfL G Z H ds vs) : (!ds.isEmpty) = !vs.isEmpty := by
  cases ds with
  | nil => cases r; rfl
  | cons x xs => obtain ⟨v, s, e, _⟩ := r; rw [e]; rfl
theorem tru_of {Z : Addr → Prop} {H : Hp} {d : D} {v : V} {k : Bool} (f : Rf G Z H d v) (e : truD d = some k) : TruV G.K v H k := by
  cases d with
  | non => cases f; cases e; exact rfl
  | bl b => cases f; cases e; exact rfl
  | int i => cases f; cases e; exact rfl
  | str x =>
    cases f
    by_cases h : x.length ≤ lim
    · simp only [truD, if_pos h] at e; cases e; exact ⟨by rw [← lim_eq]; exact h, rfl⟩
    · simp only [truD, if_neg h] at e; cases e
  | tup xs => obtain ⟨a, vs, rfl, g, r⟩ := f; cases e; exact .inr (.inl ⟨vs, g.sq, isEmpty_L r⟩)
  | lst xs => obtain ⟨a, vs, rfl, g, r⟩ := f; cases e; exact .inl ⟨vs, g.sq, isEmpty_L r⟩
  | fls xs => obtain ⟨a, vs, rfl, g, r⟩ := f; cases e; exact .inl ⟨vs, g.sq, isEmpty_L r⟩
  | _ => cases e
theorem rf_bl {Z : Addr → Prop} {H : Hp} {d : D} {k : Bool} (f : Rf G Z H d (.bl k)) : d = .bl k := by
  cases d with
  | bl b => cases f; rfl
  | tup _ => obtain ⟨_, _, e, _⟩ := f; cases e
  | lst _ => obtain ⟨_, _, e, _⟩ := f; cases e
  | fls _ => obtain ⟨_, _, e, _⟩ := f; cases e
  | dct _ _ => obtain ⟨_, _, e, _⟩ := f; cases e
  | ins _ _ _ => obtain ⟨_, _, _, e, _⟩ := f; cases e
  | exc _ _ _ => obtain ⟨_, _, _, e, _⟩ := f; cases e
  | drw _ _ _ _ => exact f.elim
  | _ => cases f
def mTru (m : M D) : M Bool := fun ρ => (m ρ).bind fun d ρ => optR (truD d) ρ
def asB : D → Option Bool
  | .bl b => some b
  | _ => none
/-- any expression as a test -/
theorem t_of {e : Expr} {m : M D} (hK : G.K = X.K) (h : PE X e (lift G W m)) (he : ∀ whole, isTrue e X.env whole = (do let v ← whole; standAt e.pos; holding [v] (truthy v)) := by intro _; rfl) : PT X e (liftB G W (mTru m)) :=
  PT_imp (pt_truth h he) fun σ H Q q => liftG.mono (liftG.bind q) fun v H1 ⟨Z1, O1, ρ1, d1, r1, f1, q1⟩ => by
    cases e : truD d1 with
    | none => rw [e] at q1; exact q1.elim
    | some k => rw [e] at q1; exact ⟨k, hK ▸ tru_of f1 e, q1 k Z1 O1 H1 .refl r1 rfl⟩
/-- a comparison as a test -/
theorem t_cmp {a b : Expr} {op : CmpOp} {r : R2} {f : D → D → Option D} {ma mb : M D} {pos : Pos} (ho : OpR X (compareOp op) r) (hf : Op2 G W r f) (hb : ∀ x y d, f x y = some d → ∃ k, d = .bl k) (ha : PE X a (lift G W ma)) (hb' : PE X b (lift G W mb)) (hm : behindInMarks op b = false) :
    PT X (.Compare a [op] [b] pos) (liftB G W (mTru (bin2 f ma mb))) := PT_imp (pt_cmpR ho ha hb' hm) fun σ H Q q => by
  refine op2_tOp (f := f) (ma := ma) (mb := mb) hf rfl rfl ?_
  obtain ⟨Z, O, ρ, r, q⟩ := q
  refine ⟨Z, O, ρ, r, ?_⟩
  unfold mTru at q
  have q1 := contG.bind (rep := repF G) q
  unfold bin2 at q1 ⊢
  cases e1 : ma ρ with
  | bad => rw [e1] at q1; exact q1.elim
  | ex x ρ' => rw [e1] at q1; exact q1
  | ok d1 ρ1 =>
    rw [e1] at q1
    simp only [Res.bind] at q1 ⊢
    cases e2 : mb ρ1 with
    | bad => rw [e2] at q1; exact q1.elim
    | ex x ρ' => rw [e2] at q1; exact q1
    | ok d2 ρ2 =>
      rw [e2] at q1
      simp only [Res.bind] at q1 ⊢
      cases e3 : f d1 d2 with
      | none => rw [e3] at q1; exact q1.elim
      | some d =>
        rw [e3] at q1
        obtain ⟨k, rfl⟩ := hb _ _ _ e3
        intro v Z' O' H' x rr ff
        cases ff
        obtain ⟨Z1, O1, ρ1', d1', x1, r1, f1, q2⟩ := q1 (.bl k) Z' O' H' x rr rfl
        cases rf_bl f1
        exact ⟨k, rfl, q2 k Z1 O1 H' .refl r1 rfl⟩
theorem bl_eq {g : Bool → Bool} : ∀ x y d, fEqB g x y = some d → ∃ k, d = .bl k := fun x y d e => let ⟨p, q, _, _, _, _, h⟩ := fEqB_some e; ⟨_, h⟩
theorem bl_IB {g : Int → Int → Bool} : ∀ x y d, fIB g x y = some d → ∃ k, d = .bl k := fun x y d e => by
  cases x <;> cases y <;> first | (cases e; done) | (cases e; exact ⟨_, rfl⟩)
theorem bl_inB {n : Bool} : ∀ x y d, fInB n x y = some d → ∃ k, d = .bl k := fun x y d e => by
  cases y <;> first | (cases e; done) | skip
  all_goals
    rename_i ys
    by_cases h : (flatD x && ys.all flatD) = true
    · simp only [fInB, if_pos h] at e
      cases e; exact ⟨_, rfl⟩
    · simp only [fInB, if_neg h] at e; cases e
theorem bl_inS {g : Bool → Bool} : ∀ x y d, fInS g x y = some d → ∃ k, d = .bl k := fun x y d e => by
  cases x <;> cases y <;> first | (cases e; done) | skip
  rename_i x y
  obtain ⟨⟨l⟩⟩ := x
  match l, e with
  | [], e => cases e
  | [c], e => cases e; exact ⟨_, rfl⟩
  | _ :: _ :: _, e => cases e
theorem bl_isN {g : Bool → Bool} : ∀ x y d, fIsN g x y = some d → ∃ k, d = .bl k := fun x y d e => by
  cases y <;> first | (cases x <;> cases e; done) | skip
  cases x <;> first | (cases e; done) | (cases e; exact ⟨_, rfl⟩)

def mNotB (m : M Bool) : M Bool := fun ρ => (m ρ).bind fun b ρ => .ok (!b) ρ
def mAndB (a b : M Bool) : M Bool := fun ρ => (a ρ).bind fun k ρ => if k = true then b ρ else .ok false ρ
def mOrB (a b : M Bool) : M Bool := fun ρ => (a ρ).bind fun k ρ => if k = true then .ok true ρ else b ρ
theorem t_not {a : Expr} {m : M Bool} {pos : Pos} (h : PT X a (liftB G W m)) : PT X (.UnaryOp .Not a pos) (liftB G W (mNotB m)) :=
  PT_imp (pt_not h) fun σ H Q q => liftG.mono (liftG.bind (rep := repB) q) fun v H1 ⟨Z1, O1, ρ1, d1, r1, f1, q1⟩ => by
    subst f1; exact q1 _ Z1 O1 H1 .refl r1 rfl
theorem t_and1 {a : Expr} {m : M Bool} {pos : Pos} (h : PT X a (liftB G W m)) : PW X (.BoolOp .And [a] pos) (liftB G W m) := pw_and1 h
theorem t_or1 {a : Expr} {m : M Bool} {pos : Pos} (h : PT X a (liftB G W m)) : PW X (.BoolOp .Or [a] pos) (liftB G W m) := pw_or1 h
theorem t_and {a b : Expr} {rest : List Expr} {ma mb : M Bool} {pos : Pos} (ha : PT X a (liftB G W ma)) (hb : PW X (.BoolOp .And (b :: rest) pos) (liftB G W mb)) : PW X (.BoolOp .And (a :: b :: rest) pos) (liftB G W (mAndB ma mb)) :=
  PW_imp (pw_and ha hb) fun σ H Q q => liftG.mono (liftG.bind (rep := repB) q) fun v H1 ⟨Z1, O1, ρ1, d1, r1, f1, q1⟩ => by
    subst f1
    cases d1 with
    | true => exact ⟨Z1, O1, ρ1, r1, q1⟩
    | false => exact q1 _ Z1 O1 H1 .refl r1 rfl
theorem t_or {a b : Expr} {rest : List Expr} {ma mb : M Bool} {pos : Pos} (ha : PT X a (liftB G W ma)) (hb : PW X (.BoolOp .Or (b :: rest) pos) (liftB G W mb)) : PW X (.BoolOp .Or (a :: b :: rest) pos) (liftB G W (mOrB ma mb)) :=
  PW_imp (pw_or ha hb) fun σ H Q q => liftG.mono (liftG.bind (rep := repB) q) fun v H1 ⟨Z1, O1, ρ1, d1, r1, f1, q1⟩ => by
    subst f1
    cases d1 with
    | false => exact ⟨Z1, O1, ρ1, r1, q1⟩
    | true => exact q1 _ Z1 O1 H1 .refl r1 rfl
/-- as values -/
def mAndV (a b : M D) : M D := fun ρ => (a ρ).bind fun d ρ => match truD d with
  | some true => b ρ
  | some false => .ok d ρ
  | none => .bad
def mOrV (a b : M D) : M D := fun ρ => (a ρ).bind fun d ρ => match truD d with
  | some true => .ok d ρ
  | some false => b ρ
  | none => .bad
def mNotV (a : M D) : M D := fun ρ => (a ρ).bind fun d ρ => match truD d with
  | some k => .ok (.bl (!k)) ρ
  | none => .bad
theorem d_one {op : BoolOp} {a : Expr} {m : M D} {pos : Pos} (h : PE X a (lift G W m)) : PE X (.BoolOp op [a] pos) (lift G W m) := pe_one h
theorem d_and {a b : Expr} {rest : List Expr} {ma mb : M D} {pos : Pos} (hK : G.K = X.K) (ha : PE X a (lift G W ma)) (hb : PE X (.BoolOp .And (b :: rest) pos) (lift G W mb)) : PE X (.BoolOp .And (a :: b :: rest) pos) (lift G W (mAndV ma mb)) :=
  PE_imp (pe_andT ha hb) fun σ H Q q => liftG.mono (liftG.bind q) fun v H1 ⟨Z1, O1, ρ1, d1, r1, f1, q1⟩ => by
    cases e : truD d1 with
    | none => rw [e] at q1; exact q1.elim
    | some k =>
      rw [e] at q1
      refine ⟨k, hK ▸ tru_of f1 e, ?_⟩
      cases k with
      | true => exact ⟨Z1, O1, ρ1, r1, q1⟩
      | false => exact q1 _ Z1 O1 H1 .refl r1 f1
theorem d_or {a b : Expr} {rest : List Expr} {ma mb : M D} {pos : Pos} (hK : G.K = X.K) (ha : PE X a (lift G W ma)) (hb : PE X (.BoolOp .Or (b :: rest) pos) (lift G W mb)) : PE X (.BoolOp .Or (a :: b :: rest) pos) (lift G W (mOrV ma mb)) :=
  PE_imp (pe_orT ha hb) fun σ H Q q => liftG.mono (liftG.bind q) fun v H1 ⟨Z1, O1, ρ1, d1, r1, f1, q1⟩ => by
    cases e : truD d1 with
    | none => rw [e] at q1; exact q1.elim
    | some k =>
      rw [e] at q1
      refine ⟨k, hK ▸ tru_of f1 e, ?_⟩
      cases k with
      | false => exact ⟨Z1, O1, ρ1, r1, q1⟩
      | true => exact q1 _ Z1 O1 H1 .refl r1 f1
theorem d_not {a : Expr} {ma : M D} {pos : Pos} (hK : G.K = X.K) (ha : PE X a (lift G W ma)) : PE X (.UnaryOp .Not a pos) (lift G W (mNotV ma)) :=
  PE_imp (pe_notT ha) fun σ H Q q => liftG.mono (liftG.bind q) fun v H1 ⟨Z1, O1, ρ1, d1, r1, f1, q1⟩ => by
    cases e : truD d1 with
    | none => rw [e] at q1; exact q1.elim
    | some k => rw [e] at q1; exact ⟨k, hK ▸ tru_of f1 e, q1 _ Z1 O1 H1 .refl r1 rfl⟩
def mIf {α : Type} (t : M Bool) (a b : M α) : M α := fun ρ => (t ρ).bind fun k ρ => if k = true then a ρ else b ρ
theorem d_if {c a b : Expr} {t : M Bool} {ma mb : M D} {pos : Pos} (hc : PT X c (liftB G W t)) (ha : PE X a (lift G W ma)) (hb : PE X b (lift G W mb)) : PE X (.IfExp c a b pos) (lift G W (mIf t ma mb)) :=
  PE_imp (pe_ifExp hc ha hb) fun σ H Q q => liftG.mono (liftG.bind (rep := repB) q) fun v H1 ⟨Z1, O1, ρ1, d1, r1, f1, q1⟩ => by
    subst f1
    cases d1 with
    | true => exact ⟨Z1, O1, ρ1, r1, q1⟩
    | false => exact ⟨Z1, O1, ρ1, r1, q1⟩
/-- a op b op' c -/
def mChain (f g : D → D → Option D) (ma mb mc : M D) : M D := fun ρ => (ma ρ).bind fun x ρ => (mb ρ).bind fun y ρ => match f x y with
  | some (.bl true) => (mc ρ).bind fun z ρ => optR (g y z) ρ
  | some (.bl false) => .ok (.bl false) ρ
  | _ => .bad
theorem d_chain {a b c : Expr} {op op' : CmpOp} {r r' : R2} {f g : D → D → Option D} {ma mb mc : M D} {pos : Pos} (ho : OpR X (compareOp op) r) (ho' : OpR X (compareOp op') r') (hf : Op2 G W r f) (hg : Op2 G W r' g)
    (ha : PE X a (lift G W ma)) (hb : PE X b (lift G W mb)) (hc : PE X c (lift G W mc)) (hm : lastMarks [op, op'] [b, c] = false := by with_unfolding_all rfl) : PE X (.Compare a [op, op'] [b, c] pos) (lift G W (mChain f g ma mb mc)) :=
  PE_imp (pe_chain ho ho' ha hb hc hm) fun σ H Q q => by
    refine liftG.mono (liftG.bind q) fun v H1 ⟨Z1, O1, ρ1, d1, r1, f1, q1⟩ => ?_
    refine ⟨Z1, O1, ρ1, r1, (contG.bind (rep := repF G) q1).mono fun w H2 ⟨Z2, O2, ρ2, d2, x, r2, f2, q2⟩ => ?_⟩
    cases e : f d1 d2 with
    | none => rw [e] at q2; exact q2.elim
    | some d =>
      rw [e] at q2
      cases d with
      | bl k =>
        refine hf Z2 O2 ρ2 σ H2 v w d1 d2 _ _ r2 (r1.rf x f1) f2 e fun u Z3 O3 H3 x3 r3 f3 => ⟨k, f3, ?_⟩
        cases k with
        | false => exact iteF (q2 _ Z3 O3 H3 x3 r3 rfl)
        | true =>
          refine iteT ⟨Z3, O3, ρ2, r3, (contG.bind (rep := repF G) (q2.ext x3)).mono fun z H4 ⟨Z4, O4, ρ4, d4, x4, r4, f4, q4⟩ => ?_⟩
          cases e4 : g d2 d4 with
          | none => rw [e4] at q4; exact q4.elim
          | some d' =>
            rw [e4] at q4
            exact hg Z4 O4 ρ4 σ H4 w z d2 d4 d' Q r4 (r3.rf x4 (r2.rf x3 f2)) f4 e4 q4
      | _ => exact q2.elim
theorem t_chain {a b c : Expr} {op op' : CmpOp} {r r' : R2} {f g : D → D → Option D} {ma mb mc : M D} {pos : Pos} (ho : OpR X (compareOp op) r) (ho' : OpR X (compareOp op') r') (hf : Op2 G W r f) (hg : Op2 G W r' g) (hgb : ∀ x y d, g x y = some d → ∃ k, d = .bl k)
    (ha : PE X a (lift G W ma)) (hb : PE X b (lift G W mb)) (hc : PE X c (lift G W mc)) (hm : lastMarks [op, op'] [b, c] = false := by with_unfolding_all rfl) : PT X (.Compare a [op, op'] [b, c] pos) (liftB G W (mTru (mChain f g ma mb mc))) :=
  PT_imp (pt_chain ho ho' ha hb hc hm) fun σ H Q ⟨Z, O, ρ, r0, q⟩ => by
    unfold mTru mChain at q
    have q := contG.bind (rep := repF G) q
    have q1 : lift G W (fun ρ => (ma ρ).bind fun x ρ => (mb ρ).bind fun y ρ => match f x y with
      | some (.bl true) => (mc ρ).bind fun z ρ => optR (g y z) ρ
      | some (.bl false) => .ok (.bl false) ρ
      | _ => .bad) σ H _ := ⟨Z, O, ρ, r0, q⟩
    refine liftG.mono (liftG.bind q1) fun v H1 ⟨Z1, O1, ρ1, d1, r1, f1, q1⟩ => ?_
    refine ⟨Z1, O1, ρ1, r1, (contG.bind (rep := repF G) q1).mono fun w H2 ⟨Z2, O2, ρ2, d2, x, r2, f2, q2⟩ => ?_⟩
    cases e : f d1 d2 with
    | none => rw [e] at q2; exact q2.elim
    | some d =>
      rw [e] at q2
      cases d with
      | bl k =>
        refine hf Z2 O2 ρ2 σ H2 v w d1 d2 _ _ r2 (r1.rf x f1) f2 e fun u Z3 O3 H3 x3 r3 f3 => ⟨k, f3, ?_⟩
        cases k with
        | false =>
          refine iteF ⟨false, rfl, ?_⟩
          obtain ⟨Z4, O4, ρ4, d4, x4, r4, f4, q4⟩ := q2 (.bl false) Z3 O3 H3 x3 r3 rfl
          cases rf_bl f4
          exact q4 false Z4 O4 H3 .refl r4 rfl
        | true =>
          refine iteT ⟨Z3, O3, ρ2, r3, (contG.bind (rep := repF G) (q2.ext x3)).mono fun z H4 ⟨Z4, O4, ρ4, d4, x4, r4, f4, q4⟩ => ?_⟩
          cases e4 : g d2 d4 with
          | none => rw [e4] at q4; exact q4.elim
          | some d' =>
            rw [e4] at q4
            obtain ⟨k, rfl⟩ := hgb _ _ _ e4
            refine hg Z4 O4 ρ4 σ H4 w z d2 d4 _ _ r4 (r3.rf x4 (r2.rf x3 f2)) f4 e4 fun u Z5 O5 H5 x5 r5 f5 => ⟨k, f5, ?_⟩
            obtain ⟨Z6, O6, ρ6, d6, x6, r6, f6, q6⟩ := q4 (.bl k) Z5 O5 H5 x5 r5 rfl
            cases rf_bl f6
            exact q6 k Z6 O6 H5 .refl r6 rfl
      | _ => exact q2.elim

/-! ### argument lists, displays -/
def mNil : M (List D) := fun ρ => .ok [] ρ
def mCons (m : M D) (ms : M (List D)) : M (List D) := fun ρ => (m ρ).bind fun x ρ => (ms ρ).bind fun xs ρ => .ok (x :: xs) ρ
theorem a_nil : PA X [] (liftL G W mNil) := PA_imp pa_nil fun σ H Q ⟨Z, O, ρ, r, q⟩ => q _ Z O H .refl r rfl
theorem a_cons {e : Expr} {es : List Expr} {m : M D} {ms : M (List D)} (h : PE X e (lift G W m)) (hs : PA X es (liftL G W ms)) (hst : starEach (e :: es) X.env = (false, eval e X.env) :: starEach es X.env := by rfl) : PA X (e :: es) (liftL G W (mCons m ms)) :=
  PA_imp (pa_cons h hs hst) fun σ H Q q => by
    refine liftG.mono (liftG.bind q) fun v H1 ⟨Z1, O1, ρ1, d1, r1, f1, q1⟩ => ?_
    refine ⟨Z1, O1, ρ1, r1, (contG.bind (rep := repL G) q1).mono fun w H2 ⟨Z2, O2, ρ2, d2, x, r2, f2, q2⟩ => ?_⟩
    exact q2 _ Z2 O2 H2 .refl r2 ⟨v, w, rfl, r1.rf x f1, f2⟩
def mTup (ms : M (List D)) : M D := fun ρ => (ms ρ).bind fun xs ρ => if xs.length ≤ lim then .ok (.tup xs) ρ else .bad
def mLst (ms : M (List D)) : M D := fun ρ => (ms ρ).bind fun xs ρ => if xs.length ≤ lim then .ok (.lst xs) ρ else .bad
theorem d_tup {es : List Expr} {x1} {ms : M (List D)} {pos : Pos} (h : PA X es (liftL G W ms)) : PE X (.Tuple es x1 pos) (lift G W (mTup ms)) :=
  PE_imp (pe_tup h) fun σ H Q q => liftG.mono (liftG.bind q) fun v H1 ⟨Z1, O1, ρ1, d1, r1, f1, q1⟩ => by
    by_cases e : d1.length ≤ lim
    · rw [if_pos e] at q1; exact ⟨by rw [← f1.length, ← lim_eq]; exact e, cont_tup r1 f1 q1⟩
    · rw [if_neg e] at q1; exact q1.elim
theorem d_lst {es : List Expr} {ms : M (List D)} {pos : Pos} (h : PA X es (liftL G W ms)) : PE X (.List es pos) (lift G W (mLst ms)) :=
  PE_imp (pe_lst h) fun σ H Q q => liftG.mono (liftG.bind q) fun v H1 ⟨Z1, O1, ρ1, d1, r1, f1, q1⟩ => by
    by_cases e : d1.length ≤ lim
    · rw [if_pos e] at q1; exact ⟨by rw [← f1.length, ← lim_eq]; exact e, cont_lst r1 f1 q1⟩
    · rw [if_neg e] at q1; exact q1.elim
theorem contO_lst {Z : Addr → Prop} {O : Nat → List Addr} {ρ : Env} {σ : St} {H : Hp} {Q : VK} {ds : List D} {vs : List V} (r : R G Z O ρ σ H) (f : RfL G Z H ds vs) (q : contG G W (repO G) (.ok (.lst ds) ρ) Z O σ H Q) (p : Addr) (hp : H p = none) :
    Q (.ref p) (upd H p (.lst vs)) :=
  q _ Z _ _ (.newT (t := ρ.length) hp) (r.newT (Nat.le_refl _) hp) ⟨p, vs, rfl, setO_same, upd_same, f.keep (fun _ z => z) fun a o _ e => upd_keep hp a o e⟩
theorem o_lst {es : List Expr} {ms : M (List D)} {pos : Pos} (h : PA X es (liftL G W ms)) : PE X (.List es pos) (liftO G W (mLst ms)) :=
  PE_imp (pe_lst h) fun σ H Q q => liftG.mono (liftG.bind (rep := repL G) q) fun v H1 ⟨Z1, O1, ρ1, d1, r1, f1, q1⟩ => by
    by_cases e : d1.length ≤ lim
    · rw [if_pos e] at q1; exact ⟨by rw [← f1.length, ← lim_eq]; exact e, contO_lst r1 f1 q1⟩
    · rw [if_neg e] at q1; exact q1.elim
/-- the owned, let go -/
def mFrz (m : M D) : M D := fun ρ => (m ρ).bind fun d ρ => if isDrw d = true then .bad else .ok d ρ
theorem d_frz {e : Expr} {m : M D} (h : PE X e (liftO G W m)) : PE X e (lift G W (mFrz m)) := PE_imp h fun σ H Q q => by
  refine liftG.mono (liftG.bind (rep := repO G) q) fun v H1 ⟨Z1, O1, ρ1, d1, r1, f1, q1⟩ => ?_
  cases e : isDrw d1 with
  | true => rw [e] at q1; exact q1.elim
  | false =>
    rw [e] at q1
    obtain ⟨Z2, O2, H2, x, rfl, r2, f2⟩ := frz_rep e r1 f1
    exact q1 v Z2 O2 _ x r2 f2
end PB
set_option maxRecDepth 100000
set_option maxHeartbeats 4000000
/-! PB4: statements. -/
namespace PB
open PySem L2
/-- how a statement ends -/
inductive Fl where
  | nx | bk | ct
  | rt (d : D)
  | ro (d : D)
/-- behind a statement; I: the slots that are borrowed, never stored anew -/
def contS (G : Gc) (W : WX) (I : List Nat) (r : Res Fl) (Z : Addr → Prop) (O : Nat → List Addr) (σ : St) (H : Hp) (E : Ends) : Prop :=
  match r with
  | .ok f ρ' => ∀ Z' O' σ' H', Ext Z O H Z' O' H' → (∀ i ∈ I, σ'[i]? = σ[i]?) → R G Z' O' ρ' σ' H' → (match f with
    | .nx => E.nx σ' H'
    | .bk => E.bk σ' H'
    | .ct => E.ct σ' H'
    | .rt d => ∀ v, Rf G Z' H' d v → E.rt v H'
    | .ro d => ∀ v, Own G Z' H' d v (O' ρ'.length) → E.rt v H')
  | .ex x ρ' => ∀ c dd Z' O' σ' H', Ext Z O H Z' O' H' → (∀ i ∈ I, σ'[i]? = σ[i]?) → R G Z' O' ρ' σ' H' → XR G Z' H' x c dd → W c dd σ' H'
  | .bad => False
def liftS (G : Gc) (W : WX) (I : List Nat) (m : M Fl) : TS := fun E σ H => ∃ Z O ρ, R G Z O ρ σ H ∧ contS G W I (m ρ) Z O σ H E
variable {G : Gc} {W : WX} {X : Cx} {I : List Nat}
section
variable {Z : Addr → Prop} {O : Nat → List Addr} {ρ : Env} {σ : St} {H : Hp} {E : Ends}
theorem contS.ext {r : Res Fl} {Z1 : Addr → Prop} {O1 : Nat → List Addr} {σ1 : St} {H1 : Hp} (x : Ext Z O H Z1 O1 H1) (k : ∀ i ∈ I, σ1[i]? = σ[i]?) (h : contS G W I r Z O σ H E) : contS G W I r Z1 O1 σ1 H1 E := by
  cases r with
  | ok d ρ' => exact fun Z' O' σ' H' y k' => h Z' O' σ' H' (x.trans y) fun i hi => (k' i hi).trans (k i hi)
  | ex d ρ' => exact fun c dd Z' O' σ' H' y k' => h c dd Z' O' σ' H' (x.trans y) fun i hi => (k' i hi).trans (k i hi)
  | bad => exact h
/-- an expression ahead of what a statement does with it -/
theorem contS.bind {α β : Type} {rep : Rep α β} {r : Res α} {f : α → Env → Res Fl} (h : contS G W I (r.bind f) Z O σ H E) :
    contG G W rep r Z O σ H (fun v H1 => ∃ Z1 O1 ρ1 d1, Ext Z O H Z1 O1 H1 ∧ R G Z1 O1 ρ1 σ H1 ∧ rep Z1 O1 ρ1 σ H1 d1 v ∧ contS G W I (f d1 ρ1) Z1 O1 σ H1 E) := by
  cases r with
  | ok d ρ' => exact fun v Z' O' H' y rr hf => ⟨Z', O', ρ', d, y, rr, hf, h.ext y fun _ _ => rfl⟩
  | ex d ρ' => exact fun c dd Z' O' H' y rr x => h c dd Z' O' σ H' y (fun _ _ => rfl) rr x
  | bad => exact h
theorem liftS.bind {α β : Type} {rep : Rep α β} {m : M α} {f : α → Env → Res Fl} (h : liftS G W I (fun ρ => (m ρ).bind f) E σ H) :
    liftG G W rep m σ H (fun v H1 => ∃ Z1 O1 ρ1 d1, R G Z1 O1 ρ1 σ H1 ∧ rep Z1 O1 ρ1 σ H1 d1 v ∧ contS G W I (f d1 ρ1) Z1 O1 σ H1 E) := by
  obtain ⟨Z, O, ρ, r, h⟩ := h
  exact ⟨Z, O, ρ, r, h.bind.mono fun v H ⟨Z1, O1, ρ1, d1, _, b, c, d⟩ => ⟨Z1, O1, ρ1, d1, b, c, d⟩⟩
end
def sNx : M Fl := fun ρ => .ok .nx ρ
def sSeq (a b : M Fl) : M Fl := fun ρ => match a ρ with
  | .ok .nx ρ => b ρ
  | r => r
theorem s_nil : PSs X [] (liftS G W I sNx) := PSs_imp pss_nil fun E σ H ⟨Z, O, ρ, r, q⟩ => q Z O σ H .refl (fun _ _ => rfl) r
theorem s_one {st : Stmt} {m : M Fl} (h : PS X st (liftS G W I m)) : PSs X [st] (liftS G W I m) := pss_one h
theorem s_cons {st : Stmt} {rest : List Stmt} {a b : M Fl} (h : PS X st (liftS G W I a)) (hr : PSs X rest (liftS G W I b)) : PSs X (st :: rest) (liftS G W I (sSeq a b)) :=
  PSs_imp (pss_cons h hr) fun E σ H ⟨Z, O, ρ, r, q⟩ => by
    refine ⟨Z, O, ρ, r, ?_⟩
    unfold sSeq at q
    cases e : a ρ with
    | bad => rw [e] at q; exact q
    | ex x ρ' => rw [e] at q; exact q
    | ok f ρ' =>
      rw [e] at q
      cases f with
      | nx => exact fun Z' O' σ' H' y k rr => ⟨Z', O', ρ', rr, contS.ext y k q⟩
      | bk => exact q
      | ct => exact q
      | rt d => exact q
      | ro d => exact q
theorem s_pass {pos : Pos} : PS X (.Pass pos) (liftS G W I sNx) := PS_imp ps_pass fun E σ H ⟨Z, O, ρ, r, q⟩ => q Z O σ H .refl (fun _ _ => rfl) r
theorem s_break {pos : Pos} : PS X (.Break pos) (liftS G W I (fun ρ => .ok .bk ρ)) := PS_imp ps_break fun E σ H ⟨Z, O, ρ, r, q⟩ => q Z O σ H .refl (fun _ _ => rfl) r
theorem s_continue {pos : Pos} : PS X (.Continue pos) (liftS G W I (fun ρ => .ok .ct ρ)) := PS_imp ps_continue fun E σ H ⟨Z, O, ρ, r, q⟩ => q Z O σ H .refl (fun _ _ => rfl) r
def sRet (m : M D) : M Fl := fun ρ => (m ρ).bind fun d ρ => .ok (.rt d) ρ
def sRetO (m : M D) : M Fl := fun ρ => (m ρ).bind fun d ρ => .ok (.ro d) ρ
theorem s_ret {e : Expr} {m : M D} {pos : Pos} (h : PE X e (lift G W m)) : PS X (.Return (some e) pos) (liftS G W I (sRet m)) :=
  PS_imp (ps_ret h) fun E σ H q => liftG.mono (liftS.bind (rep := repF G) q) fun v H1 ⟨Z1, O1, ρ1, d1, r1, f1, q1⟩ => q1 Z1 O1 σ H1 .refl (fun _ _ => rfl) r1 v f1
theorem s_retO {e : Expr} {m : M D} {pos : Pos} (h : PE X e (liftO G W m)) : PS X (.Return (some e) pos) (liftS G W I (sRetO m)) :=
  PS_imp (ps_ret h) fun E σ H q => liftG.mono (liftS.bind (rep := repO G) q) fun v H1 ⟨Z1, O1, ρ1, d1, r1, f1, q1⟩ => q1 Z1 O1 σ H1 .refl (fun _ _ => rfl) r1 v f1
theorem s_retN {pos : Pos} : PS X (.Return none pos) (liftS G W I (fun ρ => .ok (.rt .non) ρ)) := PS_imp ps_retN fun E σ H ⟨Z, O, ρ, r, q⟩ => q Z O σ H .refl (fun _ _ => rfl) r .non rfl
def sDo (m : M D) : M Fl := fun ρ => (m ρ).bind fun _ ρ => .ok .nx ρ
theorem s_expr {e : Expr} {m : M D} {pos : Pos} (h : PE X e (lift G W m)) (hs : swapsWith e none pos.line X.env = pure false := by rfl) : PS X (.Expr e pos) (liftS G W I (sDo m)) :=
  PS_imp (ps_expr h hs) fun E σ H q => liftG.mono (liftS.bind (rep := repF G) q) fun v H1 ⟨Z1, O1, ρ1, d1, r1, f1, q1⟩ => q1 Z1 O1 σ H1 .refl (fun _ _ => rfl) r1
def sIf (t : M Bool) (a b : M Fl) : M Fl := fun ρ => (t ρ).bind fun k ρ => if k = true then a ρ else b ρ
theorem s_if {c : Expr} {a b : List Stmt} {t : M Bool} {ma mb : M Fl} {pos : Pos} (hc : PT X c (liftB G W t)) (ha : PSs X a (liftS G W I ma)) (hb : PSs X b (liftS G W I mb)) : PS X (.If c a b pos) (liftS G W I (sIf t ma mb)) :=
  PS_imp (ps_if hc ha hb) fun E σ H q => liftG.mono (liftS.bind (rep := repB) q) fun v H1 ⟨Z1, O1, ρ1, d1, r1, f1, q1⟩ => by
    subst f1
    cases d1 with
    | true => exact ⟨Z1, O1, ρ1, r1, q1⟩
    | false => exact ⟨Z1, O1, ρ1, r1, q1⟩

/-! ### targets -/
/-- a target takes a frozen value -/
def Tgt (G : Gc) (I : List Nat) (g : TG) (gb : D → Env → Option Env) : Prop := ∀ Z O ρ σ H v d ρ' Q, R G Z O ρ σ H → Rf G Z H d v → gb d ρ = some ρ' →
  (∀ O' σ', Ext Z O H Z O' H → (∀ i ∈ I, σ'[i]? = σ[i]?) → R G Z O' ρ' σ' H → Q σ' H) → g v σ H Q
def TgtL (G : Gc) (I : List Nat) (g : TGs) (gb : List D → Env → Option Env) : Prop := ∀ Z O ρ σ H vs ds ρ' Q, R G Z O ρ σ H → RfL G Z H ds vs → gb ds ρ = some ρ' →
  (∀ O' σ', Ext Z O H Z O' H → (∀ i ∈ I, σ'[i]? = σ[i]?) → R G Z O' ρ' σ' H → Q σ' H) → g vs σ H Q
def bName (i : Nat) (d : D) (ρ : Env) : Option Env := some (ρ.set i (.fr d))
def bNil (ds : List D) (ρ : Env) : Option Env := match ds with
  | [] => some ρ
  | _ => none
def bCons (g : D → Env → Option Env) (gs : List D → Env → Option Env) (ds : List D) (ρ : Env) : Option Env := match ds with
  | d :: ds => (g d ρ).bind (gs ds)
  | [] => none
def bTup (n : Nat) (gs : List D → Env → Option Env) (d : D) (ρ : Env) : Option Env := match d with
  | .tup xs => if xs.length = n then gs xs ρ else none
  | _ => none
theorem set_other {σ : St} {i j : Nat} {w : Option V} (h : j ≠ i) : (σ.set i w)[j]? = σ[j]? := by rw [List.getElem?_set, if_neg (fun e => h e.symm)]
theorem keepI {i : Nat} (hi : I.contains i = false) {σ : St} {w : Option V} : ∀ j ∈ I, (σ.set i w)[j]? = σ[j]? := fun j hj => set_other fun e => by
  subst e
  have : I.contains j = true := by simpa using hj
  rw [this] at hi; cases hi
theorem g_name {i : Nat} (hi : I.contains i = false) : Tgt G I (gName i) (bName i) := fun Z O ρ σ H v d ρ' Q r f e q => by
  cases e
  exact q _ _ .drop (keepI hi) (r.setFr f)
theorem g_nil : TgtL G I gNil bNil := fun Z O ρ σ H vs ds ρ' Q r f e q => by
  cases ds with
  | nil => cases e; cases f; exact ⟨rfl, q O σ .refl (fun _ _ => rfl) r⟩
  | cons _ _ => cases e
theorem g_cons {g : TG} {gs : TGs} {b : D → Env → Option Env} {bs : List D → Env → Option Env} (hg : Tgt G I g b) (hs : TgtL G I gs bs) : TgtL G I (gCons g gs) (bCons b bs) := fun Z O ρ σ H vs ds ρ' Q r f e q => by
  cases ds with
  | nil => cases e
  | cons d ds =>
    obtain ⟨v, ws, e1, f1, f2⟩ := f
    have e : (b d ρ).bind (bs ds) = some ρ' := e
    cases e2 : b d ρ with
    | none => rw [e2] at e; cases e
    | some ρ1 =>
      rw [e2] at e
      refine ⟨v, ws, e1, hg Z O ρ σ H v d ρ1 _ r f1 e2 fun O1 σ1 x1 k1 r1 => ?_⟩
      exact hs Z O1 ρ1 σ1 H ws ds ρ' _ r1 f2 e fun O2 σ2 x2 k2 r2 => q O2 σ2 (x1.trans x2) (fun i hi => (k2 i hi).trans (k1 i hi)) r2
theorem g_tup {n : Nat} {gs : TGs} {bs : List D → Env → Option Env} (hs : TgtL G I gs bs) : Tgt G I (gTup G.K n gs) (bTup n bs) := fun Z O ρ σ H v d ρ' Q r f e q => by
  cases d <;> first | (cases e; done) | skip
  rename_i xs
  unfold bTup at e
  by_cases h : xs.length = n
  · simp only [if_pos h] at e
    obtain ⟨a, vs, rfl, g, rr⟩ := f
    exact ⟨a, vs, rfl, g.sq, by rw [← rr.length]; exact h, hs Z O ρ σ H vs xs ρ' Q r rr e q⟩
  · simp only [if_neg h] at e; cases e
/-- target = e, e frozen -/
def sAsg (gb : D → Env → Option Env) (m : M D) : M Fl := fun ρ => (m ρ).bind fun d ρ => match gb d ρ with
  | some ρ' => .ok .nx ρ'
  | none => .bad
theorem s_asg {st : Stmt} {g : TG} {gb : D → Env → Option Env} {m : M D} (hg : Tgt G I g gb) (h : PS X st (tAsg (lift G W m) g)) : PS X st (liftS G W I (sAsg gb m)) :=
  PS_imp h fun E σ H q => liftG.mono (liftS.bind (rep := repF G) q) fun v H1 ⟨Z1, O1, ρ1, d1, r1, f1, q1⟩ => by
    cases e : gb d1 ρ1 with
    | none => rw [e] at q1; exact q1.elim
    | some ρ2 => rw [e] at q1; exact hg Z1 O1 ρ1 σ H1 v d1 ρ2 _ r1 f1 e fun O' σ' x k r => q1 Z1 O' σ' H1 x k r
/-- name = e, e owned -/
def sAsgO (i : Nat) (m : M D) : M Fl := fun ρ => (m ρ).bind fun d ρ => if i < ρ.length then .ok .nx (ρ.set i (.ow d)) else .bad
theorem s_asgO {st : Stmt} {i : Nat} {m : M D} (hi : I.contains i = false) (h : PS X st (tAsg (liftO G W m) (gName i))) : PS X st (liftS G W I (sAsgO i m)) :=
  PS_imp h fun E σ H q => liftG.mono (liftS.bind (rep := repO G) q) fun v H1 ⟨Z1, O1, ρ1, d1, r1, f1, q1⟩ => by
    by_cases e : i < ρ1.length
    · simp only [if_pos e] at q1
      exact q1 Z1 _ _ H1 (.moveT (t := ρ1.length)) (keepI hi) (r1.moveT (Nat.le_refl _) f1 e)
    · simp only [if_neg e] at q1; exact q1.elim

/-! ### loops -/
/-- over the items -/
def forL (gb : D → Env → Option Env) (mb : M Fl) : List D → M Fl
  | [], ρ => .ok .nx ρ
  | x :: xs, ρ => match gb x ρ with
    | none => .bad
    | some ρ1 => match mb ρ1 with
      | .ok .nx ρ2 => forL gb mb xs ρ2
      | .ok .ct ρ2 => forL gb mb xs ρ2
      | .ok .bk ρ2 => .ok .nx ρ2
      | r => r
def sFor (gb : D → Env → Option Env) (mi : M (List D)) (mb : M Fl) : M Fl := fun ρ => (mi ρ).bind fun xs ρ => forL gb mb xs ρ
/-- one turn -/
theorem for_turn {g : TG} {gb : D → Env → Option Env} {mb : M Fl} {x : D} {xs : List D} {v : V} {Z : Addr → Prop} {O : Nat → List Addr} {ρ : Env} {σ : St} {H : Hp} {E : Ends} {N : St → Hp → Prop} (hg : Tgt G I g gb) (r : R G Z O ρ σ H) (f : Rf G Z H x v)
    (q : contS G W I (forL gb mb (x :: xs) ρ) Z O σ H E)
    (hN : ∀ Z' O' ρ' σ' H', Ext Z O H Z' O' H' → (∀ i ∈ I, σ'[i]? = σ[i]?) → R G Z' O' ρ' σ' H' → contS G W I (forL gb mb xs ρ') Z' O' σ' H' E → N σ' H') :
    g v σ H fun σ2 H2 => liftS G W I mb { E with nx := N, ct := N, bk := E.nx } σ2 H2 := by
  unfold forL at q
  cases e : gb x ρ with
  | none => rw [e] at q; exact q.elim
  | some ρ1 =>
    rw [e] at q
    refine hg Z O ρ σ H v x ρ1 _ r f e fun O1 σ1 x1 k1 r1 => ⟨Z, O1, ρ1, r1, ?_⟩
    simp only at q
    cases e2 : mb ρ1 with
    | bad => rw [e2] at q; exact q.elim
    | ex y ρ2 => rw [e2] at q; exact q.ext x1 k1
    | ok fl ρ2 =>
      rw [e2] at q
      cases fl with
      | nx => exact fun Z' O' σ' H' y k rr => hN Z' O' ρ2 σ' H' (x1.trans y) (fun i hi => (k i hi).trans (k1 i hi)) rr (q.ext (x1.trans y) fun i hi => (k i hi).trans (k1 i hi))
      | ct => exact fun Z' O' σ' H' y k rr => hN Z' O' ρ2 σ' H' (x1.trans y) (fun i hi => (k i hi).trans (k1 i hi)) rr (q.ext (x1.trans y) fun i hi => (k i hi).trans (k1 i hi))
      | bk => exact q.ext x1 k1
      | rt d => exact q.ext x1 k1
      | ro d => exact q.ext x1 k1
theorem RfL.drop {Z : Addr → Prop} {H : Hp} : ∀ {ds : List D} {vs : List V} (n : Nat), RfL G Z H ds vs → RfL G Z H (ds.drop n) (vs.drop n)
  | _, _, 0, h => h
  | [], _, n + 1, h => by cases h; rw [List.drop_nil, List.drop_nil]; rfl
  | _ :: _, _, n + 1, ⟨v, r, e, _, h⟩ => by rw [e]; exact h.drop n
theorem drop_cons {α : Type} {xs : List α} {i : Nat} {x : α} (e : xs[i]? = some x) : xs.drop i = x :: xs.drop (i + 1) := by
  obtain ⟨h, e⟩ := List.getElem?_eq_some_iff.mp e
  rw [← e]; exact List.drop_eq_getElem_cons h
theorem bind_bind {α β γ : Type} (r : Res α) (f : α → Env → Res β) (g : β → Env → Res γ) : (r.bind f).bind g = r.bind fun a ρ => (f a ρ).bind g := by cases r <;> rfl
/-- J walks the items xs, as long as what Z1 tells stands -/
structure Wk (G : Gc) (Z1 : Addr → Prop) (H1 : Hp) (J : It) (xs : List D) : Prop where
  stop : ∀ (Z : Addr → Prop) H, (∀ a, Z1 a → Z a) → Kp Z1 H1 H → J.stop xs.length H
  go : ∀ (Z : Addr → Prop) H i, (∀ a, Z1 a → Z a) → Kp Z1 H1 H → i < xs.length → J.go i H
  yld : ∀ Z O ρ σ H i x v H', R G Z O ρ σ H → (∀ a, Z1 a → Z a) → Kp Z1 H1 H → xs[i]? = some x → J.yld i H v H' → ∃ Z', Ext Z O H Z' O H' ∧ R G Z' O ρ σ H' ∧ Rf G Z' H' x v
abbrev repW (G : Gc) : Rep (List D) It := fun Z _ _ _ H xs J => Wk G Z H J xs
/-- what is walked gives these items -/
def Src (G : Gc) (W : WX) (wi : TI) (mi : M (List D)) : Prop := ∀ σ H Q, liftG G W (repW G) mi σ H Q → wi σ H Q
theorem s_for {st : Stmt} {wi : TI} {g : TG} {gb : D → Env → Option Env} {mi : M (List D)} {mb : M Fl} (hs : Src G W wi mi) (hg : Tgt G I g gb) (h : PS X st (tFor wi g (liftS G W I mb))) : PS X st (liftS G W I (sFor gb mi mb)) :=
  PS_imp h fun E σ H q => hs σ H _ <| liftG.mono (liftS.bind (rep := repW G) q) fun J H1 ⟨Z1, O1, ρ1, xs, r1, wk, q1⟩ => by
    refine ⟨fun i m σ' H' => m = xs.length - i ∧ i ≤ xs.length ∧ ∃ Z O ρ, R G Z O ρ σ' H' ∧ (∀ a, Z1 a → Z a) ∧ Kp Z1 H1 H' ∧ contS G W I (forL gb mb (xs.drop i) ρ) Z O σ' H' E,
      ⟨_, rfl, Nat.zero_le _, Z1, O1, ρ1, r1, fun _ z => z, fun _ _ _ e => e, q1⟩, ?_⟩
    rintro i m σ' H' ⟨rfl, hi, Z, O, ρ, r, zs, k, q2⟩
    by_cases hlt : i < xs.length
    · have ed : xs[i]? = some xs[i] := List.getElem?_eq_getElem hlt
      refine .inr ⟨wk.go Z H' i zs k hlt, fun σ'' H'' => i + 1 ≤ xs.length ∧ ∃ Z O ρ, R G Z O ρ σ'' H'' ∧ (∀ a, Z1 a → Z a) ∧ Kp Z1 H1 H'' ∧ contS G W I (forL gb mb (xs.drop (i + 1)) ρ) Z O σ'' H'' E,
        fun σ'' H'' h => ⟨xs.length - (i + 1), by omega, rfl, h.1, h.2⟩, fun v H2 y => ?_⟩
      obtain ⟨Z2, x2, r2, f2⟩ := wk.yld Z O ρ σ' H' i _ v H2 r zs k ed y
      rw [drop_cons ed] at q2
      refine for_turn hg r2 f2 (q2.ext x2 fun _ _ => rfl) fun Z' O' ρ' σ'' H'' xt ks rr q3 => ⟨hlt, Z', O', ρ', rr, fun a z => xt.zs a (x2.zs a (zs a z)), fun a o z e => Kp.of_ext r2 xt a o (x2.zs a (zs a z)) (Kp.of_ext r x2 a o (zs a z) (k a o z e)), q3⟩
    · have e : i = xs.length := by omega
      subst e
      rw [List.drop_eq_nil_of_le (Nat.le_refl _)] at q2
      exact .inl ⟨wk.stop Z H' zs k, q2 Z O σ' H' .refl (fun _ _ => rfl) r⟩
def asL : D → Option (List D)
  | .lst xs => some xs
  | .fls xs => some xs
  | _ => none
def asT : D → Option (List D)
  | .tup xs => some xs
  | _ => none
def mItems (f : D → Option (List D)) (m : M D) : M (List D) := fun ρ => (m ρ).bind fun d ρ => optR (f d) ρ
theorem wk_list {Z1 : Addr → Prop} {H1 : Hp} {xs : List D} {vs : List V} {a : Addr} (hsq : ∀ (Z : Addr → Prop) H, (∀ a, Z1 a → Z a) → Kp Z1 H1 H → SqL G.K H a vs) (rl : RfL G Z1 H1 xs vs) : Wk G Z1 H1 (Itl G.K a) xs where
  stop := fun Z H zs k => ⟨vs, hsq Z H zs k, by rw [rl.length]; exact Nat.le_refl _⟩
  go := fun Z H i zs k h => ⟨vs, vs[i]'(by rw [← rl.length]; exact h), hsq Z H zs k, List.getElem?_eq_getElem _⟩
  yld := fun Z O ρ σ H i x v H' r zs k e y => by
    obtain ⟨rfl, y⟩ := y
    obtain ⟨w, ew, fw⟩ := rl.get e
    rw [y vs (hsq Z H' zs k)] at ew; cases ew
    exact ⟨Z, .refl, r, fw.keep zs k⟩
theorem wk_tup {Z1 : Addr → Prop} {H1 : Hp} {xs : List D} {vs : List V} {a : Addr} (g : FzT G Z1 H1 a vs) (rl : RfL G Z1 H1 xs vs) : Wk G Z1 H1 (Itt G.K a) xs := by
  have hsq : ∀ (Z : Addr → Prop) H, (∀ a, Z1 a → Z a) → Kp Z1 H1 H → SqT G.K H a vs := fun Z H zs k => g.elim (fun ⟨z, e⟩ => .of (k a _ z e)) .inr
  exact {
    stop := fun Z H zs k => ⟨vs, hsq Z H zs k, by rw [rl.length]; exact Nat.le_refl _⟩
    go := fun Z H i zs k h => ⟨vs, vs[i]'(by rw [← rl.length]; exact h), hsq Z H zs k, List.getElem?_eq_getElem _⟩
    yld := fun Z O ρ σ H i x v H' r zs k e y => by
      obtain ⟨rfl, y⟩ := y
      obtain ⟨w, ew, fw⟩ := rl.get e
      rw [y vs (hsq Z H' zs k)] at ew; cases ew
      exact ⟨Z, .refl, r, fw.keep zs k⟩ }
theorem src_list {m : M D} : Src G W (iList G.K (lift G W m)) (mItems asL m) := fun σ H Q q => by
  unfold mItems at q
  refine liftG.mono (liftG.bind (rep := repF G) q) fun v H1 ⟨Z1, O1, ρ1, d1, r1, f1, q1⟩ => ?_
  cases d1 <;> first | exact q1.elim | skip
  · obtain ⟨a, vs, rfl, g1, rl⟩ := f1
    exact ⟨a, rfl, ⟨vs, g1.sq⟩, q1 _ Z1 O1 H1 .refl r1 (wk_list (fun Z H zs k => .of (k a _ g1.1 g1.2)) rl)⟩
  · obtain ⟨a, vs, rfl, g1, rl⟩ := f1
    exact ⟨a, rfl, ⟨vs, g1.sq⟩, q1 _ Z1 O1 H1 .refl r1 (wk_list (fun Z H zs k => g1.elim (fun ⟨z, o, e⟩ => .inl (.inr ⟨o, k a _ z e⟩)) .inr) rl)⟩
theorem src_tup {m : M D} : Src G W (iTup G.K (lift G W m)) (mItems asT m) := fun σ H Q q => by
  unfold mItems at q
  refine liftG.mono (liftG.bind (rep := repF G) q) fun v H1 ⟨Z1, O1, ρ1, d1, r1, f1, q1⟩ => ?_
  cases d1 <;> first | exact q1.elim | skip
  obtain ⟨a, vs, rfl, g1, rl⟩ := f1
  exact ⟨a, rfl, ⟨vs, g1.sq⟩, q1 _ Z1 O1 H1 .refl r1 (wk_tup g1 rl)⟩
/-- range -/
def rngD (lo : Int) : Nat → List D
  | 0 => []
  | n + 1 => .int lo :: rngD (lo + 1) n
theorem rngD_length : ∀ (n : Nat) (lo : Int), (rngD lo n).length = n
  | 0, _ => rfl
  | n + 1, lo => by unfold rngD; rw [List.length_cons, rngD_length n]
theorem rngD_get : ∀ (i n : Nat) (lo : Int) (x : D), (rngD lo n)[i]? = some x → x = .int (lo + i)
  | _, 0, lo, x, h => by unfold rngD at h; simp at h
  | 0, n + 1, lo, x, h => by unfold rngD at h; simp at h; rw [← h]; simp
  | i + 1, n + 1, lo, x, h => by
    unfold rngD at h
    have := rngD_get i n (lo + 1) x (by simpa using h)
    rw [this]
    congr 1
    push_cast
    omega
theorem wk_rng {Z1 : Addr → Prop} {H1 : Hp} {lo : Int} {n : Nat} : Wk G Z1 H1 (Itr lo n) (rngD lo n) where
  stop := fun Z H zs k => by rw [rngD_length]; exact Nat.le_refl _
  go := fun Z H i zs k h => by rw [rngD_length] at h; exact h
  yld := fun Z O ρ σ H i x v H' r zs k e y => by
    obtain ⟨rfl, rfl⟩ := y
    exact ⟨Z, .refl, r, by rw [rngD_get i n lo x e]; exact rfl⟩
def asR1 (ds : List D) : Option (List D) := match ds with
  | [.int j] => if -(2 ^ 62) ≤ j ∧ j < 2 ^ 62 then some (rngD 0 j.toNat) else none
  | _ => none
def asR2 (ds : List D) : Option (List D) := match ds with
  | [.int i, .int j] => if -(2 ^ 62) ≤ i ∧ i < 2 ^ 62 ∧ -(2 ^ 62) ≤ j ∧ j < 2 ^ 62 then some (rngD i (j - i).toNat) else none
  | _ => none
def mItemsL (f : List D → Option (List D)) (m : M (List D)) : M (List D) := fun ρ => (m ρ).bind fun d ρ => optR (f d) ρ
theorem src_range1 {m : M (List D)} : Src G W (iRng1 (liftL G W m)) (mItemsL asR1 m) := fun σ H Q q => by
  unfold mItemsL at q
  refine liftG.mono (liftG.bind (rep := repL G) q) fun v H1 ⟨Z1, O1, ρ1, d1, r1, f1, q1⟩ => ?_
  cases e : asR1 d1 with
  | none => rw [e] at q1; exact q1.elim
  | some xs =>
    rw [e] at q1
    unfold asR1 at e
    split at e
    · rename_i j
      split at e
      · rename_i h
        cases e
        obtain ⟨w, s, rfl, fw, fs⟩ := f1
        cases fw; cases fs
        exact ⟨j, rfl, h.1, h.2, q1 _ Z1 O1 H1 .refl r1 wk_rng⟩
      · cases e
    · cases e
theorem src_range2 {m : M (List D)} : Src G W (iRng2 (liftL G W m)) (mItemsL asR2 m) := fun σ H Q q => by
  unfold mItemsL at q
  refine liftG.mono (liftG.bind (rep := repL G) q) fun v H1 ⟨Z1, O1, ρ1, d1, r1, f1, q1⟩ => ?_
  cases e : asR2 d1 with
  | none => rw [e] at q1; exact q1.elim
  | some xs =>
    rw [e] at q1
    unfold asR2 at e
    split at e
    · rename_i i j
      split at e
      · rename_i h
        cases e
        obtain ⟨w, s, rfl, fw, w2, s2, rfl, fw2, fs⟩ := f1
        cases fw; cases fw2; cases fs
        exact ⟨i, j, rfl, h, q1 _ Z1 O1 H1 .refl r1 wk_rng⟩
      · cases e
    · cases e
/-- while, with so much fuel -/
def whileM (t : M Bool) (b : M Fl) : Nat → M Fl
  | 0, _ => .bad
  | n + 1, ρ => (t ρ).bind fun k ρ1 => if k = true then (match b ρ1 with
      | .ok .nx ρ2 => whileM t b n ρ2
      | .ok .ct ρ2 => whileM t b n ρ2
      | .ok .bk ρ2 => .ok .nx ρ2
      | r => r) else .ok .nx ρ1
theorem s_while {c : Expr} {body : List Stmt} {t : M Bool} {mb : M Fl} {n : Nat} {pos : Pos} (hp : PassesOwn (model X.prog X.w) X.A X.env X.xe) (hc : PT X c (liftB G W t)) (hb : PSs X body (liftS G W I mb)) : PS X (.While c body [] pos) (liftS G W I (whileM t mb n)) :=
  PS_imp (ps_while hp hc hb) fun E σ H ⟨Z, O, ρ, r, q⟩ => by
    refine ⟨fun m σ H => ∃ Z O ρ, R G Z O ρ σ H ∧ contS G W I (whileM t mb m ρ) Z O σ H E, ⟨n, Z, O, ρ, r, q⟩, ?_⟩
    rintro m σ H ⟨Z, O, ρ, r, q⟩
    cases m with
    | zero => exact q.elim
    | succ m =>
      unfold whileM at q
      refine ⟨Z, O, ρ, r, (contS.bind (rep := repB) q).mono fun k H1 ⟨Z1, O1, ρ1, d1, x1, r1, f1, q1⟩ => ?_⟩
      subst f1
      cases d1 with
      | false => exact iteF (q1 Z1 O1 σ H1 .refl (fun _ _ => rfl) r1)
      | true =>
        refine iteT ⟨fun σ' H' => ∃ Z O ρ, R G Z O ρ σ' H' ∧ contS G W I (whileM t mb m ρ) Z O σ' H' E, fun σ' H' h => ⟨m, Nat.lt_succ_self m, h⟩, Z1, O1, ρ1, r1, ?_⟩
        rw [if_pos rfl] at q1
        cases e2 : mb ρ1 with
        | bad => rw [e2] at q1; exact q1.elim
        | ex y ρ2 => rw [e2] at q1; exact q1
        | ok fl ρ2 =>
          rw [e2] at q1
          cases fl with
          | nx => exact fun Z' O' σ' H' y k rr => ⟨Z', O', ρ2, rr, q1.ext y k⟩
          | ct => exact fun Z' O' σ' H' y k rr => ⟨Z', O', ρ2, rr, q1.ext y k⟩
          | bk => exact q1
          | rt d => exact q1
          | ro d => exact q1
end PB
set_option maxRecDepth 100000
set_option maxHeartbeats 4000000
/-! PB5: defs and their calls. -/
namespace PB
open PySem PySem.Spec L2
/-- how a def ends; o: what its borrowed parameters hold then -/
inductive FR where
  | ok (d : D) (o : Env)
  | own (d : D) (o : Env)
  | ex (x : D) (o : Env)
  | bad
def outs (I : List Nat) (n : Nat) (ρ : Env) : Env := (List.range n).map fun i => if I.contains i = true then ρ.getD i .un else .un
theorem outs_get {I : List Nat} {n i : Nat} {ρ : Env} {s : Sl} (h : (outs I n ρ)[i]? = some s) : i < n ∧ (s = .un ∨ (i ∈ I ∧ ρ.getD i .un = s)) := by
  unfold outs at h
  rw [List.getElem?_map] at h
  cases e : (List.range n)[i]? with
  | none => rw [e] at h; cases h
  | some j =>
    rw [e] at h
    obtain ⟨h1, h2⟩ := List.getElem?_eq_some_iff.mp e
    rw [List.length_range] at h1
    rw [List.getElem_range] at h2
    subst h2
    refine ⟨h1, ?_⟩
    simp only [Option.map_some, Option.some.injEq] at h
    by_cases c : I.contains i = true
    · rw [if_pos c] at h; exact .inr ⟨by simpa using c, h⟩
    · rw [if_neg c] at h; exact .inl h.symm
theorem outs_length {I : List Nat} {n : Nat} {ρ : Env} : (outs I n ρ).length = n := by unfold outs; rw [List.length_map, List.length_range]
def runF (I : List Nat) (np nN : Nat) (mb : M Fl) (args : Env) : FR :=
  if args.length = np then (match mb (args ++ List.replicate (nN - np) .un) with
    | .ok .nx ρ => .ok .non (outs I np ρ)
    | .ok (.rt d) ρ => .ok d (outs I np ρ)
    | .ok (.ro d) ρ => .own d (outs I np ρ)
    | .ex x ρ => .ex x (outs I np ρ)
    | _ => .bad) else .bad
/-- a def's promise by what it does -/
def spF (G : Gc) (F : Env → FR) : Sp := fun vs H Q E => ∃ Z O args, args.length = vs.length ∧ R G Z O args (vs.map some) H ∧ (match F args with
  | .ok d o => ∀ v Z' O' H', Ext Z O H Z' O' H' → R G Z' O' o (vs.map some) H' → Rf G Z' H' d v → Q v H'
  | .own d o => ∀ v Z' O' H', Ext Z O H Z' O' H' → R G Z' O' o (vs.map some) H' → Own G Z' H' d v (O' vs.length) → Q v H'
  | .ex x o => ∀ c dd Z' O' H', Ext Z O H Z' O' H' → R G Z' O' o (vs.map some) H' → XR G Z' H' x c dd → E c dd H'
  | .bad => False)
section
variable {G : Gc} {Z Z' : Addr → Prop} {H H' : Hp} {O : Nat → List Addr} {ρ : Env} {σ : St}
/-- the places told anew -/
theorem R.reix (r : R G Z O ρ σ H) {ρ2 : Env} {σ2 : St} {O2 : Nat → List Addr} (f : Nat → Nat) (len : ρ2.length = σ2.length) (sl : ∀ i s, ρ2[i]? = some s → RS G Z H s (σ2[i]?.getD none) (O2 i))
    (h : ∀ i, O2 i = [] ∨ O2 i = O (f i)) (inj : ∀ i j, O2 i ≠ [] → O2 j ≠ [] → f i = f j → i = j) : R G Z O2 ρ2 σ2 H where
  len := len
  sl := sl
  nd := fun i => by
    rcases h i with e | e
    · rw [e]; exact List.nodup_nil
    · rw [e]; exact r.nd _
  dj := fun i j a h1 h2 => by
    have n1 : O2 i ≠ [] := fun e => by rw [e] at h1; cases h1
    have n2 : O2 j ≠ [] := fun e => by rw [e] at h2; cases h2
    refine inj i j n1 n2 ?_
    rcases h i with e | e
    · exact absurd e n1
    · rcases h j with e2 | e2
      · exact absurd e2 n2
      · rw [e] at h1; rw [e2] at h2; exact r.dj _ _ a h1 h2
  oz := fun i a h1 => by
    rcases h i with e | e
    · rw [e] at h1; cases h1
    · rw [e] at h1; exact r.oz _ a h1
  od := fun i a h1 => by
    rcases h i with e | e
    · rw [e] at h1; cases h1
    · rw [e] at h1; exact r.od _ a h1
  zd := r.zd
def outO (O : Nat → List Addr) (n t : Nat) : Nat → List Addr := fun i => if i < n ∧ i < t then O i else if i = n then O t else []
theorem outO_own {n t : Nat} : outO O n t n = O t := by unfold outO; rw [if_neg (fun h => Nat.lt_irrefl _ h.1), if_pos rfl]
/-- at a def's end -/
theorem R.out {I : List Nat} {n : Nat} {vs : List V} (r : R G Z O ρ σ H) (hv : vs.length = n) (hσ : ∀ i ∈ I, σ[i]? = (vs.map some)[i]?) :
    R G Z (outO O n ρ.length) (outs I n ρ) (vs.map some) H := by
  refine r.reix (fun i => if i < n ∧ i < ρ.length then i else ρ.length) (by rw [outs_length, List.length_map, hv]) (fun i s e => ?_) (fun i => ?_) fun i j n1 n2 e => ?_
  · obtain ⟨h1, h2⟩ := outs_get e
    rcases h2 with h2 | ⟨h2, h3⟩
    · rw [h2]; exact trivial
    · by_cases h4 : i < ρ.length
      · unfold outO
        rw [if_pos ⟨h1, h4⟩]
        have e3 : ρ[i]? = some s := by
          rw [List.getD_eq_getElem?_getD, List.getElem?_eq_getElem h4] at h3
          rw [List.getElem?_eq_getElem h4]
          exact congrArg some h3
        rw [← hσ i h2]
        exact r.sl i s e3
      · rw [List.getD_eq_getElem?_getD, List.getElem?_eq_none (Nat.le_of_not_lt h4)] at h3
        rw [← h3]; exact trivial
  · unfold outO
    by_cases h1 : i < n ∧ i < ρ.length
    · rw [if_pos h1, if_pos h1]; exact .inr (Eq.refl _)
    · rw [if_neg h1, if_neg h1]
      by_cases h2 : i = n
      · rw [if_pos h2]; exact .inr (Eq.refl _)
      · rw [if_neg h2]; exact .inl (Eq.refl _)
  · unfold outO at n1 n2
    by_cases h1 : i < n ∧ i < ρ.length
    · rw [if_pos h1] at e
      by_cases h2 : j < n ∧ j < ρ.length
      · rw [if_pos h2] at e; exact e
      · rw [if_neg h2] at e; omega
    · rw [if_neg h1] at e n1
      have i1 : i = n := by
        by_cases h3 : i = n
        · exact h3
        · rw [if_neg h3] at n1; exact absurd (Eq.refl _) n1
      by_cases h2 : j < n ∧ j < ρ.length
      · rw [if_pos h2] at e; omega
      · rw [if_neg h2] at n2
        have j1 : j = n := by
          by_cases h3 : j = n
          · exact h3
          · rw [if_neg h3] at n2; exact absurd (Eq.refl _) n2
        omega
theorem Ext.out {O' : Nat → List Addr} {n t : Nat} (x : Ext Z O H Z' O' H') : Ext Z O H Z' (outO O' n t) H' where
  zs := x.zs
  kp := x.kp
  zn := x.zn
  on := fun a ⟨i, h⟩ => by
    unfold outO at h
    by_cases h1 : i < n ∧ i < t
    · rw [if_pos h1] at h; exact x.on a ⟨i, h⟩
    · rw [if_neg h1] at h
      by_cases h2 : i = n
      · rw [if_pos h2] at h; exact x.on a ⟨t, h⟩
      · rw [if_neg h2] at h; cases h
  dm := x.dm
/-- at a def's beginning -/
theorem R.begin {args : Env} {vs : List V} {k : Nat} (r : R G Z O args (vs.map some) H) : R G Z O (args ++ List.replicate k .un) (vs.map some ++ List.replicate k none) H :=
  r.reix id (by rw [List.length_append, List.length_append, r.len, List.length_replicate, List.length_replicate]) (fun i s e => by
    by_cases h : i < args.length
    · rw [List.getElem?_append_left h] at e
      rw [List.getElem?_append_left (by rw [← r.len]; exact h)]
      exact r.sl i s e
    · rw [List.getElem?_append_right (Nat.le_of_not_lt h), List.getElem?_replicate] at e
      split at e
      · cases e; exact trivial
      · cases e) (fun i => .inr rfl) fun i j _ _ e => e
end
section
variable {P : Program} {w : World} {mg : Str → Option Value} {base : Heap} {G : Gc}
/-- THE RULE for a def -/
theorem fn_ok {x qual : Str} {st : Stmt} {f : Addr} {fd : FuncData} {N ps : List Str} {k : Nat} {I : List Nat} {mb : M Fl} (F : Fun G.K x qual st f fd) (S : FnScope N ps (defScope st)) (hI : ∀ i ∈ I, i < ps.length)
    (hbody : ∀ (cdv : Value) (A : Around) (outer : List PySem.Env) (s : Shared) (H : Hp) (E : XK), Room k (A.deeper (PyProof.Rows.envOfC qual (defScope st) s.heap.objs.size f cdv)) →
      PSs (cxOf (L2.CX P w) P w G.K mg base N qual (defScope st) f cdv A outer s H E) (defBody st) (liftS G (fun c d _ H => E c d H) I mb)) :
    FnOk P w G.K mg base (L2.CX P w) (k + 1) f fd ps (spF G (runF I ps.length N.length mb)) := by
  refine F.okX S (fun vs H Q E h => ?_) fun cdv A outer s H vs Q E hr h => ⟨_, hbody cdv A outer s H E hr, ?_⟩
  · obtain ⟨Z, O, args, hl, r, q⟩ := h
    unfold runF at q
    by_cases e : args.length = ps.length
    · rw [← hl, e]
    · rw [if_neg e] at q; exact q.elim
  · obtain ⟨Z, O, args, hl, r, q⟩ := h
    unfold runF at q
    by_cases e : args.length = ps.length
    · rw [if_pos e] at q
      have hv : vs.length = ps.length := by rw [← hl, e]
      refine ⟨Z, O, args ++ List.replicate (N.length - ps.length) .un, ?_, ?_⟩
      · have := r.begin (k := N.length - ps.length)
        unfold L2.start
        rw [hv]
        exact this
      · have hσ : ∀ {σ' : St}, (∀ i ∈ I, σ'[i]? = (L2.start N vs)[i]?) → ∀ i ∈ I, σ'[i]? = (vs.map some)[i]? := fun h i hi => by
          rw [h i hi]
          unfold L2.start
          rw [List.getElem?_append_left (by rw [List.length_map, hv]; exact hI i hi)]
        cases e2 : mb (args ++ List.replicate (N.length - ps.length) .un) with
        | bad => rw [e2] at q; exact q.elim
        | ex y ρ' =>
          rw [e2] at q
          exact fun c dd Z' O' σ' H' xt k rr xr => q c dd Z' _ H' (xt.out (n := ps.length) (t := ρ'.length)) (rr.out hv (hσ k)) xr
        | ok fl ρ' =>
          rw [e2] at q
          cases fl with
          | bk => exact q.elim
          | ct => exact q.elim
          | nx => exact fun Z' O' σ' H' xt k rr => q .non Z' _ H' (xt.out (n := ps.length) (t := ρ'.length)) (rr.out hv (hσ k)) (Eq.refl _)
          | rt d => exact fun Z' O' σ' H' xt k rr v f => q v Z' _ H' (xt.out (n := ps.length) (t := ρ'.length)) (rr.out hv (hσ k)) f
          | ro d => exact fun Z' O' σ' H' xt k rr v f => q v Z' _ H' (xt.out (n := ps.length) (t := ρ'.length)) (rr.out hv (hσ k)) (by rw [hv, outO_own]; exact f)
    · rw [if_neg e] at q; exact q.elim
end

/-! ### calls -/
/-- an argument: a frozen value, or a slot that is lent -/
inductive Arg where
  | v (d : D)
  | s (j : Nat)
def repA1 (G : Gc) (Z : Addr → Prop) (σ : St) (H : Hp) : Arg → V → Prop
  | .v d, v => Rf G Z H d v
  | .s j, v => σ[j]? = some (some v)
inductive RAs (G : Gc) (Z : Addr → Prop) (σ : St) (H : Hp) : List Arg → List V → Prop
  | nil : RAs G Z σ H [] []
  | cons {a v as vs} : repA1 G Z σ H a v → RAs G Z σ H as vs → RAs G Z σ H (a :: as) (v :: vs)
abbrev repA (G : Gc) : Rep (List Arg) (List V) := fun Z _ _ σ H d v => RAs G Z σ H d v
abbrev liftA (G : Gc) (W : WX) (m : M (List Arg)) : TA := liftG G W (repA G) m
def slotsOf : List Arg → List Nat
  | [] => []
  | .v _ :: as => slotsOf as
  | .s j :: as => j :: slotsOf as
def mkArgs : List Arg → Env → Option Env
  | [], _ => some []
  | .v d :: as, ρ => (mkArgs as ρ).map (.fr d :: ·)
  | .s j :: as, ρ => match ρ[j]? with
    | some (.io d) => (mkArgs as ρ).map (.io d :: ·)
    | some (.ow d) => (mkArgs as ρ).map (.io d :: ·)
    | _ => none
def putBack : List Arg → Env → Env → Option Env
  | [], _, ρ => some ρ
  | .v _ :: as, _ :: os, ρ => putBack as os ρ
  | .s j :: as, .io d :: os, ρ => match ρ[j]? with
    | some (.io _) => putBack as os (ρ.set j (.io d))
    | some (.ow _) => putBack as os (ρ.set j (.ow d))
    | _ => none
  | _, _, _ => none
def endR (as : List Arg) (o : Env) (ρ : Env) (k : Env → Res D) : Res D := match putBack as o ρ with
  | some ρ' => k ρ'
  | none => .bad
/-- the call; what is handed back is frozen -/
def callR (F : Env → FR) (as : List Arg) (ρ : Env) : Res D := if (slotsOf as).Nodup then (match mkArgs as ρ with
  | none => .bad
  | some args => match F args with
    | .ok d o => endR as o ρ fun ρ' => .ok d ρ'
    | .own d o => endR as o ρ fun ρ' => if isDrw d = true then .bad else .ok d ρ'
    | .ex x o => endR as o ρ fun ρ' => .ex x ρ'
    | .bad => .bad) else .bad
/-- the call; what is handed back is owned -/
def callO (F : Env → FR) (as : List Arg) (ρ : Env) : Res D := if (slotsOf as).Nodup then (match mkArgs as ρ with
  | none => .bad
  | some args => match F args with
    | .own d o => endR as o ρ fun ρ' => .ok d ρ'
    | .ex x o => endR as o ρ fun ρ' => .ex x ρ'
    | _ => .bad) else .bad
/-- where a slot stands among the arguments -/
def posA : List Arg → Nat → Option Nat
  | [], _ => none
  | .v _ :: as, k => (posA as k).map (· + 1)
  | .s j :: as, k => if j = k then some 0 else (posA as k).map (· + 1)
theorem posA_get : ∀ {as : List Arg} {k i : Nat}, posA as k = some i → as[i]? = some (.s k)
  | [], _, _, h => by cases h
  | .v _ :: as, k, i, h => by
    unfold posA at h
    cases e : posA as k with
    | none => rw [e] at h; cases h
    | some j => rw [e] at h; cases h; simpa using posA_get e
  | .s j :: as, k, i, h => by
    unfold posA at h
    by_cases e : j = k
    · rw [if_pos e] at h; cases h; rw [e]; rfl
    · rw [if_neg e] at h
      cases e2 : posA as k with
      | none => rw [e2] at h; cases h
      | some j => rw [e2] at h; cases h; simpa using posA_get e2
theorem posA_none : ∀ {as : List Arg} {k : Nat}, posA as k = none → k ∉ slotsOf as
  | [], _, _ => by simp [slotsOf]
  | .v _ :: as, k, h => by
    unfold posA at h
    cases e : posA as k with
    | none => exact posA_none (as := as) e
    | some j => rw [e] at h; cases h
  | .s j :: as, k, h => by
    unfold posA at h
    by_cases e : j = k
    · rw [if_pos e] at h; cases h
    · rw [if_neg e] at h
      cases e2 : posA as k with
      | none => exact fun z => (List.mem_cons.mp z).elim (fun z => e z.symm) (posA_none e2)
      | some j => rw [e2] at h; cases h
theorem slotsOf_mem : ∀ {as : List Arg} {i k : Nat}, as[i]? = some (.s k) → k ∈ slotsOf as
  | [], _, _, h => by simp at h
  | .v _ :: as, 0, _, h => by simp at h
  | .v _ :: as, i + 1, k, h => slotsOf_mem (as := as) (i := i) (by simpa using h)
  | .s j :: as, 0, k, h => by simp at h; subst h; exact List.mem_cons_self
  | .s j :: as, i + 1, k, h => List.mem_cons_of_mem _ (slotsOf_mem (as := as) (i := i) (by simpa using h))
theorem posA_of : ∀ {as : List Arg} {k i : Nat}, (slotsOf as).Nodup → as[i]? = some (.s k) → posA as k = some i
  | [], _, _, _, h => by simp at h
  | .v _ :: as, k, 0, _, h => by simp at h
  | .v _ :: as, k, i + 1, n, h => by
    unfold posA
    rw [posA_of (as := as) (i := i) n (by simpa using h)]; rfl
  | .s j :: as, k, 0, n, h => by
    simp at h; subst h
    unfold posA; rw [if_pos rfl]
  | .s j :: as, k, i + 1, n, h => by
    have h' : as[i]? = some (.s k) := by simpa using h
    have n' := List.nodup_cons.mp n
    have hn : j ≠ k := fun e => n'.1 (by rw [e]; exact slotsOf_mem h')
    unfold posA
    rw [if_neg hn, posA_of n'.2 h']; rfl
theorem mkArgs_get : ∀ {as : List Arg} {ρ args : Env} {i : Nat} {s : Sl}, mkArgs as ρ = some args → args[i]? = some s →
    (∃ d, as[i]? = some (.v d) ∧ s = .fr d) ∨ ∃ j d, as[i]? = some (.s j) ∧ s = .io d ∧ (ρ[j]? = some (.io d) ∨ ρ[j]? = some (.ow d))
  | [], _, _, _, _, h, e => by cases h; simp at e
  | .v d :: as, ρ, args, i, s, h, e => by
    unfold mkArgs at h
    cases e1 : mkArgs as ρ with
    | none => rw [e1] at h; cases h
    | some r =>
      rw [e1] at h; cases h
      cases i with
      | zero => simp at e; subst e; exact .inl ⟨d, rfl, rfl⟩
      | succ i => simpa using mkArgs_get e1 (by simpa using e)
  | .s j :: as, ρ, args, i, s, h, e => by
    unfold mkArgs at h
    cases e0 : ρ[j]? with
    | none => rw [e0] at h; cases h
    | some t =>
      rw [e0] at h
      cases t with
      | un => cases h
      | fr d => cases h
      | ow d =>
        simp only at h
        cases e1 : mkArgs as ρ with
        | none => rw [e1] at h; cases h
        | some r =>
          rw [e1] at h; cases h
          cases i with
          | zero => simp at e; subst e; exact .inr ⟨j, d, rfl, rfl, .inr e0⟩
          | succ i => simpa using mkArgs_get e1 (by simpa using e)
      | io d =>
        simp only at h
        cases e1 : mkArgs as ρ with
        | none => rw [e1] at h; cases h
        | some r =>
          rw [e1] at h; cases h
          cases i with
          | zero => simp at e; subst e; exact .inr ⟨j, d, rfl, rfl, .inl e0⟩
          | succ i => simpa using mkArgs_get e1 (by simpa using e)
theorem mkArgs_length : ∀ {as : List Arg} {ρ args : Env}, mkArgs as ρ = some args → args.length = as.length
  | [], _, _, h => by cases h; rfl
  | .v d :: as, ρ, args, h => by
    unfold mkArgs at h
    cases e1 : mkArgs as ρ with
    | none => rw [e1] at h; cases h
    | some r => rw [e1] at h; cases h; simp [mkArgs_length e1]
  | .s j :: as, ρ, args, h => by
    unfold mkArgs at h
    cases e0 : ρ[j]? with
    | none => rw [e0] at h; cases h
    | some t =>
      rw [e0] at h
      cases t with
      | un => cases h
      | fr d => cases h
      | ow d =>
        simp only at h
        cases e1 : mkArgs as ρ with
        | none => rw [e1] at h; cases h
        | some r => rw [e1] at h; cases h; simp [mkArgs_length e1]
      | io d =>
        simp only at h
        cases e1 : mkArgs as ρ with
        | none => rw [e1] at h; cases h
        | some r => rw [e1] at h; cases h; simp [mkArgs_length e1]
theorem RAs.length {G : Gc} {Z : Addr → Prop} {σ : St} {H : Hp} {as : List Arg} {vs : List V} (h : RAs G Z σ H as vs) : as.length = vs.length := by
  induction h with
  | nil => rfl
  | cons _ _ ih => simp [ih]
theorem RAs.get {G : Gc} {Z : Addr → Prop} {σ : St} {H : Hp} {as : List Arg} {vs : List V} (h : RAs G Z σ H as vs) : ∀ {i : Nat} {a : Arg}, as[i]? = some a → ∃ v, vs[i]? = some v ∧ repA1 G Z σ H a v := by
  induction h with
  | nil => intro i a e; simp at e
  | cons h1 h2 ih =>
    intro i a e
    cases i with
    | zero => simp at e; subst e; exact ⟨_, rfl, h1⟩
    | succ i => simpa using ih (by simpa using e)
/-- what is put back -/
theorem putBack_get : ∀ {as : List Arg} {os ρ ρ' : Env}, (slotsOf as).Nodup → putBack as os ρ = some ρ' → ρ'.length = ρ.length ∧ ∀ k, match posA as k with
    | none => ρ'[k]? = ρ[k]?
    | some i => ∃ d d0, os[i]? = some (.io d) ∧ ((ρ[k]? = some (.io d0) ∧ ρ'[k]? = some (.io d)) ∨ (ρ[k]? = some (.ow d0) ∧ ρ'[k]? = some (.ow d)))
  | [], os, ρ, ρ', _, h => by cases h; exact ⟨rfl, fun k => rfl⟩
  | .v _ :: as, [], ρ, ρ', _, h => by cases h
  | .v _ :: as, o :: os, ρ, ρ', n, h => by
    obtain ⟨h1, h2⟩ := putBack_get (as := as) (os := os) n h
    refine ⟨h1, fun k => ?_⟩
    have h3 := h2 k
    unfold posA
    cases e : posA as k with
    | none => rw [e] at h3; exact h3
    | some i => rw [e] at h3; simpa using h3
  | .s j :: as, [], ρ, ρ', _, h => by cases h
  | .s j :: as, .un :: os, ρ, ρ', _, h => by cases h
  | .s j :: as, .fr _ :: os, ρ, ρ', _, h => by cases h
  | .s j :: as, .ow _ :: os, ρ, ρ', _, h => by cases h
  | .s j :: as, .io d :: os, ρ, ρ', n, h => by
    have n' := List.nodup_cons.mp n
    unfold putBack at h
    have go : ∀ (t : Sl), j < ρ.length → putBack as os (ρ.set j t) = some ρ' → ρ'.length = ρ.length ∧ ρ'[j]? = some t ∧ ∀ k, k ≠ j → match posA as k with
        | none => ρ'[k]? = ρ[k]?
        | some i => ∃ d d0, os[i]? = some (.io d) ∧ ((ρ[k]? = some (.io d0) ∧ ρ'[k]? = some (.io d)) ∨ (ρ[k]? = some (.ow d0) ∧ ρ'[k]? = some (.ow d))) := fun t hj h => by
      obtain ⟨h1, h2⟩ := putBack_get (as := as) (os := os) n'.2 h
      rw [List.length_set] at h1
      refine ⟨h1, ?_, fun k hk => ?_⟩
      · have h3 := h2 j
        cases e : posA as j with
        | none => rw [e] at h3; rw [h3, List.getElem?_set, if_pos rfl, if_pos hj]
        | some i => exact absurd (slotsOf_mem (posA_get e)) n'.1
      · have h3 := h2 k
        have e4 : (ρ.set j t)[k]? = ρ[k]? := by rw [List.getElem?_set, if_neg (fun e => hk e.symm)]
        rw [e4] at h3
        exact h3
    cases e0 : ρ[j]? with
    | none => rw [e0] at h; cases h
    | some t =>
      have hj := (List.getElem?_eq_some_iff.mp e0).1
      rw [e0] at h
      cases t with
      | un => cases h
      | fr _ => cases h
      | io d0 =>
        obtain ⟨h1, h2, h3⟩ := go _ hj h
        refine ⟨h1, fun k => ?_⟩
        unfold posA
        by_cases e : j = k
        · subst e; rw [if_pos rfl]; exact ⟨d, d0, rfl, .inl ⟨e0, h2⟩⟩
        · rw [if_neg e]
          have h4 := h3 k fun z => e z.symm
          cases e5 : posA as k with
          | none => rw [e5] at h4; exact h4
          | some i => rw [e5] at h4; simpa using h4
      | ow d0 =>
        obtain ⟨h1, h2, h3⟩ := go _ hj h
        refine ⟨h1, fun k => ?_⟩
        unfold posA
        by_cases e : j = k
        · subst e; rw [if_pos rfl]; exact ⟨d, d0, rfl, .inr ⟨e0, h2⟩⟩
        · rw [if_neg e]
          have h4 := h3 k fun z => e z.symm
          cases e5 : posA as k with
          | none => rw [e5] at h4; exact h4
          | some i => rw [e5] at h4; simpa using h4
/-- the callee's places -/
def inO (O : Nat → List Addr) (as : List Arg) : Nat → List Addr := fun i => match as[i]? with
  | some (.s j) => O j
  | _ => []
/-- the caller's places behind the call -/
def backO (O O1 : Nat → List Addr) (as : List Arg) (t : Nat) : Nat → List Addr := fun k => if k = t then O1 as.length else match posA as k with
  | some i => O1 i
  | none => O k
section
variable {G : Gc} {Z Z' : Addr → Prop} {H H' : Hp} {O O1 : Nat → List Addr} {ρ : Env} {σ : St}
theorem inO_ow {as : List Arg} {a : Addr} (h : Ow (inO O as) a) : ∃ j ∈ slotsOf as, a ∈ O j := by
  obtain ⟨i, h⟩ := h
  unfold inO at h
  cases e : as[i]? with
  | none => rw [e] at h; cases h
  | some b =>
    rw [e] at h
    cases b with
    | v d => cases h
    | s j => exact ⟨j, slotsOf_mem e, h⟩
theorem R.enter {as : List Arg} {args : Env} {vs : List V} (r : R G Z O ρ σ H) (n : (slotsOf as).Nodup) (e : mkArgs as ρ = some args) (ra : RAs G Z σ H as vs) : R G Z (inO O as) args (vs.map some) H := by
  refine r.reix (fun i => match as[i]? with | some (.s j) => j | _ => 0) (by rw [mkArgs_length e, List.length_map, ra.length]) (fun i s q => ?_) (fun i => ?_) fun i j n1 n2 q => ?_
  · rcases mkArgs_get e q with ⟨d, q1, rfl⟩ | ⟨j, d, q1, rfl, q2⟩
    · obtain ⟨v, q3, q4⟩ := ra.get q1
      unfold inO; rw [q1]
      exact ⟨rfl, v, by rw [List.getElem?_map, q3]; rfl, q4⟩
    · obtain ⟨v, q3, q4⟩ := ra.get q1
      have q4' : σ[j]? = some (some v) := q4
      unfold inO; rw [q1]
      refine ⟨v, by rw [List.getElem?_map, q3]; rfl, ?_⟩
      rcases q2 with q2 | q2
      · obtain ⟨v', e1, o1⟩ := r.sl j _ q2
        rw [q4'] at e1; cases e1; exact o1
      · obtain ⟨v', e1, o1⟩ := r.sl j _ q2
        rw [q4'] at e1; cases e1; exact o1
  · unfold inO
    cases q : as[i]? with
    | none => exact .inl rfl
    | some b => cases b with
      | v d => exact .inl rfl
      | s j => exact .inr rfl
  · unfold inO at n1 n2
    cases q1 : as[i]? with
    | none => rw [q1] at n1; exact absurd rfl n1
    | some b => cases b with
      | v d => rw [q1] at n1; exact absurd rfl n1
      | s k =>
        cases q2 : as[j]? with
        | none => rw [q2] at n2; exact absurd rfl n2
        | some b => cases b with
          | v d => rw [q2] at n2; exact absurd rfl n2
          | s k2 =>
            rw [q1, q2] at q
            have q : k = k2 := q
            subst q
            have a1 := posA_of n q1
            have a2 := posA_of n q2
            rw [a1] at a2; exact Option.some.inj a2
theorem Ext.back {as : List Arg} {t : Nat} (x : Ext Z (inO O as) H Z' O1 H') : Ext Z O H Z' (backO O O1 as t) H' where
  zs := x.zs
  kp := fun a o e n => x.kp a o e fun z => n (let ⟨j, _, h⟩ := inO_ow z; ⟨j, h⟩)
  zn := fun a z => (x.zn a z).imp id fun z => z.imp (fun z => let ⟨j, _, h⟩ := inO_ow z; ⟨j, h⟩) id
  on := fun a ⟨k, h⟩ => by
    have f : Ow O1 a → Ow O a ∨ H a = none := fun z => (x.on a z).imp (fun z => let ⟨j, _, h⟩ := inO_ow z; ⟨j, h⟩) id
    unfold backO at h
    by_cases e : k = t
    · rw [if_pos e] at h; exact f ⟨_, h⟩
    · rw [if_neg e] at h
      cases e2 : posA as k with
      | none => rw [e2] at h; exact .inl ⟨k, h⟩
      | some i => rw [e2] at h; exact f ⟨i, h⟩
  dm := x.dm
theorem R.back {as : List Arg} {os ρ' : Env} {vs : List V} (r : R G Z O ρ σ H) (n : (slotsOf as).Nodup) (ra : RAs G Z σ H as vs) (x : Ext Z (inO O as) H Z' O1 H') (r1 : R G Z' O1 os (vs.map some) H')
    (p : putBack as os ρ = some ρ') : R G Z' (backO O O1 as ρ.length) ρ' σ H' := by
  obtain ⟨pl, pg⟩ := putBack_get n p
  have lt : ∀ {k i}, posA as k = some i → i < as.length := fun e => (List.getElem?_eq_some_iff.mp (posA_get e)).1
  -- nothing of the caller's other places is the callee's
  have other : ∀ k a, posA as k = none → a ∈ O k → ¬ Ow (inO O as) a := fun k a e h z => by
    obtain ⟨j, hj, h2⟩ := inO_ow z
    have := r.dj k j a h h2
    subst this
    exact posA_none e hj
  have old : ∀ k a, a ∈ O k → ∃ o, H a = some o := fun k a h => by
    cases e : H a with
    | none => exact absurd e (r.od k a h)
    | some o => exact ⟨o, rfl⟩
  have apart : ∀ k i a, posA as k = none → a ∈ O k → a ∉ O1 i := fun k i a e h z => by
    rcases x.on a ⟨i, z⟩ with z | z
    · exact other k a e h z
    · exact r.od k a h z
  refine ⟨by rw [pl]; exact r.len, fun k s e => ?_, fun k => ?_, fun k l a h1 h2 => ?_, fun k a h z => ?_, fun k a h => ?_, r1.zd⟩
  · have hk : k ≠ ρ.length := fun z => by
      have := (List.getElem?_eq_some_iff.mp e).1
      omega
    unfold backO
    rw [if_neg hk]
    have g := pg k
    cases e2 : posA as k with
    | none =>
      rw [e2] at g
      rw [g] at e
      exact (r.sl k s e).keep x.zs (fun a o z e => x.kp a o e fun q => let ⟨j, _, q⟩ := inO_ow q; r.oz j a q z) fun a ha o ho => x.kp a o ho (other k a e2 ha)
    | some i =>
      rw [e2] at g
      obtain ⟨d, d0, g1, g2⟩ := g
      obtain ⟨v, v1, v2⟩ := r1.sl i _ g1
      obtain ⟨v', v3, v4⟩ := ra.get (posA_get e2)
      have v4 : σ[k]? = some (some v') := v4
      rw [List.getElem?_map, v3] at v1
      cases v1
      rcases g2 with ⟨_, g2⟩ | ⟨_, g2⟩
      · rw [g2] at e; cases e; exact ⟨_, by rw [v4]; rfl, v2⟩
      · rw [g2] at e; cases e; exact ⟨_, by rw [v4]; rfl, v2⟩
  · unfold backO
    by_cases e : k = ρ.length
    · rw [if_pos e]; exact r1.nd _
    · rw [if_neg e]
      cases e2 : posA as k with
      | none => exact r.nd k
      | some i => exact r1.nd i
  · unfold backO at h1 h2
    by_cases e1 : k = ρ.length
    · rw [if_pos e1] at h1
      by_cases e2 : l = ρ.length
      · rw [e1, e2]
      · rw [if_neg e2] at h2
        cases e3 : posA as l with
        | none => rw [e3] at h2; exact absurd h1 (apart l _ a e3 h2)
        | some i =>
          rw [e3] at h2
          have := r1.dj _ _ a h1 h2
          have := lt e3
          omega
    · rw [if_neg e1] at h1
      cases e4 : posA as k with
      | none =>
        rw [e4] at h1
        by_cases e2 : l = ρ.length
        · rw [if_pos e2] at h2; exact absurd h2 (apart k _ a e4 h1)
        · rw [if_neg e2] at h2
          cases e3 : posA as l with
          | none => rw [e3] at h2; exact r.dj k l a h1 h2
          | some i => rw [e3] at h2; exact absurd h2 (apart k _ a e4 h1)
      | some i =>
        rw [e4] at h1
        by_cases e2 : l = ρ.length
        · rw [if_pos e2] at h2
          have := r1.dj _ _ a h1 h2
          have := lt e4
          omega
        · rw [if_neg e2] at h2
          cases e3 : posA as l with
          | none => rw [e3] at h2; exact absurd h1 (apart l _ a e3 h2)
          | some j =>
            rw [e3] at h2
            have := r1.dj _ _ a h1 h2
            subst this
            have a1 := posA_get e4
            have a2 := posA_get e3
            rw [a1] at a2
            injection a2 with a2
            injection a2
  · unfold backO at h
    by_cases e : k = ρ.length
    · rw [if_pos e] at h; exact r1.oz _ a h z
    · rw [if_neg e] at h
      cases e2 : posA as k with
      | some i => rw [e2] at h; exact r1.oz _ a h z
      | none =>
        rw [e2] at h
        rcases x.zn a z with z | z | z
        · exact r.oz k a h z
        · exact other k a e2 h z
        · exact r.od k a h z
  · unfold backO at h
    by_cases e : k = ρ.length
    · rw [if_pos e] at h; exact r1.od _ a h
    · rw [if_neg e] at h
      cases e2 : posA as k with
      | some i => rw [e2] at h; exact r1.od _ a h
      | none =>
        rw [e2] at h
        obtain ⟨o, ho⟩ := old k a h
        rw [x.kp a o ho (other k a e2 h)]
        simp
end

section
variable {G : Gc} {W : WX} {X : Cx}
/-- the callee's promise out of the caller's reading -/
theorem call_cont {F : Env → FR} {as : List Arg} {vs : List V} {Z : Addr → Prop} {O : Nat → List Addr} {ρ : Env} {σ : St} {H : Hp} {Q : VK} (r : R G Z O ρ σ H) (ra : RAs G Z σ H as vs) (q : contG G W (repF G) (callR F as ρ) Z O σ H Q) : spF G F vs H Q (WE W σ) := by
  unfold callR at q
  by_cases n : (slotsOf as).Nodup
  · rw [if_pos n] at q
    cases e : mkArgs as ρ with
    | none => rw [e] at q; exact q.elim
    | some args =>
      rw [e] at q
      refine ⟨Z, _, args, by rw [mkArgs_length e, ra.length], r.enter n e ra, ?_⟩
      simp only at q
      cases e2 : F args with
      | bad => rw [e2] at q; exact q.elim
      | ok d o =>
        rw [e2] at q
        simp only [endR] at q ⊢
        cases e3 : putBack as o ρ with
        | none => rw [e3] at q; exact q.elim
        | some ρ' => rw [e3] at q; exact fun v Z' O' H' x rr f => q v Z' _ H' (x.back (t := ρ.length)) (r.back n ra x rr e3) f
      | ex y o =>
        rw [e2] at q
        simp only [endR] at q ⊢
        cases e3 : putBack as o ρ with
        | none => rw [e3] at q; exact q.elim
        | some ρ' => rw [e3] at q; exact fun c dd Z' O' H' x rr f => q c dd Z' _ H' (x.back (t := ρ.length)) (r.back n ra x rr e3) f
      | own d o =>
        rw [e2] at q
        simp only [endR] at q ⊢
        cases e3 : putBack as o ρ with
        | none => rw [e3] at q; exact q.elim
        | some ρ' =>
          rw [e3] at q
          simp only at q
          cases e4 : isDrw d with
          | true => rw [e4] at q; exact q.elim
          | false =>
            rw [e4] at q
            intro v Z' O' H' x rr f
            have rr2 := r.back n ra x rr e3
            have hl : ρ'.length = ρ.length := (putBack_get n e3).1
            have f2 : Own G Z' H' d v (backO O O' as ρ.length ρ'.length) := by
              rw [hl]; unfold backO; rw [if_pos rfl, ra.length]; exact f
            obtain ⟨Z2, O2, H2, x2, rfl, r2, g2⟩ := frz_rep e4 rr2 f2
            exact q v Z2 O2 _ ((x.back (t := ρ.length)).trans x2) r2 g2
  · rw [if_neg n] at q; exact q.elim
theorem callO_cont {F : Env → FR} {as : List Arg} {vs : List V} {Z : Addr → Prop} {O : Nat → List Addr} {ρ : Env} {σ : St} {H : Hp} {Q : VK} (r : R G Z O ρ σ H) (ra : RAs G Z σ H as vs) (q : contG G W (repO G) (callO F as ρ) Z O σ H Q) : spF G F vs H Q (WE W σ) := by
  unfold callO at q
  by_cases n : (slotsOf as).Nodup
  · rw [if_pos n] at q
    cases e : mkArgs as ρ with
    | none => rw [e] at q; exact q.elim
    | some args =>
      rw [e] at q
      refine ⟨Z, _, args, by rw [mkArgs_length e, ra.length], r.enter n e ra, ?_⟩
      simp only at q
      cases e2 : F args with
      | bad => rw [e2] at q; exact q.elim
      | ok d o => rw [e2] at q; exact q.elim
      | ex y o =>
        rw [e2] at q
        simp only [endR] at q ⊢
        cases e3 : putBack as o ρ with
        | none => rw [e3] at q; exact q.elim
        | some ρ' => rw [e3] at q; exact fun c dd Z' O' H' x rr f => q c dd Z' _ H' (x.back (t := ρ.length)) (r.back n ra x rr e3) f
      | own d o =>
        rw [e2] at q
        simp only [endR] at q ⊢
        cases e3 : putBack as o ρ with
        | none => rw [e3] at q; exact q.elim
        | some ρ' =>
          rw [e3] at q
          intro v Z' O' H' x rr f
          refine q v Z' _ H' (x.back (t := ρ.length)) (r.back n ra x rr e3) ?_
          have hl : ρ'.length = ρ.length := (putBack_get n e3).1
          show Own G Z' H' d v (backO O O' as ρ.length ρ'.length)
          rw [hl]; unfold backO; rw [if_pos rfl, ra.length]; exact f
  · rw [if_neg n] at q; exact q.elim

def aNil : M (List Arg) := fun ρ => .ok [] ρ
def aV (m : M D) (ms : M (List Arg)) : M (List Arg) := fun ρ => (m ρ).bind fun x ρ => (ms ρ).bind fun xs ρ => .ok (.v x :: xs) ρ
def aS (j : Nat) (ms : M (List Arg)) : M (List Arg) := fun ρ => match ρ[j]? with
  | some (.io _) => (ms ρ).bind fun xs ρ => .ok (.s j :: xs) ρ
  | some (.ow _) => (ms ρ).bind fun xs ρ => .ok (.s j :: xs) ρ
  | _ => .bad
theorem aa_nil : PA X [] (liftA G W aNil) := PA_imp pa_nil fun σ H Q ⟨Z, O, ρ, r, q⟩ => q _ Z O H .refl r .nil
theorem repA1.keep {Z Z' : Addr → Prop} {H H' : Hp} {σ : St} {a : Arg} {v : V} (zs : ∀ a, Z a → Z' a) (k : Kp Z H H') (h : repA1 G Z σ H a v) : repA1 G Z' σ H' a v := by
  cases a with
  | v d => exact Rf.keep zs k h
  | s j => exact h
theorem aa_v {e : Expr} {es : List Expr} {m : M D} {ms : M (List Arg)} (h : PE X e (lift G W m)) (hs : PA X es (liftA G W ms)) (hst : starEach (e :: es) X.env = (false, eval e X.env) :: starEach es X.env := by rfl) : PA X (e :: es) (liftA G W (aV m ms)) :=
  PA_imp (pa_cons h hs hst) fun σ H Q q => by
    refine liftG.mono (liftG.bind (rep := repF G) q) fun v H1 ⟨Z1, O1, ρ1, d1, r1, f1, q1⟩ => ?_
    refine ⟨Z1, O1, ρ1, r1, (contG.bind (rep := repA G) q1).mono fun w H2 ⟨Z2, O2, ρ2, d2, x, r2, f2, q2⟩ => ?_⟩
    exact q2 _ Z2 O2 H2 .refl r2 (.cons (r1.rf x f1) f2)
theorem aa_s {e : Expr} {es : List Expr} {j : Nat} {ms : M (List Arg)} (h : PE X e (tVar j)) (hs : PA X es (liftA G W ms)) (hst : starEach (e :: es) X.env = (false, eval e X.env) :: starEach es X.env := by rfl) : PA X (e :: es) (liftA G W (aS j ms)) :=
  PA_imp (pa_cons h hs hst) fun σ H Q ⟨Z, O, ρ, r, q⟩ => by
    unfold aS at q
    have go : ∀ v, σ[j]? = some (some v) → contG G W (repA G) ((ms ρ).bind fun xs ρ => .ok (.s j :: xs) ρ) Z O σ H Q → tCons (tVar j) (liftA G W ms) σ H Q := fun v e q => by
      refine ⟨v, e, Z, O, ρ, r, (contG.bind (rep := repA G) q).mono fun w H2 ⟨Z2, O2, ρ2, d2, x, r2, f2, q2⟩ => ?_⟩
      exact q2 _ Z2 O2 H2 .refl r2 (.cons e f2)
    cases e1 : ρ[j]? with
    | none => rw [e1] at q; exact q.elim
    | some s =>
      rw [e1] at q
      cases s with
      | un => exact q.elim
      | fr d => exact q.elim
      | io d => obtain ⟨v, e2, _⟩ := r.sl j _ e1; exact go v (slot_some e2) q
      | ow d => obtain ⟨v, e2, _⟩ := r.sl j _ e1; exact go v (slot_some e2) q
def mCall (F : Env → FR) (ms : M (List Arg)) : M D := fun ρ => (ms ρ).bind fun as ρ => callR F as ρ
def mCallO (F : Env → FR) (ms : M (List Arg)) : M D := fun ρ => (ms ρ).bind fun as ρ => callO F as ρ
section
variable {k : Nat} {f : Addr} {fd : FuncData} {ps : List Str} {F : Env → FR} {x : Str} {p pos : Pos} {e : Expr} {es : List Expr} {ms : M (List Arg)}
theorem d_call (tk : Takes X W) (FF : FnOk X.prog X.w X.K X.mg X.base (L2.CX X.prog X.w) k f fd ps (spF G F)) (hr : Room k X.A) (hg : Gl X x) (hm : X.mg x = some (.ref f)) (hk : PySem.W.keepIn X.K (.ref f) = true) (hb : Binds X.K fd ps [])
    (ha : PA X (e :: es) (liftA G W ms)) (hdb : (x == ("__debug__" : Str)) = false := by decide) (he : starEach (e :: es) X.env = (false, eval e X.env) :: starEach es X.env := by rfl) (hpl : (backTo pos (starEach es X.env)).any (·.1) = false := by rfl) :
    PE X (.Call (.Name x p) (e :: es) [] pos) (lift G W (mCall F ms)) :=
  PE_imp (pe_callS FF hr hg hm hk hb (fun σ => passAt tk σ) ha hdb he hpl) fun σ H Q q => liftG.mono (liftG.bind (rep := repA G) q) fun v H1 ⟨Z1, O1, ρ1, d1, r1, f1, q1⟩ => call_cont r1 f1 q1
theorem o_call (tk : Takes X W) (FF : FnOk X.prog X.w X.K X.mg X.base (L2.CX X.prog X.w) k f fd ps (spF G F)) (hr : Room k X.A) (hg : Gl X x) (hm : X.mg x = some (.ref f)) (hk : PySem.W.keepIn X.K (.ref f) = true) (hb : Binds X.K fd ps [])
    (ha : PA X (e :: es) (liftA G W ms)) (hdb : (x == ("__debug__" : Str)) = false := by decide) (he : starEach (e :: es) X.env = (false, eval e X.env) :: starEach es X.env := by rfl) (hpl : (backTo pos (starEach es X.env)).any (·.1) = false := by rfl) :
    PE X (.Call (.Name x p) (e :: es) [] pos) (liftO G W (mCallO F ms)) :=
  PE_imp (pe_callS FF hr hg hm hk hb (fun σ => passAt tk σ) ha hdb he hpl) fun σ H Q q => liftG.mono (liftG.bind (rep := repA G) q) fun v H1 ⟨Z1, O1, ρ1, d1, r1, f1, q1⟩ => callO_cont r1 f1 q1
end
end
end PB
set_option maxRecDepth 100000
set_option maxHeartbeats 4000000
/-! PB6: list comprehensions; built-in calls; methods of what a slot owns. -/
namespace PB
open PySem PySem.Spec L2
variable {G : Gc} {W : WX} {X : Cx} {I : List Nat}
abbrev W0 : WX := fun _ _ _ _ => False

/-! ### comprehensions -/
def wipeE (own : List Nat) (ρ : Env) : Env := match own with
  | [] => ρ
  | v :: vs => (wipeE vs ρ).set v .un
theorem wipeE_length (ρ : Env) : ∀ own, (wipeE own ρ).length = ρ.length
  | [] => rfl
  | v :: vs => by unfold wipeE; rw [List.length_set, wipeE_length ρ vs]
theorem wipeE_get {ρ : Env} {i : Nat} {s : Sl} : ∀ {own : List Nat}, (wipeE own ρ)[i]? = some s → s = .un ∨ (i ∉ own ∧ ρ[i]? = some s)
  | [], h => .inr ⟨by simp, h⟩
  | v :: vs, h => by
    unfold wipeE at h
    by_cases e : v = i
    · subst e
      rw [List.getElem?_set, if_pos rfl] at h
      split at h
      · cases h; exact .inl rfl
      · cases h
    · rw [List.getElem?_set, if_neg e] at h
      rcases wipeE_get h with h | ⟨h1, h2⟩
      · exact .inl h
      · exact .inr ⟨by simp only [List.mem_cons, not_or]; exact ⟨fun z => e z.symm, h1⟩, h2⟩
theorem wipe_other {σ : St} {i : Nat} : ∀ {own : List Nat}, i ∉ own → (wipe σ own)[i]? = σ[i]?
  | [], _ => rfl
  | v :: vs, h => by
    simp only [List.mem_cons, not_or] at h
    unfold wipe
    rw [List.getElem?_set, if_neg (fun z => h.1 z.symm), wipe_other h.2]
/-- the comprehension's names forgotten, whatever the slots at σ' hold of them -/
theorem R.wiped {Z : Addr → Prop} {H : Hp} {O : Nat → List Addr} {ρ : Env} {σ σ' : St} {own : List Nat} (r : R G Z O ρ σ H) (hl : σ'.length = σ.length) (h : ∀ i, i ∉ own → σ'[i]? = σ[i]?) : R G Z O (wipeE own ρ) σ' H :=
  r.reix id (by rw [wipeE_length, hl, r.len]) (fun i s e => by
    rcases wipeE_get e with rfl | ⟨h1, h2⟩
    · exact trivial
    · rw [h i h1]; exact r.sl i s h2) (fun _ => .inr rfl) fun _ _ _ _ e => e
/-- the items, one by one; acc: what came so far -/
def lcL (own : List Nat) (gb : D → Env → Option Env) (mt : M Bool) (me : M D) : List D → List D → M D
  | [], acc, ρ => .ok (.lst acc) ρ
  | x :: xs, acc, ρ => match gb x ρ with
    | none => .bad
    | some ρ1 => match mt ρ1 with
      | .ok true ρ2 => (match me ρ2 with
        | .ok y ρ3 => if acc.length < lim then lcL own gb mt me xs (acc ++ [y]) (wipeE own ρ3) else .bad
        | _ => .bad)
      | .ok false ρ2 => lcL own gb mt me xs acc (wipeE own ρ2)
      | _ => .bad
def mLc (own : List Nat) (gb : D → Env → Option Env) (mi : M (List D)) (mt : M Bool) (me : M D) : M D := fun ρ => (mi ρ).bind fun xs ρ => lcL own gb mt me xs [] (wipeE own ρ)
/-- the target stores nothing but the comprehension's own names -/
def TgtO (G : Gc) (own : List Nat) (g : TG) (gb : D → Env → Option Env) : Prop := ∀ Z O ρ σ H v d ρ' Q, R G Z O ρ σ H → Rf G Z H d v → gb d ρ = some ρ' →
  (∀ O' σ', Ext Z O H Z O' H → σ'.length = σ.length → (∀ i, i ∉ own → σ'[i]? = σ[i]?) → R G Z O' ρ' σ' H → Q σ' H) → g v σ H Q
def TgtOL (G : Gc) (own : List Nat) (g : TGs) (gb : List D → Env → Option Env) : Prop := ∀ Z O ρ σ H vs ds ρ' Q, R G Z O ρ σ H → RfL G Z H ds vs → gb ds ρ = some ρ' →
  (∀ O' σ', Ext Z O H Z O' H → σ'.length = σ.length → (∀ i, i ∉ own → σ'[i]? = σ[i]?) → R G Z O' ρ' σ' H → Q σ' H) → g vs σ H Q
theorem c_name {i : Nat} {own : List Nat} (hi : own.contains i = true) : TgtO G own (gName i) (bName i) := fun Z O ρ σ H v d ρ' Q r f e q => by
  cases e
  exact q _ _ .drop (by rw [List.length_set]) (fun j hj => set_other fun e => hj (by subst e; simpa using hi)) (r.setFr f)
theorem c_nil {own : List Nat} : TgtOL G own gNil bNil := fun Z O ρ σ H vs ds ρ' Q r f e q => by
  cases ds with
  | nil => cases e; cases f; exact ⟨rfl, q O σ .refl rfl (fun _ _ => rfl) r⟩
  | cons _ _ => cases e
theorem c_cons {own : List Nat} {g : TG} {gs : TGs} {b : D → Env → Option Env} {bs : List D → Env → Option Env} (hg : TgtO G own g b) (hs : TgtOL G own gs bs) : TgtOL G own (gCons g gs) (bCons b bs) := fun Z O ρ σ H vs ds ρ' Q r f e q => by
  cases ds with
  | nil => cases e
  | cons d ds =>
    obtain ⟨v, ws, e1, f1, f2⟩ := f
    have e : (b d ρ).bind (bs ds) = some ρ' := e
    cases e2 : b d ρ with
    | none => rw [e2] at e; cases e
    | some ρ1 =>
      rw [e2] at e
      refine ⟨v, ws, e1, hg Z O ρ σ H v d ρ1 _ r f1 e2 fun O1 σ1 x1 l1 k1 r1 => ?_⟩
      exact hs Z O1 ρ1 σ1 H ws ds ρ' _ r1 f2 e fun O2 σ2 x2 l2 k2 r2 => q O2 σ2 (x1.trans x2) (l2.trans l1) (fun i hi => (k2 i hi).trans (k1 i hi)) r2
theorem c_tup {own : List Nat} {n : Nat} {gs : TGs} {bs : List D → Env → Option Env} (hs : TgtOL G own gs bs) : TgtO G own (gTup G.K n gs) (bTup n bs) := fun Z O ρ σ H v d ρ' Q r f e q => by
  cases d <;> first | (cases e; done) | skip
  rename_i xs
  unfold bTup at e
  by_cases h : xs.length = n
  · simp only [if_pos h] at e
    obtain ⟨a, vs, rfl, g, rr⟩ := f
    exact ⟨a, vs, rfl, g.sq, by rw [← rr.length]; exact h, hs Z O ρ σ H vs xs ρ' Q r rr e q⟩
  · simp only [if_neg h] at e; cases e
/-- a comprehension's tests -/
def TstOk (G : Gc) (tt : TT) (mt : M Bool) : Prop := ∀ σ H Q, liftB G W0 mt σ H Q → tt σ H Q
def mYes : M Bool := fun ρ => .ok true ρ
theorem tst_yes : TstOk G tYes mYes := fun σ H Q ⟨Z, O, ρ, r, q⟩ => q true Z O H .refl r rfl
theorem tst_one {mt : M Bool} : TstOk G (liftB G W0 mt) mt := fun σ H Q q => q
theorem wipe_eq {σ σ2 : St} {own : List Nat} (hl : σ2.length = σ.length) (h : ∀ i, i ∉ own → σ2[i]? = σ[i]?) : wipe σ2 own = wipe σ own := by
  apply List.ext_getElem?
  intro i
  by_cases hi : i ∈ own
  · cases e : (wipe σ2 own)[i]? with
    | none =>
      rw [List.getElem?_eq_none_iff, wipe_length, hl, ← wipe_length σ own, ← List.getElem?_eq_none_iff] at e
      exact e.symm
    | some w =>
      have hlt := (List.getElem?_eq_some_iff.mp e).1
      rw [wipe_length, hl, ← wipe_length σ own] at hlt
      have e2 : (wipe σ own)[i]? = some (wipe σ own)[i] := List.getElem?_eq_getElem hlt
      have n : ∀ {σ : St} {w : Option V}, (wipe σ own)[i]? = some w → w = none := fun {σ w} e => by
        cases w with
        | none => rfl
        | some v => exact absurd hi (wipe_some e).2
      rw [e2, n e, n e2]
  · rw [wipe_other hi, wipe_other hi, h i hi]
theorem Ext.at {Z Z' : Addr → Prop} {O O' : Nat → List Addr} {H H' : Hp} {D : Addr} {o : HO} (x : Ext Z O H Z' O' H') (hD : H D = none) (hs : H' D ≠ none) : Ext Z O H Z' O' (upd H' D o) where
  zs := x.zs
  kp := fun a u e n => by rw [upd_ne (ne_of_none e hD)]; exact x.kp a u e n
  zn := x.zn
  on := x.on
  dm := fun a e => by
    by_cases q : a = D
    · rw [q]; exact hD
    · rw [upd_ne q] at e; exact x.dm a e
/-- an object that is nobody's is written -/
theorem R.at {Z : Addr → Prop} {O : Nat → List Addr} {H : Hp} {ρ : Env} {σ : St} {D : Addr} {o : HO} (r : R G Z O ρ σ H) (hz : ¬ Z D) (ho : ¬ Ow O D) : R G Z O ρ σ (upd H D o) where
  len := r.len
  sl := fun i s e => (r.sl i s e).keep (fun _ z => z) (fun b u z e => by rw [upd_ne fun (q : b = D) => hz (q ▸ z)]; exact e) fun b hb u e => by rw [upd_ne fun (q : b = D) => ho ⟨i, q ▸ hb⟩]; exact e
  nd := r.nd
  dj := r.dj
  oz := r.oz
  od := fun i a h => by rw [upd_ne fun (q : a = D) => ho ⟨i, q ▸ h⟩]; exact r.od i a h
  zd := fun a z => by rw [upd_ne fun (q : a = D) => hz (q ▸ z)]; exact r.zd a z
theorem R.ownT {Z : Addr → Prop} {O : Nat → List Addr} {H : Hp} {ρ : Env} {σ : St} {D : Addr} (r : R G Z O ρ σ H) {t : Nat} (ht : ρ.length ≤ t) (hz : ¬ Z D) (ho : ¬ Ow O D) (hd : H D ≠ none) : R G Z (setO O t [D]) ρ σ H where
  len := r.len
  sl := fun j s q => by
    have hj : j ≠ t := fun e => by
      obtain ⟨hl, _⟩ := List.getElem?_eq_some_iff.mp q
      omega
    rw [setO_ne hj]; exact r.sl j s q
  nd := fun j => by
    by_cases q : j = t
    · subst q; rw [setO_same]; exact List.nodup_cons.mpr ⟨by simp, List.nodup_nil⟩
    · rw [setO_ne q]; exact r.nd j
  dj := fun j k a h1 h2 => by
    by_cases q : j = t
    · by_cases q2 : k = t
      · rw [q, q2]
      · subst q; rw [setO_same] at h1; rw [setO_ne q2] at h2
        simp at h1; subst h1; exact absurd ⟨k, h2⟩ ho
    · by_cases q2 : k = t
      · subst q2; rw [setO_same] at h2; rw [setO_ne q] at h1
        simp at h2; subst h2; exact absurd ⟨j, h1⟩ ho
      · rw [setO_ne q] at h1; rw [setO_ne q2] at h2; exact r.dj j k a h1 h2
  oz := fun j a h z => by
    by_cases q : j = t
    · subst q; rw [setO_same] at h; simp at h; subst h; exact hz z
    · rw [setO_ne q] at h; exact r.oz j a h z
  od := fun j a h => by
    by_cases q : j = t
    · subst q; rw [setO_same] at h; simp at h; subst h; exact hd
    · rw [setO_ne q] at h; exact r.od j a h
  zd := r.zd
theorem lc_run {own : List Nat} {wi : TI} {g : TG} {gb : D → Env → Option Env} {tt : TT} {mi : M (List D)} {mt : M Bool} {me : M D} (hs : Src G W wi mi) (hg : TgtO G own g gb) (ht : TstOk G tt mt) {σ : St} {H : Hp} {Q : VK}
    (q : liftO G W (mLc own gb mi mt me) σ H Q) : tLc wi g tt (lift G W0 me) own σ H Q := by
  refine hs σ H _ <| liftG.mono (liftG.bind (rep := repW G) q) fun J H1 ⟨Z1, O1, ρ1, xs, r1, wk, q1⟩ => fun Dd hD => ?_
  have rlen : (wipe σ own).length = σ.length := wipe_length σ own
  refine ⟨fun i m H' => m = xs.length - i ∧ i ≤ xs.length ∧ ∃ Z O ρ acc av, R G Z O (wipeE own ρ) (wipe σ own) H' ∧ Ext Z1 O1 H1 Z O H' ∧ H' Dd = some (.lst av) ∧ RfL G Z H' acc av ∧ ¬ Z Dd ∧ ¬ Ow O Dd ∧
      (wipeE own ρ).length = ρ1.length ∧ contG G W (repO G) (lcL own gb mt me (xs.drop i) acc (wipeE own ρ)) Z1 O1 σ H1 Q,
    ⟨_, rfl, Nat.zero_le _, Z1, O1, ρ1, [], [], (r1.wiped rlen fun i hi => wipe_other hi).newO hD, .newO hD, upd_same, rfl, fun z => r1.zd _ z hD, fun ⟨i, z⟩ => r1.od i _ z hD, wipeE_length _ _, q1⟩, ?_⟩
  rintro i m H' ⟨rfl, hi, Z, O, ρ, acc, av, r, x, eD, fa, nz, no, hl, q2⟩
  have zs := x.zs
  have k : Kp Z1 H1 H' := Kp.of_ext r1 x
  by_cases hlt : i < xs.length
  · have ed : xs[i]? = some xs[i] := List.getElem?_eq_getElem hlt
    refine .inr ⟨wk.go Z H' i zs k hlt, fun H'' => i + 1 ≤ xs.length ∧ ∃ Z O ρ acc av, R G Z O (wipeE own ρ) (wipe σ own) H'' ∧ Ext Z1 O1 H1 Z O H'' ∧ H'' Dd = some (.lst av) ∧ RfL G Z H'' acc av ∧ ¬ Z Dd ∧ ¬ Ow O Dd ∧
        (wipeE own ρ).length = ρ1.length ∧ contG G W (repO G) (lcL own gb mt me (xs.drop (i + 1)) acc (wipeE own ρ)) Z1 O1 σ H1 Q,
      fun H'' h => ⟨xs.length - (i + 1), by omega, rfl, h.1, h.2⟩, fun v H2 y => ?_⟩
    obtain ⟨Z2, x2, r2, f2⟩ := wk.yld Z O _ _ H' i _ v H2 r zs k ed y
    -- D stays nobody's over an extension
    have still : ∀ {Z' : Addr → Prop} {O' : Nat → List Addr} {H3 : Hp}, Ext Z O H' Z' O' H3 → H3 Dd = some (.lst av) ∧ ¬ Z' Dd ∧ ¬ Ow O' Dd := fun y => by
      refine ⟨y.kp _ _ eD no, fun z => ?_, fun z => ?_⟩
      · rcases y.zn _ z with z | z | z
        · exact nz z
        · exact no z
        · rw [eD] at z; cases z
      · rcases y.on _ z with z | z
        · exact no z
        · rw [eD] at z; cases z
    rw [drop_cons ed] at q2
    unfold lcL at q2
    cases e1 : gb xs[i] (wipeE own ρ) with
    | none => rw [e1] at q2; exact q2.elim
    | some ρ2 =>
      rw [e1] at q2
      simp only at q2
      have hw : wipe (wipe σ own) own = wipe σ own := wipe_eq rlen fun i hi => wipe_other hi
      refine hg Z2 O _ _ H2 v _ ρ2 _ r2 f2 e1 fun O2 σ2 x3 l2 k2 r3 => ⟨(wipe_eq l2 k2).trans hw, ?_⟩
      have back : ∀ {Z' : Addr → Prop} {O' : Nat → List Addr} {ρ' : Env} {H3 : Hp}, R G Z' O' ρ' σ2 H3 → R G Z' O' (wipeE own ρ') (wipe σ own) H3 := fun r => r.wiped (by rw [l2]) fun i hi => (k2 i hi).symm
      refine ht σ2 H2 _ ⟨Z2, O2, ρ2, r3, ?_⟩
      cases e2 : mt ρ2 with
      | bad => rw [e2] at q2; exact q2.elim
      | ex _ _ => rw [e2] at q2; exact q2.elim
      | ok kk ρ3 =>
        rw [e2] at q2
        intro b Z4 O4 H4 x4 r4 eb
        subst eb
        have xx : Ext Z O H' Z4 O4 H4 := (x2.trans x3).trans x4
        cases kk with
        | false =>
          obtain ⟨s1, s2, s3⟩ := still xx
          refine iteF ⟨hlt, Z4, O4, ρ3, acc, av, back r4, x.trans xx, s1, fa.keep xx.zs (Kp.of_ext r xx), s2, s3, ?_, q2⟩
          rw [wipeE_length, r4.len, l2, rlen, ← r1.len]
        | true =>
          refine iteT ⟨Z4, O4, ρ3, r4, ?_⟩
          simp only at q2
          cases e5 : me ρ3 with
          | bad => rw [e5] at q2; exact q2.elim
          | ex _ _ => rw [e5] at q2; exact q2.elim
          | ok y5 ρ5 =>
            rw [e5] at q2
            simp only at q2
            by_cases e6 : acc.length < lim
            · rw [if_pos e6] at q2
              intro w Z5 O5 H5 x5 r5 f5
              have xy := xx.trans x5
              obtain ⟨s1, s2, s3⟩ := still xy
              have fa5 := fa.keep xy.zs (Kp.of_ext r xy)
              have kk5 : Kp Z5 H5 (upd H5 Dd (.lst (av ++ [w]))) := fun a o z e => by rw [upd_ne fun (q : a = Dd) => s2 (q ▸ z)]; exact e
              refine ⟨av, s1, by rw [← fa.length, ← lim_eq]; exact e6, hlt, Z5, O5, ρ5, acc ++ [y5], av ++ [w], (back r5).at s2 s3, (x.trans xy).at hD (by rw [s1]; simp), upd_same, ?_, s2, s3, ?_, q2⟩
              · exact (fa5.append (RfL.one f5)).keep (fun _ z => z) kk5
              · rw [wipeE_length, r5.len, l2, rlen, ← r1.len]
            · rw [if_neg e6] at q2; exact q2.elim
  · have e : i = xs.length := by omega
    subst e
    rw [List.drop_eq_nil_of_le (Nat.le_refl _)] at q2
    refine .inl ⟨wk.stop Z H' zs k, ?_⟩
    have rr : R G Z O (wipeE own (wipeE own ρ)) σ H' := r.wiped rlen.symm fun i hi => (wipe_other hi).symm
    have ww : wipeE own (wipeE own ρ) = wipeE own ρ := by
      have idem : ∀ (l l2 : List Nat) (ρ : Env), (∀ i ∈ l, i ∈ l2) → wipeE l (wipeE l2 ρ) = wipeE l2 ρ := by
        intro l l2 ρ
        induction l with
        | nil => intro _; rfl
        | cons v vs ih =>
          intro h
          show (wipeE vs (wipeE l2 ρ)).set v .un = wipeE l2 ρ
          rw [ih fun i hi => h i (List.mem_cons_of_mem _ hi)]
          apply List.ext_getElem?
          intro j
          rw [List.getElem?_set]
          by_cases e : v = j
          · subst e
            rw [if_pos rfl]
            cases e2 : (wipeE l2 ρ)[v]? with
            | none =>
              have e3 := List.getElem?_eq_none_iff.mp e2
              rw [if_neg (by omega)]
              try exact e2.symm
            | some s =>
              have hv := (List.getElem?_eq_some_iff.mp e2).1
              rw [if_pos hv]
              rcases wipeE_get e2 with rfl | ⟨h1, _⟩
              · rfl
              · exact absurd (h v List.mem_cons_self) h1
          · rw [if_neg e]
      exact idem own own ρ fun _ h => h
    rw [ww] at rr
    exact q2 (.ref Dd) Z _ H' ⟨x.zs, x.kp, x.zn, fun a h => (ow_setO h).elim (fun z => .inr (by simp at z; rw [z]; exact hD)) (x.on a), x.dm⟩ (rr.ownT (t := (wipeE own ρ).length) (Nat.le_refl _) nz no (by rw [eD]; simp)) ⟨Dd, av, rfl, setO_same, eD, fa⟩
end PB
set_option maxRecDepth 100000
set_option maxHeartbeats 4000000
/-! PX0: an exception class of the text whose __init__ says super().__init__(text) and stores one field. -/
namespace PB
open PySem PySem.Spec PySem.Calls PyProof.Rows L2 NdefX
open PySem.W (ksFn ksEnv ks_loadName_global kxs_getMethod kxs_callWith kxs_mw KxsAt excTup excObj exc_init_tree check_bound_init)

theorem call_mw {prog : Program} {w : World} {A : Around} {E : Value → Shared → Prop} {h : Heap} {g : Array GenState} {d : Drawn} {t : Nat} {os : OsState} {nm q : Str} {C N : Addr} {bs bm : List Value} {hdct : Bool} {sn : List Str} {sub : List Value} {ab : Bool} {col : Option Bool} {dd : Option Addr} {k0 k1 k2 k3 k5 : Option Value}
    {u a t0 : Addr} {rest : List Value} {Q : Value → Shared → Prop}
    (hC : h.get? C = some (excClassObj nm q C N bs bm hdct sn sub ab col dd k0 k1 k2 k3 k5 "ValueError.__new__")) (he : h.get? a = some (excObj C t0 none .none)) (hu : h.get? u = some (kxs_mw "ValueError.__init__" a)) (hrest : rest.length ≤ sizeLine)
    (hq : ∀ h' t1, (∀ b o, b ≠ a → h.get? b = some o → h'.get? b = some o) → h'.get? a = some (excObj C t1 none .none) → Q .none ⟨h', g, d, t, os⟩) :
    wpAny (model prog w) A (call (.ref u) rest) Q E ⟨h, g, d, t, os⟩ := by
  refine wpAny_call (codeAny_of_tree ?_)
  show wpAny _ A.in1 (callAny (.ref u) ⟨rest, []⟩) _ _ _
  simp only [callAny]
  refine wpAny_bind (wpAny_load hu ?_)
  simp only [kxs_mw, show (Value.type "method-wrapper" == Value.type "method" || Value.type "method-wrapper" == Value.type "builtin_function_or_method" || Value.type "method-wrapper" == Value.type "method-wrapper") = true by decide, if_true]
  refine PySem.W.KFB.if_so (by decide) ?_
  refine wpAny_bind (check_bound_init F.excBase_ValueError.toExcCallFacts hC he rfl ?_)
  refine wpAny_bind (wpAny_pure (wpAny_pure ?_))
  refine ⟨plainId_quiet F.excBase_ValueError.init.plain _, codeAny_builtin F.excBase_ValueError.initEntry ?_⟩
  exact exc_init_tree (cls := .ref C) (t0 := t0) (dv := none) (c2 := .none) (c3 := .none) (b4 := .bool false) he hrest fun h' k e' _ => hq h' _ k e'
/-- what the written part tells of such a class -/
structure XcF (P : Program) (K : PySem.W.Frag) (C : Addr) : Prop where
  oex : OexC K C
  along : ∃ cd, PySem.W.clsIn K C = some cd ∧ PySem.W.alongIn K "__init__" ((cd.mro.dropWhile (· != .ref C)).drop 1) = some (some (.builtin "ValueError.__init__"))
  sub : PySem.W.subIn K (.ref C) (.type "ValueError") = some true
  self : PySem.W.mroIn K C (.ref C) = some true
  thd : PySem.W.nsIn K cStatics "thirdparty.any" = some none
section
variable {P : Program} {w : World} {K : PySem.W.Frag} {mg : Str → Option Value} {base : Heap} {k : Nat} {f cc cda C : Addr} {name qual : Str} {params : Arguments} {scope : Scope} {dV kV doc pm ct oc : Value} {an od : Option Addr} {osl : Array (Option Value)}
  {prm fld txt : Str} {ar : PySem.Arg} {j : Nat} {p0 p1 p2 p3 p4 p5 q0 q1 q2 q3 : Pos} {vs5 : Array Value} {file : Str} {tf : Tok} {cl5 clc : Value} {d5 dc : Option Addr} {sl5 slc : Array (Option Value)}
/-- what is wanted of it: the object that is being made gets its dict -/
def spInit (K : PySem.W.Frag) (C : Addr) (fld : Str) : Sp := fun vs H Q E => ∃ (a : Addr) (y : V), vs = [.ref a, y] ∧ H a = some (exo a C none) ∧ ∀ dx, H dx = none → dx ≠ a → Q .non (upd (upd H dx (exd dx [(fld, y)])) a (exo a C (some dx)))
abbrev xBody (txt prm fld : Str) (j : Nat) (p0 p1 p2 p3 p4 p5 q0 q1 q2 q3 : Pos) : List Stmt :=
  [.Expr (.Call (.Attribute (.Call (.Name "super" p0) [] [] p1) "__init__" p2) [.Constant (.str txt) j p3] [] p4) p5, .Assign [.Attribute (.Name "self" q0) fld q1] (.Name prm q2) q3]
theorem xinit_fn (X0 : XcF P K C)
    (lk : K.lookup f = some ⟨oc, od, .func (ksFn name qual params (xBody txt prm fld j p0 p1 p2 p3 p4 p5 q0 q1 q2 q3) scope dV kV doc pm an (.ref cda) ct cc), osl⟩) (hcd : PySem.W.codeIn K (.ref cda) qual = true)
    (hcode : K.lookup cda = some ⟨cl5, d5, .fields vs5, sl5⟩) (hvs : vs5[2]? = some (.str file tf)) (hfile : ((P.main.file : Str) == file) = true)
    (hcell : K.lookup cc = some ⟨clc, dc, .cell (some (.ref C)), slc⟩)
    (hno : PySem.W.findIn K (.ref C) fld = some none) (hsm : mg "super" = none) (htop : (P.main.scope.names.lookup ("super" : Str)).isSome = false)
    (S : NScope ["self", prm, "__class__"] ["self", prm] ["__class__"] scope) (hks : scope.names.lookup ("super" : Str) = some .globalImplicit)
    (hp : (params.posonlyargs ++ params.args).head? = some ar) (har : ar.arg = "self") (hne : ("self" : Str) ≠ prm) (hpd : (prm == ("__debug__" : Str)) = false) (hpc : (prm == ("__classdict__" : Str)) = false)
    (hme : ∀ L, ∃ pl : Sem Bool, eval (.Call (.Attribute (.Call (.Name "super" p0) [] [] p1) "__init__" p2) [.Constant (.str txt) j p3] [] p4) (PySem.W.envX qual scope L f (.ref cda) [("__class__", cc)]) = (do
      let ov ← attributeBase (.Call (.Name "super" p0) [] [] p1) "__init__" (PySem.W.envX qual scope L f (.ref cda) [("__class__", cc)]) (eval (.Call (.Name "super" p0) [] [] p1) (PySem.W.envX qual scope L f (.ref cda) [("__class__", cc)]))
      standAt p2.atName
      let (f', first) ← holding [ov] (getMethod ov "__init__" pl)
      callWith p4 f' first (backTo p4 (starEach [.Constant (.str txt) j p3] (PySem.W.envX qual scope L f (.ref cda) [("__class__", cc)]))) []))
    (hin : ∀ L, interactive (PySem.W.envX qual scope L f (.ref cda) [("__class__", cc)]) = false)
    (hst : ∀ L, swapsWith (.Name prm q2) (some (.Attribute (.Name "self" q0) fld q1)) q3.line (PySem.W.envX qual scope L f (.ref cda) [("__class__", cc)]) = pure false) :
    FnOk P w K mg base (L2.CX P w) (k + 1) f (ksFn name qual params (xBody txt prm fld j p0 p1 p2 p3 p4 p5 q0 q1 q2 q3) scope dV kV doc pm an (.ref cda) ct cc) ["self", prm] (spInit K C fld) := by
  refine ⟨fun vs H Q E ⟨a, y, e, _⟩ => by rw [e] <;> rfl, fun A outer s H args us vs Q E hr e0 hb r hsp => ?_⟩
  obtain ⟨a, y, rfl, ea, hq⟩ := hsp
  have KX : K.In s.heap := e0.mod.kin.keeps fun b o e => (e0.bs b o e).1
  have lim : s.heap.NoLimit := e0.mod.nolimit.keeps fun b o e => (e0.bs b o e).1
  let F : NF := { name := name, qual := qual, params := params, body := xBody txt prm fld j p0 p1 p2 p3 p4 p5 q0 q1 q2 q3, scope := scope, cl := [("__class__", cc)], c := cda }
  have hl : ([V.ref a, y] : List V).length = (["self", prm] : List Str).length := rfl
  have hcb : base.get? cc = some ⟨clc, dc, .cell (some (.ref C)), slc⟩ := e0.mod.kin _ _ hcell
  have CA : CellsAt F.cl ["__class__"] [none] s.heap H := {
    len := rfl
    all := fun y c e => by
      have e : ([("__class__", cc)] : List (Str × Addr)).lookup y = some c := e
      have e2 : c = cc := by
        simp only [List.lookup] at e
        split at e
        · exact (Option.some.inj e).symm
        · cases e
      rw [e2]
      exact ⟨(e0.bs cc _ hcb).2, _, ⟨_, (e0.bs cc _ hcb).1, rfl⟩⟩
    inj := fun x y c h1 h2 => by
      have g : ∀ {z : Str} {c : Addr}, ([("__class__", cc)] : List (Str × Addr)).lookup z = some c → z = "__class__" := fun {z c} e => by
        simp only [List.lookup] at e
        split at e
        · rename_i q; exact beq_iff_eq.mp q
        · cases e
      rw [g h1, g h2]
    has := fun i y e => by
      cases i with
      | zero =>
        simp at e
        subst e
        exact ⟨cc, rfl, fun v q => by simp at q⟩
      | succ i => simp at e }
  refine ks_codeAny_call_defAt (binds := (["self", prm] : List Str).zip us) hr.depth (KX _ _ lk) rfl lim (PySem.W.codeRec_of KX hcd) rfl hb (fun x hx => S.nocell x hx) (fun ⟨n, _⟩ hy => S.par n (List.of_mem_zip hy).1) (fun h₁ hns kp => ?_) S.co S.gen S.kind
  have I : Inv (ncx (L2.CX P w) P w K mg base ["self", prm, "__class__"] F f A outer s H E) [] (startF ["self", prm, "__class__"] [V.ref a, y] [none]) H { s with heap := h₁, toks := s.toks + ((["self", prm] : List Str).zip us).length } :=
    inv_startN (tk := s.toks + ((["self", prm] : List Str).zip us).length) S hr.hd e0 hl r CA hns kp
  obtain ⟨u1, rfl, ru⟩ : ∃ u1, us = [.ref a, u1] ∧ RelV y u1 := by
    cases r with
    | @cons _ u0 _ ur r1 r2 =>
      cases r2 with
      | @cons _ u1 _ ur2 r3 r4 =>
        cases r4
        obtain rfl : u0 = Value.ref a := r1
        exact ⟨u1, rfl, r3⟩
  obtain ⟨nm, q, N, bs, bm, sn, sub, ab, col, dd, k0, k1, k2, k3, k5, hC, hbm⟩ := X0.oex.cls
  obtain ⟨cdC, hcdC, hal⟩ := X0.along
  have hcl : PySem.W.clsIn K C = some { name := nm, bases := bs, mro := .ref C :: bm, ns := N, qualname := q, hasDict := true, slotNames := sn, subclasses := sub, abstract := ab, collection := col, hasDel := false } := by unfold PySem.W.clsIn; rw [hC] <;> rfl
  have ecd := hcdC.symm.trans hcl
  let X : Cx := ncx (L2.CX P w) P w K mg base ["self", prm, "__class__"] F f A outer s H E
  show PySem.wpAt (model P w) X.A (.func (xBody txt prm fld j p0 p1 p2 p3 p4 p5 q0 q1 q2 q3) X.env) (execs (xBody txt prm fld j p0 p1 p2 p3 p4 p5 q0 q1 q2 q3) X.env) _ _ _
  have hkS : X.env.kindOf "super" = some .globalImplicit := hks
  have hkC : X.env.kindOf "__class__" = some .free := S.frk "__class__" (by simp)
  have hkF : X.env.scope.kind = .function := S.kind
  have hk1 : ∀ b o, base.get? b = some o → h₁.get? b = some o := fun b o e => kp b o (e0.bs b o e).1
  have hC1 : h₁.get? C = _ := hk1 _ _ (e0.mod.kin _ _ hC)
  obtain ⟨t1, ho⟩ := exo_at I.hok ea
  obtain ⟨pl, hpl⟩ := hme s.heap.objs.size
  refine ks_wpAt_execs_cons (ks_wpAt_Expr_any (ks_wpAt_MethodCall (pl := pl) ?_ hpl) (hin _))
  refine ks_wpAt_super_base (env := X.env) hkS hkC (by decide) rfl (hk1 _ _ (e0.mod.kin _ _ lk)) rfl hp rfl (hk1 _ _ (e0.mod.kin _ _ hcode)) rfl hvs hfile htop ?_
  obtain ⟨mb, hb1, hb2⟩ := e0.mod.blt
  refine ks_loadName_global hkF hkS (Calls.loadGlobal_builtin (env := X.env) (e0.mod.glob.keeps hk1) hsm (hb1.keeps hk1) ((hb2 "super" (by decide)).trans Boot.«super») ⟨rfl, ?_⟩)
  refine wpAny_loadName_free hkF hkC rfl ⟨_, hk1 _ _ hcb, rfl⟩ ?_
  rw [har]
  refine wpAny_loadName_local hkF (S.par "self" (by simp)) hns (v := .ref a) ?_ ?_
  · exact zip_look (i := 0) (ps := ["self", prm]) (us := [.ref a, u1]) (by simpa using hne) rfl rfl
  refine ks_wpAny_isType_cls hC1 rfl ⟨rfl, ?_⟩
  refine ks_wpAny_call_super hC1 rfl ho rfl (fun c z => nomatch z) (PySem.W.looks_mroIn I.kIn X0.self) (fun h2 hso k2 => ?_)
  have I2 : Inv X [] (startF ["self", prm, "__class__"] [V.ref a, y] [none]) H { s with heap := h2, toks := s.toks + ((["self", prm] : List Str).zip [Value.ref a, u1]).length } := I.kept (t' := s.toks + ((["self", prm] : List Str).zip [Value.ref a, u1]).length) k2
  have J : PySem.W.InstAt h2 a (excObj C t1 none .none) C none := ⟨k2 _ _ ho, rfl, rfl, trivial⟩
  refine kxs_getMethod PySem.W.kxs_ValueError hso (PySem.W.looks_opaque I2.kIn X0.thd) (l₀ := cdC.mro) (fun A Q E s k q => wpAny_bind ((PySem.W.looks_clsIn I2.kIn hcdC) A _ E s k (wpAny_pure q))) rfl I2.kIn hal (J.type.andThen (PySem.W.looks_subIn I2.kIn X0.sub)) (PySem.W.ks_ne I2.kIn J hcdC) (by decide) ?_
  refine kxs_callWith (i := "ValueError.__init__") (x := a) rfl (evalArgs_plain (spliced_cons (Calls.Constant_str (k := j) (pos := p3) (spliced_nil ⟨Heap.get?_push_at rfl rfl, ?_⟩))))
  have I3 : Inv X [] (startF ["self", prm, "__class__"] [V.ref a, y] [none]) H { s with heap := h2.push (kxs_mw "ValueError.__init__" a), toks := s.toks + ((["self", prm] : List Str).zip [Value.ref a, u1]).length + 1 + 1 } := I2.kept (t' := s.toks + ((["self", prm] : List Str).zip [Value.ref a, u1]).length + 1 + 1) fun b o e => Heap.get?_push_of_some _ e
  refine call_mw (I3.kIn _ _ hC) (t0 := t1) (Heap.get?_push_of_some _ (k2 _ _ ho)) (Heap.get?_push_at rfl rfl) (by show 1 ≤ sizeLine; rw [sizeLine_eq]; omega) fun h4 t4 k4 e4 => ?_
  have I4 := I3.write (t' := s.toks + ((["self", prm] : List Str).zip [Value.ref a, u1]).length + 1 + 1) (x := a) (e := a) (o := exo a C none) (by rw [ea]; exact True.intro) (.inl rfl) k4 ⟨_, e4⟩ (exo_ok e4)
  have eu : upd H a (exo a C none) = H := by
    funext b
    by_cases hb : b = a
    · rw [hb, upd_same, ea]
    · rw [upd_ne hb]
  rw [eu] at I4
  refine wpAt_of_wpAny ?_
  have R2 : PSs X [.Assign [.Attribute (.Name "self" q0) fld q1] (.Name prm q2) q3] _ := pss_cons (ps_ost (f := fld) (pe_var (i := 0) (x := "self") rfl (.inl (S.par "self" (by simp)))) (pe_var (i := 1) (x := prm) rfl (.inl (S.par prm (by simp))) hpd hpc) (hst _)) pss_nil
  refine wpAny_mono (R2.run [] _ _ H { nx := fun _ H' => Q .non H', rt := Q } I4 ⟨y, rfl, .ref a, rfl, a, C, rfl, X0.oex, hno, .inl ⟨ea, fun dx n ne => hq dx n ne⟩⟩) (fun fl s' hs => ?_) fun e s' hs => hs
  have fin : ∀ {σ' : L2.St} {H' : Hp} {v : V} {u : Value}, Inv X [] σ' H' s' → L2.RelV v u → Q v H' → CE outer P w H s Q u s' := fun {σ' H' v u} J rv q => ⟨v, H', J.os, J.bare, J.base, J.hok, rv, q⟩
  cases fl with
  | ret u =>
    obtain ⟨v, σ', H', J, rv, q⟩ := hs
    exact fin J rv q
  | next =>
    obtain ⟨σ', H', J, q⟩ := hs
    exact fin (v := V.non) (u := Value.none) J rfl q
  | brk =>
    obtain ⟨_, _, _, q⟩ := hs
    exact False.elim q
  | cont =>
    obtain ⟨_, _, _, q⟩ := hs
    exact False.elim q
end
end PB
set_option maxRecDepth 100000
set_option maxHeartbeats 4000000
/-! PX1: such an exception made: by position or by name. -/
namespace PB
open PySem PySem.Spec PySem.Calls PyProof.Rows L2 PySem.HandSPX
section
variable {prog : Program} {w : World} {A : Around} {E : Value → Shared → Prop} {R : Result → Shared → Prop} {h : Heap} {g : Array GenState} {d : Drawn} {t : Nat} {os : OsState}
variable {nm q : Str} {C N : Addr} {bs bm : List Value} {hdct : Bool} {sn : List Str} {sub : List Value} {ab : Bool} {col : Option Bool} {dd : Option Addr} {k0 k1 k2 k3 k5 : Option Value} {rest : List Value} {kw : List (Str × Value)} {fI : Addr}
theorem xk_new_chk (hT : ∀ X : String, bm.contains (.type X) = veTail.contains (.type X)) {Q : Unit → Shared → Prop}
    (hC : h.get? C = some (excClassObj nm q C N bs bm hdct sn sub ab col dd k0 k1 k2 k3 k5 "ValueError.__new__")) (hq : Q () ⟨h, g, d, t, os⟩) : wpAny (model prog w) A (checkBuiltinCall "ValueError.__new__" ⟨.ref C :: rest, kw⟩) Q E ⟨h, g, d, t, os⟩ := by
  have FB := F.excBase_ValueError
  have c1 : (Value.ref C :: bm).contains (.type "ValueError") = true := by rw [List.contains_cons, hT, FB.hasB, Bool.or_true]
  have c2 := FB.noStar
  simp only [checkBuiltinCall, FB.newKind, FB.newSplit, FB.newRow]
  repeat (first | refine wpAny_loadPart_at hC ?_ | (refine wpAny_isSubtype_exc hC ?_; rw [c1]) | refine wpAny_staticBase_exc hC ?_ | refine wpAny_madeBy_exc hC ?_ | simp only [bne_self_eq_false, Bool.false_eq_true, if_false] | wp_step)
  exact hq
theorem xk_new (hT : ∀ X : String, bm.contains (.type X) = veTail.contains (.type X))
    (hC : h.get? C = some (excClassObj nm q C N bs bm hdct sn sub ab col dd k0 k1 k2 k3 k5 "ValueError.__new__"))
    (hq : R (.ok (.ret (.ref (h.objs.size + 1)))) ⟨(h.push (PySem.W.kdv_tup rest)).push (excO C h.objs.size), g, d, t, os⟩) (hrest : rest.length ≤ sizeLine) :
    codeAny (model prog w) A (.builtin "ValueError.__new__" ⟨.ref C :: rest, kw⟩) R ⟨h, g, d, t, os⟩ := by
  have FB := F.excBase_ValueError
  have e1 := FB.ends
  have c1 : (Value.ref C :: bm).contains (.type "ValueError") = true := by rw [List.contains_cons, hT, FB.hasB, Bool.or_true]
  have c2 : (Value.ref C :: bm).contains (.type "AttributeError") = false := by rw [List.contains_cons, hT, FB.noAttr]; rfl
  have c3 : (Value.ref C :: bm).contains (.type "NameError") = false := by rw [List.contains_cons, hT, FB.noName]; rfl
  refine codeAny_builtinAt FB.entry ?_
  unfold Builtin.«BaseException.__new__»
  refine PySem.wpAt_bind ?_
  show PySem.wpAt _ _ _ (stack >>= _) _ _ _
  refine PySem.wpAt_bind (PySem.wpAt_stack fun p below => PySem.wpAt_of_wpAny ?_)
  wp_walk
  refine PySem.wpAt_of_wpAny ?_
  rw [FB.owner]
  repeat (first | with_reducible refine wpAny_madeHere_exc FB.canon hC ?_ | with_reducible refine wpAny_loadPart_at hC ?_ | (with_reducible refine wpAny_isSubtype_exc hC ?_; first | rw [c1] | rw [c2] | rw [c3]) | wp_step)
  show R _ _
  rw [Heap.size_push]
  exact hq
theorem xk_type (hT : ∀ X : String, bm.contains (.type X) = veTail.contains (.type X)) {Q : Fin → Shared → Prop} {E : Value → Shared → Prop}
    (hC : h.get? C = some (excClassObj nm q C N bs bm hdct sn sub ab col dd k0 k1 k2 k3 k5 "ValueError.__new__"))
    (hi : PySem.W.Looks (model prog w) h (typeLookup (.ref C) "__init__") (some (.ref fI))) (hb : ∀ self, PySem.W.Looks (model prog w) h (bindSpecial (.ref fI) self) (.ref fI, [self])) (hrest : rest.length ≤ sizeLine)
    (hq : codeAny (model prog w) A (.call (.ref fI) ⟨.ref (h.objs.size + 1) :: rest, kw⟩)
      (fun r s' => match r with | .ok (.ret v) => v = .none ∧ Q (.done (.ret (.ref (h.objs.size + 1)))) s' | .ok _ => False | .error e => E e s')
      ⟨(h.push (PySem.W.kdv_tup rest)).push (excO C h.objs.size), g, d, t, os⟩) :
    wpAny (model prog w) A (Builtin.«type.__call__» ⟨.ref C :: rest, kw⟩) Q E ⟨h, g, d, t, os⟩ := by
  have FB := F.excBase_ValueError
  repeat (first | with_reducible refine wpAny_loadPart_at hC ?_ | with_reducible refine wpAny_madeBy_exc hC ?_ | wp_step)
  refine codeAny_call_builtin_code (Code.quiet_builtin _ FB.quiet) (xk_new_chk hT hC ?_)
  refine xk_new hT hC ?_ hrest
  show wpAny _ _ _ _ _ _
  have kp : ∀ b o, h.get? b = some o → ((h.push (PySem.W.kdv_tup rest)).push (excO C h.objs.size)).get? b = some o := fun b o e => Heap.get?_push_of_some _ (Heap.get?_push_of_some _ e)
  have hC1 := kp _ _ hC
  have hget : ((h.push (PySem.W.kdv_tup rest)).push (excO C h.objs.size)).get? (h.objs.size + 1) = some (excO C h.objs.size) := by heap_get
  have cC : (Value.ref C :: bm).contains (.ref C) = true := by simp
  have i1 := hi.keeps kp
  have b1 := (hb (.ref (h.objs.size + 1))).keeps kp
  unfold isInstance
  repeat (first | with_reducible refine wpAny_loadPart_at hget ?_ | (with_reducible refine wpAny_isSubtype_exc hC1 ?_; rw [cC]) | wp_step)
  show wpAny _ _ (typeLookup (.ref C) _) _ _ _
  refine i1.at ?_
  refine wpAny_holding (wpAny_bind (b1.at ?_))
  refine wpAny_bind (wpAny_call (codeAny_mono hq fun r s' z => ?_))
  rcases r with e | (v | _ | _ | _) <;> first | exact z | exact z.elim | skip
  obtain ⟨rfl, z⟩ := z
  first
    | exact wpAny_pure (wpAny_pure z)
    | (wp_walk; exact z)
theorem xk_call (hT : ∀ X : String, bm.contains (.type X) = veTail.contains (.type X))
    (hC : h.get? C = some (excClassObj nm q C N bs bm hdct sn sub ab col dd k0 k1 k2 k3 k5 "ValueError.__new__"))
    (hi : PySem.W.Looks (model prog w) h (typeLookup (.ref C) "__init__") (some (.ref fI))) (hb : ∀ self, PySem.W.Looks (model prog w) h (bindSpecial (.ref fI) self) (.ref fI, [self])) (hrest : rest.length ≤ sizeLine)
    (hq : codeAny (model prog w) (A.under (.builtin "type.__call__" ⟨.ref C :: rest, kw⟩)) (.call (.ref fI) ⟨.ref (h.objs.size + 1) :: rest, kw⟩) (PySem.W.InitBack (h.objs.size + 1) R)
      ⟨(h.push (PySem.W.kdv_tup rest)).push (excO C h.objs.size), g, d, t, os⟩) :
    codeAny (model prog w) A (.call (.ref C) ⟨rest, kw⟩) R ⟨h, g, d, t, os⟩ := by
  have f1 := tc_lookup
  have f2 := tc_bind (.ref C)
  have hTy : (⟨h, g, d, t, os⟩ : Shared).TypeIs (.ref C) "type" := ⟨_, hC, rfl⟩
  refine codeAny_of_tree ?_
  show wpAny _ _ (callAny (.ref C) _) _ _ _
  repeat (any_goals (first | assumption | with_reducible refine wpAny_loadPart_at hC ?_ | wp_step))
  refine ⟨rfl, ?_⟩
  refine codeAny_call_builtin_at (Code.quiet_builtin _ (by decide +kernel)) entry_typeCall (wpAny_check_type_call_sub hC (xk_type hT hC hi hb hrest ?_))
  refine codeAny_mono hq fun r s' z => ?_
  rcases r with e | (v | _ | _ | _) <;> exact z
end
end PB
set_option maxRecDepth 100000
set_option maxHeartbeats 4000000
/-! PX2: exceptions as values: made, asked, read. -/
namespace PB
open PySem PySem.Spec PySem.Calls L2 PySem.HandSPX
/-- what the heap tells less of one object -/
theorem inv_less {X : Cx} {pins : List (Addr × Obj)} {σ : St} {H : Hp} {s : Shared} {a : Addr} {φ : Heap → Prop} {o : HO} (I : Inv X pins σ H s) (e : H a = some (.ext φ)) (n : ObjOk X.prog X.w (upd H a o) s.heap a o) : Inv X pins σ (upd H a o) s := by
  obtain ⟨_, ⟨oe, h1⟩, _⟩ := I.hok a _ e
  exact I.write (h' := s.heap) (t' := s.toks) (x := a) (e := a) (o := o) (by rw [e]; exact True.intro) (.inl rfl) (fun b u _ z => z) ⟨oe, h1⟩ n
theorem excO_ok {P : Program} {w : World} {H : Hp} {h : Heap} {a : Addr} {c : Value} {d : Option Addr} {oe : Obj} {vs : Array Value} (e : h.get? a = some oe) (h1 : oe.cls = c) (h2 : oe.dict = d) (h3 : oe.data = .fields vs) : ObjOk P w H h a (ExcO c d a) :=
  ⟨⟨oe, vs, e, h1, h2, h3⟩, ⟨oe, e⟩, fun _ _ ⟨o, v, q, r⟩ k => ⟨o, v, k o q, r⟩⟩
section
variable {X : Cx} {CX : CXT} {pins : List (Addr × Obj)} {σ : St} {H1 : Hp} {s : Shared} {C fI : Addr} {k : Nat} {fd : FuncData} {prm fld : Str} {y : V} {u : Value} {rest : List Value} {kw : List (Str × Value)} {Q : VK}
theorem xv_core (T : OexC X.K C) (iC : PySem.W.findIn X.K (.ref C) "__init__" = some (some (.ref fI))) (tI : PySem.W.typeIn X.K (.ref fI) = some (.type "function"))
    (F1 : FnOk X.prog X.w X.K X.mg X.base CX k fI fd ["self", prm] (spInit X.K C fld)) (hr : Room (k + 1) X.A) (hx : Passes CX X (fun _ _ _ => False)) (I1 : Inv X pins σ H1 s) (ry : RelV y u) (hus : rest.length ≤ sizeLine)
    (hb : ∀ (a : Addr) (s' : Shared), X.K.In s'.heap → BindsTo s' fd ⟨.ref a :: rest, kw⟩ ((["self", prm] : List Str).zip [.ref a, u]))
    (q : ∀ a dx, H1 a = none → H1 dx = none → dx ≠ a → Q (.ref a) (upd (upd H1 a (ExcO (.ref C) (some dx) a)) dx (.xd [(fld, y)]))) :
    wpAny (model X.prog X.w) X.A (call (.ref C) rest kw) (EP X pins σ Q) X.xe s := by
  obtain ⟨nm, qn, N, bs, bm, sn, sub, ab, col, dd, k0, k1, k2, k3, k5, hC, hbm⟩ := T.cls
  obtain ⟨hp, g, dr, tk, os⟩ := s
  have hsz : hp.objs.size ≤ hp.objs.size + 1 := Nat.le_succ _
  have hn : H1 (hp.objs.size + 1) = none := I1.hok.fresh hsz
  have kk : ∀ b o, hp.get? b = some o → ((hp.push (PySem.W.kdv_tup rest)).push (excO C hp.objs.size)).get? b = some o := fun b o e => Heap.get?_push_of_some _ (Heap.get?_push_of_some _ e)
  have hget : ((hp.push (PySem.W.kdv_tup rest)).push (excO C hp.objs.size)).get? (hp.objs.size + 1) = some (excO C hp.objs.size) := by heap_get
  have I2 : Inv X pins σ (upd H1 (hp.objs.size + 1) (exo (hp.objs.size + 1) C none)) ⟨(hp.push (PySem.W.kdv_tup rest)).push (excO C hp.objs.size), g, dr, tk, os⟩ :=
    I1.laid (t' := tk) (a := hp.objs.size + 1) (o := exo (hp.objs.size + 1) C none) (h' := (hp.push (PySem.W.kdv_tup rest)).push (excO C hp.objs.size)) kk hsz (exo_ok hget)
  have r2 : Vals [V.ref (hp.objs.size + 1), y] [Value.ref (hp.objs.size + 1), u] := .cons rfl (.cons ry .nil)
  refine wpAny_call (xk_call (fun Y => refsVE_contains Y bm hbm) (I1.kIn _ _ hC) (PySem.W.looks_findIn I1.kIn iC) (fun self => PySem.W.bind_fn I1.kIn self tI) hus
    (codeAny_mono (F1.run _ X.stack _ _ ⟨Value.ref (hp.objs.size + 1) :: rest, kw⟩ [Value.ref (hp.objs.size + 1), u] _
      (fun v H2 => v = .non ∧ ∃ dx, H1 dx = none ∧ dx ≠ hp.objs.size + 1 ∧ H2 = upd (upd (upd H1 (hp.objs.size + 1) (exo (hp.objs.size + 1) C none)) dx (exd dx [(fld, y)])) (hp.objs.size + 1) (exo (hp.objs.size + 1) C (some dx)))
      (fun _ _ _ => False) (hr.make C rest kw) (I2.env0.make C rest kw) (hb _ _ I2.kIn) r2
      ⟨_, _, rfl, upd_same, fun dx n ne => ⟨rfl, dx, by rw [upd_ne ne] at n; exact n, ne, rfl⟩⟩) fun r s' hq' => ?_))
  cases r with
  | error er => exact hx pins σ _ _ er s' I2 hq'
  | ok fl =>
    cases fl with
    | ret uu =>
      obtain ⟨v, H2, os2, bare2, un2, hok2, rv, ev, dx, hdx, ne, rfl⟩ := hq'
      subst ev
      have J := I2.call' (ch := []) os2 un2 hok2 bare2 (fun b z => absurd z (by simp))
      refine ⟨rv, .ref (hp.objs.size + 1), _, ?_, rfl, q (hp.objs.size + 1) dx hn hdx ne⟩
      obtain ⟨t1, he⟩ := exo_at J.hok upd_same
      have J2 := inv_less J (a := hp.objs.size + 1) (o := ExcO (.ref C) (some dx) (hp.objs.size + 1)) upd_same (excO_ok he rfl rfl rfl)
      have ed : (upd (upd (upd (upd H1 (hp.objs.size + 1) (exo (hp.objs.size + 1) C none)) dx (exd dx [(fld, y)])) (hp.objs.size + 1) (exo (hp.objs.size + 1) C (some dx))) (hp.objs.size + 1) (ExcO (.ref C) (some dx) (hp.objs.size + 1))) dx = some (exd dx [(fld, y)]) := by
        rw [upd_ne ne, upd_ne ne, upd_same]
      obtain ⟨mA, hns, rel⟩ := exd_at J2.hok ed
      have J3 := inv_less J2 (a := dx) (o := .xd [(fld, y)]) ed ⟨mA, hns, rel⟩
      have eq : upd (upd (upd (upd (upd H1 (hp.objs.size + 1) (exo (hp.objs.size + 1) C none)) dx (exd dx [(fld, y)])) (hp.objs.size + 1) (exo (hp.objs.size + 1) C (some dx))) (hp.objs.size + 1) (ExcO (.ref C) (some dx) (hp.objs.size + 1))) dx (.xd [(fld, y)]) =
          upd (upd H1 (hp.objs.size + 1) (ExcO (.ref C) (some dx) (hp.objs.size + 1))) dx (.xd [(fld, y)]) := by
        funext b
        by_cases h1 : b = dx
        · rw [h1, upd_same, upd_same]
        · rw [upd_ne h1, upd_ne h1]
          by_cases h2 : b = hp.objs.size + 1
          · rw [h2, upd_same, upd_same]
          · rw [upd_ne h2, upd_ne h2, upd_ne h1, upd_ne h2, upd_ne h2]
      rw [eq] at J3
      exact J3
    | next => exact False.elim hq'
    | brk => exact False.elim hq'
    | cont => exact False.elim hq'
end
end PB
set_option maxRecDepth 100000
set_option maxHeartbeats 4000000
/-! PX3: isinstance of all data; an exception's fields. -/
namespace PB
open PySem PySem.Spec PySem.Calls L2 PySem.HandSPX
open PySem.W (Frag findIn specialIn takesIn subIn mroIn hasDictIn clsIn InstAt KitX findObj kitOne)
section
variable {prog : Program} {w : World} {A : Around} {E : Value → Shared → Prop} {s : Shared} {K : Frag} {x D : Addr} {ox : Obj} {od : Option Obj}
theorem xf_cls (C : ExcC K D) : findObj K D od "__class__" = some (.bind (.builtin "getset_descriptor.__get__") (.builtin "object.__class__")) := by
  obtain ⟨cd, hc, _⟩ := PySem.W.any_some C.hd
  unfold findObj
  rw [hc, Option.bind_some, C.ha, Option.bind_some]
  simp [C.hn, C.ht]
theorem xk_class {Q : Option Value → Shared → Prop} (C : ExcC K D) (X : K.In s.heap) (I : InstAt s.heap x ox D od) (h : Q (some (.ref D)) { s with toks := s.toks + 1 }) :
    wpAny (model prog w) A (getAttr? (.ref x) "__class__") Q E s := by
  have hf := xf_cls (od := od) C
  obtain ⟨hp, g, d, t, os⟩ := s
  have a0 := I.type (M := model prog w)
  have a1 := PySem.W.looks_findIn (M := model prog w) X C.hg
  have a2 := PySem.W.looks_findIn (M := model prog w) X C.hk
  have a3 := PySem.W.looks_find (M := model prog w) X I hf
  have a4 : PySem.W.Looks (model prog w) hp (isInstance (.ref x) (.type "BaseException")) true := a0.andThen (PySem.W.looks_subIn X C.hs)
  have b1 : (false && onTheHeap (Value.builtin "BaseException.__getattribute__")) = false := rfl
  have b2 : (onTheHeap (Value.ref D) && Value.builtin "BaseException.__getattribute__" == Value.builtin "object.__getattribute__") = false := by
    rw [show (Value.builtin "BaseException.__getattribute__" == Value.builtin "object.__getattribute__") = false by decide +kernel]
    rfl
  unfold getAttr? getAttrBy? getAttrBy
  refine wpAny_bind (wpAny_mkText (wpAny_bind (wpAny_attempt (wpAny_holding (wpAny_bind (a0.at (wpAny_bind (a1.at ?_))))))))
  show wpAny _ _ (if (onTheHeap (Value.ref D) && Value.builtin "BaseException.__getattribute__" == Value.builtin "object.__getattribute__") = true then _ else _) _ _ _
  rw [b2, if_neg Bool.false_ne_true]
  unfold getAttrByItsOwn hookBefore
  refine wpAny_bind ?_
  rw [if_pos (show onTheHeap (Value.ref D) = true from rfl)]
  refine a2.at ?_
  refine wpAny_bind (wpAny_attempt (wpAny_holding ?_))
  unfold callGetattribute
  rw [b1, if_neg Bool.false_ne_true]
  unfold boundAndCalled
  rw [PySem.F.excAttr_ValueError.ga.bind (.ref x)]
  refine wpAny_bind (wpAny_pure ?_)
  show wpAny _ _ (call (.builtin "BaseException.__getattribute__") [.ref x, .str "__class__" t]) _ _ _
  refine wpAny_call (codeAny_call_builtin PySem.F.excAttr_ValueError.ga.plain PySem.F.entry_bexc_ga ?_)
  refine @PySem.W.check_slot (model prog w) _ _ ⟨hp, g, d, t + 1, os⟩ "BaseException.__getattribute__" "BaseException" "__getattribute__" (.ref x) [.str "__class__" t] [] _ (by decide +kernel) (by decide +kernel) a4 (PySem.F.args_bexc_ga (.ref x) (.str "__class__" t)) ?_
  unfold Builtin.«object.__getattribute__»
  refine wpAny_bind (wpAny_of_eq (a := ((Value.ref x : Value), [Value.str "__class__" t])) (by first | rfl | (simp only [slotArgs]; rfl)) ?_)
  refine wpAny_bind (wpAny_pure (wpAny_bind (a0.at (wpAny_bind (a3.at ?_)))))
  show wpAny _ _ (holding [Value.builtin "object.__class__"] (call (.builtin "getset_descriptor.__get__") [.builtin "object.__class__", .ref x, .ref D]) >>= ret) _ _ _
  refine wpAny_bind (wpAny_holding (wpAny_call (PySem.W.class_get (s := ⟨hp, g, d, t + 1, os⟩) (ox := ox) (od := od) X I C.hm ?_)))
  refine wpAny_pure ?_
  show wpAny _ _ (handedOut (.ref D)) _ _ _
  rw [PySem.W.handedOut_of (v := .ref D) rfl]
  first
    | exact wpAny_pure (wpAny_pure h)
    | exact wpAny_pure h
    | exact wpAny_pure (wpAny_bind (wpAny_pure (wpAny_pure h)))
theorem xkit (C : ExcC K D) : KitX K (.ref x) (.ref D) (fun h => InstAt h x ox D od) := by
  obtain ⟨cdD, hcD, _⟩ := PySem.W.any_some C.hd
  unfold clsIn at hcD
  split at hcD
  · rename_i c' d' cd' sl' ho
    exact {
      ty := fun _ _ _ I => I.type
      it := fun _ _ X _ => by
        intro A' Q' E' s' k q
        unfold isType loadHead
        exact wpAny_bind (wpAny_loadPart (k _ _ (X _ _ ho)) (wpAny_pure q))
      ne := fun h tp dd its n sl X htp => by
        refine Bool.eq_false_iff.mpr fun q => ?_
        have e : D = tp := Value.ref.inj (beq_iff_eq.mp q)
        subst e
        have z := (X _ _ ho).symm.trans htp
        cases z
      ca := fun X I k => xk_class C X I k }
  · cases hcD
end
def XdO (H : Hp) (d : Option Addr) : Prop := match d with
  | none => True
  | some dd => ∃ fs, H dd = some (.xd fs)
/-- isinstance(e, c), e an exception object -/
def rIsX (K : Frag) : List V → Hp → VK → Prop := fun xs H Q => ∃ (a D : Addr) (d : Option Addr) (c : V) (cv : Value) (b : Bool), xs = [.ref a, c] ∧ H a = some (ExcO (.ref D) d a) ∧ XdO H d ∧ ExcC K D ∧ ClsV c cv ∧ kitOne K (.ref D) cv = some b ∧ Q (.bl b) H
theorem exc_inst {X : Cx} {pins : List (Addr × Obj)} {σ : St} {H : Hp} {s : Shared} {a D : Addr} {d : Option Addr} (I : L2.Inv X pins σ H s) (e : H a = some (ExcO (.ref D) d a)) (hd : XdO H d) :
    ∃ oe od, InstAt s.heap a oe D od ∧ oe.dict = d := by
  obtain ⟨⟨oe, vs, h1, h2, h3, h4⟩, _, _⟩ := I.hok a _ e
  obtain ⟨oc, odt, oda, osl⟩ := oe
  dsimp only at h2 h3 h4
  subst h2 h3 h4
  cases odt with
  | none => exact ⟨_, none, ⟨h1, rfl, rfl, trivial⟩, rfl⟩
  | some dd =>
    obtain ⟨fs, e2⟩ := hd
    obtain ⟨mA, hns, _⟩ : ObjOk X.prog X.w H s.heap dd (.xd fs) := I.hok dd _ e2
    obtain ⟨o, es, ep, h5, _⟩ := hns
    exact ⟨_, some o, ⟨h1, rfl, rfl, h5⟩, rfl⟩
theorem call_isX {X : Cx} : CallR X (.builtin "isinstance") (rIsX X.K) := by
  intro pins s σ H xs us Q I r h
  obtain ⟨a, D, d, c, cv, b, rfl, e, hd, C, k, kb, q⟩ := h
  obtain ⟨u1, u2, rfl, r1, r2⟩ := vals2 r
  cases (show u1 = Value.ref a from r1)
  have e2 := k.eq r2
  subst e2
  obtain ⟨oe, od, J, _⟩ := exc_inst I e hd
  exact PySem.W.kia_one (xkit C) I.kIn J kb (fun z => nomatch z) fun tk => ⟨.bl b, H, I.tok tk, rfl, q⟩
/-- e.n, e an exception object -/
def tXv (K : Frag) (n : Str) (te : TE) : TE := fun σ H Q => te σ H fun x H1 => ∃ (a D dd : Addr) (fs : List (Str × V)) (v : V), x = .ref a ∧ H1 a = some (ExcO (.ref D) (some dd) a) ∧ H1 dd = some (.xd fs) ∧ XfC K D ∧ findIn K (.ref D) n = some none ∧ fs.lookup n = some v ∧ Q v H1
theorem pe_xv {X : Cx} {e : Expr} {te : TE} {n : Str} {pos : Pos} (he : PE X e te) (hb : attributeBase e n X.env (eval e X.env) = eval e X.env := by rfl) : PE X (.Attribute e n pos) (tXv X.K n te) := by
  refine ⟨fun pins s σ H Q I h => ?_⟩
  refine attr_of hb (thn (he.run pins s σ H _ I h) fun u s1 ⟨x, H1, I1, rx, a, D, dd, fs, v, ex, e1, e2, T, hno, hl, q⟩ => ?_)
  subst ex
  obtain rfl : u = Value.ref a := rx
  obtain ⟨oe, od, J, jd⟩ := exc_inst I1 e1 ⟨fs, e2⟩
  obtain ⟨mA, hns, rel⟩ : ObjOk X.prog X.w H1 s1.heap dd (.xd fs) := I1.hok dd _ e2
  obtain ⟨o, ho, hlo⟩ := lookIn_ns hns
  obtain ⟨u, hu, ru⟩ := RelO.some_of (v := v) (o := mA n) (by rw [← hl]; exact rel n)
  have jo : od = some o := by
    have jl := J.4
    rw [jd] at jl
    cases od with
    | none => exact jl.elim
    | some o2 =>
      have jl : s1.heap.get? dd = some o2 := jl
      rw [ho] at jl
      exact jl.symm
  subst jo
  exact exc_get I1.kIn J T.ga T.gg T.exC (PySem.W.findObj_own T.hdC hno rfl (by rw [hlo, hu])) (handed_of ru) ⟨v, H1, I1.tok _, ru, q⟩
end PB
set_option maxRecDepth 100000
set_option maxHeartbeats 4000000
/-! PX4: repr of data. -/
namespace PB
open PySem PySem.Spec PySem.Calls L2
def kQ : Key → PyData
  | .inl i => .int i
  | .inr x => .str x
mutual
def toQ : D → Option PyData
  | .non => some .none
  | .bl b => some (.bool b)
  | .int i => some (.int i)
  | .str x => some (.str x)
  | .tup xs => (toQL xs).map .tuple
  | .lst xs => (toQL xs).map .list
  | .dct ks xs => (toQL xs).map fun ps => .dict ((ks.map kQ).zip ps)
  | _ => none
def toQL : List D → Option (List PyData)
  | [] => some []
  | x :: xs => match toQ x, toQL xs with
    | some p, some ps => some (p :: ps)
    | _, _ => none
end
section
variable {X : Cx} {pins : List (Addr × Obj)} {σ : St} {H : Hp} {s : Shared} {G : Gc} {Z : Addr → Prop}
def NoSys (as : List Addr) (H : Hp) : Prop := ∀ a ∈ as, H a ≠ none
theorem reads_keys : ∀ {es : List DictEntry} {kvs : List (Key × Value)}, Pairs (mixKind X.prog X.w) es kvs → ReadsAll s.heap (es.map (·.key)) ((kvs.map (·.1)).map kQ) []
  | [], _, h => by cases h; exact .nil
  | e :: es, _, h => by
    cases h with
    | @cons _ kv _ kvs h1 h2 h3 =>
      have r := reads_keys h3
      have h1 : keyIs kv.1 e.key = true := h1
      rcases keyIs_shape h1 with ⟨i, t, e1, e2⟩ | ⟨x, t, e1, e2⟩
      · have q : Reads s.heap e.key (kQ kv.1) [] := by rw [e1, e2]; exact .int i t
        exact ReadsAll.cons (as := []) (bs := []) q r
      · have q : Reads s.heap e.key (kQ kv.1) [] := by rw [e1, e2]; exact .str x t
        exact ReadsAll.cons (as := []) (bs := []) q r
theorem pairs_vals : ∀ {es : List DictEntry} {kvs : List (Key × Value)}, Pairs (mixKind X.prog X.w) es kvs → es.map (·.val) = kvs.map (·.2)
  | [], _, h => by cases h; rfl
  | e :: es, _, h => by
    cases h with
    | cons h1 h2 h3 => rw [List.map_cons, List.map_cons, h2, pairs_vals h3]
theorem kv_zip : ∀ {ks : List Key} {vs : List V} {kvs : List (Key × Value)}, ks.length = vs.length → KV (ks.zip vs) kvs → kvs.map (·.1) = ks ∧ Vals vs (kvs.map (·.2))
  | [], [], _, _, h => by cases h; exact ⟨rfl, .nil⟩
  | k :: ks, v :: vs, _, l, h => by
    cases h with
    | cons h1 h2 =>
      obtain ⟨e, r⟩ := kv_zip (by simpa using l) h2
      exact ⟨by rw [List.map_cons, e, ← h1.1], .cons h1.2 r⟩
  | [], _ :: _, _, l, _ => by simp at l
  | _ :: _, [], _, l, _ => by simp at l
mutual
theorem rf_reads (hK : G.K = X.K) (zd : ∀ a, Z a → H a ≠ none) (I : L2.Inv X pins σ H s) : ∀ {d : D} {v : V} {u : Value} {p : PyData}, Rf G Z H d v → RelV v u → toQ d = some p → ∃ as, Reads s.heap u p as ∧ NoSys as H
  | .non, _, _, _, h, r, e => by cases e; cases h; cases r; exact ⟨_, .none, fun a h => nomatch h⟩
  | .bl b, _, _, _, h, r, e => by cases e; cases h; cases r; exact ⟨_, .bool b, fun a h => nomatch h⟩
  | .int i, _, _, _, h, r, e => by cases e; cases h; obtain ⟨t, rfl⟩ := r; exact ⟨_, .int i t, fun a h => nomatch h⟩
  | .str x, _, _, _, h, r, e => by cases e; cases h; obtain ⟨t, rfl⟩ := r; exact ⟨_, .str x t, fun a h => nomatch h⟩
  | .tup xs, _, _, _, ⟨a, vs, q, f, rl⟩, r, e => by
    unfold toQ at e
    cases e1 : toQL xs with
    | none => rw [e1] at e; cases e
    | some ps =>
      rw [e1] at e
      cases e
      subst q
      cases r
      obtain ⟨its, rv, ⟨o, ho, hc, n, hd⟩, _⟩ := I.tuple (hK ▸ f.sq)
      obtain ⟨as, q1, q2⟩ := rf_readsL hK zd I rl rv e1
      exact ⟨_, .tuple ho hc hd q1, q2⟩
  | .lst xs, _, _, _, ⟨a, vs, q, f, rl⟩, r, e => by
    unfold toQ at e
    cases e1 : toQL xs with
    | none => rw [e1] at e; cases e
    | some ps =>
      rw [e1] at e
      cases e
      subst q
      cases r
      obtain ⟨its, rv, ⟨o, n, ho, hc, _, hd⟩, _⟩ := I.list (X := X) (SqL.of f.2)
      obtain ⟨as, q1, q2⟩ := rf_readsL hK zd I rl rv e1
      exact ⟨_, .list ho hc hd q1, fun b hb => (List.mem_cons.mp hb).elim (fun e => by rw [e]; exact zd a f.1) (q2 b)⟩
  | .dct ks xs, _, _, _, ⟨a, vs, q, f, l, rl⟩, r, e => by
    unfold toQ at e
    cases e1 : toQL xs with
    | none => rw [e1] at e; cases e
    | some ps =>
      rw [e1] at e
      cases e
      subst q
      cases r
      have hl : ks.length = vs.length := by rw [l, rl.length]
      obtain ⟨_, hsm, kvs, kv, o, es, ep, ho, hx, hd, hks, hp, nd⟩ : ObjOk X.prog X.w H s.heap a (.dK (ks.zip vs)) := by
        rcases f.2 with g | ⟨o, g⟩
        · exact I.hok a _ g
        · exact (show ObjOk X.prog X.w H s.heap a (.frz o (.dK (ks.zip vs))) from I.hok a _ g).2
      obtain ⟨ek, rv⟩ := kv_zip hl kv
      obtain ⟨as, q1, q2⟩ := rf_readsL hK zd I rl rv e1
      have lp : ks.length = ps.length := by
        have : ∀ {xs : List D} {ps : List PyData}, toQL xs = some ps → xs.length = ps.length := by
          intro xs
          induction xs with
          | nil => intro ps e; cases e; rfl
          | cons x xs ih =>
            intro ps e
            unfold toQL at e
            cases e2 : toQ x with
            | none => rw [e2] at e; cases e
            | some p =>
              cases e3 : toQL xs with
              | none => rw [e2, e3] at e; cases e
              | some ps => rw [e2, e3] at e; cases e; rw [List.length_cons, List.length_cons, ih e3]
        rw [l, this e1]
      have z1 : (((ks.map kQ).zip ps).map (·.1)) = ks.map kQ := List.map_fst_zip (by rw [List.length_map, lp]; exact Nat.le_refl _)
      have z2 : (((ks.map kQ).zip ps).map (·.2)) = ps := List.map_snd_zip (by rw [List.length_map, lp]; exact Nat.le_refl _)
      refine ⟨_, .dict (as := []) (bs := as) ho hx.1 hd ?_ ?_, fun b hb => ?_⟩
      · rw [z1, ← ek]; exact reads_keys (X := X) hp
      · rw [z2, pairs_vals hp]; exact q1
      · rcases List.mem_cons.mp hb with e | hb
        · rw [e]; exact zd a f.1
        · exact q2 b hb
  | .ty _, _, _, _, _, _, e | .at _, _, _, _, _, _, e | .ins _ _ _, _, _, _, _, _, e | .exc _ _ _, _, _, _, _, _, e | .drw _ _ _ _, _, _, _, _, _, e | .fls _, _, _, _, _, _, e => by cases e
theorem rf_readsL (hK : G.K = X.K) (zd : ∀ a, Z a → H a ≠ none) (I : L2.Inv X pins σ H s) : ∀ {ds : List D} {vs : List V} {us : List Value} {ps : List PyData}, RfL G Z H ds vs → Vals vs us → toQL ds = some ps → ∃ as, ReadsAll s.heap us ps as ∧ NoSys as H
  | [], _, _, _, h, r, e => by cases e; cases h; cases r; exact ⟨_, .nil, fun a h => nomatch h⟩
  | x :: xs, _, _, _, ⟨v, w, q, h1, h2⟩, r, e => by
    unfold toQL at e
    cases e1 : toQ x with
    | none => rw [e1] at e; cases e
    | some p =>
      cases e2 : toQL xs with
      | none => rw [e1, e2] at e; cases e
      | some ps =>
        rw [e1, e2] at e
        cases e
        subst q
        cases r with
        | cons r1 r2 =>
          obtain ⟨as, a1, a2⟩ := rf_reads hK zd I h1 r1 e1
          obtain ⟨bs, b1, b2⟩ := rf_readsL hK zd I h2 r2 e2
          exact ⟨_, .cons a1 b1, fun b hb => (List.mem_append.mp hb).elim (a2 b) (b2 b)⟩
end
end
/-- repr(x), x a list, a tuple, a dict of data -/
def rRep (G : Gc) : List V → Hp → VK → Prop := fun xs H Q => ∃ (a : Addr) (d : D) (Z : Addr → Prop) (p : PyData), xs = [.ref a] ∧ Rf G Z H d (.ref a) ∧ (∀ a, Z a → H a ≠ none) ∧ toQ d = some p ∧ p.showable = true ∧ p.shown.length ≤ sizeLine ∧ p.depth ≤ 60 ∧ Q (.str p.shown) H
theorem call_rep {X : Cx} {G : Gc} (hK : G.K = X.K) (hg : X.A.guards = some []) (hu : X.A.units + 64 < cLine) (hsy : (X.K.lookup sysModules).isSome = true) : CallR X (.builtin "repr") (rRep G) := by
  intro pins s σ H xs us Q I r h
  obtain ⟨a, d, Z, p, rfl, f, zd, e, hs, hz, hd, q⟩ := h
  cases r with
  | cons rx rr =>
    cases rr
    cases rx
    obtain ⟨as, r1, r2⟩ := rf_reads hK zd I f rfl e
    refine PySem.repr_of_reads' r1 hs (fun _ hm => ?_) hg (by omega) (fun b o e => e) (fun h' u tk k => ⟨.str p.shown, H, I.kept (t' := tk) k, ⟨u, rfl⟩, q⟩) hz
    obtain ⟨o, ho⟩ := Option.isSome_iff_exists.mp hsy
    exact r2 _ hm (I.bs _ _ (I.ok.mod.kin _ _ ho)).2
end PB
set_option maxRecDepth 100000
set_option maxHeartbeats 4000000
/-! PX5: calls of built-in functions and of classes, by data. -/
namespace PB
open PySem PySem.Spec PySem.Calls L2
open PySem.W (findIn specialIn takesIn mroIn kitOne keepIn)
variable {G : Gc} {W : WX} {X : Cx}
/-- a function of a list of values does f -/
def OpN (G : Gc) (W : WX) (r : List V → Hp → VK → Prop) (f : List D → Option D) : Prop := ∀ Z O ρ σ H vs ds d Q, R G Z O ρ σ H → RfL G Z H ds vs → f ds = some d → cont G W (.ok d ρ) Z O σ H Q → r vs H Q
/-- .. and what it gives is new -/
def OpNO (G : Gc) (W : WX) (r : List V → Hp → VK → Prop) (f : List D → Option D) : Prop := ∀ Z O ρ σ H vs ds d Q, R G Z O ρ σ H → RfL G Z H ds vs → f ds = some d → contG G W (repO G) (.ok d ρ) Z O σ H Q → r vs H Q
def mFn (f : List D → Option D) (ms : M (List D)) : M D := fun ρ => (ms ρ).bind fun ds ρ => optR (f ds) ρ
theorem opN_tCB {r : List V → Hp → VK → Prop} {f : List D → Option D} {ms : M (List D)} (hf : OpN G W r f) {σ : St} {H : Hp} {Q : VK} (q : lift G W (mFn f ms) σ H Q) : tCB r (liftL G W ms) σ H Q := by
  refine liftG.mono (liftG.bind (rep := repL G) q) fun v H1 ⟨Z1, O1, ρ1, ds, r1, f1, q1⟩ => ?_
  cases e : f ds with
  | none => rw [e] at q1; exact q1.elim
  | some d => rw [e] at q1; exact hf Z1 O1 ρ1 σ H1 v ds d Q r1 f1 e q1
theorem opNO_tCB {r : List V → Hp → VK → Prop} {f : List D → Option D} {ms : M (List D)} (hf : OpNO G W r f) {σ : St} {H : Hp} {Q : VK} (q : liftO G W (mFn f ms) σ H Q) : tCB r (liftL G W ms) σ H Q := by
  refine liftG.mono (liftG.bind (rep := repL G) q) fun v H1 ⟨Z1, O1, ρ1, ds, r1, f1, q1⟩ => ?_
  cases e : f ds with
  | none => rw [e] at q1; exact q1.elim
  | some d => rw [e] at q1; exact hf Z1 O1 ρ1 σ H1 v ds d Q r1 f1 e q1
theorem OpN.or {r r' : List V → Hp → VK → Prop} {f f' : List D → Option D} (h : OpN G W r f) (h' : OpN G W r' f') : OpN G W (fun x H Q => r x H Q ∨ r' x H Q) (fun x => (f x).orElse fun _ => f' x) := fun Z O ρ σ H vs ds d Q rr f1 e q => by
  have e : (f ds).orElse (fun _ => f' ds) = some d := e
  cases e1 : f ds with
  | some d' => rw [e1] at e; cases e; exact .inl (h Z O ρ σ H vs ds _ Q rr f1 e1 q)
  | none => rw [e1] at e; exact .inr (h' Z O ρ σ H vs ds _ Q rr f1 e q)
theorem callR_or {f : Value} {r r' : List V → Hp → VK → Prop} (h : CallR X f r) (h' : CallR X f r') : CallR X f (fun x H Q => r x H Q ∨ r' x H Q) := fun pins s σ H vs us Q I rv q => q.elim (h pins s σ H vs us Q I rv) (h' pins s σ H vs us Q I rv)
section
variable {x : Str} {id T : String} {r : List V → Hp → VK → Prop} {f : List D → Option D} {e : Expr} {es : List Expr} {ms : M (List D)} {p pos : Pos}
theorem d_fn (hc : CallR X (.builtin id) r) (hf : OpN G W r f) (hg : Gl X x) (hm : X.mg x = none) (hv : bootBuiltins x = some (.builtin id)) (ha : PA X (e :: es) (liftL G W ms)) (hn : x ≠ "__name__" := by decide) (hdb : (x == ("__debug__" : Str)) = false := by decide)
    (he : starEach (e :: es) X.env = (false, eval e X.env) :: starEach es X.env := by rfl) (hpl : (backTo pos (starEach es X.env)).any (·.1) = false := by rfl) : PE X (.Call (.Name x p) (e :: es) [] pos) (lift G W (mFn f ms)) :=
  PE_imp (pe_callB hc hg hm hv ha hn hdb he hpl) fun σ H Q q => opN_tCB hf q
theorem d_ty (hc : CallR X (.type T) r) (hf : OpN G W r f) (hg : Gl X x) (hm : X.mg x = none) (hv : bootBuiltins x = some (.type T)) (ha : PA X (e :: es) (liftL G W ms)) (hn : x ≠ "__name__" := by decide) (hdb : (x == ("__debug__" : Str)) = false := by decide)
    (he : starEach (e :: es) X.env = (false, eval e X.env) :: starEach es X.env := by rfl) (hpl : (backTo pos (starEach es X.env)).any (·.1) = false := by rfl) : PE X (.Call (.Name x p) (e :: es) [] pos) (lift G W (mFn f ms)) :=
  PE_imp (pe_callTy hc hg hm hv ha hn hdb he hpl) fun σ H Q q => opN_tCB hf q
theorem o_ty (hc : CallR X (.type T) r) (hf : OpNO G W r f) (hg : Gl X x) (hm : X.mg x = none) (hv : bootBuiltins x = some (.type T)) (ha : PA X (e :: es) (liftL G W ms)) (hn : x ≠ "__name__" := by decide) (hdb : (x == ("__debug__" : Str)) = false := by decide)
    (he : starEach (e :: es) X.env = (false, eval e X.env) :: starEach es X.env := by rfl) (hpl : (backTo pos (starEach es X.env)).any (·.1) = false := by rfl) : PE X (.Call (.Name x p) (e :: es) [] pos) (liftO G W (mFn f ms)) :=
  PE_imp (pe_callTy hc hg hm hv ha hn hdb he hpl) fun σ H Q q => opNO_tCB hf q
end
/-- one flat answer of one datum -/
theorem opN_flat {r : List V → Hp → VK → Prop} {f : List D → Option D} (h : ∀ Z H vs ds d Q, RfL G Z H ds vs → f ds = some d → (∀ u, (∀ Z' H', Rf G Z' H' d u) → Q u H) → r vs H Q) : OpN G W r f := fun Z O ρ σ H vs ds d Q rr f1 e q =>
  h Z H vs ds d Q f1 e fun u hu => q u Z O H .refl rr (hu _ _)
theorem rfl1 {Z : Addr → Prop} {H : Hp} {d : D} {vs : List V} (h : RfL G Z H [d] vs) : ∃ v, vs = [v] ∧ Rf G Z H d v := by
  obtain ⟨v, r, e, h1, h2⟩ := h
  cases h2
  exact ⟨v, e, h1⟩
theorem rfl2 {Z : Addr → Prop} {H : Hp} {d d2 : D} {vs : List V} (h : RfL G Z H [d, d2] vs) : ∃ v w, vs = [v, w] ∧ Rf G Z H d v ∧ Rf G Z H d2 w := by
  obtain ⟨v, r, e, h1, h2⟩ := h
  obtain ⟨w, rfl, h3⟩ := rfl1 h2
  exact ⟨v, w, e, h1, h3⟩
/-! ### len, abs, int -/
def fLen : List D → Option D
  | [.str x] => if x.length ≤ lim then some (.int x.length) else none
  | [.tup xs] => some (.int xs.length)
  | [.lst xs] => some (.int xs.length)
  | [.fls xs] => some (.int xs.length)
  | _ => none
theorem n_len : OpN G W (fun xs H Q => ∃ x n, xs = [x] ∧ LenV G.K x H n ∧ Q (.int n) H) fLen := opN_flat fun Z H vs ds d Q f1 e q => by
  unfold fLen at e
  split at e
  · rename_i x
    obtain ⟨v, rfl, h⟩ := rfl1 f1
    cases h
    split at e
    · rename_i hz
      cases e
      exact ⟨_, x.length, rfl, ⟨by rw [← lim_eq]; exact hz, rfl⟩, q _ fun _ _ => rfl⟩
    · cases e
  · obtain ⟨v, rfl, a, ws, rfl, g, rl⟩ := rfl1 f1
    cases e
    rw [rl.length] at q
    exact ⟨_, ws.length, rfl, .inr ⟨ws, g.sq, rfl⟩, q _ fun _ _ => rfl⟩
  · obtain ⟨v, rfl, a, ws, rfl, g, rl⟩ := rfl1 f1
    cases e
    rw [rl.length] at q
    exact ⟨_, ws.length, rfl, .inl ⟨ws, g.sq, rfl⟩, q _ fun _ _ => rfl⟩
  · obtain ⟨v, rfl, a, ws, rfl, g, rl⟩ := rfl1 f1
    cases e
    rw [rl.length] at q
    exact ⟨_, ws.length, rfl, .inl ⟨ws, g.sq, rfl⟩, q _ fun _ _ => rfl⟩
  · cases e
def fAbs : List D → Option D
  | [.int i] => some (.int (if i < 0 then -i else i))
  | _ => none
theorem n_abs : OpN G W (fun xs H Q => ∃ i, xs = [.int i] ∧ Q (.int (if i < 0 then -i else i)) H) fAbs := opN_flat fun Z H vs ds d Q f1 e q => by
  unfold fAbs at e
  split at e
  · rename_i i
    obtain ⟨v, rfl, h⟩ := rfl1 f1
    cases h; cases e
    exact ⟨i, rfl, q _ fun _ _ => rfl⟩
  · cases e
def fInt : List D → Option D
  | [.int i] => some (.int i)
  | _ => none
theorem n_int : OpN G W (fun xs H Q => (∃ i, xs = [.int i] ∧ Q (.int i) H) ∨ ∃ k, xs = [.bl k] ∧ Q (.int (if k then 1 else 0)) H) fInt := opN_flat fun Z H vs ds d Q f1 e q => by
  unfold fInt at e
  split at e
  · rename_i i
    obtain ⟨v, rfl, h⟩ := rfl1 f1
    cases h; cases e
    exact .inl ⟨i, rfl, q _ fun _ _ => rfl⟩
  · cases e
def fMin (g : Int → Int → Int) : List D → Option D
  | [.int i, .int j] => some (.int (g i j))
  | _ => none
theorem n_two {g : Int → Int → Int} : OpN G W (fun xs H Q => ∃ i j, xs = [.int i, .int j] ∧ Q (.int (g i j)) H) (fMin g) := opN_flat fun Z H vs ds d Q f1 e q => by
  unfold fMin at e
  split at e
  · rename_i i j
    obtain ⟨v, w, rfl, h1, h2⟩ := rfl2 f1
    cases h1; cases h2; cases e
    exact ⟨i, j, rfl, q _ fun _ _ => rfl⟩
  · cases e
/-! ### isinstance -/
abbrev Tn := Nat ⊕ String
def tnV (G : Gc) : Tn → Value
  | .inl n => .ref (G.cl n)
  | .inr s => .type s
def tyD : D → Option Tn
  | .non => some (.inr "NoneType")
  | .bl _ => some (.inr "bool")
  | .int _ => some (.inr "int")
  | .str _ => some (.inr "str")
  | .tup _ => some (.inr "tuple")
  | .lst _ => some (.inr "list")
  | .dct _ _ => some (.inr "dict")
  | .ins c _ _ => some (.inl c)
  | .exc c _ _ => some (.inl c)
  | _ => none
def clD : D → Option Tn
  | .at n => some (.inl n)
  | .ty n => some (.inr n)
  | _ => none
/-- the text's own classes: which are exceptions, which are plain ones, and who is whose -/
structure ClF (G : Gc) (is : Tn → Tn → Option Bool) (exB inB : Nat → Bool) : Prop where
  kit : ∀ t c b, is t c = some b → kitOne G.K (tnV G t) (tnV G c) = some b
  exc : ∀ n, exB n = true → ExcC G.K (G.cl n)
  ins : ∀ n, inB n = true → Cls G.K (G.cl n) ∧ findIn G.K (.ref (G.cl n)) "__class__" = some (some (.builtin "object.__class__")) ∧ mroIn G.K (G.cl n) (.type "object") = some true
  sp : specialIn G.K (.builtin "object.__class__") "__get__" = some (some (.builtin "getset_descriptor.__get__"))
  tk : takesIn G.K (.builtin "object.__class__") = some true
def isOk (exB inB : Nat → Bool) : D → Bool
  | .ins c _ _ => inB c
  | .exc c _ _ => exB c
  | _ => true
def fIsi (is : Tn → Tn → Option Bool) (exB inB : Nat → Bool) : List D → Option D
  | [x, c] => if isOk exB inB x = true then (tyD x).bind fun t => (clD c).bind fun k => (is t k).map .bl else none
  | _ => none
theorem clD_v {Z : Addr → Prop} {H : Hp} {d : D} {v : V} {k : Tn} (h : Rf G Z H d v) (e : clD d = some k) : ClsV v (tnV G k) := by
  cases d <;> first | (cases e; done) | skip
  · cases e; cases h; exact .ty _
  · cases e; cases h; exact .own _
theorem n_isi {is : Tn → Tn → Option Bool} {exB inB : Nat → Bool} (C : ClF G is exB inB) : OpN G W (fun xs H Q => rIsi G.K xs H Q ∨ rIsX G.K xs H Q) (fIsi is exB inB) := opN_flat fun Z H vs ds d Q f1 e q => by
  unfold fIsi at e
  split at e
  · rename_i x c
    obtain ⟨v, w, rfl, h1, h2⟩ := rfl2 f1
    split at e
    · rename_i ok
      cases e1 : tyD x with
      | none => rw [e1] at e; cases e
      | some t =>
        cases e2 : clD c with
        | none => rw [e1, e2] at e; cases e
        | some k =>
          cases e3 : is t k with
          | none => rw [e1, e2] at e; simp only [Option.bind_some, e3] at e; cases e
          | some b =>
            rw [e1, e2] at e
            simp only [Option.bind_some, e3, Option.map_some] at e
            cases e
            have kk := C.kit t k b e3
            have kc := clD_v h2 e2
            have qq := q (.bl b) fun _ _ => rfl
            cases x with
            | non => cases e1; cases h1; exact .inl ⟨_, _, _, _, b, rfl, kc, .base .non, kk, qq⟩
            | bl y => cases e1; cases h1; exact .inl ⟨_, _, _, _, b, rfl, kc, .base (.bl y), kk, qq⟩
            | int y => cases e1; cases h1; exact .inl ⟨_, _, _, _, b, rfl, kc, .base (.int y), kk, qq⟩
            | str y => cases e1; cases h1; exact .inl ⟨_, _, _, _, b, rfl, kc, .base (.str y), kk, qq⟩
            | tup ys =>
              cases e1
              obtain ⟨a, ws, rfl, g, rl⟩ := h1
              rcases g with ⟨_, g⟩ | ⟨o, its, n, g1, g2, _⟩
              · exact .inl ⟨_, _, _, _, b, rfl, kc, .base (.tup g), kk, qq⟩
              · exact .inl ⟨_, _, _, _, b, rfl, kc, .kTuple g1 g2, kk, qq⟩
            | lst ys =>
              cases e1
              obtain ⟨a, ws, rfl, g, rl⟩ := h1
              exact .inl ⟨_, _, _, _, b, rfl, kc, .base (.lst g.2), kk, qq⟩
            | dct ks ys =>
              cases e1
              obtain ⟨a, ws, rfl, g, l, rl⟩ := h1
              rcases g.2 with g | ⟨o, g⟩
              · exact .inl ⟨_, _, _, _, b, rfl, kc, .base (.dK g), kk, qq⟩
              · exact .inl ⟨_, _, _, _, b, rfl, kc, .fDict g, kk, qq⟩
            | ins n ns ys =>
              cases e1
              obtain ⟨a, dx, ws, rfl, _, g1, _⟩ := h1
              obtain ⟨c1, c2, c3⟩ := C.ins n ok
              exact .inl ⟨_, _, _, _, b, rfl, kc, .base (.ins g1 c1 c2 C.sp C.tk c3), kk, qq⟩
            | exc n ns ys =>
              cases e1
              obtain ⟨a, dd, ws, rfl, z, g1, g2, _⟩ := h1
              refine .inr ⟨a, G.cl n, dd, w, _, b, rfl, g1, ?_, C.exc n ok, kc, kk, qq⟩
              cases dd with
              | none => exact trivial
              | some d' => exact ⟨_, g2.2⟩
            | _ => cases e1
    · cases e
  · cases e
theorem call_isD {is : Tn → Tn → Option Bool} : CallR X (.builtin "isinstance") (fun xs H Q => rIsi X.K xs H Q ∨ rIsX X.K xs H Q) := callR_or call_isi call_isX
/-! ### repr -/
def fRep : List D → Option D
  | [x] => match x with
    | .tup _ | .lst _ | .dct _ _ => (toQ x).bind fun p => if (p.showable && decide (p.shown.length ≤ lim) && decide (p.depth ≤ 60)) = true then some (.str p.shown) else none
    | _ => none
  | _ => none
theorem n_rep : OpN G W (rRep G) fRep := fun Z O ρ σ H vs ds d Q rr f1 e q => by
  unfold fRep at e
  split at e
  · rename_i x
    obtain ⟨v, rfl, h⟩ := rfl1 f1
    have key : ∀ {a : Addr}, v = .ref a → (toQ x).bind (fun p => if (p.showable && decide (p.shown.length ≤ lim) && decide (p.depth ≤ 60)) = true then some (D.str p.shown) else none) = some d → rRep G [v] H Q := fun {a} ev e => by
      cases e1 : toQ x with
      | none => rw [e1] at e; cases e
      | some p =>
        rw [e1] at e
        simp only [Option.bind_some] at e
        split at e
        · rename_i ok
          cases e
          simp only [Bool.and_eq_true, decide_eq_true_eq] at ok
          subst ev
          exact ⟨a, x, Z, p, rfl, h, rr.zd, e1, ok.1.1, by rw [← lim_eq]; exact ok.1.2, ok.2, q _ Z O H .refl rr rfl⟩
        · cases e
    split at e
    · obtain ⟨a, _, ev, _⟩ := id h; exact key ev e
    · obtain ⟨a, _, ev, _⟩ := id h; exact key ev e
    · obtain ⟨a, _, ev, _⟩ := id h; exact key ev e
    · cases e
  · cases e
end PB
set_option maxRecDepth 100000
set_option maxHeartbeats 4000000
/-! PX6: exceptions by data; lists and dicts that a slot owns; the draw. -/
namespace PB
open PySem PySem.Spec PySem.Calls L2
open PySem.W (findIn typeIn keepIn)
variable {G : Gc} {W : WX} {X : Cx} {I : List Nat}
theorem upd_upd {H : Hp} {a : Addr} {o o' : HO} : upd (upd H a o) a o' = upd H a o' := by
  funext b
  by_cases h : b = a
  · rw [h, upd_same, upd_same]
  · rw [upd_ne h, upd_ne h, upd_ne h]
theorem PE.less {e : Expr} {t : TE} (h : PE X e t) : PE X e (fun σ H Q => t σ H fun v H1 => ∃ (a : Addr) (φ : Heap → Prop) (o : HO), H1 a = some (.ext φ) ∧ (∀ h, φ h → ObjOk X.prog X.w (upd H1 a o) h a o) ∧ Q v (upd H1 a o)) :=
  ⟨fun pins s σ H Q J q => thn (h.run pins s σ H _ J q) fun u s1 ⟨v, H1, I1, r1, a, φ, o, e, n, q⟩ => ⟨v, _, inv_less I1 e (n _ (I1.hok a _ e).1), r1, q⟩⟩
/-! ### exceptions -/
def mX0 (c : Nat) (m : M D) : M D := fun ρ => (m ρ).bind fun _ ρ => .ok (.exc c [] []) ρ
def mX1 (c : Nat) (f : Str) (m : M D) : M D := fun ρ => (m ρ).bind fun d ρ => .ok (.exc c [f] [d]) ρ
section
variable {c : Nat} {x prm fld : Str} {e : Expr} {m : M D} {p pos kpos : Pos} {fI : Addr} {k : Nat} {fd : FuncData} {CX : CXT}
theorem d_x0 {bmB : List Value} {B newId initId : String} (F : ExcBaseFacts B newId initId bmB) (q : PySem.W.excIn X.K (G.cl c) bmB newId = true) (gC : X.mg x = some (.ref (G.cl c))) (kC : keepIn X.K (.ref (G.cl c)) = true) (hg : Gl X x)
    (he : PE X e (lift G W m)) (hs : starEach [e] X.env = (false, eval e X.env) :: starEach [] X.env := by rfl) (hdb : (x == ("__debug__" : Str)) = false := by decide) : PE X (.Call (.Name x p) [e] [] pos) (lift G W (mX0 c m)) :=
  PE_imp (PE.less (pe_exc1 F q gC kC hg he hs hdb)) fun σ H Q q => liftG.mono (liftG.bind (rep := repF G) q) fun v H1 ⟨Z1, O1, ρ1, d1, r1, f1, q1⟩ => fun a ha =>
    ⟨a, _, ExcO (.ref (G.cl c)) none a, upd_same, fun h ⟨oe, vs, e1, z, d, _⟩ => excO_ok e1 z.1 z.2 d, by
      rw [upd_upd]
      exact q1 _ _ _ _ (.new ha) (r1.new ha) ⟨a, none, [], rfl, .inr rfl, upd_same, rfl, rfl, rfl⟩⟩
/-- what a made exception is read as -/
def tXm (C : Addr) (fld : Str) (te : TE) : TE := fun σ H Q => te σ H fun y H1 => ∀ a dx, H1 a = none → H1 dx = none → dx ≠ a → Q (.ref a) (upd (upd H1 a (ExcO (.ref C) (some dx) a)) dx (.xd [(fld, y)]))
theorem xm_imp {σ : St} {H : Hp} {Q : VK} (q : lift G W (mX1 c fld m) σ H Q) : tXm (G.cl c) fld (lift G W m) σ H Q := liftG.mono (liftG.bind (rep := repF G) q) fun v H1 ⟨Z1, O1, ρ1, d1, r1, f1, q1⟩ => fun a dx ha hd ne => by
  have hd2 : upd H1 a (ExcO (.ref (G.cl c)) (some dx) a) dx = none := by rw [upd_ne ne]; exact hd
  refine q1 _ _ _ _ ((Ext.new ha).trans (.new hd2)) ((r1.new ha).new hd2) ⟨a, some dx, [v], rfl, .inl (.inr rfl), ?_, ⟨.inr rfl, upd_same⟩, rfl, RfL.one ?_⟩
  · rw [upd_ne (Ne.symm ne), upd_same]
  · exact f1.keep (fun _ z => .inl (.inl z)) fun b o z e => by
      rw [upd_ne (ne_of_none e hd), upd_ne (ne_of_none e ha)]; exact e
theorem d_x1 (T : OexC X.K (G.cl c)) (iC : findIn X.K (.ref (G.cl c)) "__init__" = some (some (.ref fI))) (tI : typeIn X.K (.ref fI) = some (.type "function")) (F1 : FnOk X.prog X.w X.K X.mg X.base CX k fI fd ["self", prm] (spInit X.K (G.cl c) fld))
    (hr : Room (k + 1) X.A) (hx : Passes CX X (fun _ _ _ => False)) (hb : Binds X.K fd ["self", prm] []) (hg : Gl X x) (hm : X.mg x = some (.ref (G.cl c))) (he : PE X e (lift G W m))
    (hs : starEach [e] X.env = (false, eval e X.env) :: starEach [] X.env := by rfl) (hdb : (x == ("__debug__" : Str)) = false := by decide) : PE X (.Call (.Name x p) [e] [] pos) (lift G W (mX1 c fld m)) := by
  refine PE_imp (t := tXm (G.cl c) fld (lift G W m)) ⟨fun pins s σ H Q J h => ?_⟩ fun σ H Q q => xm_imp q
  refine wpAny_Call_Name_kw (ld_glob J hg hm ?_ hdb)
  refine PySem.W.callWith_K (h₀ := X.base) J.ok.mod.kin T.kC ?_ hs (by rfl)
  rw [hs]
  show wpAny _ _ (spliced ((false, eval e X.env) :: backTo pos (starEach [] X.env))) _ _ s
  refine Calls.spliced_cons (thn (he.run pins s σ H _ J h) fun u s1 ⟨v, H1, I1, r1, q1⟩ => Calls.spliced_nil ⟨I1.kIn, ?_⟩)
  exact xv_core (rest := [u]) (kw := []) T iC tI F1 hr hx I1 r1 (by show 1 ≤ sizeLine; rw [sizeLine_eq]; omega) (fun a s' kin => by
    have := hb s' [.ref a, u] kin rfl
    rw [List.append_nil] at this
    exact this) q1
theorem d_xk (T : OexC X.K (G.cl c)) (iC : findIn X.K (.ref (G.cl c)) "__init__" = some (some (.ref fI))) (tI : typeIn X.K (.ref fI) = some (.type "function")) (F1 : FnOk X.prog X.w X.K X.mg X.base CX k fI fd ["self", prm] (spInit X.K (G.cl c) fld))
    (hr : Room (k + 1) X.A) (hx : Passes CX X (fun _ _ _ => False)) (hb : ∀ (a : Addr) (u : Value) (s' : Shared), X.K.In s'.heap → BindsTo s' fd ⟨[.ref a], [(prm, u)]⟩ ((["self", prm] : List Str).zip [.ref a, u])) (hg : Gl X x) (hm : X.mg x = some (.ref (G.cl c))) (he : PE X e (lift G W m))
    (hall : (backToKw pos (keywordEach [⟨some prm, e, kpos⟩] X.env)).all (·.1.isSome) = true := by rfl) (hks : (backToKw pos (keywordEach [⟨some prm, e, kpos⟩] X.env)).filterMap (·.1) = [prm] := by rfl)
    (hpl : ((backTo pos (starEach [] X.env)).any (·.1) || (backToKw pos (keywordEach [⟨some prm, e, kpos⟩] X.env)).any (·.1.isNone)) = false := by rfl) (hdb : (x == ("__debug__" : Str)) = false := by decide) :
    PE X (.Call (.Name x p) [] [⟨some prm, e, kpos⟩] pos) (lift G W (mX1 c fld m)) := by
  refine PE_imp (t := tXm (G.cl c) fld (lift G W m)) ⟨fun pins s σ H Q J h => ?_⟩ fun σ H Q q => xm_imp q
  refine wpAny_Call_Name_kw (ld_glob J hg hm ?_ hdb)
  refine PySem.W.callWith_KW0 (h₀ := X.base) J.ok.mod.kin T.kC hall (thn ((pk_cons he pk_nil).run pos pins s σ H (fun vs H1 => ∃ y, vs = [y] ∧ ∀ a dx, H1 a = none → H1 dx = none → dx ≠ a → Q (.ref a) (upd (upd H1 a (ExcO (.ref (G.cl c)) (some dx) a)) dx (.xd [(fld, y)]))) J ?_) fun ws s1 ⟨vs, H1, I1, r1, y, ev, q1⟩ => ⟨I1.kIn, ?_⟩) hpl
  · exact liftG.mono h fun y H1 q => ⟨y, rfl, q⟩
  · subst ev
    cases r1 with
    | cons ry rn =>
      cases rn
      rw [hks]
      exact xv_core (rest := []) (kw := [(prm, _)]) T iC tI F1 hr hx I1 ry (Nat.zero_le _) (fun a s' kin => hb a _ s' kin) q1
end
/-- one field -/
def xfD (fok : Nat → Str → Bool) (n : Str) : D → Option D
  | .exc c ns xs => if fok c n = true then (ns.zip xs).lookup n else none
  | _ => none
def m1 (f : D → Option D) (m : M D) : M D := fun ρ => (m ρ).bind fun d ρ => optR (f d) ρ
theorem zip_lookup {Z : Addr → Prop} {H : Hp} {n : Str} {d : D} : ∀ {ns : List Str} {xs : List D} {vs : List V}, RfL G Z H xs vs → (ns.zip xs).lookup n = some d → ∃ v, (ns.zip vs).lookup n = some v ∧ Rf G Z H d v
  | [], _, _, _, e => by cases e
  | _ :: _, [], _, _, e => by cases e
  | k :: ns, x :: xs, _, ⟨v, w, q, h1, h2⟩, e => by
    subst q
    rw [List.zip_cons_cons] at e ⊢
    rw [List.lookup_cons] at e ⊢
    cases q : n == k with
    | true => rw [q] at e; simp only at e ⊢; cases e; exact ⟨v, rfl, h1⟩
    | false => rw [q] at e; simp only at e ⊢; exact zip_lookup h2 e
theorem d_xf {e : Expr} {n : Str} {m : M D} {pos : Pos} {fok : Nat → Str → Bool} (hf : ∀ c, fok c n = true → XfC X.K (G.cl c) ∧ findIn X.K (.ref (G.cl c)) n = some none) (he : PE X e (lift G W m)) (hb : attributeBase e n X.env (eval e X.env) = eval e X.env := by rfl) :
    PE X (.Attribute e n pos) (lift G W (m1 (xfD fok n) m)) := PE_imp (pe_xv he hb) fun σ H Q q => liftG.mono (liftG.bind (rep := repF G) q) fun v H1 ⟨Z1, O1, ρ1, d1, r1, f1, q1⟩ => by
  cases e1 : xfD fok n d1 with
  | none => rw [e1] at q1; exact q1.elim
  | some d =>
    rw [e1] at q1
    cases d1 with
    | exc c ns xs =>
      have e2 : (if fok c n = true then (ns.zip xs).lookup n else none) = some d := e1
      split at e2
      · rename_i ok
        obtain ⟨a, dd, vs, rfl, z, g1, g2, l, rl⟩ := f1
        obtain ⟨w, e3, f3⟩ := zip_lookup rl e2
        cases dd with
        | none =>
          have g2 : ns.zip vs = [] := g2
          rw [g2] at e3; cases e3
        | some dd => exact ⟨a, G.cl c, dd, _, w, rfl, g1, g2.2, (hf c ok).1, (hf c ok).2, e3, q1 _ Z1 O1 H1 .refl r1 f3⟩
      · cases e2
    | _ => cases e1
/-! ### raise -/
def sX1 (c : Nat) (f : Str) (m : M D) : M Fl := fun ρ => (m ρ).bind fun d ρ => .ex (.exc c [f] [d]) ρ
def sX0 (c : Nat) (m : M D) : M Fl := fun ρ => (m ρ).bind fun _ ρ => .ex (.exc c [] []) ρ
end PB
set_option maxRecDepth 100000
set_option maxHeartbeats 4000000
/-! PX7: raise; what a slot owns, changed and looked at. -/
namespace PB
open PySem PySem.Spec PySem.Calls L2
open PySem.W (findIn typeIn keepIn)
variable {G : Gc} {W : WX} {X : Cx} {I : List Nat}
/-! ### raise -/
section
variable {c : Nat} {x prm fld : Str} {e : Expr} {m : M D} {p pos pos2 : Pos} {fI : Addr} {k : Nat} {fd : FuncData} {CX : CXT}
theorem s_raise1 (hc : X.calm = true) (tk : Takes X W) (T : OexC X.K (G.cl c)) (iC : findIn X.K (.ref (G.cl c)) "__init__" = some (some (.ref fI))) (tI : typeIn X.K (.ref fI) = some (.type "function"))
    (F1 : FnOk X.prog X.w X.K X.mg X.base CX k fI fd ["self", prm] (spInit X.K (G.cl c) fld)) (hr : Room (k + 1) X.A) (hx : Passes CX X (fun _ _ _ => False)) (hb : Binds X.K fd ["self", prm] []) (hg : Gl X x) (hm : X.mg x = some (.ref (G.cl c))) (he : PE X e (lift G W m))
    (hdb : (x == ("__debug__" : Str)) = false := by decide) (hs : starEach [e] X.env = (false, eval e X.env) :: starEach [] X.env := by rfl) : PS X (.Raise (some (.Call (.Name x p) [e] [] pos)) none pos2) (liftS G W I (sX1 c fld m)) :=
  PS_imp (ps_raise hc tk (pmk_oex T iC tI F1 hr hb .nil hx hg hm (pa_cons he pa_nil hs) hdb hs (by rfl))) fun E σ H q => liftG.mono (liftS.bind (rep := repF G) q) fun v H1 ⟨Z1, O1, ρ1, d1, r1, f1, q1⟩ => by
    refine ⟨by show 1 ≤ 1000; omega, fun a ha => ⟨a, v, rfl, upd_same, fun dx hd ne => ?_⟩⟩
    have hd1 : H1 dx = none := by rw [upd_ne ne] at hd; exact hd
    refine ⟨rfl, dx, [(fld, v)], upd_same, by rw [upd_ne ne, upd_same], hd1, ?_⟩
    have eq : upd (del (upd (upd (upd H1 a (exo a (G.cl c) none)) dx (exd dx [(fld, v)])) a (exo a (G.cl c) (some dx))) a) dx (.xd [(fld, v)]) = upd H1 dx (.xd [(fld, v)]) := by
      funext b
      by_cases h1 : b = dx
      · rw [h1, upd_same, upd_same]
      · rw [upd_ne h1, upd_ne h1]
        by_cases h2 : b = a
        · rw [h2, del_same, ha]
        · rw [del_ne h2, upd_ne h2, upd_ne h1, upd_ne h2]
    rw [eq]
    exact q1 _ _ _ _ σ _ (.new hd1) (fun _ _ => rfl) (r1.new hd1) ⟨rfl, [v], ⟨.inr rfl, upd_same⟩, rfl, RfL.one (f1.keep (fun _ z => .inl z) fun b o _ e => upd_keep hd1 b o e)⟩
theorem s_raise0 {bmB : List Value} {B newId initId : String} (hc : X.calm = true) (tk : Takes X W) (F : ExcBaseFacts B newId initId bmB) (q : PySem.W.excIn X.K (G.cl c) bmB newId = true) (gC : X.mg x = some (.ref (G.cl c))) (kC : keepIn X.K (.ref (G.cl c)) = true)
    (hr : Raises X (.ref (G.cl c))) (hg : Gl X x) (he : PE X e (lift G W m)) (hs : starEach [e] X.env = (false, eval e X.env) :: starEach [] X.env := by rfl) (hdb : (x == ("__debug__" : Str)) = false := by decide) :
    PS X (.Raise (some (.Call (.Name x p) [e] [] pos)) none pos2) (liftS G W I (sX0 c m)) :=
  PS_imp (ps_raise hc tk (SkE.pmk_own1 F q gC kC hr hg he hs hdb)) fun E σ H q => liftG.mono (liftS.bind (rep := repF G) q) fun v H1 ⟨Z1, O1, ρ1, d1, r1, f1, q1⟩ => q1 _ _ Z1 O1 σ H1 .refl (fun _ _ => rfl) r1 ⟨rfl, [], (show ([] : List (Str × V)) = [] from rfl), rfl, rfl⟩
end
/-! ### what a slot owns -/
def getO (ρ : Env) (i : Nat) : Option D := match ρ[i]? with
  | some (.ow d) => some d
  | some (.io d) => some d
  | _ => none
def putO (ρ : Env) (i : Nat) (d : D) : Env := match ρ[i]? with
  | some (.ow _) => ρ.set i (.ow d)
  | _ => ρ.set i (.io d)
section
variable {Z : Addr → Prop} {H : Hp} {O : Nat → List Addr} {ρ : Env} {σ : St}
theorem R.getO {i : Nat} {d : D} (r : R G Z O ρ σ H) (e : getO ρ i = some d) : ∃ v, σ[i]? = some (some v) ∧ Own G Z H d v (O i) := by
  unfold PB.getO at e
  cases e1 : ρ[i]? with
  | none => rw [e1] at e; cases e
  | some s =>
    rw [e1] at e
    cases s with
    | un => cases e
    | fr _ => cases e
    | ow d' => cases e; obtain ⟨v, e2, h⟩ := r.sl i _ e1; exact ⟨v, slot_some e2, h⟩
    | io d' => cases e; obtain ⟨v, e2, h⟩ := r.sl i _ e1; exact ⟨v, slot_some e2, h⟩
theorem R.putO {i : Nat} {d d' : D} {a : Addr} {o : HO} {v : V} (r : R G Z O ρ σ H) (e : PB.getO ρ i = some d) (hv : σ[i]? = some (some v)) (ha : a ∈ O i) (h : Own G Z (upd H a o) d' v (O i)) : R G Z O (PB.putO ρ i d') σ (upd H a o) := by
  have hs : σ[i]?.getD none = some v := by rw [hv]; rfl
  unfold PB.getO at e
  unfold PB.putO
  cases e1 : ρ[i]? with
  | none => rw [e1] at e; cases e
  | some s =>
    rw [e1] at e
    cases s with
    | un => cases e
    | fr _ => cases e
    | ow _ => exact r.write e1 ha ⟨v, hs, h⟩
    | io _ => exact r.write e1 ha ⟨v, hs, h⟩
theorem R.owt {i : Nat} {d : D} {v : V} (r : R G Z O ρ σ H) (h : Own G Z H d v (O i)) {a : Addr} (ha : a ∈ O i) {o : HO} : Ext Z O H Z O (upd H a o) := .write ⟨i, ha⟩ (h.there a ha)
end
/-- x.append(e), x's list owned -/
def sApp (i : Nat) (m : M D) : M Fl := fun ρ => match getO ρ i with
  | some (.lst _) => (m ρ).bind fun d ρ1 => match getO ρ1 i with
    | some (.lst xs) => if xs.length < lim then .ok .nx (putO ρ1 i (.lst (xs ++ [d]))) else .bad
    | _ => .bad
  | _ => .bad
section
variable {i : Nat} {o e : Expr} {m : M D} {apos cpos pos : Pos}
theorem s_app (ho : PE X o (tVar i)) (he : PE X e (lift G W m)) (hbase : attributeBase o "append" X.env (eval o X.env) = eval o X.env := by rfl)
    (hfew : ((backTo cpos (starEach [e] X.env)).all (fun x => !x.1) && (backToKw cpos (keywordEach [] X.env)).all (fun x => x.1.isSome) && decide (([e] : List Expr).length + ([] : List Keyword).length + (if ([] : List Keyword).isEmpty then 0 else 1) < 30)) = true := by rfl)
    (hline : (apos.endLine == cpos.line) = true := by rfl) (hs : starEach [e] X.env = (false, eval e X.env) :: starEach [] X.env := by rfl) (hsw : swapsWith (.Call (.Attribute o "append" apos) [e] [] cpos) none pos.line X.env = pure false := by rfl) :
    PS X (.Expr (.Call (.Attribute o "append" apos) [e] [] cpos) pos) (liftS G W I (sApp i m)) :=
  PS_imp (ps_expr (pe_bm PySem.F.plainAttrs_list PySem.F.slot_list_append PySem.F.type_list_append mt_append ho (pa_cons he pa_nil hs) hbase hfew hline hs (by rfl)) hsw) fun E σ H ⟨Z, O, ρ, r, q⟩ => by
    unfold sApp at q
    cases e1 : getO ρ i with
    | none => rw [e1] at q; exact q.elim
    | some d0 =>
      rw [e1] at q
      cases d0 <;> first | exact q.elim | skip
      obtain ⟨v, hv, a, vs, rfl, fp, ha, rl⟩ := r.getO e1
      refine ⟨_, hv, .inl ⟨rfl, vs, .of ha⟩, ⟨Z, O, ρ, r, (contS.bind (rep := repF G) q).mono fun y H1 ⟨Z1, O1, ρ1, d1, x1, r1, f1, q1⟩ => ?_⟩⟩
      cases e2 : getO ρ1 i with
      | none => rw [e2] at q1; exact q1.elim
      | some d2 =>
        rw [e2] at q1
        cases d2 <;> first | exact q1.elim | skip
        rename_i xs0 xs
        obtain ⟨v2, hv2, hown⟩ := r1.getO e2
        have hown' := hown
        obtain ⟨a2, ws, rfl, fp2, ha2, rl2⟩ := hown
        rw [hv] at hv2; cases hv2
        simp only at q1
        by_cases e3 : xs.length < lim
        · rw [if_pos e3] at q1
          have ha1 : a ∈ O1 i := by rw [fp2]; exact List.mem_singleton.mpr rfl
          refine ⟨a, ws, y, rfl, rfl, ha2, by rw [← rl2.length, ← lim_eq]; exact e3, ?_⟩
          exact q1 Z1 O1 σ _ (r1.owt hown' ha1) (fun _ _ => rfl) (r1.putO e2 hv ha1 ⟨a, _, rfl, fp2, upd_same, (rl2.append (RfL.one f1)).write r1 ⟨i, ha1⟩⟩)
        · rw [if_neg e3] at q1; exact q1.elim
/-- x.pop(e), x's list owned -/
def dPop (i : Nat) (m : M D) : M D := fun ρ => match getO ρ i with
  | some (.lst _) => (m ρ).bind fun d ρ1 => match d, getO ρ1 i with
    | .int k, some (.lst xs) => if -(2 ^ 63) ≤ k ∧ k < 2 ^ 63 then (match seqIndex? k xs.length with
      | some j => match xs[j]? with
        | some y => .ok y (putO ρ1 i (.lst (xs.eraseIdx j)))
        | none => .bad
      | none => .bad) else .bad
    | _, _ => .bad
  | _ => .bad
theorem RfL.erase {Z : Addr → Prop} {H : Hp} : ∀ {ds : List D} {vs : List V} (j : Nat), RfL G Z H ds vs → RfL G Z H (ds.eraseIdx j) (vs.eraseIdx j)
  | [], _, _, h => by cases h; exact rfl
  | _ :: _, _, 0, ⟨v, r, e, _, h⟩ => by rw [e]; exact h
  | _ :: _, _, j + 1, ⟨v, r, e, h1, h⟩ => by rw [e]; exact ⟨v, _, rfl, h1, h.erase j⟩
theorem d_pop (ho : PE X o (tVar i)) (he : PE X e (lift G W m)) (hbase : attributeBase o "pop" X.env (eval o X.env) = eval o X.env := by rfl)
    (hfew : ((backTo cpos (starEach [e] X.env)).all (fun x => !x.1) && (backToKw cpos (keywordEach [] X.env)).all (fun x => x.1.isSome) && decide (([e] : List Expr).length + ([] : List Keyword).length + (if ([] : List Keyword).isEmpty then 0 else 1) < 30)) = true := by rfl)
    (hline : (apos.endLine == cpos.line) = true := by rfl) (hs : starEach [e] X.env = (false, eval e X.env) :: starEach [] X.env := by rfl) :
    PE X (.Call (.Attribute o "pop" apos) [e] [] cpos) (lift G W (dPop i m)) :=
  PE_imp (pe_bm PySem.F.plainAttrs_list PySem.F.slot_list_pop PySem.F.type_list_pop mt_popAt ho (pa_cons he pa_nil hs) hbase hfew hline hs (by rfl)) fun σ H Q ⟨Z, O, ρ, r, q⟩ => by
    unfold dPop at q
    cases e1 : getO ρ i with
    | none => rw [e1] at q; exact q.elim
    | some d0 =>
      rw [e1] at q
      cases d0 <;> first | exact q.elim | skip
      obtain ⟨v, hv, a, vs, rfl, fp, ha, rl⟩ := r.getO e1
      refine ⟨_, hv, .inl ⟨rfl, vs, .of ha⟩, ⟨Z, O, ρ, r, (contG.bind (rep := repF G) q).mono fun y H1 ⟨Z1, O1, ρ1, d1, x1, r1, f1, q1⟩ => ?_⟩⟩
      cases d1 <;> first | exact q1.elim | skip
      rename_i k
      cases e2 : getO ρ1 i with
      | none => rw [e2] at q1; exact q1.elim
      | some d2 =>
        rw [e2] at q1
        cases d2 <;> first | exact q1.elim | skip
        rename_i xs
        obtain ⟨v2, hv2, hown⟩ := r1.getO e2
        have hown' := hown
        obtain ⟨a2, ws, rfl, fp2, ha2, rl2⟩ := hown
        rw [hv] at hv2; cases hv2
        simp only at q1
        split at q1
        · rename_i hk
          cases e3 : seqIndex? k xs.length with
          | none => rw [e3] at q1; exact q1.elim
          | some j =>
            rw [e3] at q1
            simp only at q1
            cases e4 : xs[j]? with
            | none => rw [e4] at q1; exact q1.elim
            | some z =>
              rw [e4] at q1
              cases f1
              obtain ⟨w, e5, f5⟩ := rl2.get e4
              have ha1 : a ∈ O1 i := by rw [fp2]; exact List.mem_singleton.mpr rfl
              refine ⟨a, ws, k, j, w, rfl, rfl, ha2, hk.1, hk.2, by rw [← rl2.length]; exact e3, e5, ?_⟩
              exact q1 w Z1 O1 _ (r1.owt hown' ha1) (r1.putO e2 hv ha1 ⟨a, _, rfl, fp2, upd_same, (rl2.erase j).write r1 ⟨i, ha1⟩⟩) (f5.write r1 ⟨i, ha1⟩)
        · exact q1.elim
end
end PB
set_option maxRecDepth 100000
set_option maxHeartbeats 4000000
/-! PX8: the draw of the laws. -/
namespace PB
open PySem PySem.Spec PySem.Calls L2
variable {G : Gc} {W : WX} {X : Cx} {I : List Nat}
abbrev drK (l c : Addr) (rest turn : Int) : List (Key × V) := [(.inr "large", .ref l), (.inr "rest", .int rest), (.inr "cells", .ref c), (.inr "turn", .int turn)]
theorem dr_large {l c : Addr} {r t : Int} : valV (drK l c r t) (.inr "large") = some (.ref l) := rfl
theorem dr_rest {l c : Addr} {r t : Int} : valV (drK l c r t) (.inr "rest") = some (.int r) := rfl
theorem dr_cells {l c : Addr} {r t : Int} : valV (drK l c r t) (.inr "cells") = some (.ref c) := rfl
theorem dr_turn {l c : Addr} {r t : Int} : valV (drK l c r t) (.inr "turn") = some (.int t) := rfl
theorem dp_rest {l c : Addr} {r t r' : Int} : putK (drK l c r t) (.inr "rest") (.int r') = drK l c r' t := rfl
theorem dp_turn {l c : Addr} {r t t' : Int} : putK (drK l c r t) (.inr "turn") (.int t') = drK l c r t' := rfl
theorem rfl_ints {Z : Addr → Prop} {H : Hp} : ∀ xs : List Int, RfL G Z H (xs.map D.int) (xs.map V.int)
  | [] => rfl
  | x :: xs => ⟨_, _, rfl, rfl, rfl_ints xs⟩
def drRest (i : Nat) : M D := fun ρ => match getO ρ i with
  | some (.drw _ r _ _) => .ok (.int r) ρ
  | _ => .bad
def drTurn (i : Nat) : M D := fun ρ => match getO ρ i with
  | some (.drw _ _ _ t) => .ok (.int t) ρ
  | _ => .bad
def drCells (i : Nat) : M D := fun ρ => match getO ρ i with
  | some (.drw _ _ c _) => .ok (.lst (c.map D.int)) ρ
  | _ => .bad
section
variable {i : Nat} {o e1 e : Expr} {m : M D} {pos pos' apos : Pos}
theorem d_rest (hu : X.A.units + 1 < cLine) (ho : PE X o (tVar i)) (hk : PE X e1 (tC (.str "rest"))) (hs : NoSl e1) : PE X (.Subscript o e1 pos) (lift G W (drRest i)) := PE_imp (pe_dget hu ho hk hs) fun σ H Q ⟨Z, O, ρ, r, q⟩ => by
  unfold drRest at q
  cases g : getO ρ i with
  | none => rw [g] at q; exact q.elim
  | some d0 =>
    rw [g] at q
    cases d0 <;> first | exact q.elim | skip
    obtain ⟨v, hv, a, l, c, rfl, fp, h1, h2, h3⟩ := r.getO g
    exact ⟨_, hv, a, _, rfl, .inl ⟨_, .inr "rest", .inl h1, rfl, dr_rest.symm⟩, q _ Z O H .refl r rfl⟩
theorem d_turn (hu : X.A.units + 1 < cLine) (ho : PE X o (tVar i)) (hk : PE X e1 (tC (.str "turn"))) (hs : NoSl e1) : PE X (.Subscript o e1 pos) (lift G W (drTurn i)) := PE_imp (pe_dget hu ho hk hs) fun σ H Q ⟨Z, O, ρ, r, q⟩ => by
  unfold drTurn at q
  cases g : getO ρ i with
  | none => rw [g] at q; exact q.elim
  | some d0 =>
    rw [g] at q
    cases d0 <;> first | exact q.elim | skip
    obtain ⟨v, hv, a, l, c, rfl, fp, h1, h2, h3⟩ := r.getO g
    exact ⟨_, hv, a, _, rfl, .inl ⟨_, .inr "turn", .inl h1, rfl, dr_turn.symm⟩, q _ Z O H .refl r rfl⟩
theorem d_cells (hu : X.A.units + 1 < cLine) (ho : PE X o (tVar i)) (hk : PE X e1 (tC (.str "cells"))) (hs : NoSl e1) : PE X (.Subscript o e1 pos) (lift G W (drCells i)) := PE_imp (pe_dget hu ho hk hs) fun σ H Q ⟨Z, O, ρ, r, q⟩ => by
  unfold drCells at q
  cases g : getO ρ i with
  | none => rw [g] at q; exact q.elim
  | some d0 =>
    rw [g] at q
    cases d0 <;> first | exact q.elim | skip
    obtain ⟨v, hv, a, l, c, rfl, fp, h1, h2, h3⟩ := r.getO g
    exact ⟨_, hv, a, _, rfl, .inl ⟨_, .inr "cells", .inl h1, rfl, dr_cells.symm⟩, q _ Z O H .refl r ⟨c, _, rfl, h3, rfl_ints _⟩⟩
/-- draw['rest'] = e -/
def drPutR (i : Nat) (m : M D) : M Fl := fun ρ => (m ρ).bind fun d ρ1 => match d, getO ρ1 i with
  | .int r', some (.drw l _ c t) => .ok .nx (putO ρ1 i (.drw l r' c t))
  | _, _ => .bad
def drPutT (i : Nat) (m : M D) : M Fl := fun ρ => (m ρ).bind fun d ρ1 => match d, getO ρ1 i with
  | .int t', some (.drw l r c _) => .ok .nx (putO ρ1 i (.drw l r c t'))
  | _, _ => .bad
theorem ne_of_nodup2 {a l : Addr} {fp : List Addr} (nd : fp.Nodup) (e : fp = [a, l]) : l ≠ a := by
  subst e
  simp at nd
  exact fun z => nd z.symm
theorem drw_write {Z : Addr → Prop} {O : Nat → List Addr} {ρ : Env} {σ : St} {H : Hp} {a l c : Addr} {fp : List Addr} {large cells : List Int} {r t r' t' : Int} (rr : R G Z O ρ σ H) (hfp : O i = fp) (fe : fp = [a, l])
    (h2 : H l = some (.lst (large.map V.int))) (h3 : FzL Z H c (cells.map V.int)) : Own G Z (upd H a (.dK (drK l c r' t'))) (.drw large r' cells t') (.ref a) (O i) := by
  have nl : l ≠ a := ne_of_nodup2 (rr.nd i) (hfp.trans fe)
  have nc : c ≠ a := fun e => rr.oz i a (by rw [hfp, fe]; simp) (e ▸ h3.1)
  exact ⟨a, l, c, rfl, hfp.trans fe, upd_same, by rw [upd_ne nl]; exact h2, h3.1, by rw [upd_ne nc]; exact h3.2⟩
theorem s_putR (hu : X.A.units + 1 < cLine) (ho : PE X o (tVar i)) (hk : PE X e1 (tC (.str "rest"))) (he : PE X e (lift G W m)) (hsw : swapsWith e (some (.Subscript o e1 pos')) pos.line X.env = pure false := by rfl) :
    PS X (.Assign [.Subscript o e1 pos'] e pos) (liftS G W I (drPutR i m)) := PS_imp (ps_dput hu ho hk he hsw) fun E σ H q => liftG.mono (liftS.bind (rep := repF G) q) fun v H1 ⟨Z1, O1, ρ1, d1, r1, f1, q1⟩ => by
  cases d1 <;> first | exact q1.elim | skip
  rename_i k
  cases g : getO ρ1 i with
  | none => rw [g] at q1; exact q1.elim
  | some d0 =>
    rw [g] at q1
    cases d0 <;> first | exact q1.elim | skip
    cases f1
    obtain ⟨v, hv, hown⟩ := r1.getO g
    have hown' := hown
    obtain ⟨a, l, c, rfl, fp, h1, h2, h3⟩ := hown
    have ha : a ∈ O1 i := by rw [fp]; simp
    refine ⟨_, hv, a, _, rfl, .inl ⟨_, .inr "rest", h1, rfl, by show 4 < sizeLine; rw [sizeLine_eq]; omega, rfl⟩, ?_⟩
    rw [dp_rest]
    exact q1 Z1 O1 σ _ (r1.owt hown' ha) (fun _ _ => rfl) (r1.putO g hv ha (drw_write (r := 0) (t := 0) r1 fp rfl h2 h3))
theorem s_putT (hu : X.A.units + 1 < cLine) (ho : PE X o (tVar i)) (hk : PE X e1 (tC (.str "turn"))) (he : PE X e (lift G W m)) (hsw : swapsWith e (some (.Subscript o e1 pos')) pos.line X.env = pure false := by rfl) :
    PS X (.Assign [.Subscript o e1 pos'] e pos) (liftS G W I (drPutT i m)) := PS_imp (ps_dput hu ho hk he hsw) fun E σ H q => liftG.mono (liftS.bind (rep := repF G) q) fun v H1 ⟨Z1, O1, ρ1, d1, r1, f1, q1⟩ => by
  cases d1 <;> first | exact q1.elim | skip
  rename_i k
  cases g : getO ρ1 i with
  | none => rw [g] at q1; exact q1.elim
  | some d0 =>
    rw [g] at q1
    cases d0 <;> first | exact q1.elim | skip
    cases f1
    obtain ⟨v, hv, hown⟩ := r1.getO g
    have hown' := hown
    obtain ⟨a, l, c, rfl, fp, h1, h2, h3⟩ := hown
    have ha : a ∈ O1 i := by rw [fp]; simp
    refine ⟨_, hv, a, _, rfl, .inl ⟨_, .inr "turn", h1, rfl, by show 4 < sizeLine; rw [sizeLine_eq]; omega, rfl⟩, ?_⟩
    rw [dp_turn]
    exact q1 Z1 O1 σ _ (r1.owt hown' ha) (fun _ _ => rfl) (r1.putO g hv ha (drw_write (r := 0) (t := 0) r1 fp rfl h2 h3))
/-- draw['large'] != [] -/
def drAny (i : Nat) : M Bool := fun ρ => match getO ρ i with
  | some (.drw l _ _ _) => .ok (!l.isEmpty) ρ
  | _ => .bad
theorem ints_lay : ∀ xs : List Int, PyData.canLayAll0 (xs.map PyData.int) = true
  | [] => by rw [List.map_nil]; unfold PyData.canLayAll0; rfl
  | x :: xs => by
    rw [List.map_cons]
    unfold PyData.canLayAll0
    rw [ints_lay xs]
    rfl
theorem ints_depth : ∀ xs : List Int, PyData.depthAll (xs.map PyData.int) = 0
  | [] => by rw [List.map_nil]; unfold PyData.depthAll; rfl
  | x :: xs => by
    rw [List.map_cons]
    unfold PyData.depthAll
    rw [ints_depth xs]
    rfl
theorem ints_shaped (xs : List Int) : SeqAt.shaped (.list (xs.map PyData.int)) = true := by
  unfold SeqAt.shaped
  have h1 : PyData.canLay0 (.list (xs.map PyData.int)) = true := by unfold PyData.canLay0; exact ints_lay xs
  have h2 : PyData.depth (.list (xs.map PyData.int)) = 1 := by unfold PyData.depth; rw [ints_depth]
  rw [h1, h2]
  rfl
theorem ints_dp {H : Hp} : ∀ xs : List Int, DpAll X.K H (xs.map V.int) (xs.map PyData.int)
  | [] => .nil
  | x :: xs => .cons (.int x) (ints_dp xs)
theorem d_any (hu : X.A.units + 64 < cLine) (hu1 : X.A.units + 1 < cLine) (ho : PE X o (tVar i)) (hk : PE X e1 (tC (.str "large"))) (hs : NoSl e1) (hm : behindInMarks .NotEq (.List [] pos') = false := by rfl) :
    PT X (.Compare (.Subscript o e1 pos) [.NotEq] [.List [] pos'] apos) (liftB G W (drAny i)) := PT_imp (pt_cmpR (op_neD hu) (pe_dget hu1 ho hk hs) (pe_lst pa_nil) hm) fun σ H Q ⟨Z, O, ρ, r, q⟩ => by
  unfold drAny at q
  cases g : getO ρ i with
  | none => rw [g] at q; exact q.elim
  | some d0 =>
    rw [g] at q
    cases d0 <;> first | exact q.elim | skip
    rename_i large rest cells turn
    simp only at q
    obtain ⟨v, hv, a, l, c, rfl, fp, h1, h2, h3⟩ := r.getO g
    refine ⟨_, hv, a, _, rfl, .inl ⟨_, .inr "large", .inl h1, rfl, dr_large.symm⟩, Nat.zero_le _, fun p hp => ?_⟩
    have h2' : upd H p (.lst []) l = some (.lst (large.map V.int)) := upd_keep hp l _ h2
    refine ⟨.list (large.map PyData.int), .list [], .lst (.of h2') (ints_dp large), .lst (.of upd_same) .nil, ints_shaped large, ints_shaped [], !large.isEmpty, ?_, q (!large.isEmpty) Z O _ (.newO hp) (r.newO hp) rfl⟩
    cases large with
    | nil => rfl
    | cons x xs => rfl
/-- draw['large'].pop(0) -/
def drPop (i : Nat) : M D := fun ρ => match getO ρ i with
  | some (.drw (x :: l) r c t) => .ok (.int x) (putO ρ i (.drw l r c t))
  | _ => .bad
theorem d_drPop (hu : X.A.units + 1 < cLine) (ho : PE X o (tVar i)) (hk : PE X e1 (tC (.str "large"))) (hs0 : NoSl e1) (he : PE X e (tC (.int 0))) (hbase : attributeBase (.Subscript o e1 pos) "pop" X.env (eval (.Subscript o e1 pos) X.env) = eval (.Subscript o e1 pos) X.env := by rfl)
    (hfew : ((backTo pos' (starEach [e] X.env)).all (fun x => !x.1) && (backToKw pos' (keywordEach [] X.env)).all (fun x => x.1.isSome) && decide (([e] : List Expr).length + ([] : List Keyword).length + (if ([] : List Keyword).isEmpty then 0 else 1) < 30)) = true := by rfl)
    (hline : (apos.endLine == pos'.line) = true := by rfl) (hs : starEach [e] X.env = (false, eval e X.env) :: starEach [] X.env := by rfl) :
    PE X (.Call (.Attribute (.Subscript o e1 pos) "pop" apos) [e] [] pos') (lift G W (drPop i)) :=
  PE_imp (pe_bm PySem.F.plainAttrs_list PySem.F.slot_list_pop PySem.F.type_list_pop mt_popAt (pe_dget hu ho hk hs0) (pa_cons he pa_nil hs) hbase hfew hline hs (by rfl)) fun σ H Q ⟨Z, O, ρ, r, q⟩ => by
    unfold drPop at q
    cases g : getO ρ i with
    | none => rw [g] at q; exact q.elim
    | some d0 =>
      rw [g] at q
      cases d0 <;> first | exact q.elim | skip
      rename_i large rest cells turn
      cases large with
      | nil => exact q.elim
      | cons x large =>
        obtain ⟨v, hv, hown⟩ := r.getO g
        have hown' := hown
        obtain ⟨a, l, c, rfl, fp, h1, h2, h3⟩ := hown
        have hl : l ∈ O i := by rw [fp]; simp
        have nl : a ≠ l := Ne.symm (ne_of_nodup2 (r.nd i) fp)
        have nc : c ≠ l := fun e => r.oz i l hl (e ▸ h3.1)
        refine ⟨_, hv, a, _, rfl, .inl ⟨_, .inr "large", .inl h1, rfl, dr_large.symm⟩, .inl ⟨rfl, _, .of h2⟩, l, _, 0, 0, .int x, rfl, rfl, h2, by decide, by decide, ?_, rfl, ?_⟩
        · unfold seqIndex?
          simp
        · refine q (.int x) Z O _ (r.owt hown' hl) (r.putO g hv hl ⟨a, l, c, rfl, fp, by rw [upd_ne nl]; exact h1, upd_same, h3.1, by rw [upd_ne nc]; exact h3.2⟩) rfl
end
end PB
set_option maxRecDepth 100000
set_option maxHeartbeats 4000000
/-! PX9: displays, enumerate, comprehensions, pairs of names. -/
namespace PB
open PySem PySem.Spec PySem.Calls L2
variable {G : Gc} {W : WX} {X : Cx} {I : List Nat}
/-! ### comprehensions -/
section
variable {elt tg iter : Expr} {ifs : List Expr} {scope : Scope} {own : List (Str × Nat)} {pos : Pos} {wi : TI} {g : TG} {gb : D → Env → Option Env} {tt : TT} {mi : M (List D)} {mt : M Bool} {me : M D}
theorem o_lc (hc : X.calm = true) (hN : X.N.Nodup) (hs : Src G W wi mi) (hgt : TgtO G (own.map (·.2)) g gb) (htt : TstOk G tt mt) (hi : PI X tg iter wi) (ok : BlkOk X.N X.env.scope scope own)
    (hg : ∀ (s : Shared) (H : Hp) (C : Addr) (cl : List (Str × Addr)) (fp : List Addr), PG (X.blk s H scope (compEnvC scope cl C X.env) fp) tg g) (ht : ∀ (s : Shared) (H : Hp) (C : Addr) (cl : List (Str × Addr)) (fp : List Addr), PTs (X.blk s H scope (compEnvC scope cl C X.env) fp) ifs tt)
    (he : ∀ (s : Shared) (H : Hp) (C : Addr) (cl : List (Str × Addr)) (fp : List Addr), PE (X.blk s H scope (compEnvC scope cl C X.env) fp) elt (lift G W0 me)) (hf : ∀ x, foldedSetIterable iter X.env x = pure x := by intro _; rfl) :
    PE X (.ListComp elt [⟨tg, iter, ifs, 0⟩] scope pos) (liftO G W (mLc (own.map (·.2)) gb mi mt me)) := PE_imp (pe_lc hc hN hi ok hg ht he hf) fun σ H Q q => lc_run hs hgt htt q
end
/-! ### enumerate -/
def enD (k : Nat) : List D → List D
  | [] => []
  | x :: xs => .tup [.int k, x] :: enD (k + 1) xs
theorem enD_length : ∀ (xs : List D) (k : Nat), (enD k xs).length = xs.length
  | [], _ => rfl
  | x :: xs, k => by unfold enD; rw [List.length_cons, List.length_cons, enD_length xs]
theorem enD_get : ∀ (xs : List D) (k i : Nat) (y : D), (enD k xs)[i]? = some y → ∃ x, xs[i]? = some x ∧ y = .tup [.int (k + i : Nat), x]
  | [], _, _, _, h => by unfold enD at h; simp at h
  | x :: xs, k, 0, y, h => by unfold enD at h; simp at h; exact ⟨x, rfl, by rw [← h]; simp⟩
  | x :: xs, k, i + 1, y, h => by
    unfold enD at h
    obtain ⟨z, e1, e2⟩ := enD_get xs (k + 1) i y (by simpa using h)
    exact ⟨z, by simpa using e1, by rw [e2]; congr 3; omega⟩
def asEn : List D → Option (List D)
  | [.lst xs] => some (enD 0 xs)
  | [.fls xs] => some (enD 0 xs)
  | _ => none
theorem wk_enum {Z1 : Addr → Prop} {H1 : Hp} {xs : List D} {vs : List V} {a : Addr} (hsq : ∀ (Z : Addr → Prop) H, (∀ a, Z1 a → Z a) → Kp Z1 H1 H → SqL G.K H a vs) (rl : RfL G Z1 H1 xs vs) : Wk G Z1 H1 (Ite G.K a) (enD 0 xs) where
  stop := fun Z H zs k => ⟨vs, hsq Z H zs k, by rw [enD_length, rl.length]; exact Nat.le_refl _⟩
  go := fun Z H i zs k h => by
    rw [enD_length, rl.length] at h
    exact ⟨vs, vs[i], hsq Z H zs k, List.getElem?_eq_getElem _⟩
  yld := fun Z O ρ σ H i x v H' r zs k e y => by
    obtain ⟨T, z, rfl, hT, rfl, hy⟩ := y
    obtain ⟨d, e1, rfl⟩ := enD_get xs 0 i x e
    obtain ⟨w, ew, fw⟩ := rl.get e1
    rw [hy vs (hsq Z H zs k)] at ew; cases ew
    refine ⟨addZ Z T, .new hT, r.new hT, T, [.int ((i : Nat) : Int), z], rfl, .inl ⟨.inr rfl, upd_same⟩, _, _, rfl, by rw [Nat.zero_add]; exact rfl, RfL.one ?_⟩
    exact fw.keep (fun a q => .inl (zs a q)) fun b o q e => upd_keep hT b o (k b o q e)
theorem src_enum {m : M (List D)} : Src G W (iEnum G.K (liftL G W m)) (mItemsL asEn m) := fun σ H Q q => by
  unfold mItemsL at q
  refine liftG.mono (liftG.bind (rep := repL G) q) fun v H1 ⟨Z1, O1, ρ1, d1, r1, f1, q1⟩ => ?_
  cases e : asEn d1 with
  | none => rw [e] at q1; exact q1.elim
  | some xs =>
    rw [e] at q1
    unfold asEn at e
    split at e
    · cases e
      obtain ⟨w, rfl, a, vs, rfl, g1, rl⟩ := rfl1 f1
      exact ⟨a, vs, rfl, g1.sq, q1 _ Z1 O1 H1 .refl r1 (wk_enum (fun Z H zs k => .of (k a _ g1.1 g1.2)) rl)⟩
    · cases e
      obtain ⟨w, rfl, a, vs, rfl, g1, rl⟩ := rfl1 f1
      exact ⟨a, vs, rfl, g1.sq, q1 _ Z1 O1 H1 .refl r1 (wk_enum (fun Z H zs k => g1.elim (fun ⟨z, o, e⟩ => .inl (.inr ⟨o, k a _ z e⟩)) .inr) rl)⟩
    · cases e
/-! ### a, b = e1, e2 -/
def sPar (i j : Nat) (ms : M (List D)) : M Fl := fun ρ => (ms ρ).bind fun ds ρ => match ds with
  | [a, b] => .ok .nx ((ρ.set i (.fr a)).set j (.fr b))
  | _ => .bad
theorem s_par {st : Stmt} {i j : Nat} {ms : M (List D)} (hi : I.contains i = false) (hj : I.contains j = false) (h : PS X st (tPar i j (liftL G W ms))) : PS X st (liftS G W I (sPar i j ms)) :=
  PS_imp h fun E σ H q => liftG.mono (liftS.bind (rep := repL G) q) fun v H1 ⟨Z1, O1, ρ1, d1, r1, f1, q1⟩ => by
    match d1, f1, q1 with
    | [], f1, q1 => exact q1.elim
    | [_], f1, q1 => exact q1.elim
    | _ :: _ :: _ :: _, f1, q1 => exact q1.elim
    | [a, b], f1, q1 =>
      obtain ⟨v, w, rfl, h1, h2⟩ := rfl2 f1
      exact ⟨v, w, rfl, q1 Z1 _ _ H1 (.trans .drop .drop) (fun k hk => (keepI hj k hk).trans (keepI hi k hk)) ((r1.setFr h1).setFr h2)⟩
/-! ### one operand -/
def fNeg : D → Option D
  | .int i => some (.int (-i))
  | _ => none
theorem d_neg {a : Expr} {m : M D} {pos : Pos} (h : PE X a (lift G W m)) : PE X (.UnaryOp .USub a pos) (lift G W (m1 fNeg m)) := PE_imp (pe_un un_neg h) fun σ H Q q => liftG.mono (liftG.bind (rep := repF G) q) fun v H1 ⟨Z1, O1, ρ1, d1, r1, f1, q1⟩ => by
  cases d1 <;> first | exact q1.elim | skip
  cases f1
  exact ⟨_, rfl, q1 _ Z1 O1 H1 .refl r1 rfl⟩
/-! ### dicts written -/
theorem putK_new {κ : Type} [DecidableEq κ] {kvs : List (κ × V)} {k : κ} {v : V} (h : k ∉ kvs.map (·.1)) : putK kvs k v = kvs ++ [(k, v)] := by
  unfold putK
  rw [if_neg]
  intro e
  obtain ⟨p, hp, e⟩ := List.any_eq_true.mp e
  exact h (List.mem_map.mpr ⟨p, hp, of_decide_eq_true e⟩)
theorem mergeK_new : ∀ (more acc : List (Key × V)), (acc.map (·.1) ++ more.map (·.1)).Nodup → mergeK acc more = acc ++ more
  | [], acc, _ => by rw [List.append_nil]; rfl
  | p :: more, acc, h => by
    show mergeK (putK acc p.1 p.2) more = _
    have h1 : p.1 ∉ acc.map (·.1) := fun z => by
      rw [List.nodup_append] at h
      exact h.2.2 _ z _ (by simp) rfl
    rw [putK_new h1, mergeK_new more _ (by simpa using h), List.append_assoc]
    rfl
/-- the pairs of a display with the keys ks, the values read by ms -/
structure DPs (G : Gc) (W : WX) (X : Cx) (pos : Pos) (keys : List (Option Expr)) (values : List Expr) (ks : List Key) (ms : M (List D)) : Prop where
  ex : ∃ trs, PPs X pos keys values trs ∧ ∀ σ H Q, liftG G W (fun Z _ _ _ H ds ps => ∃ vs, ps = (ks.map kV).zip vs ∧ ks.length = ds.length ∧ RfL G Z H ds vs) ms σ H Q → tPairs trs σ H Q
theorem p_nil {pos : Pos} : DPs G W X pos [] [] [] mNil := ⟨[], pps_nil, fun σ H Q ⟨Z, O, ρ, r, q⟩ => q _ Z O H .refl r ⟨[], rfl, rfl, rfl⟩⟩
theorem p_cons {pos : Pos} {k v : Expr} {ks : List (Option Expr)} {vs : List Expr} {key : Key} {kk : List Key} {m : M D} {ms : M (List D)} (hk : PE X k (tC (kV key))) (hv : PE X v (lift G W m)) (h : DPs G W X pos ks vs kk ms) : DPs G W X pos (some k :: ks) (v :: vs) (key :: kk) (mCons m ms) := by
  obtain ⟨trs, hp, himp⟩ := h.ex
  refine ⟨_, pps_cons hk hv hp, fun σ H Q q => ?_⟩
  refine liftG.mono (liftG.bind (rep := repF G) q) fun y H1 ⟨Z1, O1, ρ1, d1, r1, f1, q1⟩ => ?_
  refine himp σ H1 _ ⟨Z1, O1, ρ1, r1, ?_⟩
  refine (contG.bind (rep := fun Z _ _ _ H ds ps => ∃ vs, ps = (kk.map kV).zip vs ∧ kk.length = ds.length ∧ RfL G Z H ds vs) q1).mono fun w H2 ⟨Z2, O2, ρ2, d2, x, r2, ⟨vs, e1, e2, f2⟩, q2⟩ => ?_
  subst e1
  exact q2 _ Z2 O2 H2 .refl r2 ⟨y :: vs, rfl, by simp [e2], y, vs, rfl, r1.rf x f1, f2⟩
theorem kz_zip : ∀ {ks : List Key} {vs : List V}, (ks.map kV).zip vs = (ks.zip vs).map (fun kv => (kV kv.1, kv.2))
  | [], _ => rfl
  | _ :: _, [] => rfl
  | k :: ks, v :: vs => by rw [List.map_cons, List.zip_cons_cons, List.zip_cons_cons, List.map_cons, kz_zip]
/-- nobody's object is frozen as it is written -/
theorem R.seal {Z : Addr → Prop} {O : Nat → List Addr} {H : Hp} {ρ : Env} {σ : St} {p : Addr} {o : HO} (r : R G Z O ρ σ H) (hz : ¬ Z p) (ho : ¬ Ow O p) : R G (addZ Z p) O ρ σ (upd H p o) := by
  have r1 := r.at (o := o) hz ho
  exact r1.grow (fun _ z => .inl z) (fun _ _ e => e) (fun i a h z => z.elim (r1.oz i a h) fun e => ho ⟨i, e ▸ h⟩) fun a z => z.elim (r1.zd a) fun e => by rw [e, upd_same]; simp
def mDct (ks : List Key) (ms : M (List D)) : M D := fun ρ => (ms ρ).bind fun ds ρ => .ok (.dct ks ds) ρ
section
variable {pos : Pos} {keys : List (Option Expr)} {values : List Expr} {ks : List Key} {ms : M (List D)}
/-- the core: what is found at the end, p nobody's -/
theorem disp_run {rep : Rep D V} (hn : ks.Nodup) (h15 : ks.length ≤ 15) {trs : List (TE × TE)} (himp : ∀ σ H Q, liftG G W (fun Z _ _ _ H ds ps => ∃ vs, ps = (ks.map kV).zip vs ∧ ks.length = ds.length ∧ RfL G Z H ds vs) ms σ H Q → tPairs trs σ H Q)
    (fin : ∀ Z O ρ σ H p ds vs, R G Z O ρ σ H → ¬ Z p → ¬ Ow O p → H p = some (.dK []) → ks.length = ds.length → RfL G Z H ds vs →
      ∃ Z' O', R G Z' O' ρ σ (upd H p (.dK (ks.zip vs))) ∧ (∀ Z0 O0 H0, H0 p = none → Ext Z0 O0 H0 Z O H → Ext Z0 O0 H0 Z' O' (upd H p (.dK (ks.zip vs)))) ∧ rep Z' O' ρ σ (upd H p (.dK (ks.zip vs))) (.dct ks ds) (.ref p))
    {σ : St} {H : Hp} {Q : VK} (q : liftG G W rep (mDct ks ms) σ H Q) : tDisp trs σ H Q := by
  obtain ⟨Z, O, ρ, r, q⟩ := q
  intro p hp
  have r0 := r.newO (o := .dK []) hp
  refine himp σ _ _ ⟨Z, O, ρ, r0, ?_⟩
  unfold mDct at q
  cases e : ms ρ with
  | bad => rw [e] at q; exact q.elim
  | ex x ρ' => rw [e] at q; exact fun c dd Z' O' H' y => q c dd Z' O' H' (Ext.trans (.newO hp) y)
  | ok ds ρ' =>
    rw [e] at q
    intro ps Z' O' H' y rr hh
    obtain ⟨vs, e1, e2, f⟩ := hh
    have nz : ¬ Z' p := fun z => by
      rcases y.zn p z with z | z | z
      · exact r.zd p z hp
      · obtain ⟨i, z⟩ := z; exact r.od i p z hp
      · rw [upd_same] at z; cases z
    have no : ¬ Ow O' p := fun z => by
      rcases y.on p z with z | z
      · obtain ⟨i, z⟩ := z; exact r.od i p z hp
      · rw [upd_same] at z; cases z
    have ep : H' p = some (.dK []) := y.kp p _ upd_same fun ⟨i, z⟩ => r.od i p z hp
    have lk : ks.length = vs.length := by rw [e2, f.length]
    refine ⟨ep, ks.zip vs, by rw [e1, kz_zip], by rw [List.length_zip]; omega, ?_⟩
    have hm : mergeK [] (ks.zip vs) = ks.zip vs := by
      rw [mergeK_new _ _ (by rw [List.map_nil, List.nil_append, List.map_fst_zip (by omega)]; exact hn), List.nil_append]
    rw [hm]
    obtain ⟨Z2, O2, r2, x2, rp⟩ := fin Z' O' ρ' σ H' p ds vs rr nz no ep e2 f
    exact q (.ref p) Z2 O2 _ (x2 Z O H hp (Ext.trans (.newO hp) y)) r2 rp
theorem d_dct (hn : ks.Nodup) (h15 : ks.length ≤ 15) (h : DPs G W X pos keys values ks ms) (hall : keys.all (·.isSome) = true) (hl : keys.length = values.length) (h0 : keys ≠ []) (hk15 : keys.length ≤ 15) : PE X (.Dict keys values pos) (lift G W (mDct ks ms)) := by
  obtain ⟨trs, hp, himp⟩ := h.ex
  refine PE_imp (pe_disp hp hall hl h0 hk15) fun σ H Q q => disp_run hn h15 himp (fun Z O ρ σ H p ds vs r nz no ep l f => ?_) q
  refine ⟨addZ Z p, O, r.seal nz no, fun Z0 O0 H0 hp0 x => ?_, p, vs, rfl, ⟨.inr rfl, .inl upd_same⟩, l, f.keep (fun _ z => .inl z) fun a o z e => by rw [upd_ne fun (q : a = p) => nz (q ▸ z)]; exact e⟩
  have xa := x.at (o := .dK (ks.zip vs)) hp0 (by rw [ep]; simp)
  exact ⟨fun a z => .inl (xa.zs a z), xa.kp, fun a z => z.elim (xa.zn a) fun e => .inr (.inr (e ▸ hp0)), xa.on, xa.dm⟩
theorem o_dct (hn : ks.Nodup) (h15 : ks.length ≤ 15) (h : DPs G W X pos keys values ks ms) (hall : keys.all (·.isSome) = true) (hl : keys.length = values.length) (h0 : keys ≠ []) (hk15 : keys.length ≤ 15) : PE X (.Dict keys values pos) (liftO G W (mDct ks ms)) := by
  obtain ⟨trs, hp, himp⟩ := h.ex
  refine PE_imp (pe_disp hp hall hl h0 hk15) fun σ H Q q => disp_run hn h15 himp (fun Z O ρ σ H p ds vs r nz no ep l f => ?_) q
  have r1 := r.at (o := .dK (ks.zip vs)) nz no
  refine ⟨Z, setO O ρ.length [p], r1.ownT (Nat.le_refl _) nz no (by rw [upd_same]; simp), fun Z0 O0 H0 hp0 x => ?_, p, vs, rfl, setO_same, upd_same, l, f.keep (fun _ z => z) fun a o z e => by rw [upd_ne fun (q : a = p) => nz (q ▸ z)]; exact e⟩
  have xa := x.at (o := .dK (ks.zip vs)) hp0 (by rw [ep]; simp)
  exact ⟨xa.zs, xa.kp, xa.zn, fun a h => (ow_setO h).elim (fun z => .inr (by simp at z; rw [z]; exact hp0)) (xa.on a), xa.dm⟩
theorem d_dct0 : PE X (.Dict [] [] pos) (lift G W (fun ρ => .ok (.dct [] []) ρ)) := PE_imp pe_dnewK fun σ H Q ⟨Z, O, ρ, r, q⟩ p hp =>
  q _ _ _ _ (.new hp) (r.new hp) ⟨p, [], rfl, ⟨.inr rfl, .inl upd_same⟩, rfl, rfl⟩
theorem o_dct0 : PE X (.Dict [] [] pos) (liftO G W (fun ρ => .ok (.dct [] []) ρ)) := PE_imp pe_dnewK fun σ H Q ⟨Z, O, ρ, r, q⟩ p hp =>
  q _ Z _ _ (.newT (t := ρ.length) hp) (r.newT (Nat.le_refl _) hp) ⟨p, [], rfl, setO_same, upd_same, rfl, rfl⟩
end
end PB
set_option maxRecDepth 100000
set_option maxHeartbeats 4000000
/-! PX10: the draw made. -/
namespace PB
open PySem PySem.Spec PySem.Calls L2
variable {G : Gc} {W : WX} {X : Cx} {I : List Nat}
section
variable {Z : Addr → Prop} {H : Hp} {O : Nat → List Addr} {ρ : Env} {σ : St}
theorem R.un (r : R G Z O ρ σ H) (j : Nat) : R G Z (setO O j []) (ρ.set j .un) σ H where
  len := by rw [List.length_set]; exact r.len
  sl := fun i s e => by
    by_cases q : i = j
    · subst q
      rw [List.getElem?_set, if_pos rfl] at e
      split at e
      · cases e; exact trivial
      · cases e
    · rw [setO_ne q]
      rw [List.getElem?_set, if_neg (fun z => q z.symm)] at e
      exact r.sl i s e
  nd := fun i => by
    by_cases q : i = j
    · subst q; rw [setO_same]; exact List.nodup_nil
    · rw [setO_ne q]; exact r.nd i
  dj := fun i k a h1 h2 => by
    by_cases q : i = j
    · subst q; rw [setO_same] at h1; cases h1
    · by_cases q2 : k = j
      · subst q2; rw [setO_same] at h2; cases h2
      · rw [setO_ne q] at h1; rw [setO_ne q2] at h2; exact r.dj i k a h1 h2
  oz := fun i a h => by
    by_cases q : i = j
    · subst q; rw [setO_same] at h; cases h
    · rw [setO_ne q] at h; exact r.oz i a h
  od := fun i a h => by
    by_cases q : i = j
    · subst q; rw [setO_same] at h; cases h
    · rw [setO_ne q] at h; exact r.od i a h
  zd := r.zd
theorem R.giveT (r : R G Z O ρ σ H) {t : Nat} {fp : List Addr} (ht : ρ.length ≤ t) (ap : Apart Z O H fp) : R G Z (setO O t fp) ρ σ H where
  len := r.len
  sl := fun j s q => by
    have hj : j ≠ t := fun e => by
      obtain ⟨hl, _⟩ := List.getElem?_eq_some_iff.mp q
      omega
    rw [setO_ne hj]; exact r.sl j s q
  nd := fun j => by
    by_cases q : j = t
    · subst q; rw [setO_same]; exact ap.nd
    · rw [setO_ne q]; exact r.nd j
  dj := fun j k a h1 h2 => by
    by_cases q : j = t
    · by_cases q2 : k = t
      · rw [q, q2]
      · subst q; rw [setO_same] at h1; rw [setO_ne q2] at h2
        exact absurd ⟨k, h2⟩ (ap.o a h1)
    · by_cases q2 : k = t
      · subst q2; rw [setO_same] at h2; rw [setO_ne q] at h1
        exact absurd ⟨j, h1⟩ (ap.o a h2)
      · rw [setO_ne q] at h1; rw [setO_ne q2] at h2; exact r.dj j k a h1 h2
  oz := fun j a h => by
    by_cases q : j = t
    · subst q; rw [setO_same] at h; exact ap.z a h
    · rw [setO_ne q] at h; exact r.oz j a h
  od := fun j a h => by
    by_cases q : j = t
    · subst q; rw [setO_same] at h; exact ap.h a h
    · rw [setO_ne q] at h; exact r.od j a h
  zd := r.zd
end
def intsD : List D → Option (List Int)
  | [] => some []
  | .int i :: xs => (intsD xs).map (i :: ·)
  | _ => none
theorem intsD_v {Z : Addr → Prop} {H : Hp} : ∀ {xs : List D} {vs : List V} {a : List Int}, RfL G Z H xs vs → intsD xs = some a → vs = a.map V.int
  | [], _, _, h, e => by cases h; cases e; rfl
  | .int i :: xs, _, _, ⟨v, w, q, h1, h2⟩, e => by
    unfold intsD at e
    cases e1 : intsD xs with
    | none => rw [e1] at e; cases e
    | some b => rw [e1] at e; cases e; cases h1; rw [q, intsD_v h2 e1]; rfl
  | .non :: _, _, _, _, e | .bl _ :: _, _, _, _, e | .str _ :: _, _, _, _, e | .ty _ :: _, _, _, _, e | .at _ :: _, _, _, _, e | .tup _ :: _, _, _, _, e | .lst _ :: _, _, _, _, e | .fls _ :: _, _, _, _, e | .dct _ _ :: _, _, _, _, e
  | .ins _ _ _ :: _, _, _, _, e | .exc _ _ _ :: _, _, _, _, e | .drw _ _ _ _ :: _, _, _, _, e => by cases e
def mDraw (j : Nat) (mc : M D) : M D := fun ρ => match ρ[j]? with
  | some (.ow (.lst _)) => (mc ρ).bind fun d ρ1 => match ρ1[j]?, d with
    | some (.ow (.lst xs)), .lst ys => match intsD xs, intsD ys with
      | some a, some b => .ok (.drw a 0 b 0) (ρ1.set j .un)
      | _, _ => .bad
    | _, _ => .bad
  | _ => .bad
theorem o_draw {j : Nat} {k1 k2 k3 k4 v1 v2 v3 v4 : Expr} {mc : M D} {pos : Pos} (h1 : PE X k1 (tC (.str "large"))) (h2 : PE X k2 (tC (.str "rest"))) (h3 : PE X k3 (tC (.str "cells"))) (h4 : PE X k4 (tC (.str "turn")))
    (g1 : PE X v1 (tVar j)) (g2 : PE X v2 (tC (.int 0))) (g3 : PE X v3 (liftO G W mc)) (g4 : PE X v4 (tC (.int 0))) : PE X (.Dict [some k1, some k2, some k3, some k4] [v1, v2, v3, v4] pos) (liftO G W (mDraw j mc)) :=
  PE_imp (pe_disp (pps_cons h1 g1 (pps_cons h2 g2 (pps_cons h3 g3 (pps_cons h4 g4 pps_nil)))) rfl rfl (by simp) (by simp)) fun σ H Q ⟨Z, O, ρ, r, q⟩ p hp => by
    unfold mDraw at q
    cases e0 : ρ[j]? with
    | none => rw [e0] at q; exact q.elim
    | some s0 =>
      rw [e0] at q
      cases s0 <;> first | exact q.elim | skip
      rename_i d0
      cases d0 <;> first | exact q.elim | skip
      obtain ⟨vl, hv, _⟩ := r.sl j _ e0
      have hv := slot_some hv
      refine ⟨vl, hv, Z, O, ρ, r.newO hp, ?_⟩
      simp only at q
      cases e : mc ρ with
      | bad => rw [e] at q; exact q.elim
      | ex x ρ' => rw [e] at q; exact fun c dd Z' O' H' y => q c dd Z' O' H' (Ext.trans (.newO hp) y)
      | ok d ρ' =>
        rw [e] at q
        intro vc Z1 O1 H2 y r1 own
        simp only [Res.bind] at q
        cases e1 : ρ'[j]? with
        | none => rw [e1] at q; exact q.elim
        | some s1 =>
          rw [e1] at q
          cases s1 <;> first | exact q.elim | skip
          rename_i d1
          cases d1 <;> first | exact q.elim | skip
          cases d <;> first | exact q.elim | skip
          rename_i xs ys
          simp only at q
          cases e2 : intsD xs with
          | none => rw [e2] at q; exact q.elim
          | some a =>
            cases e3 : intsD ys with
            | none => rw [e2, e3] at q; exact q.elim
            | some b =>
              rw [e2, e3] at q
              obtain ⟨c, ws, rfl, fpc, hc, rlc⟩ := own
              obtain ⟨v', hv', l, us, rfl, fpl, hl, rll⟩ := r1.sl j _ e1
              have hv' := slot_some hv'
              rw [hv] at hv'; cases hv'
              have eus := intsD_v rll e2
              have ews := intsD_v rlc e3
              subst eus ews
              have hj : j < ρ'.length := (List.getElem?_eq_some_iff.mp e1).1
              have jt : j ≠ ρ'.length := by omega
              have hlj : l ∈ O1 j := by rw [fpl]; simp
              have hct : c ∈ O1 ρ'.length := by rw [fpc]; simp
              have nz : ¬ Z1 p := fun z => by
                rcases y.zn p z with z | z | z
                · exact r.zd p z hp
                · obtain ⟨i, z⟩ := z; exact r.od i p z hp
                · rw [upd_same] at z; cases z
              have no : ¬ Ow O1 p := fun z => by
                rcases y.on p z with z | z
                · obtain ⟨i, z⟩ := z; exact r.od i p z hp
                · rw [upd_same] at z; cases z
              have ep : H2 p = some (.dK []) := y.kp p _ upd_same fun ⟨i, z⟩ => r.od i p z hp
              have lp : l ≠ p := fun e => no ⟨j, e ▸ hlj⟩
              have cp : c ≠ p := fun e => no ⟨_, e ▸ hct⟩
              have r2 := (r1.freezeT (Nat.le_refl _)).un j
              have nz2 : ¬ (Z1 p ∨ p ∈ O1 ρ'.length) := fun z => z.elim nz fun z => no ⟨_, z⟩
              have no2 : ¬ Ow (setO (setO O1 ρ'.length []) j []) p := fun z => (ow_setO z).elim (fun z => nomatch z) fun z => (ow_setO z).elim (fun z => nomatch z) no
              have r3 := r2.at (o := .dK (drK l c 0 0)) nz2 no2
              have ap : Apart (fun a => Z1 a ∨ a ∈ O1 ρ'.length) (setO (setO O1 ρ'.length []) j []) (upd H2 p (.dK (drK l c 0 0))) [p, l] := by
                refine ⟨by simpa using Ne.symm lp, fun x hx => ?_, fun x hx => ?_, fun x hx => ?_⟩
                · rcases (by simpa using hx : x = p ∨ x = l) with h | h
                  · rw [h]; exact nz2
                  · rw [h]; exact fun z => z.elim (r1.oz j l hlj) fun z => jt (r1.dj j _ l hlj z)
                · rcases (by simpa using hx : x = p ∨ x = l) with h | h
                  · rw [h]; exact no2
                  · rw [h]
                    rintro ⟨i, z⟩
                    by_cases q1 : i = j
                    · rw [q1, setO_same] at z; cases z
                    · rw [setO_ne q1] at z
                      by_cases q2 : i = ρ'.length
                      · rw [q2, setO_same] at z; cases z
                      · rw [setO_ne q2] at z; exact q1 (r1.dj i j l z hlj)
                · rcases (by simpa using hx : x = p ∨ x = l) with h | h
                  · rw [h, upd_same]; simp
                  · rw [h, upd_ne lp, hl]; simp
              have r4 := r3.giveT (t := (ρ'.set j .un).length) (Nat.le_refl _) ap
              refine ⟨ep, drK l c 0 0, rfl, by simp, ?_⟩
              rw [mergeK_new (drK l c 0 0) [] (show ([.inr "large", .inr "rest", .inr "cells", .inr "turn"] : List Key).Nodup by decide), List.nil_append]
              refine q (.ref p) _ _ _ ?_ r4 ⟨p, l, c, rfl, setO_same, upd_same, by rw [upd_ne lp]; exact hl, .inr hct, by rw [upd_ne cp]; exact hc⟩
              have y0 : Ext Z O H Z1 O1 H2 := Ext.trans (.newO hp) y
              have y1 := y0.at (o := .dK (drK l c 0 0)) hp (by rw [ep]; simp)
              refine ⟨fun x z => .inl (y1.zs x z), y1.kp, fun x z => ?_, fun x z => ?_, y1.dm⟩
              · exact z.elim (y1.zn x) fun z => .inr (y1.on x ⟨_, z⟩)
              · rcases ow_setO z with z | z
                · rcases (by simpa using z : x = p ∨ x = l) with h | h
                  · rw [h]; exact .inr hp
                  · rw [h]; exact y1.on l ⟨j, hlj⟩
                · exact (ow_setO z).elim (fun z => nomatch z) fun z => (ow_setO z).elim (fun z => nomatch z) (y1.on x)
end PB
set_option maxRecDepth 100000
set_option maxHeartbeats 4000000
/-! PX11: the law's def, run by the caller. -/
namespace PB
open PySem PySem.Spec PySem.Calls PyProof.Rows L2
/-- the law's def, called by the caller with the script -/
def RunA (P : Program) (w : World) (K : PySem.W.Frag) (mg : Str → Option Value) (base : Heap) (CX : CXT) (fa : Addr) (sp : Sp) : Prop :=
  ∀ (s : Shared) (H : Hp) (a : Addr) (Q : VK) (E : XK), Env0 P w K mg base callerA [] s H → sp [.ref a] H Q E → codeAny (model P w) callerA (.call (.ref fa) ⟨[.ref a], []⟩) (CR CX [] P w H s Q E) s
theorem run_of {CX : CXT} {P : Program} {w : World} {K : PySem.W.Frag} {mg : Str → Option Value} {base : Heap} {k : Nat} {f : Addr} {name qual : Str} {params : Arguments} {body : List Stmt} {scope : Scope} {dV kV doc pm cdv ct oc : Value} {an od : Option Addr}
    {osl : Array (Option Value)} {N : List Str} {x : Str} {sp : Sp} (lk : K.lookup f = some ⟨oc, od, .func (PySem.W.fnOf name qual params body scope dV kV doc pm an cdv ct), osl⟩) (hcd : PySem.W.codeIn K cdv qual = true) (S : FnScope N [x] scope)
    (hr : Room (k + 1) callerA) (hb : ∀ (s : Shared) (u : Value), BindsTo s (PySem.W.fnOf name qual params body scope dV kV doc pm an cdv ct) ⟨[u], []⟩ [(x, u)])
    (hbody : ∀ (s : Shared) (H : Hp) (v : V) (Q : VK) (E : XK), Room k (callerA.deeper (envOfC qual scope s.heap.objs.size f cdv)) → sp [v] H Q E →
      ∃ t, PSs (cxOf CX P w K mg base N qual scope f cdv callerA [] s H E) body t ∧ t { nx := fun _ H' => Q .non H', rt := Q } (L2.start N [v]) H) : RunA P w K mg base CX f sp := by
  intro s H a Q E e0 hsp
  have KX : K.In s.heap := e0.mod.kin.keeps fun b o e => (e0.bs b o e).1
  have lim : s.heap.NoLimit := e0.mod.nolimit.keeps fun b o e => (e0.bs b o e).1
  have hk : ∀ y ∈ ([x] : List Str).zip [Value.ref a], scope.names.lookup y.1 = some .local ∨ (scope.names.lookup y.1 = some .cell ∧ ((cellsFrom (s.heap.objs.size + 1) scope.names []).lookup y.1).isSome = true) := fun ⟨n, v⟩ hy =>
    (S.par n (List.of_mem_zip hy).1).elim .inl fun q => .inr ⟨q, PySem.W.cellsFrom_some _ _ _ (.inl q)⟩
  refine codeAny_call_function hr.depth (KX _ _ lk) rfl S.co S.gen rfl (PySem.W.codeRec_of KX hcd) (hb s (.ref a) _ _ _ _ ?_)
  refine wpAny_newFunctionEnv_cells S.kind hk fun env he s1 x1 => ?_
  subst he
  refine ⟨lim.keeps x1.toInCall.keep, codeAny_func ?_⟩
  obtain ⟨t, ht, hq⟩ := hbody s H (.ref a) Q E (hr.deeper _) hsp
  have J : L2.Inv (cxOf CX P w K mg base N qual scope f cdv callerA [] s H E) [] (L2.start N [.ref a]) H s1 := inv_start S hr.hd e0 (rfl : [V.ref a].length = [x].length) (.cons rfl .nil) x1
  refine wpAny_mono (ht.run [] s1 (L2.start N [.ref a]) H _ J hq) (fun fl s' hs => ?_) fun e s' hs => hs
  cases fl with
  | ret u =>
    obtain ⟨v, σ', H', J', rv, q⟩ := hs
    exact ⟨v, H', J'.os, J'.bare, J'.base, J'.hok, rv, q⟩
  | next =>
    obtain ⟨σ', H', J', q⟩ := hs
    exact ⟨.non, H', J'.os, J'.bare, J'.base, J'.hok, rfl, q⟩
  | brk => exact False.elim hs.choose_spec.choose_spec.2
  | cont => exact False.elim hs.choose_spec.choose_spec.2
theorem law_callA {P : Program} {w : World} {K : PySem.W.Frag} {mg mb : Str → Option Value} {CX : CXT} {fa a : Addr} {sp : Sp} {s₁ : Shared} {vs : List Value} {ns : List Int}
    (KX : K.In s₁.heap) (hns : s₁.heap.Ns mainGlobals mg) (hb : s₁.heap.Ns builtinsNs mb) (hbb : ∀ x : Str, x ≠ "__name__" → mb x = bootBuiltins x) (hlim : s₁.heap.NoLimit) (hg : s₁.gens = #[])
    (ha : s₁.heap.get? a = some { cls := .type "list", data := .seq vs.toArray }) (hi : IntsAre vs ns) (hl : ns.length ≤ sizeLine)
    (F : ∀ base : Heap, K.In base → base.Ns mainGlobals mg → RunA P w K mg base CX fa sp)
    (hsp : ∀ H : Hp, Only H → SqL K H a (ns.map V.int) → sp [.ref a] H (fun v _ => v = .bl true) fun _ _ _ => False)
    (hCX : ∀ H e s', CX [] H s₁ (fun _ _ _ => False) e s' → False) :
    codeAny (model P w) callerA (.call (.ref fa) ⟨[.ref a], []⟩) (fun r s' => r = .ok (.ret (.bool true)) ∧ OldK s₁.heap s'.heap ∧ s'.os = s₁.os ∧ AllBare s'.gens) s₁ := by
  have rv := vals_ints hi
  have lenV := hi.length
  have main : ∀ H : Hp, Only H → SqL K H a (ns.map V.int) → HOk P w H s₁.heap → (∀ b, H b ≠ none → b = a) → (H a ≠ none → K.lookup a = none) →
      codeAny (model P w) callerA (.call (.ref fa) ⟨[.ref a], []⟩) (fun r s' => r = .ok (.ret (.bool true)) ∧ OldK s₁.heap s'.heap ∧ s'.os = s₁.os ∧ AllBare s'.gens) s₁ := by
    intro H hO hS hok hA hK
    have isA : ∀ {b : Addr} {u : HO}, H b = some u → b = a := fun {b u} q => hA b (by rw [q]; simp)
    have bs : ∀ {b : Addr} {o : Obj}, s₁.heap.get? b = some o → H b = none → (hidT s₁.heap H).get? b = some o := fun e n => hidT_get e n
    have nd : ∀ {b : Addr} {o : Obj} {es : Array DictEntry} {ep : Nat}, s₁.heap.get? b = some o → o.data = .dict es ep → H b = none := fun {b o es ep} e d => by
      cases q : H b with
      | none => rfl
      | some u =>
        rw [isA q, ha] at e
        cases e
        exact absurd d (fun z => by have z : Data.seq vs.toArray _ = Data.dict es ep := z; cases z)
    have nsK : ∀ {b : Addr} {m : Str → Option Value}, s₁.heap.Ns b m → (hidT s₁.heap H).Ns b m := fun {b m} ⟨o, es, ep, e, d, r⟩ => ⟨o, es, ep, bs e (nd e d), d, r⟩
    have kb : K.In (hidT s₁.heap H) := fun b o e => bs (KX b o e) (by
      cases q : H b with
      | none => rfl
      | some u =>
        have e' := isA q
        subst e'
        rw [hK (by rw [q]; simp)] at e
        cases e)
    have md : Mod K mg (hidT s₁.heap H) := ⟨kb, nsK hns, ⟨mb, nsK hb, hbb⟩, let ⟨mc, h1, h2⟩ := hlim; ⟨mc, nsK h1, h2⟩⟩
    have e0 : Env0 P w K mg (hidT s₁.heap H) callerA [] s₁ H := ⟨rfl, md, fun b o e => of_hidT e, Nat.le_of_eq (hidT_size _ _), trivial, fun b hb => absurd (show b ∈ ([] : List Addr) from hb) (by simp), hok, .of_eq hg⟩
    refine codeAny_mono (F _ kb (nsK hns) s₁ H a _ _ e0 (hsp H hO hS)) fun r s' h => ?_
    cases r with
    | error e => exact (hCX H e s' h).elim
    | ok fl =>
      cases fl with
      | ret u =>
        obtain ⟨v, H', os, bare, un, hok', r', q⟩ := h
        have q' : v = .bl true := q
        subst q'
        obtain rfl : u = Value.bool true := r'
        refine ⟨rfl, OldK.of_keep fun b o e => ?_, os, bare⟩
        cases q : H b with
        | none => exact un.keep b o e q (fun z => absurd (show b ∈ ([] : List Addr) from z) (by simp)) (by simp)
        | some u =>
          rcases hO b with z | ⟨ob, xs, z⟩
          · rw [q] at z; cases z
          · obtain ⟨e1, _⟩ := hok b _ z
            obtain ⟨e2, _⟩ := hok' b _ (un.frzs b ob _ z)
            rw [e] at e1
            cases e1
            exact e2
      | next => exact False.elim h
      | brk => exact False.elim h
      | cont => exact False.elim h
  cases hk : K.lookup a with
  | some o =>
    have e := KX a o hk
    rw [ha] at e
    cases e
    exact main (fun _ => none) (fun _ => .inl rfl) (.inr ⟨_, vs.toArray, _, hk, rfl, rfl, rfl, by rw [List.size_toArray, lenV]; exact hl, by simpa using rv⟩) (fun b u z => nomatch z) (fun b z => absurd rfl z) fun z => absurd rfl z
  | none =>
    have sc : ∀ {b : Addr} {u : HO}, (if b = a then some (HO.frz { cls := .type "list", data := .seq vs.toArray } (.lst (ns.map V.int))) else none) = some u → b = a ∧ u = .frz { cls := .type "list", data := .seq vs.toArray } (.lst (ns.map V.int)) := fun {b u} z => by
      by_cases hb : b = a
      · rw [if_pos hb] at z; exact ⟨hb, (Option.some.inj z).symm⟩
      · rw [if_neg hb] at z; cases z
    refine main (fun b => if b = a then some (.frz { cls := .type "list", data := .seq vs.toArray } (.lst (ns.map V.int))) else none) (fun b => ?_) (.inl (.inr ⟨_, if_pos rfl⟩)) (fun b u z => ?_) (fun b z => ?_) fun _ => hk
    · by_cases hb : b = a
      · exact .inr ⟨_, _, if_pos hb⟩
      · exact .inl (if_neg hb)
    · obtain ⟨e1, e2⟩ := sc z
      subst e1 e2
      exact ⟨ha, by rw [List.length_map]; exact hl, vs, _, rv, ha⟩
    · by_cases hb : b = a
      · exact hb
      · exact absurd (if_neg hb) z
/-- a law: what the Hook says gives its run -/
theorem walk_A {l : PySem.W.OpenLaw} {n : Nat} {q : Program} {loose : List Str} {XP : (Str → Option Value) → Heap → Prop} {YP : World → Heap → Prop} {d : DefRec} {CX : World → CXT} (hn : l.most = some n) (hn2 : n ≤ sizeLine) (hdf : d.params.defaults = [])
    (F : ∀ (w : World) (mg : Str → Option Value) (fa : Addr) (h : Heap), YP w h → h.Ns mainGlobals mg → mg d.name = some (.ref fa) → ∃ (K : PySem.W.Frag) (sp : Sp), K.In h ∧
      (∀ (H : Hp) (a : Addr) (ns : List Int), ns.length ≤ n → (∀ z ∈ ns, Builtin.Int.intBits z ≤ 1048576) → Only H → SqL K H a (ns.map V.int) → sp [.ref a] H (fun v _ => v = .bl true) fun _ _ _ => False) ∧
      ∀ base : Heap, K.In base → base.Ns mainGlobals mg → RunA l.prog w K mg base (CX w) fa sp)
    (hCX : ∀ (w : World) (H : Hp) (s : Shared) (e : Value) (s' : Shared), CX w [] H s (fun _ _ _ => False) e s' → False) :
    PySem.W.WalkO q loose XP YP l.row.toRowW d [] (fun f vs => PySem.call f vs) := by
  refine Att.attach_callB hn hdf fun w s₀ s₁ mg mb fa o pm cd doc a vs ns G Y ho hd hcd hmg hobj hints hlen hbits hg => ?_
  obtain ⟨K, sp, KX, hsp, hF⟩ := F w mg fa _ Y G.T.g hmg
  exact law_callA KX G.T.g G.T.b G.T.builtins G.T.nolimit hg hobj hints (Nat.le_trans hlen hn2) hF (fun H hO hS => hsp H a ns hlen hbits hO hS) fun H e s' => hCX w H s₁ e s'
end PB
set_option maxRecDepth 100000
set_option maxHeartbeats 4000000
/-! PX12: what the head tells: functions, classes, exceptions with their own __init__. -/
namespace PB
open PySem PySem.Spec PyProof.Rows L2
open PySem.W (Frag findIn specialIn takesIn subIn mroIn hasDictIn clsIn kitOne typeIn keepIn codeIn nsIn alongIn excIn)
/-! ### the written part: what the module's names name, and their methods -/
def refsV (o : Obj) : List Addr := match o.data with
  | .dict es _ => es.toList.flatMap fun e => He.refV e.val
  | _ => []
def fnAs (g : Addr → Option Obj) (a : Addr) : List Addr := match g a with
  | some o => (match o.data with
    | .func fd => a :: He.refV fd.code ++ fd.closure.map (·.2)
    | _ => [a])
  | none => []
def adB (g : Addr → Option Obj) : List Addr := mainGlobals :: cStatics :: sysModules :: (match g mainGlobals with
  | some o => (refsV o).flatMap fun a => match g a with
    | some ob => (match ob.data with
      | .cls cd => a :: cd.ns :: (match g cd.ns with
        | some on => (refsV on).flatMap (fnAs g)
        | none => [])
      | _ => fnAs g a)
    | none => []
  | none => [])
/-! ### an own exception class -/
def xcB (K : Frag) (C : Addr) : Bool :=
  He.eqO (findIn K (.ref C) "__getattribute__") (some (some (.builtin "BaseException.__getattribute__"))) && (He.eqO (findIn K (.ref C) "__getattr__") (some none) && (decide (subIn K (.ref C) (.type "BaseException") = some true) &&
  (hasDictIn K C && (He.eqO (findIn K (.ref C) "__class__") (some (some (.builtin "object.__class__"))) && (decide (mroIn K C (.type "object") = some true) && (keepIn K (.ref C) && decide (typeIn K (.ref C) = some (.type "type"))))))))
def spB (K : Frag) : Bool := He.eqO (specialIn K (.builtin "object.__class__") "__get__") (some (some (.builtin "getset_descriptor.__get__"))) && decide (takesIn K (.builtin "object.__class__") = some true)
structure XcAll (K : Frag) (C : Addr) : Prop where
  exc : ExcC K C
  xf : XfC K C
  kp : keepIn K (.ref C) = true
  sub : subIn K (.ref C) (.type "BaseException") = some true
  ty : typeIn K (.ref C) = some (.type "type")
theorem xcB_ok {K : Frag} {C : Addr} (h : xcB K C = true) (s : spB K = true) : XcAll K C := by
  obtain ⟨h1, h⟩ := He.ba h
  obtain ⟨h2, h⟩ := He.ba h
  obtain ⟨h3, h⟩ := He.ba h
  obtain ⟨h4, h⟩ := He.ba h
  obtain ⟨h5, h⟩ := He.ba h
  obtain ⟨h6, h⟩ := He.ba h
  obtain ⟨h7, h8⟩ := He.ba h
  obtain ⟨s1, s2⟩ := He.ba s
  exact ⟨⟨He.eqO_ok h1, He.eqO_ok h2, of_decide_eq_true h3, h4, He.eqO_ok h5, He.eqO_ok s1, of_decide_eq_true s2, of_decide_eq_true h6⟩, ⟨He.eqO_ok h1, He.eqO_ok h2, of_decide_eq_true h3, h4⟩, h7, of_decide_eq_true h3, of_decide_eq_true h8⟩
/-! ### .. with its own __init__ -/
structure XD where
  c : Nat
  qual : Str
  prm : Str
  fld : Str
  st : Stmt
def mi (K : Frag) (C : Addr) : Addr := He.ma K C "__init__"
abbrev FnZ : Type := Option (Str × Str × Arguments × FuncBody × Scope × Addr × List Str × Value × Addr)
def xdObs (K : Frag) (C : Addr) : FnZ := match K.lookup (mi K C) with
  | some ⟨_, _, .func fd, _⟩ => some (fd.name, fd.qualname, fd.params, fd.body, fd.scope, fd.globals, fd.closure.map (·.1), fd.defaults, fd.builtins)
  | _ => none
def XD.val (d : XD) : FnZ := some ("__init__", d.qual, defArgs d.st, .stmts (defBody d.st), defScope d.st, mainGlobals, ["__class__"], .none, builtinsNs)
def oexB (K : Frag) (C : Addr) : Bool := match K.lookup C with
  | some ⟨.type t, _, .cls cd, sl⟩ => (match cd.mro, sl.toList with
    | .ref C' :: bm, [_, _, _, _, some (.builtin n), _] => decide (t = "type") && (decide (C' = C) && (decide (n = "ValueError.__new__") && (!cd.hasDel && (cd.hasDict && (PySem.HandSPX.refsVE bm && He.eqO (alongIn K "__init__" bm) (some (some (.builtin "ValueError.__init__"))))))))
    | _, _ => false)
  | _ => false
theorem oexB_ok {K : Frag} {C : Addr} (h : oexB K C = true) : (∃ nm q N bs bm sn sub ab col dd k0 k1 k2 k3 k5, K.lookup C = some (excClassObj nm q C N bs bm true sn sub ab col dd k0 k1 k2 k3 k5 "ValueError.__new__") ∧ PySem.HandSPX.refsVE bm = true) ∧
    ∃ cd, clsIn K C = some cd ∧ alongIn K "__init__" ((cd.mro.dropWhile (· != .ref C)).drop 1) = some (some (.builtin "ValueError.__init__")) := by
  unfold oexB at h
  split at h
  · rename_i t dd cd sl ho
    split at h
    · rename_i C' bm k0 k1 k2 k3 n k5 hm hs
      obtain ⟨h1, h⟩ := He.ba h
      obtain ⟨h2, h⟩ := He.ba h
      obtain ⟨h3, h⟩ := He.ba h
      obtain ⟨h4, h⟩ := He.ba h
      obtain ⟨h5, h⟩ := He.ba h
      obtain ⟨h6, h7⟩ := He.ba h
      have e1 := of_decide_eq_true h1
      have e2 := of_decide_eq_true h2
      have e3 := of_decide_eq_true h3
      subst e1 e2 e3
      obtain ⟨nm, bs, mro, ns, qn, hd, sn, sb, ab, col, del⟩ := cd
      dsimp only at hm h4 h5
      subst hm h5
      have h4 : del = false := by simpa using h4
      subst h4
      have hsl : sl = #[k0, k1, k2, k3, some (.builtin "ValueError.__new__"), k5] := by
        obtain ⟨l⟩ := sl
        simp only at hs
        rw [hs]
      subst hsl
      refine ⟨⟨nm, qn, ns, bs, bm, sn, sb, ab, col, dd, k0, k1, k2, k3, k5, ho, h6⟩, _, by unfold clsIn; rw [ho], ?_⟩
      have e4 : (Value.ref C' :: bm).dropWhile (· != .ref C') = .ref C' :: bm := by simp [List.dropWhile_cons]
      show alongIn K "__init__" (((Value.ref C' :: bm).dropWhile (· != .ref C')).drop 1) = _
      rw [e4]
      exact He.eqO_ok h7
    · cases h
  · cases h
def xcellB (file : Str) (K : Frag) (C : Addr) (qual : Str) : Bool := match K.lookup (mi K C) with
  | some ⟨_, _, .func fd, _⟩ => codeIn K fd.code qual && ((match fd.code with
    | .ref cda => (match K.lookup cda with
      | some ⟨_, _, .fields vs, _⟩ => (match vs[2]? with
        | some (Value.str f _) => file == f
        | _ => false)
      | _ => false)
    | _ => false) && (match fd.closure with
    | [(_, cc)] => (match K.lookup cc with
      | some ⟨_, _, .cell (some (.ref D)), _⟩ => decide (D = C)
      | _ => false)
    | _ => false))
  | _ => false
/-- its function object -/
structure XFn (P : Program) (K : Frag) (C : Addr) (d : XD) : Prop where
  ex : ∃ (oc : Value) (od : Option Addr) (kV doc pm : Value) (an : Option Addr) (cda cc : Addr) (ct : Value) (osl : Array (Option Value)) (vs5 : Array Value) (file : Str) (tf : Tok) (cl5 clc : Value) (d5 dc : Option Addr) (sl5 slc : Array (Option Value)),
    K.lookup (mi K C) = some ⟨oc, od, .func (PySem.W.ksFn "__init__" d.qual (defArgs d.st) (defBody d.st) (defScope d.st) .none kV doc pm an (.ref cda) ct cc), osl⟩ ∧ codeIn K (.ref cda) d.qual = true ∧
    K.lookup cda = some ⟨cl5, d5, .fields vs5, sl5⟩ ∧ vs5[2]? = some (.str file tf) ∧ ((P.main.file : Str) == file) = true ∧ K.lookup cc = some ⟨clc, dc, .cell (some (.ref C)), slc⟩
theorem xfn_ok {P : Program} {K : Frag} {C : Addr} {d : XD} (e : xdObs K C = d.val) (h : xcellB P.main.file K C d.qual = true) : XFn P K C d := by
  unfold xdObs at e
  unfold xcellB at h
  cases q : K.lookup (mi K C) with
  | none => rw [q] at h; cases h
  | some o =>
    obtain ⟨oc, od, dt, osl⟩ := o
    rw [q] at h e
    cases dt with
    | func fd =>
      obtain ⟨n1, n2, n3, n4, n5, n6, n7, n8, n9, n10, n11, n12, n13, n14, n15⟩ := fd
      have e2 : (some (n1, n2, n3, n4, n5, n6, n7.map (·.1), n8, n15) : FnZ) = some (("__init__" : Str), d.qual, defArgs d.st, FuncBody.stmts (defBody d.st), defScope d.st, mainGlobals, [("__class__" : Str)], Value.none, builtinsNs) := e
      simp only [Option.some.injEq, Prod.mk.injEq] at e2
      obtain ⟨h1, h2, h3, h4, h5, h6, h7, h9, h8⟩ := e2
      subst h1 h2 h3 h4 h5 h6 h8 h9
      dsimp only at h
      obtain ⟨g1, g⟩ := He.ba h
      obtain ⟨g2, g3⟩ := He.ba g
      split at g2
      · rename_i cda
        split at g2
        · rename_i cl5 d5 vs5 sl5 hc5
          split at g2
          · rename_i f tf hf
            split at g3
            · rename_i nm cc
              split at g3
              · rename_i clc dc D slc hcc
                have eD := of_decide_eq_true g3
                subst eD
                have enm : nm = "__class__" := by simpa using h7
                subst enm
                exact ⟨oc, od, n9, n10, n11, n12, cda, cc, n14, osl, vs5, f, tf, cl5, clc, d5, dc, sl5, slc, q, g1, hc5, hf, g2, hcc⟩
              · cases g3
            · cases g3
          · cases g2
        · cases g2
      · cases g2
    | _ => cases h
def xdB (file : Str) (K : Frag) (C : Addr) (d : XD) : Bool :=
  He.eqO (findIn K (.ref C) "__init__") (some (some (.ref (mi K C)))) && (decide (typeIn K (.ref (mi K C)) = some (.type "function")) && (He.eqO (findIn K (.ref C) d.fld) (some none) && (He.eqO (findIn K (.ref C) "__setattr__") (some (some (.builtin "object.__setattr__"))) &&
  (decide (subIn K (.ref C) (.type "ValueError") = some true) && (decide (mroIn K C (.ref C) = some true) && (oexB K C && xcellB file K C d.qual))))))
structure XdAll (P : Program) (K : Frag) (C : Addr) (d : XD) : Prop where
  xc : XcF P K C
  iC : findIn K (.ref C) "__init__" = some (some (.ref (mi K C)))
  tI : typeIn K (.ref (mi K C)) = some (.type "function")
  no : findIn K (.ref C) d.fld = some none
  fn : XFn P K C d
theorem xdB_ok {P : Program} {K : Frag} {C : Addr} {d : XD} (e : xdObs K C = d.val) (h : xdB P.main.file K C d = true) (a : XcAll K C) (thd : nsIn K cStatics "thirdparty.any" = some none) : XdAll P K C d := by
  obtain ⟨h1, h⟩ := He.ba h
  obtain ⟨h2, h⟩ := He.ba h
  obtain ⟨h3, h⟩ := He.ba h
  obtain ⟨h4, h⟩ := He.ba h
  obtain ⟨h5, h⟩ := He.ba h
  obtain ⟨h6, h⟩ := He.ba h
  obtain ⟨h7, h8⟩ := He.ba h
  obtain ⟨o1, o2⟩ := oexB_ok h7
  exact ⟨⟨⟨o1, He.eqO_ok h4, a.sub, a.ty, a.kp⟩, o2, of_decide_eq_true h5, of_decide_eq_true h6, thd⟩, He.eqO_ok h1, of_decide_eq_true h2, He.eqO_ok h3, xfn_ok e h8⟩
/-! ### the Hook -/
/-- the text's own words -/
structure Tx where
  file : Str
  names : List Str
  glo : List Str
  free : List Str
  fns : List He.FnD
  xs : List XD
  plain : List Nat
  isT : List (Tn × Tn × Bool)
def Tx.cl (T : Tx) (K : Frag) (n : Nat) : Addr := He.ga K (T.names.getD n Str.empty)
def Tx.gc (T : Tx) (K : Frag) : Gc := ⟨K, T.cl K⟩
def Tx.b (T : Tx) (K : Frag) : Bool :=
  T.glo.all (fun x => (He.Fa.glo x).ok K) && (T.free.all (fun x => (He.Fa.free x).ok K) && (T.fns.all (fun d => (He.Fa.code d.at_ d.qual).ok K && keepIn K (.ref (He.fAd K d.at_))) && ((List.range T.names.length).all (fun n => xcB K (T.cl K n)) && (spB K && (T.xs.all (fun d => xdB T.file K (T.cl K d.c) d) &&
  (T.plain.all (fun n => excIn K (T.cl K n) He.veBase "ValueError.__new__") && (T.isT.all (fun p => decide (kitOne K (tnV (T.gc K) p.1) (tnV (T.gc K) p.2.1) = some p.2.2)) && (He.eqO (nsIn K cStatics "thirdparty.any") (some none) && (K.lookup sysModules).isSome))))))))
abbrev AlB : Type := Bool × List He.FnV × List FnZ
def Tx.obs (T : Tx) (K : Frag) : AlB := (T.b K, T.fns.map (fun d => He.fnObs K d.at_), T.xs.map fun d => xdObs K (T.cl K d.c))
def Tx.val (T : Tx) : AlB := (true, T.fns.map He.FnD.val, T.xs.map XD.val)
def Tx.obsG (T : Tx) (g : Addr → Option Obj) : AlB := T.obs (He.frG g (adB g))
def Tx.hook (T : Tx) : PySem.W.Hook where
  α := AlB
  obs := fun s => T.obsG s.heap.get?
  val := fun _ => T.val
  says := fun _ h => ∃ K : Frag, K.In h ∧ T.obs K = T.val
  of := fun _ _ e => ⟨_, He.frG_in, e⟩
  keeps := fun _ _ _ ⟨K, hK, c⟩ k => ⟨K, PySem.W.Frag.In.keeps hK k, c⟩
theorem Tx.obs_eq {T : Tx} {g : Addr → Option Obj} {s : Shared} (h : ∀ a, g a = s.heap.get? a) : T.obsG g = T.hook.obs s := by
  have e : g = s.heap.get? := funext h
  rw [e] <;> rfl
/-- what the Hook says, told -/
structure Tx.Ok (T : Tx) (P : Program) (K : Frag) : Prop where
  glo : ∀ x ∈ T.glo, (He.Fa.glo x).ok K = true
  free : ∀ x ∈ T.free, (He.Fa.free x).ok K = true
  fn : ∀ d ∈ T.fns, (∃ oc od osl kV doc pm an cdv ct, K.lookup (He.fAd K d.at_) = some ⟨oc, od, .func (PySem.W.fnOf d.name d.qual d.params d.body d.scope .none kV doc pm an cdv ct), osl⟩ ∧ codeIn K cdv d.qual = true) ∧ keepIn K (.ref (He.fAd K d.at_)) = true
  xc : ∀ n, n < T.names.length → XcAll K (T.cl K n)
  xd : ∀ d ∈ T.xs, d.c < T.names.length → XdAll P K (T.cl K d.c) d
  pl : ∀ n ∈ T.plain, excIn K (T.cl K n) He.veBase "ValueError.__new__" = true
  is : ∀ p ∈ T.isT, kitOne K (tnV (T.gc K) p.1) (tnV (T.gc K) p.2.1) = some p.2.2
  sp : spB K = true
  sy : (K.lookup sysModules).isSome = true
theorem map_mem_eq {α β : Type} {f g : α → β} : ∀ {l : List α}, l.map f = l.map g → ∀ x ∈ l, f x = g x
  | [], _, _, h => nomatch h
  | a :: l, e, x, h => by
    rw [List.map_cons, List.map_cons] at e
    rcases List.mem_cons.mp h with rfl | h
    · exact (List.cons.inj e).1
    · exact map_mem_eq (List.cons.inj e).2 x h
theorem Tx.ok_of {T : Tx} {P : Program} {K : Frag} (hf : T.file = P.main.file) (e : T.obs K = T.val) : T.Ok P K := by
  have e1 : T.b K = true := congrArg (fun z : AlB => z.1) e
  have e2 : T.fns.map (fun d => He.fnObs K d.at_) = T.fns.map He.FnD.val := congrArg (fun z : AlB => z.2.1) e
  have e3 : T.xs.map (fun d => xdObs K (T.cl K d.c)) = T.xs.map XD.val := congrArg (fun z : AlB => z.2.2) e
  obtain ⟨b1, h⟩ := He.ba e1
  obtain ⟨b2, h⟩ := He.ba h
  obtain ⟨b3, h⟩ := He.ba h
  obtain ⟨b4, h⟩ := He.ba h
  obtain ⟨b5, h⟩ := He.ba h
  obtain ⟨b6, h⟩ := He.ba h
  obtain ⟨b7, h⟩ := He.ba h
  obtain ⟨b8, h⟩ := He.ba h
  obtain ⟨b9, b10⟩ := He.ba h
  have xc : ∀ n, n < T.names.length → XcAll K (T.cl K n) := fun n hn => xcB_ok (List.all_eq_true.mp b4 n (List.mem_range.mpr hn)) b5
  refine ⟨List.all_eq_true.mp b1, List.all_eq_true.mp b2, fun d hd => ?_, xc, fun d hd hn => ?_, List.all_eq_true.mp b7, fun p hp => of_decide_eq_true (List.all_eq_true.mp b8 p hp), b5, b10⟩
  · obtain ⟨c1, c2⟩ := He.ba (List.all_eq_true.mp b3 d hd)
    exact ⟨He.fn_ok (map_mem_eq e2 d hd) c1, c2⟩
  · exact xdB_ok (map_mem_eq e3 d hd) (by rw [← hf]; exact List.all_eq_true.mp b6 d hd) (xc _ hn) (He.eqO_ok b9)
end PB
set_option maxRecDepth 100000
set_option maxHeartbeats 4000000
/-! PX13: bundles for the printed derivations. -/
namespace PB
open PySem PySem.Spec PySem.Calls L2
open PySem.W (Frag findIn typeIn keepIn excIn)
variable {G : Gc} {W : WX} {X : Cx} {I : List Nat}
theorem opOr {f : Value → Value → Sem Value} {r r' : R2} (h : OpR X f r) (h' : OpR X f r') : OpR X f (fun x y H Q => r x y H Q ∨ r' x y H Q) := fun pins s σ H x y v u Q J rx ry q => q.elim (h pins s σ H x y v u Q J rx ry) (h' pins s σ H x y v u Q J rx ry)
theorem ixOr {r r' : R2} (h : IxR X r) (h' : IxR X r') : IxR X (fun x y H Q => r x y H Q ∨ r' x y H Q) := h.or h'
/-! ### operators of several kinds -/
def fAdd : D → D → Option D := fun x y => (fI (fun i j => i + j) x y).orElse fun _ => (fAddL x y).orElse fun _ => (fAddT x y).orElse fun _ => fAddS x y
abbrev rAdd (K : Frag) : R2 := fun x y H Q => rI0 (fun i j => .int (i + j)) x y H Q ∨ (rCat x y H Q ∨ (rCatT K x y H Q ∨ ∃ i j, x = .str i ∧ y = .str j ∧ i.length + j.length ≤ sizeLine ∧ Q (.str (i ++ j)) H))
theorem op_addA : OpR X (binaryOp .Add) (rAdd X.K) := opOr op_add (opOr op_cat (opOr op_catT op_add_str))
theorem o_addA : Op2 G W (rAdd G.K) fAdd := .or o_I (.or o_addL (.or o_addT o_addS))
def fSub : D → D → Option D := fI fun i j => i - j
theorem o_subA : Op2 G W (rI0 fun i j => .int (i - j)) fSub := o_I
def fLt : D → D → Option D := fIB fun i j => decide (i < j)
def fLe : D → D → Option D := fIB fun i j => decide (i ≤ j)
def fGt : D → D → Option D := fIB fun i j => decide (j < i)
def fGe : D → D → Option D := fIB fun i j => decide (j ≤ i)
theorem o_ltA : Op2 G W (rI0 fun i j => .bl (decide (i < j))) fLt := o_IB
theorem o_leA : Op2 G W (rI0 fun i j => .bl (decide (i ≤ j))) fLe := o_IB
theorem o_gtA : Op2 G W (rI0 fun i j => .bl (decide (j < i))) fGt := o_IB
theorem o_geA : Op2 G W (rI0 fun i j => .bl (decide (j ≤ i))) fGe := o_IB
def fIx : D → D → Option D := fun x y => (fIxL x y).orElse fun _ => fIxT x y
theorem ix_A : IxR X (fun x y H Q => rIxL X.K x y H Q ∨ rIxT X.K x y H Q) := ixOr ix_list ix_tup
theorem o_ixA : Op2 G W (fun x y H Q => rIxL G.K x y H Q ∨ rIxT G.K x y H Q) fIx := .or o_ixL o_ixT
theorem tk0 : Takes X W0 := L2.takes0
/-! ### callees -/
structure Callee (P : Program) (w : World) (K : Frag) (mg : Str → Option Value) (base : Heap) (k : Nat) (x : Str) (ps : List Str) (G : Gc) (F : Env → FR) : Prop where
  ex : ∃ f fd, FnOk P w K mg base (L2.CX P w) k f fd ps (spF G F) ∧ mg x = some (.ref f) ∧ keepIn K (.ref f) = true ∧ Binds K fd ps []
section
variable {k j : Nat} {ps : List Str} {F : Env → FR} {x : Str} {p pos : Pos} {e : Expr} {es : List Expr} {ms : M (List Arg)}
theorem d_cal (tk : Takes X W) (C : Callee X.prog X.w X.K X.mg X.base k x ps G F) (hr : Room j X.A) (hj : k ≤ j) (hg : Gl X x)
    (ha : PA X (e :: es) (liftA G W ms)) (hdb : (x == ("__debug__" : Str)) = false := by decide) (he : starEach (e :: es) X.env = (false, eval e X.env) :: starEach es X.env := by rfl) (hpl : (backTo pos (starEach es X.env)).any (·.1) = false := by rfl) :
    PE X (.Call (.Name x p) (e :: es) [] pos) (lift G W (mCall F ms)) := by
  obtain ⟨f, fd, h1, h2, h3, h4⟩ := C.ex
  exact d_call tk h1 (hr.mono hj) hg h2 h3 h4 ha hdb he hpl
theorem o_cal (tk : Takes X W) (C : Callee X.prog X.w X.K X.mg X.base k x ps G F) (hr : Room j X.A) (hj : k ≤ j) (hg : Gl X x)
    (ha : PA X (e :: es) (liftA G W ms)) (hdb : (x == ("__debug__" : Str)) = false := by decide) (he : starEach (e :: es) X.env = (false, eval e X.env) :: starEach es X.env := by rfl) (hpl : (backTo pos (starEach es X.env)).any (·.1) = false := by rfl) :
    PE X (.Call (.Name x p) (e :: es) [] pos) (liftO G W (mCallO F ms)) := by
  obtain ⟨f, fd, h1, h2, h3, h4⟩ := C.ex
  exact o_call tk h1 (hr.mono hj) hg h2 h3 h4 ha hdb he hpl
end
/-- a def of the text that is called by name -/
theorem callee_of {P : Program} {w : World} {K : Frag} {mg : Str → Option Value} {base : Heap} {T : Tx} {N ps : List Str} {k : Nat} {x : Str} {st : Stmt} {mb : M Fl} {I : List Nat} (h : T.Ok P K) (hd : (⟨(x, none), x, x, defArgs st, defBody st, defScope st⟩ : He.FnD) ∈ T.fns) (hmg : mg x = some (.ref (He.ga K x)))
    (S : FnScope N ps (defScope st)) (hI : ∀ i ∈ I, i < ps.length)
    (hb : ∀ (kV doc pm : Value) (an : Option Addr) (cdv ct : Value) (us : List Value), us.length = ps.length → bindArgs (PySem.W.fnOf x x (defArgs st) (defBody st) (defScope st) .none kV doc pm an cdv ct) ⟨us, []⟩ = pure (ps.zip us))
    (hbody : ∀ (f : Addr) (cdv : Value) (A : Around) (outer : List PySem.Env) (s : Shared) (H : Hp) (E : XK), Room k (A.deeper (PyProof.Rows.envOfC x (defScope st) s.heap.objs.size f cdv)) →
      PSs (cxOf (L2.CX P w) P w K mg base N x (defScope st) f cdv A outer s H E) (defBody st) (liftS (T.gc K) (fun c d _ H => E c d H) I mb)) :
    Callee P w K mg base (k + 1) x ps (T.gc K) (runF I ps.length N.length mb) := by
  obtain ⟨⟨oc, od, osl, kV, doc, pm, an, cdv, ct, lk, hcd⟩, kp⟩ := h.fn _ hd
  refine ⟨He.ga K x, _, fn_ok (G := T.gc K) (x := x) (F := ⟨⟨oc, od, kV, doc, pm, an, cdv, ct, osl, rfl, lk, hcd⟩, kp⟩) S hI fun cdv A outer s H E hr => hbody _ cdv A outer s H E hr, hmg, kp, .all (hb kV doc pm an cdv ct)⟩
/-! ### exceptions that are made -/
structure XMk (P : Program) (w : World) (K : Frag) (mg : Str → Option Value) (base : Heap) (k : Nat) (x prm fld : Str) (C : Addr) : Prop where
  ex : ∃ fI fd, OexC K C ∧ findIn K (.ref C) "__init__" = some (some (.ref fI)) ∧ typeIn K (.ref fI) = some (.type "function") ∧ FnOk P w K mg base (L2.CX P w) k fI fd ["self", prm] (spInit K C fld) ∧ Binds K fd ["self", prm] [] ∧
    (∀ (a : Addr) (u : Value) (s' : Shared), K.In s'.heap → BindsTo s' fd ⟨[.ref a], [(prm, u)]⟩ ((["self", prm] : List Str).zip [.ref a, u])) ∧ mg x = some (.ref C)
section
variable {k j c : Nat} {x prm fld : Str} {p pos pos2 kpos : Pos} {e : Expr} {m : M D}
theorem d_mk (M1 : XMk X.prog X.w X.K X.mg X.base k x prm fld (G.cl c)) (hr : Room j X.A) (hj : k + 1 ≤ j) (hg : Gl X x) (he : PE X e (lift G W m))
    (hs : starEach [e] X.env = (false, eval e X.env) :: starEach [] X.env := by rfl) (hdb : (x == ("__debug__" : Str)) = false := by decide) : PE X (.Call (.Name x p) [e] [] pos) (lift G W (mX1 c fld m)) := by
  obtain ⟨fI, fd, h1, h2, h3, h4, h5, h6, h7⟩ := M1.ex
  exact d_x1 h1 h2 h3 h4 (hr.mono hj) passL h5 hg h7 he hs hdb
theorem d_mkk (M1 : XMk X.prog X.w X.K X.mg X.base k x prm fld (G.cl c)) (hr : Room j X.A) (hj : k + 1 ≤ j) (hg : Gl X x) (he : PE X e (lift G W m))
    (hall : (backToKw pos (keywordEach [⟨some prm, e, kpos⟩] X.env)).all (·.1.isSome) = true := by rfl) (hks : (backToKw pos (keywordEach [⟨some prm, e, kpos⟩] X.env)).filterMap (·.1) = [prm] := by rfl)
    (hpl : ((backTo pos (starEach [] X.env)).any (·.1) || (backToKw pos (keywordEach [⟨some prm, e, kpos⟩] X.env)).any (·.1.isNone)) = false := by rfl) (hdb : (x == ("__debug__" : Str)) = false := by decide) :
    PE X (.Call (.Name x p) [] [⟨some prm, e, kpos⟩] pos) (lift G W (mX1 c fld m)) := by
  obtain ⟨fI, fd, h1, h2, h3, h4, h5, h6, h7⟩ := M1.ex
  exact d_xk h1 h2 h3 h4 (hr.mono hj) passL h6 hg h7 he hall hks hpl hdb
theorem s_rz (hc : X.calm = true) (tk : Takes X W) (M1 : XMk X.prog X.w X.K X.mg X.base k x prm fld (G.cl c)) (hr : Room j X.A) (hj : k + 1 ≤ j) (hg : Gl X x) (he : PE X e (lift G W m))
    (hdb : (x == ("__debug__" : Str)) = false := by decide) (hs : starEach [e] X.env = (false, eval e X.env) :: starEach [] X.env := by rfl) : PS X (.Raise (some (.Call (.Name x p) [e] [] pos)) none pos2) (liftS G W I (sX1 c fld m)) := by
  obtain ⟨fI, fd, h1, h2, h3, h4, h5, h6, h7⟩ := M1.ex
  exact s_raise1 hc tk h1 h2 h3 h4 (hr.mono hj) passL h5 hg h7 he hdb hs
theorem d_mk0 {T : Tx} {P : Program} (h : T.Ok P X.K) (hp : c ∈ T.plain) (hc : c < T.names.length) (gC : X.mg x = some (.ref (T.cl X.K c))) (hg : Gl X x) (he : PE X e (lift (T.gc X.K) W m))
    (hs : starEach [e] X.env = (false, eval e X.env) :: starEach [] X.env := by rfl) (hdb : (x == ("__debug__" : Str)) = false := by decide) : PE X (.Call (.Name x p) [e] [] pos) (lift (T.gc X.K) W (mX0 c m)) :=
  d_x0 (G := T.gc X.K) PySem.F.excBase_ValueError (h.pl c hp) gC (h.xc c hc).kp hg he hs hdb
end
theorem call_line {txt name : Str} {j : Nat} {o : Expr} {apos p3 pos : Pos} {env : PySem.Env} (hl : (apos.endLine == pos.line) = true) :
    eval (.Call (.Attribute o name apos) [.Constant (.str txt) j p3] [] pos) env = (do
      let ov ← attributeBase o name env (eval o env)
      standAt apos.atName
      let (f', first) ← holding [ov] (getMethod ov name (plainOf o env))
      callWith pos f' first (backTo pos (starEach [.Constant (.str txt) j p3] env)) []) := by
  have e1 : eval (.Call (.Attribute o name apos) [.Constant (.str txt) j p3] [] pos) env = (do
      let ov ← attributeBase o name env (eval o env)
      standAt apos.atName
      methodCall o name apos pos env ov 1 (backTo pos (starEach [.Constant (.str txt) j p3] env)) (backToKw pos (keywordEach [] env))) := by
    exact arm_eval_Call o name apos [.Constant (.str txt) j p3] [] pos env
  rw [e1]
  have e2 : ∀ ov, methodCall o name apos pos env ov 1 (backTo pos (starEach [.Constant (.str txt) j p3] env)) (backToKw pos (keywordEach [] env)) = (do
      let (f', first) ← holding [ov] (getMethod ov name (plainOf o env))
      callWith pos f' first (backTo pos (starEach [.Constant (.str txt) j p3] env)) (backToKw pos (keywordEach [] env))) := fun ov => mcall_line (by rfl) hl
  simp only [e2]
  rfl
/-- the __init__ of such a class keeps its promise -/
theorem xmk_of {P : Program} {w : World} {K : Frag} {mg : Str → Option Value} {base : Heap} {T : Tx} {d : XD} {x txt : Str} {ar : PySem.Arg} {j : Nat} {p0 p1 p2 p3 p4 p5 q0 q1 q2 q3 : Pos} (h : T.Ok P K) (hd : d ∈ T.xs) (hn : d.c < T.names.length) (hmg : mg x = some (.ref (T.cl K d.c)))
    (hbody : defBody d.st = xBody txt d.prm d.fld j p0 p1 p2 p3 p4 p5 q0 q1 q2 q3) (hsm : mg "super" = none) (htop : (P.main.scope.names.lookup ("super" : Str)).isSome = false)
    (S : NdefX.NScope ["self", d.prm, "__class__"] ["self", d.prm] ["__class__"] (defScope d.st)) (hks : (defScope d.st).names.lookup ("super" : Str) = some .globalImplicit)
    (hp : ((defArgs d.st).posonlyargs ++ (defArgs d.st).args).head? = some ar) (har : ar.arg = "self") (hne : ("self" : Str) ≠ d.prm) (hpd : (d.prm == ("__debug__" : Str)) = false) (hpc : (d.prm == ("__classdict__" : Str)) = false)
    (hline : (p2.endLine == p4.line) = true)
    (hin : ∀ (f cda cc L : Addr), interactive (PySem.W.envX d.qual (defScope d.st) L f (.ref cda) [("__class__", cc)]) = false)
    (hst : ∀ (f cda cc L : Addr), swapsWith (.Name d.prm q2) (some (.Attribute (.Name "self" q0) d.fld q1)) q3.line (PySem.W.envX d.qual (defScope d.st) L f (.ref cda) [("__class__", cc)]) = pure false)
    (hb : ∀ (kV doc pm : Value) (an : Option Addr) (cdv ct : Value) (cc : Addr) (us : List Value), us.length = 2 → bindArgs (PySem.W.ksFn "__init__" d.qual (defArgs d.st) (defBody d.st) (defScope d.st) .none kV doc pm an cdv ct cc) ⟨us, []⟩ = pure ((["self", d.prm] : List Str).zip us))
    (hbk : ∀ (kV doc pm : Value) (an : Option Addr) (cdv ct : Value) (cc : Addr) (a u : Value), bindArgs (PySem.W.ksFn "__init__" d.qual (defArgs d.st) (defBody d.st) (defScope d.st) .none kV doc pm an cdv ct cc) ⟨[a], [(d.prm, u)]⟩ = pure ((["self", d.prm] : List Str).zip [a, u])) :
    XMk P w K mg base 1 x d.prm d.fld (T.cl K d.c) := by
  have D := h.xd d hd hn
  obtain ⟨oc, od, kV, doc, pm, an, cda, cc, ct, osl, vs5, file, tf, cl5, clc, d5, dc, sl5, slc, lk, hcd, hcode, hvs, hfile, hcell⟩ := D.fn.ex
  have lk2 := lk
  rw [hbody] at lk2
  have F1 := xinit_fn (w := w) (mg := mg) (base := base) (k := 0) D.xc lk2 hcd hcode hvs hfile hcell D.no hsm htop S hks hp har hne hpd hpc (fun L => ⟨_, call_line hline⟩) (hin _ _ _) (hst _ _ _)
  rw [← hbody] at F1
  exact ⟨_, _, D.xc.oex, D.iC, D.tI, F1, .all fun us hl => hb kV doc pm an _ ct cc us hl, fun a u s' _ => .of_eq (hbk kV doc pm an _ ct cc (.ref a) u), hmg⟩
/-- name = [comprehension] on one line -/
theorem s_setLc {st : Stmt} {i : Nat} {own : List Nat} {wi : TI} {g : TG} {gb : D → Env → Option Env} {tt : TT} {mi : M (List D)} {mt : M Bool} {me : M D} (hi : I.contains i = false) (hs : Src G W wi mi) (hgt : TgtO G own g gb) (htt : TstOk G tt mt)
    (h : PS X st (tAsg (tLc wi g tt (lift G W0 me) own) (gName i))) : PS X st (liftS G W I (sAsgO i (mLc own gb mi mt me))) :=
  s_asgO hi (PS_imp h fun E σ H q => lc_run hs hgt htt q)
/-- which class has which field -/
def Tx.fok (T : Tx) (c : Nat) (n : Str) : Bool := T.xs.any fun d => d.c == c && (d.fld == n && decide (d.c < T.names.length))
theorem Tx.Ok.fok {T : Tx} {P : Program} {K : Frag} (h : T.Ok P K) {n : Str} : ∀ c, T.fok c n = true → XfC K ((T.gc K).cl c) ∧ findIn K (.ref ((T.gc K).cl c)) n = some none := fun c e => by
  obtain ⟨d, hd, e⟩ := List.any_eq_true.mp e
  obtain ⟨e1, e⟩ := He.ba e
  obtain ⟨e2, e3⟩ := He.ba e
  have e1 : d.c = c := by simpa using e1
  have e2 : d.fld = n := by simpa using e2
  subst e1 e2
  have hn := of_decide_eq_true e3
  exact ⟨(h.xc _ hn).xf, (h.xd d hd hn).no⟩
theorem Tx.Ok.clF {T : Tx} {P : Program} {K : Frag} {is : Tn → Tn → Option Bool} (h : T.Ok P K) (hm : ∀ t c b, is t c = some b → (t, c, b) ∈ T.isT) : ClF (T.gc K) is (fun n => decide (n < T.names.length)) (fun _ => false) where
  kit := fun t c b e => h.is _ (hm t c b e)
  exc := fun n e => (h.xc n (of_decide_eq_true e)).exc
  ins := fun n e => nomatch e
  sp := He.eqO_ok (He.ba h.sp).1
  tk := of_decide_eq_true (He.ba h.sp).2
def exOk (n : Nat) (m : Nat) : Bool := decide (m < n)
end PB
set_option maxRecDepth 100000
set_option maxHeartbeats 4000000
namespace PB.Lk00
open PySem PySem.Spec PyProof.Rows L2 PB
open PySem.W (Frag keepIn)
theorem hu1 {k : Nat} {A : Around} (r : Room k A) : A.units + 1 < cLine := by have := r.units; omega
/-! ### the text -/
def top (i : Nat) : Stmt := PySem.Challenge.pw_playsalike_k00_errors_of_all_parts.main.body.getD i (.Pass ⟨0, 0, 0, 0⟩)
def clsB (s : Stmt) : List Stmt := match s with
  | .ClassDef (body := b) .. => b
  | _ => []
def initOf (i : Nat) : Stmt := (clsB (top i)).getD 0 (.Pass ⟨0, 0, 0, 0⟩)
abbrev s_law_begun : Stmt := top 41
abbrev s_law_mixed : Stmt := top 42
abbrev s_law_take : Stmt := top 43
abbrev s_law_pick : Stmt := top 44
abbrev s_law_any : Stmt := top 45
abbrev s_law_kinds : Stmt := top 46
abbrev s_law_plain_errors : Stmt := top 47
abbrev s_law_errors_of : Stmt := top 48
abbrev s_law : Stmt := top 49
def fnD (x : Str) (i : Nat) : He.FnD := ⟨(x, none), x, x, defArgs (top i), defBody (top i), defScope (top i)⟩
def xD (c : Nat) (q p f : Str) (i : Nat) : XD := ⟨c, q, p, f, initOf i⟩
def clsNames : List Str := ((["PlayError", "BadNumber", "BadSort", "BadTerm", "BadPiece", "TooMany", "BadPlaces", "BadBoxes", "BadStarts", "BadBook", "BadWord", "BadEdit", "NotLet", "BadLot", "BadQuestion", "BadDeed", "BadBench", "BadLine", "BadMachine", "BadLetters", "BadLetter", "BadRow", "BadNames", "BadRule", "BadPlace", "BadRules", "BadLog", "BadMove", "BadDigits", "BadGivings"] : List Str) ++ (["BadHouse", "BadBytes", "BadScribe", "BadClaims", "BadText", "BadWords", "BadAround", "BadPlay", "BadPieces"] : List Str))
def fnDs : List He.FnD := [fnD "_law_begun" 41, fnD "_law_mixed" 42, fnD "_law_take" 43, fnD "_law_pick" 44, fnD "_law_any" 45, fnD "_law_kinds" 46, fnD "_law_plain_errors" 47, fnD "_law_errors_of" 48, fnD "law" 49]
def xDs : List XD := [xD 1 "BadNumber.__init__" "part" "part" 2, xD 3 "BadTerm.__init__" "at" "at" 4, xD 4 "BadPiece.__init__" "part" "part" 5, xD 5 "TooMany.__init__" "most" "most" 6, xD 9 "BadBook.__init__" "part" "part" 10, xD 12 "NotLet.__init__" "why" "why" 13, xD 17 "BadLine.__init__" "number" "number" 18, xD 18 "BadMachine.__init__" "part" "part" 19, xD 23 "BadRule.__init__" "part" "part" 24, xD 26 "BadLog.__init__" "at" "at" 27, xD 34 "BadText.__init__" "at" "at" 35, xD 36 "BadAround.__init__" "part" "part" 37]
def plainC : List Nat := [0, 2, 6, 7, 8, 10, 11, 13, 14, 15, 16, 19, 20, 21, 22, 24, 25, 27, 28, 29, 30, 31, 32, 33, 35, 37, 38]
def freeN : List Str := ["isinstance", "len", "int", "abs", "range", "enumerate", "repr", "super", "ValueError"]
def gloN : List Str := ((["_law_begun", "_law_mixed", "_law_take", "_law_pick", "_law_any", "_law_kinds", "_law_plain_errors", "_law_errors_of", "law", "PlayError", "BadNumber", "BadSort", "BadTerm", "BadPiece", "TooMany", "BadPlaces", "BadBoxes", "BadStarts", "BadBook", "BadWord", "BadEdit", "NotLet", "BadLot", "BadQuestion", "BadDeed", "BadBench", "BadLine", "BadMachine", "BadLetters", "BadLetter"] : List Str) ++ (["BadRow", "BadNames", "BadRule", "BadPlace", "BadRules", "BadLog", "BadMove", "BadDigits", "BadGivings", "BadHouse", "BadBytes", "BadScribe", "BadClaims", "BadText", "BadWords", "BadAround", "BadPlay", "BadPieces"] : List Str))
/-- who is whose: c of class c, of PlayError (0) -/
def isX (c d : Nat) : Bool := c == d || d == 0
def exN : List Nat := List.range 39
def isTab : List (Tn × Tn × Bool) := exN.flatMap (fun c => exN.map fun d => (.inl c, .inl d, isX c d)) ++ exN.map (fun c => (.inl c, .inr "ValueError", true))
def tx : Tx := ⟨"/claim/cut.py", clsNames, gloN, freeN, fnDs, xDs, plainC, isTab⟩
def looseN : List Str := ((["_law_begun", "_law_mixed", "_law_take", "_law_pick", "_law_any", "_law_kinds", "_law_plain_errors", "_law_errors_of", "PlayError", "BadNumber", "BadSort", "BadTerm", "BadPiece", "TooMany", "BadPlaces", "BadBoxes", "BadStarts", "BadBook", "BadWord", "BadEdit", "NotLet", "BadLot", "BadQuestion", "BadDeed", "BadBench", "BadLine", "BadMachine", "BadLetters", "BadLetter", "BadRow"] : List Str) ++ (["BadNames", "BadRule", "BadPlace", "BadRules", "BadLog", "BadMove", "BadDigits", "BadGivings", "BadHouse", "BadBytes", "BadScribe", "BadClaims", "BadText", "BadWords", "BadAround", "BadPlay", "BadPieces"] : List Str))
/-! ### what stands behind the top -/
abbrev PW : Program := PySem.Challenge.pw_playsalike_k00_errors_of_all_parts
structure H0 (w : World) (K : Frag) (mg : Str → Option Value) (base : Heap) : Prop where
  ok : tx.Ok PW K
  gl : ∀ x ∈ gloN, mg x = some (.ref (He.ga K x))
  fr : ∀ x ∈ freeN, mg x = none
section
variable {w : World} {K : Frag} {mg : Str → Option Value} {base : Heap}
theorem H0.g_PlayError (h : H0 w K mg base) : mg "PlayError" = some (.ref (tx.cl K 0)) := h.gl "PlayError" (List.mem_of_getElem? (i := 9) rfl)
theorem H0.g_BadNumber (h : H0 w K mg base) : mg "BadNumber" = some (.ref (tx.cl K 1)) := h.gl "BadNumber" (List.mem_of_getElem? (i := 10) rfl)
theorem H0.g_BadSort (h : H0 w K mg base) : mg "BadSort" = some (.ref (tx.cl K 2)) := h.gl "BadSort" (List.mem_of_getElem? (i := 11) rfl)
theorem H0.g_BadTerm (h : H0 w K mg base) : mg "BadTerm" = some (.ref (tx.cl K 3)) := h.gl "BadTerm" (List.mem_of_getElem? (i := 12) rfl)
theorem H0.g_BadPiece (h : H0 w K mg base) : mg "BadPiece" = some (.ref (tx.cl K 4)) := h.gl "BadPiece" (List.mem_of_getElem? (i := 13) rfl)
theorem H0.g_TooMany (h : H0 w K mg base) : mg "TooMany" = some (.ref (tx.cl K 5)) := h.gl "TooMany" (List.mem_of_getElem? (i := 14) rfl)
theorem H0.g_BadPlaces (h : H0 w K mg base) : mg "BadPlaces" = some (.ref (tx.cl K 6)) := h.gl "BadPlaces" (List.mem_of_getElem? (i := 15) rfl)
theorem H0.g_BadBoxes (h : H0 w K mg base) : mg "BadBoxes" = some (.ref (tx.cl K 7)) := h.gl "BadBoxes" (List.mem_of_getElem? (i := 16) rfl)
theorem H0.g_BadStarts (h : H0 w K mg base) : mg "BadStarts" = some (.ref (tx.cl K 8)) := h.gl "BadStarts" (List.mem_of_getElem? (i := 17) rfl)
theorem H0.g_BadBook (h : H0 w K mg base) : mg "BadBook" = some (.ref (tx.cl K 9)) := h.gl "BadBook" (List.mem_of_getElem? (i := 18) rfl)
theorem H0.g_BadWord (h : H0 w K mg base) : mg "BadWord" = some (.ref (tx.cl K 10)) := h.gl "BadWord" (List.mem_of_getElem? (i := 19) rfl)
theorem H0.g_BadEdit (h : H0 w K mg base) : mg "BadEdit" = some (.ref (tx.cl K 11)) := h.gl "BadEdit" (List.mem_of_getElem? (i := 20) rfl)
theorem H0.g_NotLet (h : H0 w K mg base) : mg "NotLet" = some (.ref (tx.cl K 12)) := h.gl "NotLet" (List.mem_of_getElem? (i := 21) rfl)
theorem H0.g_BadLot (h : H0 w K mg base) : mg "BadLot" = some (.ref (tx.cl K 13)) := h.gl "BadLot" (List.mem_of_getElem? (i := 22) rfl)
theorem H0.g_BadQuestion (h : H0 w K mg base) : mg "BadQuestion" = some (.ref (tx.cl K 14)) := h.gl "BadQuestion" (List.mem_of_getElem? (i := 23) rfl)
theorem H0.g_BadDeed (h : H0 w K mg base) : mg "BadDeed" = some (.ref (tx.cl K 15)) := h.gl "BadDeed" (List.mem_of_getElem? (i := 24) rfl)
theorem H0.g_BadBench (h : H0 w K mg base) : mg "BadBench" = some (.ref (tx.cl K 16)) := h.gl "BadBench" (List.mem_of_getElem? (i := 25) rfl)
theorem H0.g_BadLine (h : H0 w K mg base) : mg "BadLine" = some (.ref (tx.cl K 17)) := h.gl "BadLine" (List.mem_of_getElem? (i := 26) rfl)
theorem H0.g_BadMachine (h : H0 w K mg base) : mg "BadMachine" = some (.ref (tx.cl K 18)) := h.gl "BadMachine" (List.mem_of_getElem? (i := 27) rfl)
theorem H0.g_BadLetters (h : H0 w K mg base) : mg "BadLetters" = some (.ref (tx.cl K 19)) := h.gl "BadLetters" (List.mem_of_getElem? (i := 28) rfl)
theorem H0.g_BadLetter (h : H0 w K mg base) : mg "BadLetter" = some (.ref (tx.cl K 20)) := h.gl "BadLetter" (List.mem_of_getElem? (i := 29) rfl)
theorem H0.g_BadRow (h : H0 w K mg base) : mg "BadRow" = some (.ref (tx.cl K 21)) := h.gl "BadRow" (List.mem_of_getElem? (i := 30) rfl)
theorem H0.g_BadNames (h : H0 w K mg base) : mg "BadNames" = some (.ref (tx.cl K 22)) := h.gl "BadNames" (List.mem_of_getElem? (i := 31) rfl)
theorem H0.g_BadRule (h : H0 w K mg base) : mg "BadRule" = some (.ref (tx.cl K 23)) := h.gl "BadRule" (List.mem_of_getElem? (i := 32) rfl)
theorem H0.g_BadPlace (h : H0 w K mg base) : mg "BadPlace" = some (.ref (tx.cl K 24)) := h.gl "BadPlace" (List.mem_of_getElem? (i := 33) rfl)
theorem H0.g_BadRules (h : H0 w K mg base) : mg "BadRules" = some (.ref (tx.cl K 25)) := h.gl "BadRules" (List.mem_of_getElem? (i := 34) rfl)
theorem H0.g_BadLog (h : H0 w K mg base) : mg "BadLog" = some (.ref (tx.cl K 26)) := h.gl "BadLog" (List.mem_of_getElem? (i := 35) rfl)
theorem H0.g_BadMove (h : H0 w K mg base) : mg "BadMove" = some (.ref (tx.cl K 27)) := h.gl "BadMove" (List.mem_of_getElem? (i := 36) rfl)
theorem H0.g_BadDigits (h : H0 w K mg base) : mg "BadDigits" = some (.ref (tx.cl K 28)) := h.gl "BadDigits" (List.mem_of_getElem? (i := 37) rfl)
theorem H0.g_BadGivings (h : H0 w K mg base) : mg "BadGivings" = some (.ref (tx.cl K 29)) := h.gl "BadGivings" (List.mem_of_getElem? (i := 38) rfl)
theorem H0.g_BadHouse (h : H0 w K mg base) : mg "BadHouse" = some (.ref (tx.cl K 30)) := h.gl "BadHouse" (List.mem_of_getElem? (i := 39) rfl)
theorem H0.g_BadBytes (h : H0 w K mg base) : mg "BadBytes" = some (.ref (tx.cl K 31)) := h.gl "BadBytes" (List.mem_of_getElem? (i := 40) rfl)
theorem H0.g_BadScribe (h : H0 w K mg base) : mg "BadScribe" = some (.ref (tx.cl K 32)) := h.gl "BadScribe" (List.mem_of_getElem? (i := 41) rfl)
theorem H0.g_BadClaims (h : H0 w K mg base) : mg "BadClaims" = some (.ref (tx.cl K 33)) := h.gl "BadClaims" (List.mem_of_getElem? (i := 42) rfl)
theorem H0.g_BadText (h : H0 w K mg base) : mg "BadText" = some (.ref (tx.cl K 34)) := h.gl "BadText" (List.mem_of_getElem? (i := 43) rfl)
theorem H0.g_BadWords (h : H0 w K mg base) : mg "BadWords" = some (.ref (tx.cl K 35)) := h.gl "BadWords" (List.mem_of_getElem? (i := 44) rfl)
theorem H0.g_BadAround (h : H0 w K mg base) : mg "BadAround" = some (.ref (tx.cl K 36)) := h.gl "BadAround" (List.mem_of_getElem? (i := 45) rfl)
theorem H0.g_BadPlay (h : H0 w K mg base) : mg "BadPlay" = some (.ref (tx.cl K 37)) := h.gl "BadPlay" (List.mem_of_getElem? (i := 46) rfl)
theorem H0.g_BadPieces (h : H0 w K mg base) : mg "BadPieces" = some (.ref (tx.cl K 38)) := h.gl "BadPieces" (List.mem_of_getElem? (i := 47) rfl)
theorem H0.f_law_begun_fn (h : H0 w K mg base) : mg "_law_begun" = some (.ref (He.ga K "_law_begun")) := h.gl "_law_begun" (List.mem_of_getElem? (i := 0) rfl)
theorem H0.f_law_mixed_fn (h : H0 w K mg base) : mg "_law_mixed" = some (.ref (He.ga K "_law_mixed")) := h.gl "_law_mixed" (List.mem_of_getElem? (i := 1) rfl)
theorem H0.f_law_take_fn (h : H0 w K mg base) : mg "_law_take" = some (.ref (He.ga K "_law_take")) := h.gl "_law_take" (List.mem_of_getElem? (i := 2) rfl)
theorem H0.f_law_pick_fn (h : H0 w K mg base) : mg "_law_pick" = some (.ref (He.ga K "_law_pick")) := h.gl "_law_pick" (List.mem_of_getElem? (i := 3) rfl)
theorem H0.f_law_any_fn (h : H0 w K mg base) : mg "_law_any" = some (.ref (He.ga K "_law_any")) := h.gl "_law_any" (List.mem_of_getElem? (i := 4) rfl)
theorem H0.f_law_kinds_fn (h : H0 w K mg base) : mg "_law_kinds" = some (.ref (He.ga K "_law_kinds")) := h.gl "_law_kinds" (List.mem_of_getElem? (i := 5) rfl)
theorem H0.f_law_plain_errors_fn (h : H0 w K mg base) : mg "_law_plain_errors" = some (.ref (He.ga K "_law_plain_errors")) := h.gl "_law_plain_errors" (List.mem_of_getElem? (i := 6) rfl)
theorem H0.f_law_errors_of_fn (h : H0 w K mg base) : mg "_law_errors_of" = some (.ref (He.ga K "_law_errors_of")) := h.gl "_law_errors_of" (List.mem_of_getElem? (i := 7) rfl)
theorem H0.f_law_fn (h : H0 w K mg base) : mg "law" = some (.ref (He.ga K "law")) := h.gl "law" (List.mem_of_getElem? (i := 8) rfl)
theorem H0.f_isinstance (h : H0 w K mg base) : mg "isinstance" = none := h.fr "isinstance" (List.mem_of_getElem? (i := 0) rfl)
theorem H0.f_len (h : H0 w K mg base) : mg "len" = none := h.fr "len" (List.mem_of_getElem? (i := 1) rfl)
theorem H0.f_int (h : H0 w K mg base) : mg "int" = none := h.fr "int" (List.mem_of_getElem? (i := 2) rfl)
theorem H0.f_abs (h : H0 w K mg base) : mg "abs" = none := h.fr "abs" (List.mem_of_getElem? (i := 3) rfl)
theorem H0.f_range (h : H0 w K mg base) : mg "range" = none := h.fr "range" (List.mem_of_getElem? (i := 4) rfl)
theorem H0.f_enumerate (h : H0 w K mg base) : mg "enumerate" = none := h.fr "enumerate" (List.mem_of_getElem? (i := 5) rfl)
theorem H0.f_repr (h : H0 w K mg base) : mg "repr" = none := h.fr "repr" (List.mem_of_getElem? (i := 6) rfl)
theorem H0.f_super (h : H0 w K mg base) : mg "super" = none := h.fr "super" (List.mem_of_getElem? (i := 7) rfl)
theorem H0.f_ValueError (h : H0 w K mg base) : mg "ValueError" = none := h.fr "ValueError" (List.mem_of_getElem? (i := 8) rfl)
end
theorem htop : (PW.main.scope.names.lookup ("super" : Str)).isSome = false := by decide +kernel
def isF : Tn → Tn → Option Bool
  | .inl c, .inl d => if c < 39 ∧ d < 39 then some (isX c d) else none
  | .inl c, .inr s => if c < 39 ∧ s = "ValueError" then some true else none
  | _, _ => none
def exF (m : Nat) : Bool := decide (m < tx.names.length)
def inF (_ : Nat) : Bool := false
theorem isF_mem : ∀ t c b, isF t c = some b → (t, c, b) ∈ tx.isT := by
  intro t c b e
  match t, c with
  | .inl c, .inl d =>
    have e : (if c < 39 ∧ d < 39 then some (isX c d) else none) = some b := e
    by_cases hh : c < 39 ∧ d < 39
    · rw [if_pos hh] at e
      cases e
      exact List.mem_append_left _ (List.mem_flatMap.mpr ⟨c, List.mem_range.mpr hh.1, List.mem_map.mpr ⟨d, List.mem_range.mpr hh.2, rfl⟩⟩)
    · rw [if_neg hh] at e; cases e
  | .inl c, .inr s =>
    have e : (if c < 39 ∧ s = "ValueError" then some true else none) = some b := e
    by_cases hh : c < 39 ∧ s = "ValueError"
    · rw [if_pos hh] at e
      cases e
      obtain ⟨h1, rfl⟩ := hh
      exact List.mem_append_right _ (List.mem_map.mpr ⟨c, List.mem_range.mpr h1, rfl⟩)
    · rw [if_neg hh] at e; cases e
  | .inr _, .inl _ => cases e
  | .inr _, .inr _ => cases e
section
variable {w : World} {K : Frag} {mg : Str → Option Value} {base : Heap}
theorem H0.clF (h : H0 w K mg base) : ClF (tx.gc K) isF exF inF := h.ok.clF isF_mem
theorem H0.x_BadNumber (h : H0 w K mg base) : XMk PW w K mg base 1 "BadNumber" "part" "part" ((tx.gc K).cl 1) := xmk_of (d := xD 1 "BadNumber.__init__" "part" "part" 2) h.ok (List.mem_of_getElem? (i := 0) rfl) (by decide) h.g_BadNumber (by rfl) h.f_super htop
  (NdefX.nscope_by (by decide +kernel)) (by rfl) (by rfl) (by rfl) (by decide) (by decide) (by decide) (by rfl) (fun _ _ _ _ => rfl) (fun _ _ _ _ => rfl) (fun _ _ _ _ _ _ _ us hl => match us, hl with | [_, _], _ => rfl) (fun _ _ _ _ _ _ _ _ _ => rfl)
theorem H0.x_BadTerm (h : H0 w K mg base) : XMk PW w K mg base 1 "BadTerm" "at" "at" ((tx.gc K).cl 3) := xmk_of (d := xD 3 "BadTerm.__init__" "at" "at" 4) h.ok (List.mem_of_getElem? (i := 1) rfl) (by decide) h.g_BadTerm (by rfl) h.f_super htop
  (NdefX.nscope_by (by decide +kernel)) (by rfl) (by rfl) (by rfl) (by decide) (by decide) (by decide) (by rfl) (fun _ _ _ _ => rfl) (fun _ _ _ _ => rfl) (fun _ _ _ _ _ _ _ us hl => match us, hl with | [_, _], _ => rfl) (fun _ _ _ _ _ _ _ _ _ => rfl)
theorem H0.x_BadPiece (h : H0 w K mg base) : XMk PW w K mg base 1 "BadPiece" "part" "part" ((tx.gc K).cl 4) := xmk_of (d := xD 4 "BadPiece.__init__" "part" "part" 5) h.ok (List.mem_of_getElem? (i := 2) rfl) (by decide) h.g_BadPiece (by rfl) h.f_super htop
  (NdefX.nscope_by (by decide +kernel)) (by rfl) (by rfl) (by rfl) (by decide) (by decide) (by decide) (by rfl) (fun _ _ _ _ => rfl) (fun _ _ _ _ => rfl) (fun _ _ _ _ _ _ _ us hl => match us, hl with | [_, _], _ => rfl) (fun _ _ _ _ _ _ _ _ _ => rfl)
theorem H0.x_TooMany (h : H0 w K mg base) : XMk PW w K mg base 1 "TooMany" "most" "most" ((tx.gc K).cl 5) := xmk_of (d := xD 5 "TooMany.__init__" "most" "most" 6) h.ok (List.mem_of_getElem? (i := 3) rfl) (by decide) h.g_TooMany (by rfl) h.f_super htop
  (NdefX.nscope_by (by decide +kernel)) (by rfl) (by rfl) (by rfl) (by decide) (by decide) (by decide) (by rfl) (fun _ _ _ _ => rfl) (fun _ _ _ _ => rfl) (fun _ _ _ _ _ _ _ us hl => match us, hl with | [_, _], _ => rfl) (fun _ _ _ _ _ _ _ _ _ => rfl)
theorem H0.x_BadBook (h : H0 w K mg base) : XMk PW w K mg base 1 "BadBook" "part" "part" ((tx.gc K).cl 9) := xmk_of (d := xD 9 "BadBook.__init__" "part" "part" 10) h.ok (List.mem_of_getElem? (i := 4) rfl) (by decide) h.g_BadBook (by rfl) h.f_super htop
  (NdefX.nscope_by (by decide +kernel)) (by rfl) (by rfl) (by rfl) (by decide) (by decide) (by decide) (by rfl) (fun _ _ _ _ => rfl) (fun _ _ _ _ => rfl) (fun _ _ _ _ _ _ _ us hl => match us, hl with | [_, _], _ => rfl) (fun _ _ _ _ _ _ _ _ _ => rfl)
theorem H0.x_NotLet (h : H0 w K mg base) : XMk PW w K mg base 1 "NotLet" "why" "why" ((tx.gc K).cl 12) := xmk_of (d := xD 12 "NotLet.__init__" "why" "why" 13) h.ok (List.mem_of_getElem? (i := 5) rfl) (by decide) h.g_NotLet (by rfl) h.f_super htop
  (NdefX.nscope_by (by decide +kernel)) (by rfl) (by rfl) (by rfl) (by decide) (by decide) (by decide) (by rfl) (fun _ _ _ _ => rfl) (fun _ _ _ _ => rfl) (fun _ _ _ _ _ _ _ us hl => match us, hl with | [_, _], _ => rfl) (fun _ _ _ _ _ _ _ _ _ => rfl)
theorem H0.x_BadLine (h : H0 w K mg base) : XMk PW w K mg base 1 "BadLine" "number" "number" ((tx.gc K).cl 17) := xmk_of (d := xD 17 "BadLine.__init__" "number" "number" 18) h.ok (List.mem_of_getElem? (i := 6) rfl) (by decide) h.g_BadLine (by rfl) h.f_super htop
  (NdefX.nscope_by (by decide +kernel)) (by rfl) (by rfl) (by rfl) (by decide) (by decide) (by decide) (by rfl) (fun _ _ _ _ => rfl) (fun _ _ _ _ => rfl) (fun _ _ _ _ _ _ _ us hl => match us, hl with | [_, _], _ => rfl) (fun _ _ _ _ _ _ _ _ _ => rfl)
theorem H0.x_BadMachine (h : H0 w K mg base) : XMk PW w K mg base 1 "BadMachine" "part" "part" ((tx.gc K).cl 18) := xmk_of (d := xD 18 "BadMachine.__init__" "part" "part" 19) h.ok (List.mem_of_getElem? (i := 7) rfl) (by decide) h.g_BadMachine (by rfl) h.f_super htop
  (NdefX.nscope_by (by decide +kernel)) (by rfl) (by rfl) (by rfl) (by decide) (by decide) (by decide) (by rfl) (fun _ _ _ _ => rfl) (fun _ _ _ _ => rfl) (fun _ _ _ _ _ _ _ us hl => match us, hl with | [_, _], _ => rfl) (fun _ _ _ _ _ _ _ _ _ => rfl)
theorem H0.x_BadRule (h : H0 w K mg base) : XMk PW w K mg base 1 "BadRule" "part" "part" ((tx.gc K).cl 23) := xmk_of (d := xD 23 "BadRule.__init__" "part" "part" 24) h.ok (List.mem_of_getElem? (i := 8) rfl) (by decide) h.g_BadRule (by rfl) h.f_super htop
  (NdefX.nscope_by (by decide +kernel)) (by rfl) (by rfl) (by rfl) (by decide) (by decide) (by decide) (by rfl) (fun _ _ _ _ => rfl) (fun _ _ _ _ => rfl) (fun _ _ _ _ _ _ _ us hl => match us, hl with | [_, _], _ => rfl) (fun _ _ _ _ _ _ _ _ _ => rfl)
theorem H0.x_BadLog (h : H0 w K mg base) : XMk PW w K mg base 1 "BadLog" "at" "at" ((tx.gc K).cl 26) := xmk_of (d := xD 26 "BadLog.__init__" "at" "at" 27) h.ok (List.mem_of_getElem? (i := 9) rfl) (by decide) h.g_BadLog (by rfl) h.f_super htop
  (NdefX.nscope_by (by decide +kernel)) (by rfl) (by rfl) (by rfl) (by decide) (by decide) (by decide) (by rfl) (fun _ _ _ _ => rfl) (fun _ _ _ _ => rfl) (fun _ _ _ _ _ _ _ us hl => match us, hl with | [_, _], _ => rfl) (fun _ _ _ _ _ _ _ _ _ => rfl)
theorem H0.x_BadText (h : H0 w K mg base) : XMk PW w K mg base 1 "BadText" "at" "at" ((tx.gc K).cl 34) := xmk_of (d := xD 34 "BadText.__init__" "at" "at" 35) h.ok (List.mem_of_getElem? (i := 10) rfl) (by decide) h.g_BadText (by rfl) h.f_super htop
  (NdefX.nscope_by (by decide +kernel)) (by rfl) (by rfl) (by rfl) (by decide) (by decide) (by decide) (by rfl) (fun _ _ _ _ => rfl) (fun _ _ _ _ => rfl) (fun _ _ _ _ _ _ _ us hl => match us, hl with | [_, _], _ => rfl) (fun _ _ _ _ _ _ _ _ _ => rfl)
theorem H0.x_BadAround (h : H0 w K mg base) : XMk PW w K mg base 1 "BadAround" "part" "part" ((tx.gc K).cl 36) := xmk_of (d := xD 36 "BadAround.__init__" "part" "part" 37) h.ok (List.mem_of_getElem? (i := 11) rfl) (by decide) h.g_BadAround (by rfl) h.f_super htop
  (NdefX.nscope_by (by decide +kernel)) (by rfl) (by rfl) (by rfl) (by decide) (by decide) (by decide) (by rfl) (fun _ _ _ _ => rfl) (fun _ _ _ _ => rfl) (fun _ _ _ _ _ _ _ us hl => match us, hl with | [_, _], _ => rfl) (fun _ _ _ _ _ _ _ _ _ => rfl)
end
end PB.Lk00
set_option maxRecDepth 100000
set_option maxHeartbeats 4000000
namespace PB.Lk00
open PySem PySem.Spec PyProof.Rows L2 PB
open PySem.W (Frag keepIn)
/-! ### law_begun -/
def N_law_begun : List Str := ["script", "large", "grain"]
theorem sc_law_begun : FnScope N_law_begun ["script"] (defScope s_law_begun) := ⟨rfl, rfl, rfl, by decide +kernel, rfl, by decide +kernel, by decide +kernel⟩
def a_law_begun_0 : M Fl := (sAsgO 1 (mLc [2] (bName 2) (mItems asL (rdV 0)) (mTru (bin2 fGe (mFn fAbs (mCons (rdV 2) mNil)) (bin2 fPowI (rdC (.int 10)) (rdC
    (.int 18))))) (bin2 fSub (mFn fAbs (mCons (rdV 2) mNil)) (bin2 fPowI (rdC (.int 10)) (rdC (.int 18))))))
def a_law_begun_1 : M Fl := (sRetO (mDraw 1 (mLc [2] (bName 2) (mItems asL (rdV 0)) mYes (mFn fAbs (mCons (rdV 2) mNil)))))
def m_law_begun : M Fl := (sSeq a_law_begun_0 a_law_begun_1)
def F_law_begun : Env → FR := runF [] 1 3 m_law_begun
theorem d_law_begun {w : World} {K : Frag} {mg : Str → Option Value} {base : Heap} (h : H0 w K mg base)  : Callee PW w K mg base 1 "_law_begun" ["script"] (tx.gc K) F_law_begun :=
  callee_of (k := 0) (I := []) (N := N_law_begun) (st := s_law_begun) (mb := m_law_begun) h.ok (List.mem_of_getElem? (i := 0) rfl) h.f_law_begun_fn sc_law_begun (by decide) (fun _ _ _ _ _ _ us hl => match us, hl with | [_], _ => rfl) fun f cdv A outer s H E hr => by
  exact (s_cons (s_setLc (i := 1) rfl src_list (c_name rfl) tst_one (ps_setLc rfl sc_law_begun.nd rfl rfl (by rfl) (pi_list (d_var (pv 0))) (blkOk_by (own := [("grain",
    2)]) (by show blkC N_law_begun (defScope s_law_begun) _ _ = true; decide +kernel)) (fun _ _ _ _ _ => (pg_name sc_law_begun.nd (i := 2) rfl
    (by first | exact Or.inl rfl | exact Or.inr rfl))) (fun _ _ _ _ _ => (pts_one (t_cmp op_ge o_geA bl_IB (d_fn call_abs n_abs rfl h.f_abs boot_abs (a_cons
    (d_var (pv 2)) a_nil)) (d_bin op_pow o_powI d_int d_int) (nomark _)))) (fun _ _ _ _ _ => (d_bin op_sub o_subA (d_fn call_abs n_abs rfl h.f_abs boot_abs
    (a_cons (d_var (pv 2)) a_nil)) (d_bin op_pow o_powI d_int d_int))))) (s_one (s_retO (o_draw pe_str pe_str pe_str pe_str (pv 1) pe_int (o_lc rfl
    sc_law_begun.nd src_list (c_name rfl) tst_yes (pi_list (d_var (pv 0))) (blkOk_by (own := [("grain", 2)])
    (by show blkC N_law_begun (defScope s_law_begun) _ _ = true; decide +kernel)) (fun _ _ _ _ _ => (pg_name sc_law_begun.nd (i := 2) rfl
    (by first | exact Or.inl rfl | exact Or.inr rfl))) (fun _ _ _ _ _ => pts_nil) (fun _ _ _ _ _ => (d_fn call_abs n_abs rfl h.f_abs boot_abs (a_cons (d_var (pv
    2)) a_nil)))) pe_int))))
end PB.Lk00
set_option maxRecDepth 100000
set_option maxHeartbeats 4000000
namespace PB.Lk00
open PySem PySem.Spec PyProof.Rows L2 PB
open PySem.W (Frag keepIn)
/-! ### law_mixed -/
def N_law_mixed : List Str := ["draw", "turn", "found", "great", "blend", "grain"]
theorem sc_law_mixed : FnScope N_law_mixed ["draw"] (defScope s_law_mixed) := ⟨rfl, rfl, rfl, by decide +kernel, rfl, by decide +kernel, by decide +kernel⟩
def a_law_mixed_0 : M Fl := (drPutT 0 (bin2 fAdd (drTurn 0) (rdC (.int 1))))
def a_law_mixed_1 : M Fl := (sPar 1 2 (mCons (mFn fInt (mCons (drTurn 0) mNil)) (mCons (rdC (.int 0)) mNil)))
def a_law_mixed_2 : M Fl := (sFor (bName 3) (mItems asL (mLst (mCons (rdC (.int 2147483629)) (mCons (rdC (.int 2147483587)) (mCons (rdC (.int 2147483579))
    mNil))))) (sSeq (sAsg (bName 4) (bin2 fModI (bin2 fAdd (bin2 fMulI (rdV 1) (rdC (.int 69621))) (bin2 fDivI (rdV 3) (rdC (.int 7)))) (rdV 3))) (sSeq (sFor
    (bName 5) (mItems asL (drCells 0)) (sAsg (bName 4) (bin2 fModI (bin2 fAdd (bin2 fMulI (rdV 4) (rdC (.int 48271))) (mFn fInt (mCons (rdV 5) mNil))) (rdV
    3)))) (sAsg (bName 2) (bin2 fAdd (bin2 fMulI (rdV 2) (rdC (.int 2147483647))) (bin2 fModI (bin2 fPowI (rdV 4) (rdC (.int 5))) (rdV 3)))))))
def a_law_mixed_3 : M Fl := (sRet (rdV 2))
def m_law_mixed : M Fl := (sSeq a_law_mixed_0 (sSeq a_law_mixed_1 (sSeq a_law_mixed_2 a_law_mixed_3)))
def F_law_mixed : Env → FR := runF [0] 1 6 m_law_mixed
theorem d_law_mixed {w : World} {K : Frag} {mg : Str → Option Value} {base : Heap} (h : H0 w K mg base)  : Callee PW w K mg base 1 "_law_mixed" ["draw"] (tx.gc K) F_law_mixed :=
  callee_of (k := 0) (I := [0]) (N := N_law_mixed) (st := s_law_mixed) (mb := m_law_mixed) h.ok (List.mem_of_getElem? (i := 1) rfl) h.f_law_mixed_fn sc_law_mixed (by decide) (fun _ _ _ _ _ _ us hl => match us, hl with | [_], _ => rfl) fun f cdv A outer s H E hr => by
  exact (s_cons (s_putT (hu1 hr) (pv 0) pe_str (d_bin op_addA o_addA (d_turn (hu1 hr) (pv 0) pe_str (fun _ _ => rfl)) d_int)) (s_cons (s_par rfl rfl (ps_par rfl
    sc_law_mixed.nd (i := 1) (j := 2) rfl rfl (by decide) rfl rfl (a_cons (d_ty call_int1 n_int rfl h.f_int boot_int (a_cons (d_turn (hu1 hr) (pv 0) pe_str (fun
    _ _ => rfl)) a_nil)) (a_cons d_int a_nil)) (by rfl))) (s_cons (s_for src_list (g_name rfl) (ps_for (passes_of rfl) rfl (pi_list (d_lst (a_cons d_int (a_cons
    d_int (a_cons d_int a_nil))))) (pg_name sc_law_mixed.nd (i := 3) rfl (by first | exact Or.inl rfl | exact Or.inr rfl)) (s_cons (s_asg (g_name (i := 4) rfl)
    (ps_set sc_law_mixed.nd rfl (by first | exact Or.inl rfl | exact Or.inr rfl) (d_bin op_modN o_modI (d_bin op_addA o_addA (d_bin op_mul o_mulI (d_var (pv 1))
    d_int) (d_bin op_fdivN o_divI (d_var (pv 3)) d_int)) (d_var (pv 3))))) (s_cons (s_for src_list (g_name rfl) (ps_for (passes_of rfl) rfl (pi_list (d_cells
    (hu1 hr) (pv 0) pe_str (fun _ _ => rfl))) (pg_name sc_law_mixed.nd (i := 5) rfl (by first | exact Or.inl rfl | exact Or.inr rfl)) (s_one (s_asg (g_name (i
    := 4) rfl) (ps_set sc_law_mixed.nd rfl (by first | exact Or.inl rfl | exact Or.inr rfl) (d_bin op_modN o_modI (d_bin op_addA o_addA (d_bin op_mul o_mulI
    (d_var (pv 4)) d_int) (d_ty call_int1 n_int rfl h.f_int boot_int (a_cons (d_var (pv 5)) a_nil))) (d_var (pv 3)))))))) (s_one (s_asg (g_name (i := 2) rfl)
    (ps_set sc_law_mixed.nd rfl (by first | exact Or.inl rfl | exact Or.inr rfl) (d_bin op_addA o_addA (d_bin op_mul o_mulI (d_var (pv 2)) d_int) (d_bin op_modN
    o_modI (d_bin op_pow o_powI (d_var (pv 4)) d_int) (d_var (pv 3))))))))))) (s_one (s_ret (d_var (pv 2)))))))
end PB.Lk00
set_option maxRecDepth 100000
set_option maxHeartbeats 4000000
namespace PB.Lk00
open PySem PySem.Spec PyProof.Rows L2 PB
open PySem.W (Frag keepIn)
/-! ### law_take -/
def N_law_take : List Str := ["draw", "amount", "found"]
theorem sc_law_take : FnScope N_law_take ["draw", "amount"] (defScope s_law_take) := ⟨rfl, rfl, rfl, by decide +kernel, rfl, by decide +kernel, by decide +kernel⟩
def a_law_take_0 : M Fl := (sIf (mTru (bin2 fEq (drRest 0) (rdC (.int 0)))) (drPutR 0 (mIf (drAny 0) (drPop 0) (mCall F_law_mixed (aS 0 aNil)))) sNx)
def a_law_take_1 : M Fl := (sAsg (bName 2) (bin2 fModI (mFn fInt (mCons (drRest 0) mNil)) (rdV 1)))
def a_law_take_2 : M Fl := (drPutR 0 (bin2 fDivI (mFn fInt (mCons (drRest 0) mNil)) (rdV 1)))
def a_law_take_3 : M Fl := (sRet (rdV 2))
def m_law_take : M Fl := (sSeq a_law_take_0 (sSeq a_law_take_1 (sSeq a_law_take_2 a_law_take_3)))
def F_law_take : Env → FR := runF [0] 2 3 m_law_take
theorem d_law_take {w : World} {K : Frag} {mg : Str → Option Value} {base : Heap} (h : H0 w K mg base) (c_law_mixed : Callee PW w K mg base 1 "_law_mixed" ["draw"] (tx.gc K) F_law_mixed) : Callee PW w K mg base 2 "_law_take" ["draw", "amount"] (tx.gc K) F_law_take :=
  callee_of (k := 1) (I := [0]) (N := N_law_take) (st := s_law_take) (mb := m_law_take) h.ok (List.mem_of_getElem? (i := 2) rfl) h.f_law_take_fn sc_law_take (by decide) (fun _ _ _ _ _ _ us hl => match us, hl with | [_, _], _ => rfl) fun f cdv A outer s H E hr => by
  exact (s_cons (s_if (t_cmp (op_eqD hr.units) o_eq bl_eq (d_rest (hu1 hr) (pv 0) pe_str (fun _ _ => rfl)) d_int (nomark _)) (s_one (s_putR (hu1 hr) (pv 0) pe_str (d_if
    (d_any hr.units (hu1 hr) (pv 0) pe_str (fun _ _ => rfl)) (d_drPop (hu1 hr) (pv 0) pe_str (fun _ _ => rfl) pe_int) (d_cal (takes_of rfl rfl rfl rfl)
    c_law_mixed hr (by decide) rfl (aa_s (pv 0) aa_nil))))) s_nil) (s_cons (s_asg (g_name (i := 2) rfl) (ps_set sc_law_take.nd rfl
    (by first | exact Or.inl rfl | exact Or.inr rfl) (d_bin op_modN o_modI (d_ty call_int1 n_int rfl h.f_int boot_int (a_cons (d_rest (hu1 hr) (pv 0) pe_str
    (fun _ _ => rfl)) a_nil)) (d_var (pv 1))))) (s_cons (s_putR (hu1 hr) (pv 0) pe_str (d_bin op_fdivN o_divI (d_ty call_int1 n_int rfl h.f_int boot_int (a_cons
    (d_rest (hu1 hr) (pv 0) pe_str (fun _ _ => rfl)) a_nil)) (d_var (pv 1)))) (s_one (s_ret (d_var (pv 2)))))))
end PB.Lk00
set_option maxRecDepth 100000
set_option maxHeartbeats 4000000
namespace PB.Lk00
open PySem PySem.Spec PyProof.Rows L2 PB
open PySem.W (Frag keepIn)
/-! ### law_pick -/
def N_law_pick : List Str := ["draw", "some"]
theorem sc_law_pick : FnScope N_law_pick ["draw", "some"] (defScope s_law_pick) := ⟨rfl, rfl, rfl, by decide +kernel, rfl, by decide +kernel, by decide +kernel⟩
def a_law_pick_0 : M Fl := (sRet (bin2 fIx (rdV 1) (mCall F_law_take (aS 0 (aV (mFn fLen (mCons (rdV 1) mNil)) aNil)))))
def m_law_pick : M Fl := a_law_pick_0
def F_law_pick : Env → FR := runF [0] 2 2 m_law_pick
theorem d_law_pick {w : World} {K : Frag} {mg : Str → Option Value} {base : Heap} (h : H0 w K mg base) (c_law_take : Callee PW w K mg base 2 "_law_take" ["draw", "amount"] (tx.gc K) F_law_take) : Callee PW w K mg base 3 "_law_pick" ["draw", "some"] (tx.gc K) F_law_pick :=
  callee_of (k := 2) (I := [0]) (N := N_law_pick) (st := s_law_pick) (mb := m_law_pick) h.ok (List.mem_of_getElem? (i := 3) rfl) h.f_law_pick_fn sc_law_pick (by decide) (fun _ _ _ _ _ _ us hl => match us, hl with | [_, _], _ => rfl) fun f cdv A outer s H E hr => by
  exact (s_one (s_ret (d_ix ix_A o_ixA (d_var (pv 1)) (d_cal (takes_of rfl rfl rfl rfl) c_law_take hr (by decide) rfl (aa_s (pv 0) (aa_v (d_fn call_len n_len rfl
    h.f_len boot_len (a_cons (d_var (pv 1)) a_nil)) aa_nil))) (fun _ _ => rfl))))
end PB.Lk00
set_option maxRecDepth 100000
set_option maxHeartbeats 4000000
namespace PB.Lk00
open PySem PySem.Spec PyProof.Rows L2 PB
open PySem.W (Frag keepIn)
/-! ### law_any -/
def N_law_any : List Str := ["draw", "some"]
theorem sc_law_any : FnScope N_law_any ["draw"] (defScope s_law_any) := ⟨rfl, rfl, rfl, by decide +kernel, rfl, by decide +kernel, by decide +kernel⟩
def a_law_any_0 : M Fl := (sAsg (bName 1) (mLst (mCons (rdC .non) (mCons (rdC (.bl false)) (mCons (m1 fNeg (rdC (.int 5))) (mCons (bin2 fPowI (rdC (.int 10))
    (rdC (.int 45))) (mCons (rdC (.str "")) (mCons (rdC (.str "wide")) (mCons (rdC (.str "two words")) (mCons (mLst mNil) (mCons (mLst (mCons (mTup (mCons (rdC
    (.int 0)) (mCons (rdC (.int 2)) mNil))) mNil)) (mCons (mTup mNil) (mCons (mTup (mCons (rdC (.int 4)) mNil)) (mCons (fun ρ => .ok (.dct [] []) ρ) (mCons
    (mDct [.inr "a"] (mCons (mTup (mCons (rdC (.int 1)) mNil)) mNil)) (mCons (mLst (mCons (mLst (mCons (rdC .non) mNil)) mNil)) mNil))))))))))))))))
def a_law_any_1 : M Fl := (sRet (mCall F_law_pick (aS 0 (aV (rdV 1) aNil))))
def m_law_any : M Fl := (sSeq a_law_any_0 a_law_any_1)
def F_law_any : Env → FR := runF [0] 1 2 m_law_any
theorem d_law_any {w : World} {K : Frag} {mg : Str → Option Value} {base : Heap} (h : H0 w K mg base) (c_law_pick : Callee PW w K mg base 3 "_law_pick" ["draw", "some"] (tx.gc K) F_law_pick) : Callee PW w K mg base 4 "_law_any" ["draw"] (tx.gc K) F_law_any :=
  callee_of (k := 3) (I := [0]) (N := N_law_any) (st := s_law_any) (mb := m_law_any) h.ok (List.mem_of_getElem? (i := 4) rfl) h.f_law_any_fn sc_law_any (by decide) (fun _ _ _ _ _ _ us hl => match us, hl with | [_], _ => rfl) fun f cdv A outer s H E hr => by
  exact (s_cons (s_asg (g_name (i := 1) rfl) (ps_set sc_law_any.nd rfl (by first | exact Or.inl rfl | exact Or.inr rfl) (d_lst (a_cons d_non (a_cons d_bl (a_cons (d_neg
    d_int) (a_cons (d_bin op_pow o_powI d_int d_int) (a_cons d_str (a_cons d_str (a_cons d_str (a_cons (d_lst a_nil) (a_cons (d_lst (a_cons (d_tup (a_cons d_int
    (a_cons d_int a_nil))) a_nil)) (a_cons (d_tup a_nil) (a_cons (d_tup (a_cons d_int a_nil)) (a_cons d_dct0 (a_cons (d_dct (by decide) (by decide) (p_cons (key
    := .inr "a") pe_str (d_tup (a_cons d_int a_nil)) p_nil) rfl rfl (by simp) (by simp)) (a_cons (d_lst (a_cons (d_lst (a_cons d_non a_nil)) a_nil))
    a_nil))))))))))))))))) (s_one (s_ret (d_cal (takes_of rfl rfl rfl rfl) c_law_pick hr (by decide) rfl (aa_s (pv 0) (aa_v (d_var (pv 1)) aa_nil))))))
end PB.Lk00
set_option maxRecDepth 100000
set_option maxHeartbeats 4000000
namespace PB.Lk00
open PySem PySem.Spec PyProof.Rows L2 PB
open PySem.W (Frag keepIn)
/-! ### law_kinds -/
def N_law_kinds : List Str := ["error", "found"]
theorem sc_law_kinds : FnScope N_law_kinds ["error"] (defScope s_law_kinds) := ⟨rfl, rfl, rfl, by decide +kernel, rfl, by decide +kernel, by decide +kernel⟩
def a_law_kinds_0 : M Fl := (sAsg (bName 1) (mLst mNil))
def a_law_kinds_1 : M Fl := (sAsg (bName 1) (bin2 fAdd (rdV 1) (mLst (mCons (mFn (fIsi isF exF inF) (mCons (rdV 0) (mCons (rdC (.at 2)) mNil))) (mCons (mFn
    (fIsi isF exF inF) (mCons (rdV 0) (mCons (rdC (.at 6)) mNil))) (mCons (mFn (fIsi isF exF inF) (mCons (rdV 0) (mCons (rdC (.at 7)) mNil))) mNil))))))
def a_law_kinds_2 : M Fl := (sAsg (bName 1) (bin2 fAdd (rdV 1) (mLst (mCons (mFn (fIsi isF exF inF) (mCons (rdV 0) (mCons (rdC (.at 8)) mNil))) (mCons (mFn
    (fIsi isF exF inF) (mCons (rdV 0) (mCons (rdC (.at 10)) mNil))) (mCons (mFn (fIsi isF exF inF) (mCons (rdV 0) (mCons (rdC (.at 11)) mNil))) mNil))))))
def a_law_kinds_3 : M Fl := (sAsg (bName 1) (bin2 fAdd (rdV 1) (mLst (mCons (mFn (fIsi isF exF inF) (mCons (rdV 0) (mCons (rdC (.at 13)) mNil))) (mCons (mFn
    (fIsi isF exF inF) (mCons (rdV 0) (mCons (rdC (.at 14)) mNil))) (mCons (mFn (fIsi isF exF inF) (mCons (rdV 0) (mCons (rdC (.at 15)) mNil))) mNil))))))
def a_law_kinds_4 : M Fl := (sAsg (bName 1) (bin2 fAdd (rdV 1) (mLst (mCons (mFn (fIsi isF exF inF) (mCons (rdV 0) (mCons (rdC (.at 16)) mNil))) (mCons (mFn
    (fIsi isF exF inF) (mCons (rdV 0) (mCons (rdC (.at 19)) mNil))) (mCons (mFn (fIsi isF exF inF) (mCons (rdV 0) (mCons (rdC (.at 20)) mNil))) mNil))))))
def a_law_kinds_5 : M Fl := (sAsg (bName 1) (bin2 fAdd (rdV 1) (mLst (mCons (mFn (fIsi isF exF inF) (mCons (rdV 0) (mCons (rdC (.at 21)) mNil))) (mCons (mFn
    (fIsi isF exF inF) (mCons (rdV 0) (mCons (rdC (.at 22)) mNil))) (mCons (mFn (fIsi isF exF inF) (mCons (rdV 0) (mCons (rdC (.at 24)) mNil))) mNil))))))
def a_law_kinds_6 : M Fl := (sAsg (bName 1) (bin2 fAdd (rdV 1) (mLst (mCons (mFn (fIsi isF exF inF) (mCons (rdV 0) (mCons (rdC (.at 25)) mNil))) (mCons (mFn
    (fIsi isF exF inF) (mCons (rdV 0) (mCons (rdC (.at 27)) mNil))) (mCons (mFn (fIsi isF exF inF) (mCons (rdV 0) (mCons (rdC (.at 28)) mNil))) mNil))))))
def a_law_kinds_7 : M Fl := (sAsg (bName 1) (bin2 fAdd (rdV 1) (mLst (mCons (mFn (fIsi isF exF inF) (mCons (rdV 0) (mCons (rdC (.at 29)) mNil))) (mCons (mFn
    (fIsi isF exF inF) (mCons (rdV 0) (mCons (rdC (.at 30)) mNil))) (mCons (mFn (fIsi isF exF inF) (mCons (rdV 0) (mCons (rdC (.at 31)) mNil))) mNil))))))
def a_law_kinds_8 : M Fl := (sAsg (bName 1) (bin2 fAdd (rdV 1) (mLst (mCons (mFn (fIsi isF exF inF) (mCons (rdV 0) (mCons (rdC (.at 32)) mNil))) (mCons (mFn
    (fIsi isF exF inF) (mCons (rdV 0) (mCons (rdC (.at 33)) mNil))) (mCons (mFn (fIsi isF exF inF) (mCons (rdV 0) (mCons (rdC (.at 35)) mNil))) mNil))))))
def a_law_kinds_9 : M Fl := (sAsg (bName 1) (bin2 fAdd (rdV 1) (mLst (mCons (mFn (fIsi isF exF inF) (mCons (rdV 0) (mCons (rdC (.at 37)) mNil))) (mCons (mFn
    (fIsi isF exF inF) (mCons (rdV 0) (mCons (rdC (.at 38)) mNil))) (mCons (mFn (fIsi isF exF inF) (mCons (rdV 0) (mCons (rdC (.at 1)) mNil))) mNil))))))
def a_law_kinds_10 : M Fl := (sAsg (bName 1) (bin2 fAdd (rdV 1) (mLst (mCons (mFn (fIsi isF exF inF) (mCons (rdV 0) (mCons (rdC (.at 3)) mNil))) (mCons (mFn
    (fIsi isF exF inF) (mCons (rdV 0) (mCons (rdC (.at 4)) mNil))) (mCons (mFn (fIsi isF exF inF) (mCons (rdV 0) (mCons (rdC (.at 5)) mNil))) mNil))))))
def a_law_kinds_11 : M Fl := (sAsg (bName 1) (bin2 fAdd (rdV 1) (mLst (mCons (mFn (fIsi isF exF inF) (mCons (rdV 0) (mCons (rdC (.at 9)) mNil))) (mCons (mFn
    (fIsi isF exF inF) (mCons (rdV 0) (mCons (rdC (.at 12)) mNil))) (mCons (mFn (fIsi isF exF inF) (mCons (rdV 0) (mCons (rdC (.at 17)) mNil))) mNil))))))
def a_law_kinds_12 : M Fl := (sAsg (bName 1) (bin2 fAdd (rdV 1) (mLst (mCons (mFn (fIsi isF exF inF) (mCons (rdV 0) (mCons (rdC (.at 18)) mNil))) (mCons (mFn
    (fIsi isF exF inF) (mCons (rdV 0) (mCons (rdC (.at 23)) mNil))) (mCons (mFn (fIsi isF exF inF) (mCons (rdV 0) (mCons (rdC (.at 26)) mNil))) mNil))))))
def a_law_kinds_13 : M Fl := (sAsg (bName 1) (bin2 fAdd (rdV 1) (mLst (mCons (mFn (fIsi isF exF inF) (mCons (rdV 0) (mCons (rdC (.at 34)) mNil))) (mCons (mFn
    (fIsi isF exF inF) (mCons (rdV 0) (mCons (rdC (.at 36)) mNil))) mNil)))))
def a_law_kinds_14 : M Fl := (sRet (rdV 1))
def m_law_kinds : M Fl := (sSeq a_law_kinds_0 (sSeq a_law_kinds_1 (sSeq a_law_kinds_2 (sSeq a_law_kinds_3 (sSeq a_law_kinds_4 (sSeq a_law_kinds_5 (sSeq
    a_law_kinds_6 (sSeq a_law_kinds_7 (sSeq a_law_kinds_8 (sSeq a_law_kinds_9 (sSeq a_law_kinds_10 (sSeq a_law_kinds_11 (sSeq a_law_kinds_12 (sSeq
    a_law_kinds_13 a_law_kinds_14))))))))))))))
def F_law_kinds : Env → FR := runF [] 1 2 m_law_kinds
theorem d_law_kinds {w : World} {K : Frag} {mg : Str → Option Value} {base : Heap} (h : H0 w K mg base)  : Callee PW w K mg base 1 "_law_kinds" ["error"] (tx.gc K) F_law_kinds :=
  callee_of (k := 0) (I := []) (N := N_law_kinds) (st := s_law_kinds) (mb := m_law_kinds) h.ok (List.mem_of_getElem? (i := 5) rfl) h.f_law_kinds_fn sc_law_kinds (by decide) (fun _ _ _ _ _ _ us hl => match us, hl with | [_], _ => rfl) fun f cdv A outer s H E hr => by
  exact (s_cons (s_asg (g_name (i := 1) rfl) (ps_set sc_law_kinds.nd rfl (by first | exact Or.inl rfl | exact Or.inr rfl) (d_lst a_nil))) (s_cons (s_asg (g_name (i :=
    1) rfl) (ps_set sc_law_kinds.nd rfl (by first | exact Or.inl rfl | exact Or.inr rfl) (d_bin op_addA o_addA (d_var (pv 1)) (d_lst (a_cons (d_fn (call_isD (is
    := isF)) (n_isi h.clF) rfl h.f_isinstance boot_isinstance (a_cons (d_var (pv 0)) (a_cons (d_const (v := .ref (tx.cl K 2)) (pe_glob rfl h.g_BadSort rfl) fun
    _ _ => rfl) a_nil))) (a_cons (d_fn (call_isD (is := isF)) (n_isi h.clF) rfl h.f_isinstance boot_isinstance (a_cons (d_var (pv 0)) (a_cons (d_const (v :=
    .ref (tx.cl K 6)) (pe_glob rfl h.g_BadPlaces rfl) fun _ _ => rfl) a_nil))) (a_cons (d_fn (call_isD (is := isF)) (n_isi h.clF) rfl h.f_isinstance
    boot_isinstance (a_cons (d_var (pv 0)) (a_cons (d_const (v := .ref (tx.cl K 7)) (pe_glob rfl h.g_BadBoxes rfl) fun _ _ => rfl) a_nil))) a_nil))))))) (s_cons
    (s_asg (g_name (i := 1) rfl) (ps_set sc_law_kinds.nd rfl (by first | exact Or.inl rfl | exact Or.inr rfl) (d_bin op_addA o_addA (d_var (pv 1)) (d_lst
    (a_cons (d_fn (call_isD (is := isF)) (n_isi h.clF) rfl h.f_isinstance boot_isinstance (a_cons (d_var (pv 0)) (a_cons (d_const (v := .ref (tx.cl K 8))
    (pe_glob rfl h.g_BadStarts rfl) fun _ _ => rfl) a_nil))) (a_cons (d_fn (call_isD (is := isF)) (n_isi h.clF) rfl h.f_isinstance boot_isinstance (a_cons
    (d_var (pv 0)) (a_cons (d_const (v := .ref (tx.cl K 10)) (pe_glob rfl h.g_BadWord rfl) fun _ _ => rfl) a_nil))) (a_cons (d_fn (call_isD (is := isF)) (n_isi
    h.clF) rfl h.f_isinstance boot_isinstance (a_cons (d_var (pv 0)) (a_cons (d_const (v := .ref (tx.cl K 11)) (pe_glob rfl h.g_BadEdit rfl) fun _ _ => rfl)
    a_nil))) a_nil))))))) (s_cons (s_asg (g_name (i := 1) rfl) (ps_set sc_law_kinds.nd rfl (by first | exact Or.inl rfl | exact Or.inr rfl) (d_bin op_addA
    o_addA (d_var (pv 1)) (d_lst (a_cons (d_fn (call_isD (is := isF)) (n_isi h.clF) rfl h.f_isinstance boot_isinstance (a_cons (d_var (pv 0)) (a_cons (d_const
    (v := .ref (tx.cl K 13)) (pe_glob rfl h.g_BadLot rfl) fun _ _ => rfl) a_nil))) (a_cons (d_fn (call_isD (is := isF)) (n_isi h.clF) rfl h.f_isinstance
    boot_isinstance (a_cons (d_var (pv 0)) (a_cons (d_const (v := .ref (tx.cl K 14)) (pe_glob rfl h.g_BadQuestion rfl) fun _ _ => rfl) a_nil))) (a_cons (d_fn
    (call_isD (is := isF)) (n_isi h.clF) rfl h.f_isinstance boot_isinstance (a_cons (d_var (pv 0)) (a_cons (d_const (v := .ref (tx.cl K 15)) (pe_glob rfl
    h.g_BadDeed rfl) fun _ _ => rfl) a_nil))) a_nil))))))) (s_cons (s_asg (g_name (i := 1) rfl) (ps_set sc_law_kinds.nd rfl
    (by first | exact Or.inl rfl | exact Or.inr rfl) (d_bin op_addA o_addA (d_var (pv 1)) (d_lst (a_cons (d_fn (call_isD (is := isF)) (n_isi h.clF) rfl
    h.f_isinstance boot_isinstance (a_cons (d_var (pv 0)) (a_cons (d_const (v := .ref (tx.cl K 16)) (pe_glob rfl h.g_BadBench rfl) fun _ _ => rfl) a_nil)))
    (a_cons (d_fn (call_isD (is := isF)) (n_isi h.clF) rfl h.f_isinstance boot_isinstance (a_cons (d_var (pv 0)) (a_cons (d_const (v := .ref (tx.cl K 19))
    (pe_glob rfl h.g_BadLetters rfl) fun _ _ => rfl) a_nil))) (a_cons (d_fn (call_isD (is := isF)) (n_isi h.clF) rfl h.f_isinstance boot_isinstance (a_cons
    (d_var (pv 0)) (a_cons (d_const (v := .ref (tx.cl K 20)) (pe_glob rfl h.g_BadLetter rfl) fun _ _ => rfl) a_nil))) a_nil))))))) (s_cons (s_asg (g_name (i :=
    1) rfl) (ps_set sc_law_kinds.nd rfl (by first | exact Or.inl rfl | exact Or.inr rfl) (d_bin op_addA o_addA (d_var (pv 1)) (d_lst (a_cons (d_fn (call_isD (is
    := isF)) (n_isi h.clF) rfl h.f_isinstance boot_isinstance (a_cons (d_var (pv 0)) (a_cons (d_const (v := .ref (tx.cl K 21)) (pe_glob rfl h.g_BadRow rfl) fun
    _ _ => rfl) a_nil))) (a_cons (d_fn (call_isD (is := isF)) (n_isi h.clF) rfl h.f_isinstance boot_isinstance (a_cons (d_var (pv 0)) (a_cons (d_const (v :=
    .ref (tx.cl K 22)) (pe_glob rfl h.g_BadNames rfl) fun _ _ => rfl) a_nil))) (a_cons (d_fn (call_isD (is := isF)) (n_isi h.clF) rfl h.f_isinstance
    boot_isinstance (a_cons (d_var (pv 0)) (a_cons (d_const (v := .ref (tx.cl K 24)) (pe_glob rfl h.g_BadPlace rfl) fun _ _ => rfl) a_nil))) a_nil)))))))
    (s_cons (s_asg (g_name (i := 1) rfl) (ps_set sc_law_kinds.nd rfl (by first | exact Or.inl rfl | exact Or.inr rfl) (d_bin op_addA o_addA (d_var (pv 1))
    (d_lst (a_cons (d_fn (call_isD (is := isF)) (n_isi h.clF) rfl h.f_isinstance boot_isinstance (a_cons (d_var (pv 0)) (a_cons (d_const (v := .ref (tx.cl K
    25)) (pe_glob rfl h.g_BadRules rfl) fun _ _ => rfl) a_nil))) (a_cons (d_fn (call_isD (is := isF)) (n_isi h.clF) rfl h.f_isinstance boot_isinstance (a_cons
    (d_var (pv 0)) (a_cons (d_const (v := .ref (tx.cl K 27)) (pe_glob rfl h.g_BadMove rfl) fun _ _ => rfl) a_nil))) (a_cons (d_fn (call_isD (is := isF)) (n_isi
    h.clF) rfl h.f_isinstance boot_isinstance (a_cons (d_var (pv 0)) (a_cons (d_const (v := .ref (tx.cl K 28)) (pe_glob rfl h.g_BadDigits rfl) fun _ _ => rfl)
    a_nil))) a_nil))))))) (s_cons (s_asg (g_name (i := 1) rfl) (ps_set sc_law_kinds.nd rfl (by first | exact Or.inl rfl | exact Or.inr rfl) (d_bin op_addA
    o_addA (d_var (pv 1)) (d_lst (a_cons (d_fn (call_isD (is := isF)) (n_isi h.clF) rfl h.f_isinstance boot_isinstance (a_cons (d_var (pv 0)) (a_cons (d_const
    (v := .ref (tx.cl K 29)) (pe_glob rfl h.g_BadGivings rfl) fun _ _ => rfl) a_nil))) (a_cons (d_fn (call_isD (is := isF)) (n_isi h.clF) rfl h.f_isinstance
    boot_isinstance (a_cons (d_var (pv 0)) (a_cons (d_const (v := .ref (tx.cl K 30)) (pe_glob rfl h.g_BadHouse rfl) fun _ _ => rfl) a_nil))) (a_cons (d_fn
    (call_isD (is := isF)) (n_isi h.clF) rfl h.f_isinstance boot_isinstance (a_cons (d_var (pv 0)) (a_cons (d_const (v := .ref (tx.cl K 31)) (pe_glob rfl
    h.g_BadBytes rfl) fun _ _ => rfl) a_nil))) a_nil))))))) (s_cons (s_asg (g_name (i := 1) rfl) (ps_set sc_law_kinds.nd rfl
    (by first | exact Or.inl rfl | exact Or.inr rfl) (d_bin op_addA o_addA (d_var (pv 1)) (d_lst (a_cons (d_fn (call_isD (is := isF)) (n_isi h.clF) rfl
    h.f_isinstance boot_isinstance (a_cons (d_var (pv 0)) (a_cons (d_const (v := .ref (tx.cl K 32)) (pe_glob rfl h.g_BadScribe rfl) fun _ _ => rfl) a_nil)))
    (a_cons (d_fn (call_isD (is := isF)) (n_isi h.clF) rfl h.f_isinstance boot_isinstance (a_cons (d_var (pv 0)) (a_cons (d_const (v := .ref (tx.cl K 33))
    (pe_glob rfl h.g_BadClaims rfl) fun _ _ => rfl) a_nil))) (a_cons (d_fn (call_isD (is := isF)) (n_isi h.clF) rfl h.f_isinstance boot_isinstance (a_cons
    (d_var (pv 0)) (a_cons (d_const (v := .ref (tx.cl K 35)) (pe_glob rfl h.g_BadWords rfl) fun _ _ => rfl) a_nil))) a_nil))))))) (s_cons (s_asg (g_name (i :=
    1) rfl) (ps_set sc_law_kinds.nd rfl (by first | exact Or.inl rfl | exact Or.inr rfl) (d_bin op_addA o_addA (d_var (pv 1)) (d_lst (a_cons (d_fn (call_isD (is
    := isF)) (n_isi h.clF) rfl h.f_isinstance boot_isinstance (a_cons (d_var (pv 0)) (a_cons (d_const (v := .ref (tx.cl K 37)) (pe_glob rfl h.g_BadPlay rfl) fun
    _ _ => rfl) a_nil))) (a_cons (d_fn (call_isD (is := isF)) (n_isi h.clF) rfl h.f_isinstance boot_isinstance (a_cons (d_var (pv 0)) (a_cons (d_const (v :=
    .ref (tx.cl K 38)) (pe_glob rfl h.g_BadPieces rfl) fun _ _ => rfl) a_nil))) (a_cons (d_fn (call_isD (is := isF)) (n_isi h.clF) rfl h.f_isinstance
    boot_isinstance (a_cons (d_var (pv 0)) (a_cons (d_const (v := .ref (tx.cl K 1)) (pe_glob rfl h.g_BadNumber rfl) fun _ _ => rfl) a_nil))) a_nil)))))))
    (s_cons (s_asg (g_name (i := 1) rfl) (ps_set sc_law_kinds.nd rfl (by first | exact Or.inl rfl | exact Or.inr rfl) (d_bin op_addA o_addA (d_var (pv 1))
    (d_lst (a_cons (d_fn (call_isD (is := isF)) (n_isi h.clF) rfl h.f_isinstance boot_isinstance (a_cons (d_var (pv 0)) (a_cons (d_const (v := .ref (tx.cl K 3))
    (pe_glob rfl h.g_BadTerm rfl) fun _ _ => rfl) a_nil))) (a_cons (d_fn (call_isD (is := isF)) (n_isi h.clF) rfl h.f_isinstance boot_isinstance (a_cons (d_var
    (pv 0)) (a_cons (d_const (v := .ref (tx.cl K 4)) (pe_glob rfl h.g_BadPiece rfl) fun _ _ => rfl) a_nil))) (a_cons (d_fn (call_isD (is := isF)) (n_isi h.clF)
    rfl h.f_isinstance boot_isinstance (a_cons (d_var (pv 0)) (a_cons (d_const (v := .ref (tx.cl K 5)) (pe_glob rfl h.g_TooMany rfl) fun _ _ => rfl) a_nil)))
    a_nil))))))) (s_cons (s_asg (g_name (i := 1) rfl) (ps_set sc_law_kinds.nd rfl (by first | exact Or.inl rfl | exact Or.inr rfl) (d_bin op_addA o_addA (d_var
    (pv 1)) (d_lst (a_cons (d_fn (call_isD (is := isF)) (n_isi h.clF) rfl h.f_isinstance boot_isinstance (a_cons (d_var (pv 0)) (a_cons (d_const (v := .ref
    (tx.cl K 9)) (pe_glob rfl h.g_BadBook rfl) fun _ _ => rfl) a_nil))) (a_cons (d_fn (call_isD (is := isF)) (n_isi h.clF) rfl h.f_isinstance boot_isinstance
    (a_cons (d_var (pv 0)) (a_cons (d_const (v := .ref (tx.cl K 12)) (pe_glob rfl h.g_NotLet rfl) fun _ _ => rfl) a_nil))) (a_cons (d_fn (call_isD (is := isF))
    (n_isi h.clF) rfl h.f_isinstance boot_isinstance (a_cons (d_var (pv 0)) (a_cons (d_const (v := .ref (tx.cl K 17)) (pe_glob rfl h.g_BadLine rfl) fun _ _ =>
    rfl) a_nil))) a_nil))))))) (s_cons (s_asg (g_name (i := 1) rfl) (ps_set sc_law_kinds.nd rfl (by first | exact Or.inl rfl | exact Or.inr rfl) (d_bin op_addA
    o_addA (d_var (pv 1)) (d_lst (a_cons (d_fn (call_isD (is := isF)) (n_isi h.clF) rfl h.f_isinstance boot_isinstance (a_cons (d_var (pv 0)) (a_cons (d_const
    (v := .ref (tx.cl K 18)) (pe_glob rfl h.g_BadMachine rfl) fun _ _ => rfl) a_nil))) (a_cons (d_fn (call_isD (is := isF)) (n_isi h.clF) rfl h.f_isinstance
    boot_isinstance (a_cons (d_var (pv 0)) (a_cons (d_const (v := .ref (tx.cl K 23)) (pe_glob rfl h.g_BadRule rfl) fun _ _ => rfl) a_nil))) (a_cons (d_fn
    (call_isD (is := isF)) (n_isi h.clF) rfl h.f_isinstance boot_isinstance (a_cons (d_var (pv 0)) (a_cons (d_const (v := .ref (tx.cl K 26)) (pe_glob rfl
    h.g_BadLog rfl) fun _ _ => rfl) a_nil))) a_nil))))))) (s_cons (s_asg (g_name (i := 1) rfl) (ps_set sc_law_kinds.nd rfl
    (by first | exact Or.inl rfl | exact Or.inr rfl) (d_bin op_addA o_addA (d_var (pv 1)) (d_lst (a_cons (d_fn (call_isD (is := isF)) (n_isi h.clF) rfl
    h.f_isinstance boot_isinstance (a_cons (d_var (pv 0)) (a_cons (d_const (v := .ref (tx.cl K 34)) (pe_glob rfl h.g_BadText rfl) fun _ _ => rfl) a_nil)))
    (a_cons (d_fn (call_isD (is := isF)) (n_isi h.clF) rfl h.f_isinstance boot_isinstance (a_cons (d_var (pv 0)) (a_cons (d_const (v := .ref (tx.cl K 36))
    (pe_glob rfl h.g_BadAround rfl) fun _ _ => rfl) a_nil))) a_nil)))))) (s_one (s_ret (d_var (pv 1))))))))))))))))))
end PB.Lk00
set_option maxRecDepth 100000
set_option maxHeartbeats 4000000
namespace PB.Lk00
open PySem PySem.Spec PyProof.Rows L2 PB
open PySem.W (Frag keepIn)
/-! ### law_plain_errors -/
def N_law_plain_errors : List Str := ["words_here", "found"]
theorem sc_law_plain_errors : FnScope N_law_plain_errors ["words_here"] (defScope s_law_plain_errors) := ⟨rfl, rfl, rfl, by decide +kernel, rfl, by decide +kernel, by decide +kernel⟩
def a_law_plain_errors_0 : M Fl := (sAsg (bName 1) (mLst mNil))
def a_law_plain_errors_1 : M Fl := (sAsg (bName 1) (bin2 fAdd (rdV 1) (mLst (mCons (mX0 2 (rdV 0)) (mCons (mX0 6 (rdV 0)) (mCons (mX0 7 (rdV 0)) (mCons (mX0 8
    (rdV 0)) mNil)))))))
def a_law_plain_errors_2 : M Fl := (sAsg (bName 1) (bin2 fAdd (rdV 1) (mLst (mCons (mX0 10 (rdV 0)) (mCons (mX0 11 (rdV 0)) (mCons (mX0 13 (rdV 0)) (mCons (mX0
    14 (rdV 0)) mNil)))))))
def a_law_plain_errors_3 : M Fl := (sAsg (bName 1) (bin2 fAdd (rdV 1) (mLst (mCons (mX0 15 (rdV 0)) (mCons (mX0 16 (rdV 0)) (mCons (mX0 19 (rdV 0)) (mCons (mX0
    20 (rdV 0)) mNil)))))))
def a_law_plain_errors_4 : M Fl := (sAsg (bName 1) (bin2 fAdd (rdV 1) (mLst (mCons (mX0 21 (rdV 0)) (mCons (mX0 22 (rdV 0)) (mCons (mX0 24 (rdV 0)) (mCons (mX0
    25 (rdV 0)) mNil)))))))
def a_law_plain_errors_5 : M Fl := (sAsg (bName 1) (bin2 fAdd (rdV 1) (mLst (mCons (mX0 27 (rdV 0)) (mCons (mX0 28 (rdV 0)) (mCons (mX0 29 (rdV 0)) (mCons (mX0
    30 (rdV 0)) mNil)))))))
def a_law_plain_errors_6 : M Fl := (sAsg (bName 1) (bin2 fAdd (rdV 1) (mLst (mCons (mX0 31 (rdV 0)) (mCons (mX0 32 (rdV 0)) (mCons (mX0 33 (rdV 0)) (mCons (mX0
    35 (rdV 0)) mNil)))))))
def a_law_plain_errors_7 : M Fl := (sAsg (bName 1) (bin2 fAdd (rdV 1) (mLst (mCons (mX0 37 (rdV 0)) (mCons (mX0 38 (rdV 0)) mNil)))))
def a_law_plain_errors_8 : M Fl := (sRet (rdV 1))
def m_law_plain_errors : M Fl := (sSeq a_law_plain_errors_0 (sSeq a_law_plain_errors_1 (sSeq a_law_plain_errors_2 (sSeq a_law_plain_errors_3 (sSeq
    a_law_plain_errors_4 (sSeq a_law_plain_errors_5 (sSeq a_law_plain_errors_6 (sSeq a_law_plain_errors_7 a_law_plain_errors_8))))))))
def F_law_plain_errors : Env → FR := runF [] 1 2 m_law_plain_errors
theorem d_law_plain_errors {w : World} {K : Frag} {mg : Str → Option Value} {base : Heap} (h : H0 w K mg base)  : Callee PW w K mg base 1 "_law_plain_errors" ["words_here"] (tx.gc K) F_law_plain_errors :=
  callee_of (k := 0) (I := []) (N := N_law_plain_errors) (st := s_law_plain_errors) (mb := m_law_plain_errors) h.ok (List.mem_of_getElem? (i := 6) rfl) h.f_law_plain_errors_fn sc_law_plain_errors (by decide) (fun _ _ _ _ _ _ us hl => match us, hl with | [_], _ => rfl) fun f cdv A outer s H E hr => by
  exact (s_cons (s_asg (g_name (i := 1) rfl) (ps_set sc_law_plain_errors.nd rfl (by first | exact Or.inl rfl | exact Or.inr rfl) (d_lst a_nil))) (s_cons (s_asg (g_name
    (i := 1) rfl) (ps_set sc_law_plain_errors.nd rfl (by first | exact Or.inl rfl | exact Or.inr rfl) (d_bin op_addA o_addA (d_var (pv 1)) (d_lst (a_cons (d_mk0
    (c := 2) h.ok (by decide) (by decide) h.g_BadSort rfl (d_var (pv 0))) (a_cons (d_mk0 (c := 6) h.ok (by decide) (by decide) h.g_BadPlaces rfl (d_var (pv 0)))
    (a_cons (d_mk0 (c := 7) h.ok (by decide) (by decide) h.g_BadBoxes rfl (d_var (pv 0))) (a_cons (d_mk0 (c := 8) h.ok (by decide) (by decide) h.g_BadStarts rfl
    (d_var (pv 0))) a_nil)))))))) (s_cons (s_asg (g_name (i := 1) rfl) (ps_set sc_law_plain_errors.nd rfl (by first | exact Or.inl rfl | exact Or.inr rfl)
    (d_bin op_addA o_addA (d_var (pv 1)) (d_lst (a_cons (d_mk0 (c := 10) h.ok (by decide) (by decide) h.g_BadWord rfl (d_var (pv 0))) (a_cons (d_mk0 (c := 11)
    h.ok (by decide) (by decide) h.g_BadEdit rfl (d_var (pv 0))) (a_cons (d_mk0 (c := 13) h.ok (by decide) (by decide) h.g_BadLot rfl (d_var (pv 0))) (a_cons
    (d_mk0 (c := 14) h.ok (by decide) (by decide) h.g_BadQuestion rfl (d_var (pv 0))) a_nil)))))))) (s_cons (s_asg (g_name (i := 1) rfl) (ps_set
    sc_law_plain_errors.nd rfl (by first | exact Or.inl rfl | exact Or.inr rfl) (d_bin op_addA o_addA (d_var (pv 1)) (d_lst (a_cons (d_mk0 (c := 15) h.ok
    (by decide) (by decide) h.g_BadDeed rfl (d_var (pv 0))) (a_cons (d_mk0 (c := 16) h.ok (by decide) (by decide) h.g_BadBench rfl (d_var (pv 0))) (a_cons
    (d_mk0 (c := 19) h.ok (by decide) (by decide) h.g_BadLetters rfl (d_var (pv 0))) (a_cons (d_mk0 (c := 20) h.ok (by decide) (by decide) h.g_BadLetter rfl
    (d_var (pv 0))) a_nil)))))))) (s_cons (s_asg (g_name (i := 1) rfl) (ps_set sc_law_plain_errors.nd rfl (by first | exact Or.inl rfl | exact Or.inr rfl)
    (d_bin op_addA o_addA (d_var (pv 1)) (d_lst (a_cons (d_mk0 (c := 21) h.ok (by decide) (by decide) h.g_BadRow rfl (d_var (pv 0))) (a_cons (d_mk0 (c := 22)
    h.ok (by decide) (by decide) h.g_BadNames rfl (d_var (pv 0))) (a_cons (d_mk0 (c := 24) h.ok (by decide) (by decide) h.g_BadPlace rfl (d_var (pv 0))) (a_cons
    (d_mk0 (c := 25) h.ok (by decide) (by decide) h.g_BadRules rfl (d_var (pv 0))) a_nil)))))))) (s_cons (s_asg (g_name (i := 1) rfl) (ps_set
    sc_law_plain_errors.nd rfl (by first | exact Or.inl rfl | exact Or.inr rfl) (d_bin op_addA o_addA (d_var (pv 1)) (d_lst (a_cons (d_mk0 (c := 27) h.ok
    (by decide) (by decide) h.g_BadMove rfl (d_var (pv 0))) (a_cons (d_mk0 (c := 28) h.ok (by decide) (by decide) h.g_BadDigits rfl (d_var (pv 0))) (a_cons
    (d_mk0 (c := 29) h.ok (by decide) (by decide) h.g_BadGivings rfl (d_var (pv 0))) (a_cons (d_mk0 (c := 30) h.ok (by decide) (by decide) h.g_BadHouse rfl
    (d_var (pv 0))) a_nil)))))))) (s_cons (s_asg (g_name (i := 1) rfl) (ps_set sc_law_plain_errors.nd rfl (by first | exact Or.inl rfl | exact Or.inr rfl)
    (d_bin op_addA o_addA (d_var (pv 1)) (d_lst (a_cons (d_mk0 (c := 31) h.ok (by decide) (by decide) h.g_BadBytes rfl (d_var (pv 0))) (a_cons (d_mk0 (c := 32)
    h.ok (by decide) (by decide) h.g_BadScribe rfl (d_var (pv 0))) (a_cons (d_mk0 (c := 33) h.ok (by decide) (by decide) h.g_BadClaims rfl (d_var (pv 0)))
    (a_cons (d_mk0 (c := 35) h.ok (by decide) (by decide) h.g_BadWords rfl (d_var (pv 0))) a_nil)))))))) (s_cons (s_asg (g_name (i := 1) rfl) (ps_set
    sc_law_plain_errors.nd rfl (by first | exact Or.inl rfl | exact Or.inr rfl) (d_bin op_addA o_addA (d_var (pv 1)) (d_lst (a_cons (d_mk0 (c := 37) h.ok
    (by decide) (by decide) h.g_BadPlay rfl (d_var (pv 0))) (a_cons (d_mk0 (c := 38) h.ok (by decide) (by decide) h.g_BadPieces rfl (d_var (pv 0))) a_nil))))))
    (s_one (s_ret (d_var (pv 1))))))))))))
end PB.Lk00
set_option maxRecDepth 100000
set_option maxHeartbeats 4000000
namespace PB.Lk00
open PySem PySem.Spec PyProof.Rows L2 PB
open PySem.W (Frag keepIn)
/-! ### law_errors_of -/
def N_law_errors_of : List Str := ["each", "found"]
theorem sc_law_errors_of : FnScope N_law_errors_of ["each"] (defScope s_law_errors_of) := ⟨rfl, rfl, rfl, by decide +kernel, rfl, by decide +kernel, by decide +kernel⟩
def a_law_errors_of_0 : M Fl := (sAsgO 1 (mLst mNil))
def a_law_errors_of_1 : M Fl := (sApp 1 (mTup (mCons (mX1 1 "part" (rdV 0)) (mCons (m1 (xfD tx.fok "part") (mX1 1 "part" (rdV 0))) (mCons (m1 (xfD tx.fok
    "part") (mX1 1 "part" (rdV 0))) mNil)))))
def a_law_errors_of_2 : M Fl := (sApp 1 (mTup (mCons (mX1 3 "at" (rdV 0)) (mCons (m1 (xfD tx.fok "at") (mX1 3 "at" (rdV 0))) (mCons (m1 (xfD tx.fok "at") (mX1 3
    "at" (rdV 0))) mNil)))))
def a_law_errors_of_3 : M Fl := (sApp 1 (mTup (mCons (mX1 4 "part" (rdV 0)) (mCons (m1 (xfD tx.fok "part") (mX1 4 "part" (rdV 0))) (mCons (m1 (xfD tx.fok
    "part") (mX1 4 "part" (rdV 0))) mNil)))))
def a_law_errors_of_4 : M Fl := (sApp 1 (mTup (mCons (mX1 5 "most" (rdV 0)) (mCons (m1 (xfD tx.fok "most") (mX1 5 "most" (rdV 0))) (mCons (m1 (xfD tx.fok
    "most") (mX1 5 "most" (rdV 0))) mNil)))))
def a_law_errors_of_5 : M Fl := (sApp 1 (mTup (mCons (mX1 9 "part" (rdV 0)) (mCons (m1 (xfD tx.fok "part") (mX1 9 "part" (rdV 0))) (mCons (m1 (xfD tx.fok
    "part") (mX1 9 "part" (rdV 0))) mNil)))))
def a_law_errors_of_6 : M Fl := (sApp 1 (mTup (mCons (mX1 12 "why" (rdV 0)) (mCons (m1 (xfD tx.fok "why") (mX1 12 "why" (rdV 0))) (mCons (m1 (xfD tx.fok "why")
    (mX1 12 "why" (rdV 0))) mNil)))))
def a_law_errors_of_7 : M Fl := (sApp 1 (mTup (mCons (mX1 17 "number" (rdV 0)) (mCons (m1 (xfD tx.fok "number") (mX1 17 "number" (rdV 0))) (mCons (m1 (xfD
    tx.fok "number") (mX1 17 "number" (rdV 0))) mNil)))))
def a_law_errors_of_8 : M Fl := (sApp 1 (mTup (mCons (mX1 18 "part" (rdV 0)) (mCons (m1 (xfD tx.fok "part") (mX1 18 "part" (rdV 0))) (mCons (m1 (xfD tx.fok
    "part") (mX1 18 "part" (rdV 0))) mNil)))))
def a_law_errors_of_9 : M Fl := (sApp 1 (mTup (mCons (mX1 23 "part" (rdV 0)) (mCons (m1 (xfD tx.fok "part") (mX1 23 "part" (rdV 0))) (mCons (m1 (xfD tx.fok
    "part") (mX1 23 "part" (rdV 0))) mNil)))))
def a_law_errors_of_10 : M Fl := (sApp 1 (mTup (mCons (mX1 26 "at" (rdV 0)) (mCons (m1 (xfD tx.fok "at") (mX1 26 "at" (rdV 0))) (mCons (m1 (xfD tx.fok "at")
    (mX1 26 "at" (rdV 0))) mNil)))))
def a_law_errors_of_11 : M Fl := (sApp 1 (mTup (mCons (mX1 34 "at" (rdV 0)) (mCons (m1 (xfD tx.fok "at") (mX1 34 "at" (rdV 0))) (mCons (m1 (xfD tx.fok "at")
    (mX1 34 "at" (rdV 0))) mNil)))))
def a_law_errors_of_12 : M Fl := (sApp 1 (mTup (mCons (mX1 36 "part" (rdV 0)) (mCons (m1 (xfD tx.fok "part") (mX1 36 "part" (rdV 0))) (mCons (m1 (xfD tx.fok
    "part") (mX1 36 "part" (rdV 0))) mNil)))))
def a_law_errors_of_13 : M Fl := (sRet (rdV 1))
def m_law_errors_of : M Fl := (sSeq a_law_errors_of_0 (sSeq a_law_errors_of_1 (sSeq a_law_errors_of_2 (sSeq a_law_errors_of_3 (sSeq a_law_errors_of_4 (sSeq
    a_law_errors_of_5 (sSeq a_law_errors_of_6 (sSeq a_law_errors_of_7 (sSeq a_law_errors_of_8 (sSeq a_law_errors_of_9 (sSeq a_law_errors_of_10 (sSeq
    a_law_errors_of_11 (sSeq a_law_errors_of_12 a_law_errors_of_13)))))))))))))
def F_law_errors_of : Env → FR := runF [] 1 2 m_law_errors_of
theorem d_law_errors_of {w : World} {K : Frag} {mg : Str → Option Value} {base : Heap} (h : H0 w K mg base)  : Callee PW w K mg base 3 "_law_errors_of" ["each"] (tx.gc K) F_law_errors_of :=
  callee_of (k := 2) (I := []) (N := N_law_errors_of) (st := s_law_errors_of) (mb := m_law_errors_of) h.ok (List.mem_of_getElem? (i := 7) rfl) h.f_law_errors_of_fn sc_law_errors_of (by decide) (fun _ _ _ _ _ _ us hl => match us, hl with | [_], _ => rfl) fun f cdv A outer s H E hr => by
  exact (s_cons (s_asgO (i := 1) rfl (ps_set sc_law_errors_of.nd rfl (by first | exact Or.inl rfl | exact Or.inr rfl) (o_lst a_nil))) (s_cons (s_app (pv 1) (d_tup
    (a_cons (d_mk (c := 1) h.x_BadNumber hr (by decide) rfl (d_var (pv 0))) (a_cons (d_xf h.ok.fok (d_mk (c := 1) h.x_BadNumber hr (by decide) rfl (d_var (pv
    0)))) (a_cons (d_xf h.ok.fok (d_mkk (c := 1) h.x_BadNumber hr (by decide) rfl (d_var (pv 0)))) a_nil))))) (s_cons (s_app (pv 1) (d_tup (a_cons (d_mk (c :=
    3) h.x_BadTerm hr (by decide) rfl (d_var (pv 0))) (a_cons (d_xf h.ok.fok (d_mk (c := 3) h.x_BadTerm hr (by decide) rfl (d_var (pv 0)))) (a_cons (d_xf
    h.ok.fok (d_mkk (c := 3) h.x_BadTerm hr (by decide) rfl (d_var (pv 0)))) a_nil))))) (s_cons (s_app (pv 1) (d_tup (a_cons (d_mk (c := 4) h.x_BadPiece hr
    (by decide) rfl (d_var (pv 0))) (a_cons (d_xf h.ok.fok (d_mk (c := 4) h.x_BadPiece hr (by decide) rfl (d_var (pv 0)))) (a_cons (d_xf h.ok.fok (d_mkk (c :=
    4) h.x_BadPiece hr (by decide) rfl (d_var (pv 0)))) a_nil))))) (s_cons (s_app (pv 1) (d_tup (a_cons (d_mk (c := 5) h.x_TooMany hr (by decide) rfl (d_var (pv
    0))) (a_cons (d_xf h.ok.fok (d_mk (c := 5) h.x_TooMany hr (by decide) rfl (d_var (pv 0)))) (a_cons (d_xf h.ok.fok (d_mkk (c := 5) h.x_TooMany hr (by decide)
    rfl (d_var (pv 0)))) a_nil))))) (s_cons (s_app (pv 1) (d_tup (a_cons (d_mk (c := 9) h.x_BadBook hr (by decide) rfl (d_var (pv 0))) (a_cons (d_xf h.ok.fok
    (d_mk (c := 9) h.x_BadBook hr (by decide) rfl (d_var (pv 0)))) (a_cons (d_xf h.ok.fok (d_mkk (c := 9) h.x_BadBook hr (by decide) rfl (d_var (pv 0))))
    a_nil))))) (s_cons (s_app (pv 1) (d_tup (a_cons (d_mk (c := 12) h.x_NotLet hr (by decide) rfl (d_var (pv 0))) (a_cons (d_xf h.ok.fok (d_mk (c := 12)
    h.x_NotLet hr (by decide) rfl (d_var (pv 0)))) (a_cons (d_xf h.ok.fok (d_mkk (c := 12) h.x_NotLet hr (by decide) rfl (d_var (pv 0)))) a_nil))))) (s_cons
    (s_app (pv 1) (d_tup (a_cons (d_mk (c := 17) h.x_BadLine hr (by decide) rfl (d_var (pv 0))) (a_cons (d_xf h.ok.fok (d_mk (c := 17) h.x_BadLine hr
    (by decide) rfl (d_var (pv 0)))) (a_cons (d_xf h.ok.fok (d_mkk (c := 17) h.x_BadLine hr (by decide) rfl (d_var (pv 0)))) a_nil))))) (s_cons (s_app (pv 1)
    (d_tup (a_cons (d_mk (c := 18) h.x_BadMachine hr (by decide) rfl (d_var (pv 0))) (a_cons (d_xf h.ok.fok (d_mk (c := 18) h.x_BadMachine hr (by decide) rfl
    (d_var (pv 0)))) (a_cons (d_xf h.ok.fok (d_mkk (c := 18) h.x_BadMachine hr (by decide) rfl (d_var (pv 0)))) a_nil))))) (s_cons (s_app (pv 1) (d_tup (a_cons
    (d_mk (c := 23) h.x_BadRule hr (by decide) rfl (d_var (pv 0))) (a_cons (d_xf h.ok.fok (d_mk (c := 23) h.x_BadRule hr (by decide) rfl (d_var (pv 0))))
    (a_cons (d_xf h.ok.fok (d_mkk (c := 23) h.x_BadRule hr (by decide) rfl (d_var (pv 0)))) a_nil))))) (s_cons (s_app (pv 1) (d_tup (a_cons (d_mk (c := 26)
    h.x_BadLog hr (by decide) rfl (d_var (pv 0))) (a_cons (d_xf h.ok.fok (d_mk (c := 26) h.x_BadLog hr (by decide) rfl (d_var (pv 0)))) (a_cons (d_xf h.ok.fok
    (d_mkk (c := 26) h.x_BadLog hr (by decide) rfl (d_var (pv 0)))) a_nil))))) (s_cons (s_app (pv 1) (d_tup (a_cons (d_mk (c := 34) h.x_BadText hr (by decide)
    rfl (d_var (pv 0))) (a_cons (d_xf h.ok.fok (d_mk (c := 34) h.x_BadText hr (by decide) rfl (d_var (pv 0)))) (a_cons (d_xf h.ok.fok (d_mkk (c := 34)
    h.x_BadText hr (by decide) rfl (d_var (pv 0)))) a_nil))))) (s_cons (s_app (pv 1) (d_tup (a_cons (d_mk (c := 36) h.x_BadAround hr (by decide) rfl (d_var (pv
    0))) (a_cons (d_xf h.ok.fok (d_mk (c := 36) h.x_BadAround hr (by decide) rfl (d_var (pv 0)))) (a_cons (d_xf h.ok.fok (d_mkk (c := 36) h.x_BadAround hr
    (by decide) rfl (d_var (pv 0)))) a_nil))))) (s_one (s_ret (d_var (pv 1)))))))))))))))))
end PB.Lk00
set_option maxRecDepth 100000
set_option maxHeartbeats 4000000
namespace PB.Lk00
open PySem PySem.Spec PyProof.Rows L2 PB
open PySem.W (Frag keepIn)
/-! ### law -/
def N_law : List Str := ["script", "draw", "words_here", "each", "threes_here", "errors_here", "spot", "error", "base_here", "item", "k"]
theorem sc_law : FnScope N_law ["script"] (defScope s_law) := ⟨rfl, rfl, rfl, by decide +kernel, rfl, by decide +kernel, by decide +kernel⟩
def a_law_0 : M Fl := (sAsgO 1 (mCallO F_law_begun (aV (rdV 0) aNil)))
def a_law_1 : M Fl := (sAsg (bTup 2 (bCons (bName 2) (bCons (bName 3) bNil))) (mTup (mCons (mCall F_law_pick (aS 1 (aV (mLst (mCons (rdC (.str "")) (mCons (rdC
    (.str "w")) (mCons (rdC (.str "nothing of the kind")) mNil)))) aNil))) (mCons (mCall F_law_any (aS 1 aNil)) mNil))))
def a_law_2 : M Fl := (sAsg (bName 4) (mCall F_law_errors_of (aV (rdV 3) aNil)))
def a_law_3 : M Fl := (sAsg (bName 5) (bin2 fAdd (mCall F_law_plain_errors (aV (rdV 2) aNil)) (mFrz (mLc [9] (bName 9) (mItems asL (rdV 4)) mYes (bin2 fIx (rdV
    9) (rdC (.int 0)))))))
def a_law_4 : M Fl := (sFor (bTup 2 (bCons (bName 6) (bCons (bName 7) bNil))) (mItemsL asEn (mCons (rdV 5) mNil)) (sSeq (sIf (mTru (bin2 fNe (mCall F_law_kinds
    (aV (rdV 7) aNil)) (mFrz (mLc [10] (bName 10) (mItemsL asR1 (mCons (rdC (.int 38)) mNil)) mYes (bin2 fEq (rdV 10) (rdV 6)))))) (sRet (rdC (.bl false))) sNx)
    (sIf (mOrB (mNotB (mTru (mFn (fIsi isF exF inF) (mCons (rdV 7) (mCons (rdC (.at 0)) mNil))))) (mNotB (mTru (mFn (fIsi isF exF inF) (mCons (rdV 7) (mCons
    (rdC (.ty "ValueError")) mNil)))))) (sRet (rdC (.bl false))) sNx)))
def a_law_5 : M Fl := (sIf (mTru (bin2 fNe (mFrz (mLc [9] (bName 9) (mItems asL (rdV 4)) (mTru (bin2 fNe (mFn fRep (mCons (mLst (mCons (bin2 fIx (rdV 9) (rdC
    (.int 1))) (mCons (bin2 fIx (rdV 9) (rdC (.int 2))) mNil))) mNil)) (mFn fRep (mCons (mLst (mCons (rdV 3) (mCons (rdV 3) mNil))) mNil)))) (rdC (.int 1))))
    (mLst mNil))) (sRet (rdC (.bl false))) sNx)
def a_law_6 : M Fl := (sAsg (bName 8) (mX0 0 (rdC (.str "w"))))
def a_law_7 : M Fl := (sRet (mAndV (bin2 (fInB true) (rdC (.bl true)) (mCall F_law_kinds (aV (rdV 8) aNil))) (mFn (fIsi isF exF inF) (mCons (rdV 8) (mCons (rdC
    (.ty "ValueError")) mNil)))))
def m_law : M Fl := (sSeq a_law_0 (sSeq a_law_1 (sSeq a_law_2 (sSeq a_law_3 (sSeq a_law_4 (sSeq a_law_5 (sSeq a_law_6 a_law_7)))))))
def F_law : Env → FR := runF [] 1 11 m_law
theorem r_law {w : World} {K : Frag} {mg : Str → Option Value} {base : Heap} (h : H0 w K mg base) (c_law_any : Callee PW w K mg base 4 "_law_any" ["draw"] (tx.gc K) F_law_any) (c_law_begun : Callee PW w K mg base 1 "_law_begun" ["script"] (tx.gc K) F_law_begun) (c_law_errors_of : Callee PW w K mg base 3 "_law_errors_of" ["each"] (tx.gc K) F_law_errors_of) (c_law_kinds : Callee PW w K mg base 1 "_law_kinds" ["error"] (tx.gc K) F_law_kinds) (c_law_pick : Callee PW w K mg base 3 "_law_pick" ["draw", "some"] (tx.gc K) F_law_pick) (c_law_plain_errors : Callee PW w K mg base 1 "_law_plain_errors" ["words_here"] (tx.gc K) F_law_plain_errors) (f : Addr) (cdv : Value) (A : Around) (hgd0 : A.guards = some []) (outer : List PySem.Env) (s : Shared) (H : Hp) (E : XK) (hr : Room 4 (A.deeper (PyProof.Rows.envOfC "law" (defScope s_law) s.heap.objs.size f cdv))) :
    PSs (cxOf (L2.CX PW w) PW w K mg base N_law "law" (defScope s_law) f cdv A outer s H E) (defBody s_law) (liftS (tx.gc K) (fun c d _ H => E c d H) [] m_law) := by
  have hgd : (A.deeper (PyProof.Rows.envOfC "law" (defScope s_law) s.heap.objs.size f cdv)).guards = some [] := hgd0
  exact (s_cons (s_asgO (i := 1) rfl (ps_set sc_law.nd rfl (by first | exact Or.inl rfl | exact Or.inr rfl) (o_cal (takes_of rfl rfl rfl rfl) c_law_begun hr (by decide)
    rfl (aa_v (d_var (pv 0)) aa_nil)))) (s_cons (s_asg (g_tup (g_cons (g_name rfl) (g_cons (g_name rfl) g_nil))) (ps_asg (d_tup (a_cons (d_cal (takes_of rfl rfl
    rfl rfl) c_law_pick hr (by decide) rfl (aa_s (pv 1) (aa_v (d_lst (a_cons d_str (a_cons d_str (a_cons d_str a_nil)))) aa_nil))) (a_cons (d_cal (takes_of rfl
    rfl rfl rfl) c_law_any hr (by decide) rfl (aa_s (pv 1) aa_nil)) a_nil))) (pg_tup (n := 2) rfl (pgs_cons (pg_name sc_law.nd (i := 2) rfl
    (by first | exact Or.inl rfl | exact Or.inr rfl)) (pgs_cons (pg_name sc_law.nd (i := 3) rfl (by first | exact Or.inl rfl | exact Or.inr rfl)) pgs_nil)))))
    (s_cons (s_asg (g_name (i := 4) rfl) (ps_set sc_law.nd rfl (by first | exact Or.inl rfl | exact Or.inr rfl) (d_cal (takes_of rfl rfl rfl rfl)
    c_law_errors_of hr (by decide) rfl (aa_v (d_var (pv 3)) aa_nil)))) (s_cons (s_asg (g_name (i := 5) rfl) (ps_set sc_law.nd rfl
    (by first | exact Or.inl rfl | exact Or.inr rfl) (d_bin op_addA o_addA (d_cal (takes_of rfl rfl rfl rfl) c_law_plain_errors hr (by decide) rfl (aa_v (d_var
    (pv 2)) aa_nil)) (d_frz (o_lc rfl sc_law.nd src_list (c_name rfl) tst_yes (pi_list (d_var (pv 4))) (blkOk_by (own := [("item", 9)])
    (by show blkC N_law (defScope s_law) _ _ = true; decide +kernel)) (fun _ _ _ _ _ => (pg_name sc_law.nd (i := 9) rfl
    (by first | exact Or.inl rfl | exact Or.inr rfl))) (fun _ _ _ _ _ => pts_nil) (fun _ _ _ _ _ => (d_ix ix_A o_ixA (d_var (pv 9)) d_int (fun _ _ =>
    rfl)))))))) (s_cons (s_for src_enum (g_tup (g_cons (g_name rfl) (g_cons (g_name rfl) g_nil))) (ps_for (passes_of rfl) rfl (pi_enum (by rfl) h.f_enumerate
    (a_cons (d_var (pv 5)) a_nil)) (pg_tup (n := 2) rfl (pgs_cons (pg_name sc_law.nd (i := 6) rfl (by first | exact Or.inl rfl | exact Or.inr rfl)) (pgs_cons
    (pg_name sc_law.nd (i := 7) rfl (by first | exact Or.inl rfl | exact Or.inr rfl)) pgs_nil))) (s_cons (s_if (t_cmp (op_neD hr.units) o_ne bl_eq (d_cal
    (takes_of rfl rfl rfl rfl) c_law_kinds hr (by decide) rfl (aa_v (d_var (pv 7)) aa_nil)) (d_frz (o_lc rfl sc_law.nd src_range1 (c_name rfl) tst_yes
    (pi_range1 (by rfl) h.f_range (a_cons d_int a_nil)) (blkOk_by (own := [("k", 10)]) (by show blkC N_law (defScope s_law) _ _ = true; decide +kernel)) (fun _
    _ _ _ _ => (pg_name sc_law.nd (i := 10) rfl (by first | exact Or.inl rfl | exact Or.inr rfl))) (fun _ _ _ _ _ => pts_nil) (fun _ _ _ _ _ => (d_cmp (op_eqD
    hr.units) o_eq (d_var (pv 10)) (d_var (pv 6)) (nomark _))))) (nomark _)) (s_one (s_ret d_bl)) s_nil) (s_one (s_if (PW.pt (t_or (t_not (t_of rfl (d_fn
    (call_isD (is := isF)) (n_isi h.clF) rfl h.f_isinstance boot_isinstance (a_cons (d_var (pv 7)) (a_cons (d_const (v := .ref (tx.cl K 0)) (pe_glob rfl
    h.g_PlayError rfl) fun _ _ => rfl) a_nil))))) (t_or1 (t_not (t_of rfl (d_fn (call_isD (is := isF)) (n_isi h.clF) rfl h.f_isinstance boot_isinstance (a_cons
    (d_var (pv 7)) (a_cons (d_const (v := .ty "ValueError") (pe_bltn rfl h.f_ValueError PyProof.Rows.Boot.«ValueError» rfl) fun _ _ => rfl) a_nil)))))))) (s_one
    (s_ret d_bl)) s_nil))))) (s_cons (s_if (t_cmp (op_neD hr.units) o_ne bl_eq (d_frz (o_lc rfl sc_law.nd src_list (c_name rfl) tst_one (pi_list (d_var (pv 4)))
    (blkOk_by (own := [("item", 9)]) (by show blkC N_law (defScope s_law) _ _ = true; decide +kernel)) (fun _ _ _ _ _ => (pg_name sc_law.nd (i := 9) rfl
    (by first | exact Or.inl rfl | exact Or.inr rfl))) (fun _ _ _ _ _ => (pts_one (t_cmp (op_neD hr.units) o_ne bl_eq (d_fn (call_rep (G := tx.gc K) rfl hgd
    hr.units h.ok.sy) n_rep rfl h.f_repr boot_repr (a_cons (d_lst (a_cons (d_ix ix_A o_ixA (d_var (pv 9)) d_int (fun _ _ => rfl)) (a_cons (d_ix ix_A o_ixA
    (d_var (pv 9)) d_int (fun _ _ => rfl)) a_nil))) a_nil)) (d_fn (call_rep (G := tx.gc K) rfl hgd hr.units h.ok.sy) n_rep rfl h.f_repr boot_repr (a_cons (d_lst
    (a_cons (d_var (pv 3)) (a_cons (d_var (pv 3)) a_nil))) a_nil)) (nomark _)))) (fun _ _ _ _ _ => d_int))) (d_lst a_nil) (nomark _)) (s_one (s_ret d_bl))
    s_nil) (s_cons (s_asg (g_name (i := 8) rfl) (ps_set sc_law.nd rfl (by first | exact Or.inl rfl | exact Or.inr rfl) (d_mk0 (c := 0) h.ok (by decide)
    (by decide) h.g_PlayError rfl d_str))) (s_one (s_ret (d_and rfl (d_cmp op_notIn_seq o_inB d_bl (d_cal (takes_of rfl rfl rfl rfl) c_law_kinds hr (by decide)
    rfl (aa_v (d_var (pv 8)) aa_nil)) (by with_unfolding_all rfl)) (d_one (d_fn (call_isD (is := isF)) (n_isi h.clF) rfl h.f_isinstance boot_isinstance (a_cons
    (d_var (pv 8)) (a_cons (d_const (v := .ty "ValueError") (pe_bltn rfl h.f_ValueError PyProof.Rows.Boot.«ValueError» rfl) fun _ _ => rfl) a_nil))))))))))))))
end PB.Lk00
set_option maxRecDepth 100000
set_option maxHeartbeats 1000000
namespace PB.Lk00
open PySem PySem.Spec PyProof.Rows L2 PB
theorem fIC_pos {c : Int → Int → Bool} {g : Int → Int → Int} {i j : Int} (h : c i j = true) : fIC c g (.int i) (.int j) = some (.int (g i j)) := if_pos h
theorem mulR {i j : Int} (h : -(2 ^ 64) < j ∧ j < 2 ^ 64) : fMulI (.int i) (.int j) = some (.int (i * j)) := fIC_pos (by rw [decide_eq_true h, Bool.or_true])
theorem modR {i j : Int} (h : j ≠ 0) : fModI (.int i) (.int j) = some (.int (i.fmod j)) := fIC_pos (decide_eq_true h)
theorem divR {i j : Int} (h : j ≠ 0 ∧ j.natAbs < 1073741824) : fDivI (.int i) (.int j) = some (.int (i.fdiv j)) := fIC_pos (decide_eq_true h)
theorem powR {i j : Int} (h : 0 ≤ j ∧ j ≤ 1000000 ∧ i.natAbs < 2 ^ 64) : fPowI (.int i) (.int j) = some (.int (i ^ j.toNat)) := fIC_pos (decide_eq_true h)
theorem bin2_ok {f : D → D → Option D} {ma mb : M D} {ρ ρ1 ρ2 : PB.Env} {x y d : D} (ha : ma ρ = .ok x ρ1) (hb : mb ρ1 = .ok y ρ2) (hf : f x y = some d) : bin2 f ma mb ρ = .ok d ρ2 := by
  unfold bin2
  rw [ha]
  show (mb ρ1).bind (fun y ρ => optR (f x y) ρ) = _
  rw [hb]
  show optR (f x y) ρ2 = _
  rw [hf]
  rfl
theorem sAsg_ok {gb : D → PB.Env → Option PB.Env} {m : M D} {ρ ρ1 ρ2 : PB.Env} {d : D} (h : m ρ = .ok d ρ1) (hg : gb d ρ1 = some ρ2) : sAsg gb m ρ = .ok .nx ρ2 := by
  unfold sAsg
  rw [h]
  show (match gb d ρ1 with | some ρ' => Res.ok Fl.nx ρ' | none => .bad) = _
  rw [hg]
theorem sSeq_ok {a b : M Fl} {ρ ρ1 : PB.Env} {r : Res Fl} (ha : a ρ = .ok .nx ρ1) (hb : b ρ1 = r) : sSeq a b ρ = r := by
  unfold sSeq
  rw [ha]
  exact hb
theorem addR {i j : Int} : fAdd (.int i) (.int j) = some (.int (i + j)) := rfl
def a_inner : M Fl := (sAsg (bName 4) (bin2 fModI (bin2 fAdd (bin2 fMulI (rdV 4) (rdC (.int 48271))) (mFn fInt (mCons (rdV 5) mNil))) (rdV 3)))
def a_body : M Fl := (sSeq (sAsg (bName 4) (bin2 fModI (bin2 fAdd (bin2 fMulI (rdV 1) (rdC (.int 69621))) (bin2 fDivI (rdV 3) (rdC (.int 7)))) (rdV 3))) (sSeq (sFor
    (bName 5) (mItems asL (drCells 0)) a_inner) (sAsg (bName 2) (bin2 fAdd (bin2 fMulI (rdV 2) (rdC (.int 2147483647))) (bin2 fModI (bin2 fPowI (rdV 4) (rdC (.int 5))) (rdV 3))))))
section
variable (l : List Int) (r : Int) (c : List Int) (t u g : Int)
abbrev rm (f : Int) (s4 s5 : Sl) : PB.Env := [.io (.drw l r c t), .fr (.int u), .fr (.int f), .fr (.int g), s4, s5]
theorem inner (hg : 0 < g) (f : Int) : ∀ (cs : List Int) (b : Int) (s : Sl), (0 ≤ b ∧ b < g) → ∃ b' s', forL (bName 5) a_inner (cs.map D.int) (rm l r c t u g f (.fr (.int b)) s) = .ok .nx (rm l r c t u g f (.fr (.int b')) s') ∧ 0 ≤ b' ∧ b' < g
  | [], b, s, h => ⟨b, s, rfl, h⟩
  | x :: cs, b, s, h => by
    have e : a_inner (rm l r c t u g f (.fr (.int b)) (.fr (.int x))) = .ok .nx (rm l r c t u g f (.fr (.int ((b * 48271 + x).fmod g))) (.fr (.int x))) :=
      sAsg_ok (bin2_ok (bin2_ok (bin2_ok rfl rfl (mulR (by omega))) rfl addR) rfl (modR (by omega))) rfl
    obtain ⟨b', s', e2, h2⟩ := inner hg f cs ((b * 48271 + x).fmod g) (.fr (.int x)) ⟨Int.fmod_nonneg_of_pos _ hg, Int.fmod_lt_of_pos _ hg⟩
    refine ⟨b', s', ?_, h2⟩
    rw [List.map_cons]
    unfold forL
    show (match a_inner (rm l r c t u g f (.fr (.int b)) (.fr (.int x))) with
      | .ok .nx ρ2 => forL (bName 5) a_inner (cs.map D.int) ρ2
      | .ok .ct ρ2 => forL (bName 5) a_inner (cs.map D.int) ρ2
      | .ok .bk ρ2 => .ok .nx ρ2
      | r => r) = _
    rw [e]
    exact e2
theorem body_ok (hg : 0 < g) (hg2 : g < 2147483648) (f : Int) (s4 s5 : Sl) : ∃ f' s4' s5', a_body (rm l r c t u g f s4 s5) = .ok .nx (rm l r c t u g f' s4' s5') := by
  obtain ⟨b', s', e2, h1, h2⟩ := inner l r c t u g hg f c ((u * 69621 + g.fdiv 7).fmod g) s5 ⟨Int.fmod_nonneg_of_pos _ hg, Int.fmod_lt_of_pos _ hg⟩
  refine ⟨f * 2147483647 + (b' ^ 5).fmod g, .fr (.int b'), s', ?_⟩
  refine sSeq_ok (sAsg_ok (bin2_ok (bin2_ok (bin2_ok rfl rfl (mulR (by omega))) (bin2_ok rfl rfl (divR (by omega))) addR) rfl (modR (by omega))) rfl) (sSeq_ok (ρ1 := rm l r c t u g f (.fr (.int b')) s') e2 ?_)
  exact sAsg_ok (bin2_ok (bin2_ok rfl rfl (mulR (by omega))) (bin2_ok (bin2_ok rfl rfl (powR (by omega))) rfl (modR (by omega))) addR) rfl
theorem for3 : ∀ (gs : List Int), (∀ g ∈ gs, 0 < g ∧ g < 2147483648) → ∀ (f : Int) (s3 s4 s5 : Sl), ∃ f' s3' s4' s5', forL (bName 3) a_body (gs.map D.int) [.io (.drw l r c t), .fr (.int u), .fr (.int f), s3, s4, s5] = .ok .nx [.io (.drw l r c t), .fr (.int u), .fr (.int f'), s3', s4', s5']
  | [], _, f, s3, s4, s5 => ⟨f, s3, s4, s5, rfl⟩
  | g :: gs, h, f, s3, s4, s5 => by
    obtain ⟨f', s4', s5', e⟩ := body_ok l r c t u g (h g List.mem_cons_self).1 (h g List.mem_cons_self).2 f s4 s5
    obtain ⟨f2, s32, s42, s52, e2⟩ := for3 gs (fun g hg => h g (List.mem_cons_of_mem _ hg)) f' (.fr (.int g)) s4' s5'
    refine ⟨f2, s32, s42, s52, ?_⟩
    rw [List.map_cons]
    unfold forL
    show (match a_body (rm l r c t u g f s4 s5) with
      | .ok .nx ρ2 => forL (bName 3) a_body (gs.map D.int) ρ2
      | .ok .ct ρ2 => forL (bName 3) a_body (gs.map D.int) ρ2
      | .ok .bk ρ2 => .ok .nx ρ2
      | r => r) = _
    rw [e]
    exact e2
end
theorem mixed (l : List Int) (r : Int) (c : List Int) (t : Int) : ∃ v : Int, F_law_mixed [.io (.drw l r c t)] = .ok (.int v) [.io (.drw l r c (t + 1))] := by
  obtain ⟨f', s3, s4, s5, e⟩ := for3 l r c (t + 1) (t + 1) [2147483629, 2147483587, 2147483579] (by intro g hg; simp at hg; omega) 0 .un .un .un
  refine ⟨f', ?_⟩
  show (match m_law_mixed [.io (.drw l r c t), .un, .un, .un, .un, .un] with
    | .ok .nx ρ => FR.ok .non (outs [0] 1 ρ)
    | .ok (.rt d) ρ => .ok d (outs [0] 1 ρ)
    | .ok (.ro d) ρ => .own d (outs [0] 1 ρ)
    | .ex x ρ => .ex x (outs [0] 1 ρ)
    | _ => .bad) = _
  have e0 : m_law_mixed [.io (.drw l r c t), .un, .un, .un, .un, .un] = (match forL (bName 3) a_body (([2147483629, 2147483587, 2147483579] : List Int).map D.int) [.io (.drw l r c (t + 1)), .fr (.int (t + 1)), .fr (.int 0), .un, .un, .un] with
    | .ok .nx ρ => a_law_mixed_3 ρ
    | r => r) := rfl
  rw [e0, e]
  rfl
end PB.Lk00
set_option maxRecDepth 100000
set_option maxHeartbeats 1000000
namespace PB.Lk00
open PySem PySem.Spec PyProof.Rows L2 PB
theorem runF_rt {I : List Nat} {np nN : Nat} {mb : M Fl} {args ρ : PB.Env} {d : D} (hl : args.length = np) (h : mb (args ++ List.replicate (nN - np) .un) = .ok (.rt d) ρ) : runF I np nN mb args = .ok d (outs I np ρ) := by
  unfold runF
  rw [if_pos hl, h]
theorem runF_ro {I : List Nat} {np nN : Nat} {mb : M Fl} {args ρ : PB.Env} {d : D} (hl : args.length = np) (h : mb (args ++ List.replicate (nN - np) .un) = .ok (.ro d) ρ) : runF I np nN mb args = .own d (outs I np ρ) := by
  unfold runF
  rw [if_pos hl, h]
theorem sRet_ok {m : M D} {ρ ρ1 : PB.Env} {d : D} (h : m ρ = .ok d ρ1) : sRet m ρ = .ok (.rt d) ρ1 := by
  unfold sRet
  rw [h]
  rfl
theorem bind_ok {α β : Type} {m : Res α} {f : α → PB.Env → Res β} {a : α} {ρ : PB.Env} {r : Res β} (h : m = .ok a ρ) (hf : f a ρ = r) : m.bind f = r := by
  rw [h]
  exact hf
theorem callR_ok {F : PB.Env → FR} {as : List Arg} {ρ args o ρ' : PB.Env} {d : D} (n : (slotsOf as).Nodup) (hm : mkArgs as ρ = some args) (hF : F args = .ok d o) (hp : putBack as o ρ = some ρ') : callR F as ρ = .ok d ρ' := by
  unfold callR
  rw [if_pos n, hm]
  simp only [hF]
  unfold endR
  rw [hp]
/-- a draw -/
theorem take (l : List Int) (r : Int) (c : List Int) (t a : Int) (ha : 0 < a) (hb : a < 1000000) : ∃ (k : Int) (l' : List Int) (r' t' : Int), F_law_take [.io (.drw l r c t), .fr (.int a)] = .ok (.int k) [.io (.drw l' r' c t'), .un] ∧ 0 ≤ k ∧ k < a := by
  have step : ∃ (l1 : List Int) (r1 t1 : Int), a_law_take_0 [.io (.drw l r c t), .fr (.int a), .un] = .ok .nx [.io (.drw l1 r1 c t1), .fr (.int a), .un] := by
    unfold a_law_take_0 sIf mTru
    have e : (bin2 fEq (drRest 0) (rdC (.int 0))) [.io (.drw l r c t), .fr (.int a), .un] = .ok (.bl (PyData.eqv (.int r) (.int 0))) [.io (.drw l r c t), .fr (.int a), .un] := bin2_ok rfl rfl rfl
    rw [e]
    cases q : PyData.eqv (.int r) (.int 0) with
    | false => exact ⟨l, r, t, rfl⟩
    | true =>
      cases l with
      | nil =>
        obtain ⟨v, hv⟩ := mixed [] r c t
        refine ⟨[], v, t + 1, ?_⟩
        show (drPutR 0 (mIf (drAny 0) (drPop 0) (mCall F_law_mixed (aS 0 aNil)))) [.io (.drw [] r c t), .fr (.int a), .un] = _
        have e2 : (mIf (drAny 0) (drPop 0) (mCall F_law_mixed (aS 0 aNil))) [.io (.drw [] r c t), .fr (.int a), .un] = .ok (.int v) [.io (.drw [] r c (t + 1)), .fr (.int a), .un] := by
          show callR F_law_mixed [.s 0] [.io (.drw [] r c t), .fr (.int a), .un] = _
          exact callR_ok (as := [.s 0]) (show ([0] : List Nat).Nodup by decide) rfl hv rfl
        exact bind_ok e2 rfl
      | cons x l => exact ⟨l, x, t, rfl⟩
  obtain ⟨l1, r1, t1, e⟩ := step
  refine ⟨r1.fmod a, l1, r1.fdiv a, t1, ?_, Int.fmod_nonneg_of_pos _ ha, Int.fmod_lt_of_pos _ ha⟩
  refine (runF_rt (ρ := [.io (.drw l1 (r1.fdiv a) c t1), .fr (.int a), .fr (.int (r1.fmod a))]) rfl ?_).trans rfl
  refine sSeq_ok e (sSeq_ok (ρ1 := [.io (.drw l1 r1 c t1), .fr (.int a), .fr (.int (r1.fmod a))]) (sAsg_ok (bin2_ok rfl rfl (modR (by omega))) rfl) (sSeq_ok (ρ1 := [.io (.drw l1 (r1.fdiv a) c t1), .fr (.int a), .fr (.int (r1.fmod a))]) ?_ (sRet_ok rfl)))
  exact bind_ok (bin2_ok rfl rfl (divR (by omega))) rfl
theorem atI_of {xs : List D} {k : Int} (h1 : 0 ≤ k) (h2 : k < xs.length) : ∃ x, x ∈ xs ∧ atI xs k = some x := by
  refine ⟨xs[k.toNat]'(by omega), List.getElem_mem _, ?_⟩
  unfold atI
  have e : ixN xs.length k = some k.toNat := by
    unfold ixN
    rw [if_pos h1, if_pos h2]
  rw [e]
  exact List.getElem?_eq_getElem (by omega)
/-- one of some -/
theorem pick (l : List Int) (r : Int) (c : List Int) (t : Int) (xs : List D) (h1 : 0 < xs.length) (h2 : xs.length < 1000000) :
    ∃ (x : D) (l' : List Int) (r' t' : Int), F_law_pick [.io (.drw l r c t), .fr (.lst xs)] = .ok x [.io (.drw l' r' c t'), .un] ∧ x ∈ xs := by
  obtain ⟨k, l', r', t', e, k1, k2⟩ := take l r c t xs.length (by omega) (by omega)
  obtain ⟨x, hx, ex⟩ := atI_of k1 k2
  refine ⟨x, l', r', t', ?_, hx⟩
  refine (runF_rt (ρ := [.io (.drw l' r' c t'), .fr (.lst xs)]) rfl (sRet_ok (bin2_ok (y := .int k) rfl ?_ ?_))).trans rfl
  · show callR F_law_take [.s 0, .v (.int xs.length)] [.io (.drw l r c t), .fr (.lst xs)] = _
    exact callR_ok (as := [.s 0, .v (.int xs.length)]) (show ([0] : List Nat).Nodup by decide) rfl e rfl
  · show ((atI xs k).orElse fun _ => fIxT (.lst xs) (.int k)) = _
    rw [ex]
    rfl
def anyD : List D := [.non, .bl false, .int (-5), .int (10 ^ 45), .str "", .str "wide", .str "two words", .lst [], .lst [.tup [.int 0, .int 2]], .tup [], .tup [.int 4], .dct [] [], .dct [.inr "a"] [.tup [.int 1]], .lst [.lst [.non]]]
theorem any (l : List Int) (r : Int) (c : List Int) (t : Int) : ∃ (x : D) (l' : List Int) (r' t' : Int), F_law_any [.io (.drw l r c t)] = .ok x [.io (.drw l' r' c t')] ∧ x ∈ anyD := by
  obtain ⟨x, l', r', t', e, hx⟩ := pick l r c t anyD (by decide) (by decide)
  refine ⟨x, l', r', t', ?_, hx⟩
  refine (runF_rt (ρ := [.io (.drw l' r' c t'), .fr (.lst anyD)]) rfl (sSeq_ok (ρ1 := [.io (.drw l r c t), .fr (.lst anyD)]) (by kernel_rfl) (sRet_ok ?_))).trans rfl
  show callR F_law_pick [.s 0, .v (.lst anyD)] [.io (.drw l r c t), .fr (.lst anyD)] = _
  exact callR_ok (as := [.s 0, .v (.lst anyD)]) (show ([0] : List Nat).Nodup by decide) rfl e rfl
end PB.Lk00
set_option maxRecDepth 100000
set_option maxHeartbeats 1000000
namespace PB.Lk00
open PySem PySem.Spec PyProof.Rows L2 PB
def ab (n : Int) : Int := if n < 0 then -n else n
def q0 : M Bool := (mTru (bin2 fGe (mFn fAbs (mCons (rdV 2) mNil)) (bin2 fPowI (rdC (.int 10)) (rdC (.int 18)))))
def q1 : M D := (bin2 fSub (mFn fAbs (mCons (rdV 2) mNil)) (bin2 fPowI (rdC (.int 10)) (rdC (.int 18))))
def q2 : M D := (mFn fAbs (mCons (rdV 2) mNil))
theorem lc1 (S s1 : Sl) : ∀ (ns : List Int) (acc : List Int), acc.length + ns.length < lim → ∃ ls : List Int, lcL [2] (bName 2) q0 q1 (ns.map D.int) (acc.map D.int) [S, s1, .un] = .ok (.lst (ls.map D.int)) [S, s1, .un]
  | [], acc, _ => ⟨acc, rfl⟩
  | n :: ns, acc, h => by
    have e0 : q0 [S, s1, .fr (.int n)] = .ok (decide ((10 : Int) ^ 18 ≤ ab n)) [S, s1, .fr (.int n)] := rfl
    have e1 : q1 [S, s1, .fr (.int n)] = .ok (.int (ab n - 10 ^ 18)) [S, s1, .fr (.int n)] := rfl
    rw [List.map_cons]
    unfold lcL
    show ∃ ls : List Int, (match q0 [S, s1, .fr (.int n)] with
      | .ok true ρ2 => (match q1 ρ2 with
        | .ok y ρ3 => if (acc.map D.int).length < lim then lcL [2] (bName 2) q0 q1 (ns.map D.int) (acc.map D.int ++ [y]) (wipeE [2] ρ3) else .bad
        | _ => .bad)
      | .ok false ρ2 => lcL [2] (bName 2) q0 q1 (ns.map D.int) (acc.map D.int) (wipeE [2] ρ2)
      | _ => .bad) = _
    rw [e0]
    rw [List.length_cons] at h
    cases decide ((10 : Int) ^ 18 ≤ ab n) with
    | false => exact lc1 S s1 ns acc (by omega)
    | true =>
      show ∃ ls : List Int, (match q1 [S, s1, .fr (.int n)] with
        | .ok y ρ3 => if (acc.map D.int).length < lim then lcL [2] (bName 2) q0 q1 (ns.map D.int) (acc.map D.int ++ [y]) (wipeE [2] ρ3) else .bad
        | _ => .bad) = _
      rw [e1]
      show ∃ ls : List Int, (if (acc.map D.int).length < lim then lcL [2] (bName 2) q0 q1 (ns.map D.int) (acc.map D.int ++ [.int (ab n - 10 ^ 18)]) [S, s1, .un] else .bad) = _
      rw [if_pos (by rw [List.length_map]; omega)]
      have := lc1 S s1 ns (acc ++ [ab n - 10 ^ 18]) (by rw [List.length_append, List.length_singleton]; omega)
      rw [List.map_append] at this
      exact this
theorem lc2 (S s1 : Sl) : ∀ (ns : List Int) (acc : List Int), acc.length + ns.length < lim → ∃ ls : List Int, lcL [2] (bName 2) mYes q2 (ns.map D.int) (acc.map D.int) [S, s1, .un] = .ok (.lst (ls.map D.int)) [S, s1, .un]
  | [], acc, _ => ⟨acc, rfl⟩
  | n :: ns, acc, h => by
    rw [List.map_cons]
    unfold lcL
    show ∃ ls : List Int, (if (acc.map D.int).length < lim then lcL [2] (bName 2) mYes q2 (ns.map D.int) (acc.map D.int ++ [.int (ab n)]) [S, s1, .un] else .bad) = _
    rw [List.length_cons] at h
    rw [if_pos (by rw [List.length_map]; omega)]
    have := lc2 S s1 ns (acc ++ [ab n]) (by rw [List.length_append, List.length_singleton]; omega)
    rw [List.map_append] at this
    exact this
theorem intsD_ints : ∀ ls : List Int, intsD (ls.map D.int) = some ls
  | [] => rfl
  | x :: ls => by
    rw [List.map_cons]
    unfold intsD
    rw [intsD_ints ls]
    rfl
theorem begun (ns : List Int) (h : ns.length ≤ 63) : ∃ l c : List Int, F_law_begun [.fr (.fls (ns.map D.int))] = .own (.drw l 0 c 0) [.un] := by
  have hl : ([] : List Int).length + ns.length < lim := by show 0 + ns.length < 16777216; omega
  obtain ⟨l, e1⟩ := lc1 (.fr (.fls (ns.map D.int))) .un ns [] hl
  obtain ⟨c, e2⟩ := lc2 (.fr (.fls (ns.map D.int))) (.ow (.lst (l.map D.int))) ns [] hl
  refine ⟨l, c, ?_⟩
  refine (runF_ro (ρ := [.fr (.fls (ns.map D.int)), .un, .un]) rfl (sSeq_ok (ρ1 := [.fr (.fls (ns.map D.int)), .ow (.lst (l.map D.int)), .un]) ?_ ?_)).trans rfl
  · have w : mLc [2] (bName 2) (mItems asL (rdV 0)) q0 q1 [.fr (.fls (ns.map D.int)), .un, .un] = lcL [2] (bName 2) q0 q1 (ns.map D.int) [] [.fr (.fls (ns.map D.int)), .un, .un] := by kernel_rfl
    exact bind_ok (w.trans e1) rfl
  · have w : mLc [2] (bName 2) (mItems asL (rdV 0)) mYes q2 [.fr (.fls (ns.map D.int)), .ow (.lst (l.map D.int)), .un] = lcL [2] (bName 2) mYes q2 (ns.map D.int) [] [.fr (.fls (ns.map D.int)), .ow (.lst (l.map D.int)), .un] := by kernel_rfl
    refine bind_ok (a := .drw l 0 c 0) (ρ := [.fr (.fls (ns.map D.int)), .un, .un]) ?_ rfl
    refine bind_ok (w.trans e2) ?_
    show (match intsD (l.map D.int), intsD (c.map D.int) with
      | some a, some b => Res.ok (D.drw a 0 b 0) [.fr (.fls (ns.map D.int)), .un, .un]
      | _, _ => .bad) = _
    rw [intsD_ints, intsD_ints]
/-! ### the law -/
def isT (r : Res Fl) : Bool := match r with
  | .ok (.rt (.bl true)) _ => true
  | _ => false
def preM : M Fl := sSeq a_law_2 (sSeq a_law_3 a_law_4)
def endM : M Fl := sSeq a_law_5 (sSeq a_law_6 a_law_7)
end PB.Lk00
set_option maxRecDepth 100000
set_option maxHeartbeats 0
namespace PB.Lk00
open PySem PySem.Spec PyProof.Rows L2 PB
def ex0 (n : Nat) : D := .exc n [] []
def ex1 (e : D) (n : Nat) (f : Str) : D := .exc n [f] [e]
def threes (e : D) : List D := [.tup [ex1 e 1 "part", e, e], .tup [ex1 e 3 "at", e, e], .tup [ex1 e 4 "part", e, e], .tup [ex1 e 5 "most", e, e], .tup [ex1 e 9 "part", e, e], .tup [ex1 e 12 "why", e, e], .tup [ex1 e 17 "number", e, e], .tup [ex1 e 18 "part", e, e], .tup [ex1 e 23 "part", e, e], .tup [ex1 e 26 "at", e, e], .tup [ex1 e 34 "at", e, e], .tup [ex1 e 36 "part", e, e]]
def errs (e : D) : List D := [ex0 2, ex0 6, ex0 7, ex0 8, ex0 10, ex0 11, ex0 13, ex0 14, ex0 15, ex0 16, ex0 19, ex0 20, ex0 21, ex0 22, ex0 24, ex0 25, ex0 27, ex0 28, ex0 29, ex0 30, ex0 31, ex0 32, ex0 33, ex0 35, ex0 37, ex0 38, ex1 e 1 "part", ex1 e 3 "at", ex1 e 4 "part", ex1 e 5 "most", ex1 e 9 "part", ex1 e 12 "why", ex1 e 17 "number", ex1 e 18 "part", ex1 e 23 "part", ex1 e 26 "at", ex1 e 34 "at", ex1 e 36 "part"]
def env0 (sc : Sl) (l : List Int) (r : Int) (c : List Int) (t : Int) (w e : D) : PB.Env := [sc, .ow (.drw l r c t), .fr w, .fr e, .un, .un, .un, .un, .un, .un, .un]
def env4 (sc : Sl) (l : List Int) (r : Int) (c : List Int) (t : Int) (w e : D) : PB.Env := [sc, .ow (.drw l r c t), .fr w, .fr e, .fr (.lst (threes e)), .fr (.lst (errs e)), .fr (.int 37), .fr (ex1 e 36 "part"), .un, .un, .un]
theorem pre_ok (sc : Sl) (l : List Int) (r : Int) (c : List Int) (t : Int) (w e : D) : preM (env0 sc l r c t w e) = .ok .nx (env4 sc l r c t w e) := by kernel_rfl
theorem end_ok (sc : Sl) (l : List Int) (r : Int) (c : List Int) (t : Int) (w e : D) (h : e ∈ anyD) : isT (endM (env4 sc l r c t w e)) = true := by
  unfold anyD at h
  simp only [List.mem_cons, List.not_mem_nil, or_false] at h
  rcases h with h | h | h | h | h | h | h | h | h | h | h | h | h | h <;> (subst h; kernel_rfl)
end PB.Lk00
set_option maxRecDepth 100000
set_option maxHeartbeats 1000000
namespace PB.Lk00
open PySem PySem.Spec PyProof.Rows L2 PB
theorem seq3 {a b c d : M Fl} {ρ ρ4 : PB.Env} {r : Res Fl} (h : sSeq a (sSeq b c) ρ = .ok .nx ρ4) (hd : d ρ4 = r) : sSeq a (sSeq b (sSeq c d)) ρ = r := by
  unfold sSeq at h ⊢
  cases ea : a ρ with
  | bad => rw [ea] at h; cases h
  | ex x ρ' => rw [ea] at h; cases h
  | ok fl ρ1 =>
    rw [ea] at h
    cases fl with
    | nx =>
      simp only at h ⊢
      cases eb : b ρ1 with
      | bad => rw [eb] at h; cases h
      | ex x ρ' => rw [eb] at h; cases h
      | ok fl ρ2 =>
        rw [eb] at h
        cases fl with
        | nx =>
          simp only at h ⊢
          rw [h]
          exact hd
        | bk => cases h
        | ct => cases h
        | rt d => cases h
        | ro d => cases h
    | bk => cases h
    | ct => cases h
    | rt d => cases h
    | ro d => cases h
theorem isT_ok {r : Res Fl} (h : isT r = true) : ∃ ρ', r = .ok (.rt (.bl true)) ρ' := by
  unfold isT at h
  split at h
  · exact ⟨_, rfl⟩
  · cases h
theorem callO_ok {F : PB.Env → FR} {as : List Arg} {ρ args o ρ' : PB.Env} {d : D} (n : (slotsOf as).Nodup) (hm : mkArgs as ρ = some args) (hF : F args = .own d o) (hp : putBack as o ρ = some ρ') : callO F as ρ = .ok d ρ' := by
  unfold callO
  rw [if_pos n, hm]
  simp only [hF]
  unfold endR
  rw [hp]
theorem mCons_ok {m : M D} {ms : M (List D)} {ρ ρ1 ρ2 : PB.Env} {x : D} {xs : List D} (h : m ρ = .ok x ρ1) (hs : ms ρ1 = .ok xs ρ2) : mCons m ms ρ = .ok (x :: xs) ρ2 := bind_ok h (bind_ok hs rfl)
def wD : List D := [.str "", .str "w", .str "nothing of the kind"]
abbrev e0 (sc dr : Sl) : PB.Env := [sc, dr, .un, .un, .un, .un, .un, .un, .un, .un, .un]
theorem law_ok (ns : List Int) (h : ns.length ≤ 63) : ∃ ρ', m_law (.fr (.fls (ns.map D.int)) :: List.replicate 10 .un) = .ok (.rt (.bl true)) ρ' := by
  obtain ⟨l, c, eb⟩ := begun ns h
  obtain ⟨w, l1, r1, t1, ep, hw⟩ := pick l 0 c 0 wD (by decide) (by decide)
  obtain ⟨e, l2, r2, t2, ea, he⟩ := any l1 r1 c t1
  obtain ⟨ρ', ee⟩ := isT_ok (end_ok (.fr (.fls (ns.map D.int))) l2 r2 c t2 w e he)
  refine ⟨ρ', ?_⟩
  refine sSeq_ok (ρ1 := e0 (.fr (.fls (ns.map D.int))) (.ow (.drw l 0 c 0))) ?_ (sSeq_ok (ρ1 := env0 (.fr (.fls (ns.map D.int))) l2 r2 c t2 w e) ?_ (seq3 (pre_ok _ _ _ _ _ _ _) ee))
  · refine bind_ok (a := .drw l 0 c 0) (ρ := e0 (.fr (.fls (ns.map D.int))) .un) ?_ rfl
    show callO F_law_begun [.v (.fls (ns.map D.int))] (e0 (.fr (.fls (ns.map D.int))) .un) = _
    exact callO_ok (as := [.v (.fls (ns.map D.int))]) (show ([] : List Nat).Nodup from List.nodup_nil) rfl eb rfl
  · refine sAsg_ok (d := .tup [w, e]) (ρ1 := e0 (.fr (.fls (ns.map D.int))) (.ow (.drw l2 r2 c t2))) (bind_ok (a := [w, e]) (ρ := e0 (.fr (.fls (ns.map D.int))) (.ow (.drw l2 r2 c t2))) (mCons_ok (ρ1 := e0 (.fr (.fls (ns.map D.int))) (.ow (.drw l1 r1 c t1))) ?_ (mCons_ok (ρ1 := e0 (.fr (.fls (ns.map D.int))) (.ow (.drw l2 r2 c t2))) ?_ rfl)) rfl) rfl
    · show callR F_law_pick [.s 1, .v (.lst wD)] (e0 (.fr (.fls (ns.map D.int))) (.ow (.drw l 0 c 0))) = _
      exact callR_ok (as := [.s 1, .v (.lst wD)]) (show ([1] : List Nat).Nodup by decide) rfl ep rfl
    · show callR F_law_any [.s 1] (e0 (.fr (.fls (ns.map D.int))) (.ow (.drw l1 r1 c t1))) = _
      exact callR_ok (as := [.s 1]) (show ([1] : List Nat).Nodup by decide) rfl ea rfl
end PB.Lk00
set_option maxRecDepth 100000
set_option maxHeartbeats 0
namespace PB.Lk00
open PySem PySem.Spec PyProof.Rows L2 PB
open PySem.W (Frag keepIn)
abbrev RR : PySem.W.OpenRow := PySem.W.OpenLaw.row PySem.Challenge.rw_playsalike_k00_errors_of_all_parts
def ob (s : PySem.W.SharedT) : AlB := tx.obsG (HandSHeadRun.getT s)
theorem ob_eq (s : PySem.W.SharedT) : ob s = tx.hook.obs s.abs := Tx.obs_eq (HandSHeadRun.getT_eq s)
theorem run (w : World) : HandSHeadRun.RunEq RR (PySem.W.view RR.prog [49]) tx.hook ob 9400 looseN w := by
  intro os
  kernel_rfl
def spL (K : Frag) : Sp := fun vs H Q _ => ∃ (a : Addr) (ns : List Int), vs = [.ref a] ∧ ns.length ≤ 63 ∧ SqL K H a (ns.map V.int) ∧ Only H ∧ ∀ H', Q (.bl true) H'
theorem start_ok {w : World} {K : Frag} {a : Addr} {ns : List Int} {H : Hp} {Q : VK} {E : XK} (hl : ns.length ≤ 63) (hS : SqL K H a (ns.map V.int)) (hO : Only H) (hQ : ∀ H', Q (.bl true) H') :
    liftS (tx.gc K) (fun c d _ H => E c d H) [] m_law { nx := fun _ H' => Q .non H', rt := Q } (L2.start N_law [.ref a]) H := by
  obtain ⟨ρ', e⟩ := law_ok ns hl
  refine ⟨fun b => H b ≠ none, fun _ => [], .fr (.fls (ns.map D.int)) :: List.replicate 10 .un, ?_, ?_⟩
  · refine ⟨rfl, fun i s q => ?_, fun _ => List.nodup_nil, fun _ _ _ h => (nomatch h), fun _ _ h => (nomatch h), fun _ _ h => (nomatch h), fun _ z => z⟩
    cases i with
    | zero =>
      cases q
      refine ⟨rfl, .ref a, rfl, a, ns.map V.int, rfl, ?_, rfl_ints ns⟩
      rcases hS with (q | ⟨o, q⟩) | q
      · rcases hO a with z | ⟨ob, xs, z⟩
        · rw [q] at z; cases z
        · rw [q] at z; cases z
      · exact .inl ⟨show H a ≠ none by rw [q]; simp, o, q⟩
      · exact .inr q
    | succ i =>
      have q : (List.replicate 10 Sl.un)[i]? = some s := by simpa using q
      rw [List.getElem?_replicate] at q
      split at q
      · cases q; exact trivial
      · cases q
  · rw [e]
    intro Z' O' σ' H' _ _ _ v hv
    have hv : v = .bl true := hv
    rw [hv]
    exact hQ H'
theorem h0_of {w : World} {K : Frag} {mg : Str → Option Value} {base h : Heap} (X : K.In h) (G : h.Ns mainGlobals mg) (c : tx.obs K = tx.val) : H0 w K mg base := by
  have ok : tx.Ok PW K := Tx.ok_of rfl c
  exact ⟨ok, fun x hx => He.glo_ok X G (ok.glo x hx), fun x hx => He.free_ok X G (ok.free x hx)⟩
theorem runA {w : World} {K : Frag} {mg : Str → Option Value} {base : Heap} {fa : Addr} (h : H0 w K mg base) (hfa : mg ("law" : Str) = some (.ref fa)) : RunA PW w K mg base (L2.CX PW w) fa (spL K) := by
  have e : fa = He.ga K "law" := by
    have := hfa.symm.trans h.f_law_fn
    cases this
    rfl
  subst e
  obtain ⟨⟨oc, od, osl, kV, doc, pm, an, cdv, ct, lk, hcd⟩, kp⟩ := h.ok.fn (fnD "law" 49) (List.mem_of_getElem? (i := 8) rfl)
  refine run_of (k := 4) lk hcd sc_law ⟨rfl, by decide, by decide⟩ (fun s u => .of_eq rfl) fun s H v Q E hr hsp => ?_
  obtain ⟨a, ns, ev, hl, hS, hO, hQ⟩ := hsp
  cases ev
  have c1 := d_law_mixed h
  have c2 := d_law_take h c1
  have c3 := d_law_pick h c2
  exact ⟨_, r_law h (d_law_any h c3) (d_law_begun h) (d_law_errors_of h) (d_law_kinds h) c3 (d_law_plain_errors h) (He.ga K "law") cdv callerA rfl [] s H E hr, start_ok (w := w) hl hS hO hQ⟩
end PB.Lk00
open PySem PySem.W PySem.Calls PyProof.Rows
theorem PySem.Challenge.cw_playsalike_k00_errors_of_all_parts_holds : PySem.Challenge.rw_playsalike_k00_errors_of_all_parts.Holds := by
  w_on; o_law
  refine HandSHeadRun.head_any (r := OpenLaw.row PySem.Challenge.rw_playsalike_k00_errors_of_all_parts) (q := view (OpenLaw.row PySem.Challenge.rw_playsalike_k00_errors_of_all_parts).prog [49]) (H := PB.Lk00.tx.hook) (ob := PB.Lk00.ob) (M := 9400) (loose := PB.Lk00.looseN) (d := HandSHeadRun.topDef (OpenLaw.row PySem.Challenge.rw_playsalike_k00_errors_of_all_parts).prog 49) (kwd := []) PB.Lk00.ob_eq
    (by kernel_rfl) (fun s => by kernel_rfl) PB.Lk00.run (by kernel_rfl) (by kernel_rfl) (by kernel_rfl) (by rfl) (by first | assumption | decide +kernel) (by decide +kernel) ⟨rfl, rfl, rfl, rfl, rfl, by decide +kernel⟩ ?hw ?hc
  case hw => w_witness2
  case hc =>
    refine PB.walk_A (l := PySem.Challenge.rw_playsalike_k00_errors_of_all_parts) (n := 63) (CX := fun w => L2.CX PB.Lk00.PW w) rfl (by decide) (by kernel_rfl) ?F ?X
    case X =>
      intro w H s e s' h
      obtain ⟨_, _, _, _, _, _, _, _, _, _, _, _, z⟩ := h
      exact z.elim
    case F =>
      intro w mg fa h Y G hmg0
      obtain ⟨K, KX, c⟩ := Y
      have hmg : mg ("law" : PySem.Str) = some (.ref fa) := by
        have e : (HandSHeadRun.topDef (OpenLaw.row PySem.Challenge.rw_playsalike_k00_errors_of_all_parts).prog 49).name = ("law" : PySem.Str) := by kernel_rfl
        rw [← e]
        exact hmg0
      exact ⟨K, PB.Lk00.spL K, KX, fun H a ns hl _ hO hS => ⟨a, ns, rfl, hl, hS, hO, fun _ => rfl⟩, fun base _ _ => PB.Lk00.runA (PB.Lk00.h0_of KX G c) hmg⟩
