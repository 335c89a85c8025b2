import PyProof.Rows.All
import Wide.All
import OpenK.AllK
import Wide.FinOn
import HandS.ForMost
import HandS.ForExc
import HandS.Lambda
import HandS.Flow
import HandS.IsInst
import HandS.Style
import HandS.ExcInit
import HandS.ExcValue
import HandS.ExcIs
import HandS.Nested
import KE.KExcSuper
import HandS.ExcField
import HandS.RaiseMore
import HandS.Dict
import HandS.List
import HandS.Comp
import HandS.Iter
import HandS.EndBits
import HandS.HeadHook1
import HandS.HeadHook2
import HandS.HeadHook3
import HandS.HeadHook4
import HandS.Head2
import HandS.More
import HandS.HeadWalk
import HandS.TryOnly
import HandS.TupAny
import HandS.WordsDict
import HandS.Star
import HandS.ListItems
import HandS.TupMul
import PyProof.StrBlock2
import HandS.EndTab
import KE.GoesEnum
import PySem.Challenge.RW_playsalike_k02_terms_and_their_sorts
set_option Elab.async false
set_option linter.all false
set_option maxRecDepth 100000
set_option maxHeartbeats 4000000
/-! PB0: Python values as trees, slots with ownership, the relation to the abstract heap, extension. -/
namespace PB
open PySem L2

/-! ### values as trees -/
inductive D where
  | non | bl (b : Bool) | int (i : Int) | str (x : Str) | ty (n : String) | at (n : Nat)
  | tup (xs : List D) | lst (xs : List D) | fls (xs : List D) | dct (ks : List Key) (xs : List D)
  | ins (c : Nat) (ns : List Str) (xs : List D)
  | exc (c : Nat) (ns : List Str) (xs : List D)
  | drw (large : List Int) (rest : Int) (cells : List Int) (turn : Int)
  | lam (k : Nat)
  deriving Inhabited

/-- the written part and where the program's classes stand -/
structure Gc where
  K : PySem.W.Frag
  cl : Nat → Addr
  /-- what the heap tells of the running def's lambdas -/
  lam : Nat → Addr → Addr → Heap → Prop
  lq : Str
  /-- the tables of code objects -/
  T : List (Addr × Str)

/-- an exception object of the class c with the dict d -/
abbrev ExcO (c : Value) (d : Option Addr) (a : Addr) : HO := .ext fun h => ∃ (oe : Obj) (vs : Array Value), h.get? a = some oe ∧ oe.cls = c ∧ oe.dict = d ∧ oe.data = .fields vs

/-- a tuple, a list of the written part -/
def WrT (K : PySem.W.Frag) (a : Addr) (vs : List V) : Prop := ∃ (o : Obj) (its : Array Value) (n : Nat), K.lookup a = some o ∧ o.cls = .type "tuple" ∧ o.data = .seq its n ∧ its.size ≤ sizeLine ∧ Vals vs its.toList
def WrL (K : PySem.W.Frag) (a : Addr) (vs : List V) : Prop := ∃ (o : Obj) (its : Array Value) (n : Nat), K.lookup a = some o ∧ o.cls = .type "list" ∧ o.dict = none ∧ o.data = .seq its n ∧ its.size ≤ sizeLine ∧ Vals vs its.toList
def FzT (G : Gc) (Z : Addr → Prop) (H : Hp) (a : Addr) (vs : List V) : Prop := (Z a ∧ H a = some (.tup vs)) ∨ WrT G.K a vs
def FzL (Z : Addr → Prop) (H : Hp) (a : Addr) (vs : List V) : Prop := Z a ∧ H a = some (.lst vs)
/-- a list from outside, or written -/
def FoL (G : Gc) (Z : Addr → Prop) (H : Hp) (a : Addr) (vs : List V) : Prop := (Z a ∧ ∃ o, H a = some (.frz o (.lst vs))) ∨ WrL G.K a vs
def FzD (Z : Addr → Prop) (H : Hp) (a : Addr) (kvs : List (Key × V)) : Prop := Z a ∧ Rd H a (.dK kvs)

/-- the own dict of an exception: none, or what it tells -/
def XcD (Z : Addr → Prop) (H : Hp) (d : Option Addr) (fs : List (Str × V)) : Prop := match d with
  | none => fs = []
  | some dd => Z dd ∧ H dd = some (.xd fs)
theorem XcD.keep {Z Z' : Addr → Prop} {H H' : Hp} {d : Option Addr} {fs : List (Str × V)} (zs : ∀ a, Z a → Z' a) (k : ∀ a o, Z a → H a = some (.xd o) → H' a = some (.xd o)) (h : XcD Z H d fs) : XcD Z' H' d fs := by
  cases d with
  | none => exact h
  | some dd => exact ⟨zs _ h.1, k _ _ h.1 h.2⟩
mutual
/-- v is d, all of it frozen: what Z tells is never changed again -/
def Rf (G : Gc) (Z : Addr → Prop) (H : Hp) : D → V → Prop
  | .non, v => v = .non
  | .bl b, v => v = .bl b
  | .int i, v => v = .int i
  | .str x, v => v = .str x
  | .ty n, v => v = .ty n
  | .at n, v => v = .ref (G.cl n)
  | .tup xs, v => ∃ a vs, v = .ref a ∧ FzT G Z H a vs ∧ RfL G Z H xs vs
  | .lst xs, v => ∃ a vs, v = .ref a ∧ FzL Z H a vs ∧ RfL G Z H xs vs
  | .fls xs, v => ∃ a vs, v = .ref a ∧ FoL G Z H a vs ∧ RfL G Z H xs vs
  | .dct ks xs, v => ∃ a vs, v = .ref a ∧ FzD Z H a (ks.zip vs) ∧ ks.length = xs.length ∧ RfL G Z H xs vs
  | .ins c ns xs, v => ∃ a dx vs, v = .ref a ∧ (Z a ∧ Z dx) ∧ H a = some (.ins (G.cl c) dx (ns.zip vs)) ∧ H dx = some (.own a) ∧ ns.length = xs.length ∧ RfL G Z H xs vs
  | .exc c ns xs, v => ∃ a d vs, v = .ref a ∧ Z a ∧ H a = some (ExcO (.ref (G.cl c)) d a) ∧ XcD Z H d (ns.zip vs) ∧ ns.length = xs.length ∧ RfL G Z H xs vs
  | .drw _ _ _ _, _ => False
  | .lam k, v => ∃ a c, v = .ref a ∧ (Z a ∧ Z c) ∧ H a = some (.ext (G.lam k c a)) ∧ H c = some (LamX.CodeO c G.lq)
def RfL (G : Gc) (Z : Addr → Prop) (H : Hp) : List D → List V → Prop
  | [], vs => vs = []
  | x :: xs, vs => ∃ v r, vs = v :: r ∧ Rf G Z H x v ∧ RfL G Z H xs r
end

/-- v is d, its top not frozen: at fp stands what its owner may change -/
def Own (G : Gc) (Z : Addr → Prop) (H : Hp) (d : D) (v : V) (fp : List Addr) : Prop :=
  match d with
  | .lst xs => ∃ a vs, v = .ref a ∧ fp = [a] ∧ H a = some (.lst vs) ∧ RfL G Z H xs vs
  | .dct ks xs => ∃ a vs, v = .ref a ∧ fp = [a] ∧ H a = some (.dK (ks.zip vs)) ∧ ks.length = xs.length ∧ RfL G Z H xs vs
  | .ins c ns xs => ∃ a dx vs, v = .ref a ∧ fp = [a, dx] ∧ H a = some (.ins (G.cl c) dx (ns.zip vs)) ∧ H dx = some (.own a) ∧ ns.length = xs.length ∧ RfL G Z H xs vs
  | .drw large rest cells turn => ∃ a l c, v = .ref a ∧ fp = [a, l] ∧ H a = some (.dK [(.inr "large", .ref l), (.inr "rest", .int rest), (.inr "cells", .ref c), (.inr "turn", .int turn)]) ∧
      H l = some (.lst (large.map V.int)) ∧ FzL Z H c (cells.map V.int)
  | _ => False

/-- a slot: nothing told, frozen, owned, borrowed -/
inductive Sl where
  | un | fr (d : D) | ow (d : D) | io (d : D)
  deriving Inhabited
abbrev Env := List Sl

def RS (G : Gc) (Z : Addr → Prop) (H : Hp) (s : Sl) (w : Option V) (fp : List Addr) : Prop :=
  match s with
  | .un => True
  | .fr d => fp = [] ∧ ∃ v, w = some v ∧ Rf G Z H d v
  | .ow d => ∃ v, w = some v ∧ Own G Z H d v fp
  | .io d => ∃ v, w = some v ∧ Own G Z H d v fp

/-- an object that is neither a table nor a fact -/
def Pl (w : Option HO) : Prop := ∃ o, w = some o ∧ (∀ ps, o ≠ .tbl ps) ∧ ∀ φ, o ≠ .ext φ
/-- an object, no table -/
def Nt (w : Option HO) : Prop := ∃ o, w = some o ∧ ∀ ps, o ≠ .tbl ps
theorem Pl.nt {w : Option HO} (h : Pl w) : Nt w := let ⟨o, e, n, _⟩ := h; ⟨o, e, n⟩
theorem Pl.ne {w : Option HO} (h : Pl w) : w ≠ none := let ⟨_, e, _⟩ := h; by rw [e]; simp
theorem Nt.ne {w : Option HO} (h : Nt w) : w ≠ none := let ⟨_, e, _⟩ := h; by rw [e]; simp
theorem Pl.no {w : Option HO} {ps : Array Value} (h : Pl w) (e : w = some (.tbl ps)) : False := by
  obtain ⟨o, e2, n, _⟩ := h
  rw [e] at e2; cases e2; exact n ps rfl
theorem Nt.no {w : Option HO} {ps : Array Value} (h : Nt w) (e : w = some (.tbl ps)) : False := by
  obtain ⟨o, e2, n⟩ := h
  rw [e] at e2; cases e2; exact n ps rfl
theorem Pl.of {o : HO} (n : ∀ ps, o ≠ .tbl ps := by intro _ e; cases e) (m : ∀ φ, o ≠ .ext φ := by intro _ e; cases e) : Pl (some o) := ⟨o, rfl, n, m⟩
theorem Nt.of {o : HO} (n : ∀ ps, o ≠ .tbl ps := by intro _ e; cases e) : Nt (some o) := ⟨o, rfl, n⟩
theorem tabS_upd {H : Hp} {P a : Addr} {q : Str} {o : HO} (t : LamX.TabS H P q) (h : ∀ u, H a = some u → Pl (some u)) : LamX.TabS (upd H a o) P q := by
  obtain ⟨ps, h1, h2, h3⟩ := t
  have n1 : P ≠ a := fun e => (h _ (e ▸ h1)).no rfl
  refine ⟨ps, by rw [upd_ne n1]; exact h1, h2, fun pos cv hc => ?_⟩
  obtain ⟨c, e1, e2⟩ := h3 pos cv hc
  refine ⟨c, e1, ?_⟩
  rw [upd_ne fun e => ?_]
  · exact e2
  · obtain ⟨o', e3, _, n⟩ := h _ (e ▸ e2)
    cases e3
    exact n _ rfl
theorem tabs_upd {T : List (Addr × Str)} {H : Hp} {a : Addr} {o : HO} (t : LamX.Tabs T H) (h : ∀ u, H a = some u → Pl (some u)) : LamX.Tabs T (upd H a o) := fun p hp => tabS_upd (t p hp) h
/-- the tables' code objects are let go -/
def TbZ (T : List (Addr × Str)) (Z : Addr → Prop) (H : Hp) : Prop := LamX.Tabs T H ∧ ∀ p ∈ T, ∀ ps, H p.1 = some (.tbl ps) → ∀ pos cv, codeAmong pos ps.toList = some cv → ∃ c, cv = .ref c ∧ Z c
theorem TbZ.mono {T : List (Addr × Str)} {Z Z' : Addr → Prop} {H : Hp} (t : TbZ T Z H) (zs : ∀ a, Z a → Z' a) : TbZ T Z' H := ⟨t.1, fun p hp ps e pos cv hc => let ⟨c, e1, z⟩ := t.2 p hp ps e pos cv hc; ⟨c, e1, zs c z⟩⟩
theorem TbZ.grow {T : List (Addr × Str)} {Z Z' : Addr → Prop} {H H' : Hp} (t : TbZ T Z H) (zs : ∀ a, Z a → Z' a) (kp : ∀ a o, H a = some o → H' a = some o) : TbZ T Z' H' := ⟨t.1.ext kp, fun p hp ps e pos cv hc => by
  obtain ⟨ps0, e0, _⟩ := t.1 p hp
  rw [kp _ _ e0] at e; cases e
  obtain ⟨c, e1, z⟩ := t.2 p hp _ e0 pos cv hc
  exact ⟨c, e1, zs c z⟩⟩
theorem TbZ.upd {T : List (Addr × Str)} {Z : Addr → Prop} {H : Hp} {a : Addr} {o : HO} (t : TbZ T Z H) (h : ∀ u, H a = some u → Pl (some u)) : TbZ T Z (upd H a o) := ⟨tabs_upd t.1 h, fun p hp ps e pos cv hc => by
  obtain ⟨ps0, e0, _⟩ := t.1 p hp
  have n : p.1 ≠ a := fun q => (h _ (q ▸ e0)).no rfl
  rw [upd_ne n] at e
  exact t.2 p hp ps e pos cv hc⟩
theorem tabs_new {T : List (Addr × Str)} {Z : Addr → Prop} {H : Hp} {a : Addr} {o : HO} (t : TbZ T Z H) (h : H a = none) : TbZ T Z (upd H a o) := t.upd fun u e => by rw [h] at e; cases e
theorem tabs_at {T : List (Addr × Str)} {Z : Addr → Prop} {H : Hp} {a : Addr} {o : HO} (t : TbZ T Z H) (h : Pl (H a)) : TbZ T Z (upd H a o) := t.upd fun u e => by rw [e] at h; exact h

structure R (G : Gc) (Z : Addr → Prop) (O : Nat → List Addr) (ρ : Env) (σ : St) (H : Hp) : Prop where
  len : ρ.length = σ.length
  sl : ∀ i s, ρ[i]? = some s → RS G Z H s (σ[i]?.getD none) (O i)
  nd : ∀ i, (O i).Nodup
  dj : ∀ i j a, a ∈ O i → a ∈ O j → i = j
  oz : ∀ i a, a ∈ O i → ¬ Z a
  od : ∀ i a, a ∈ O i → Pl (H a)
  zd : ∀ a, Z a → Nt (H a)
  tb : TbZ G.T Z H

abbrev Ow (O : Nat → List Addr) (a : Addr) : Prop := ∃ i, a ∈ O i
def setO (O : Nat → List Addr) (i : Nat) (fp : List Addr) : Nat → List Addr := fun j => if j = i then fp else O j

/-- stands as it was, or is a frozen dict that is locked from now on -/
def Kpt (o : HO) (w : Option HO) : Prop := w = some o ∨ ∃ od kvs, o = .dK kvs ∧ w = some (.frz od (.dK kvs))
/-- .. or is a table -/
def Kept (z : Prop) (o : HO) (w : Option HO) : Prop := w = some o ∨ (z ∧ ∃ od kvs, o = .dK kvs ∧ w = some (.frz od (.dK kvs))) ∨ ∃ ps ps', o = .tbl ps ∧ w = some (.tbl ps')
theorem Kpt.eq {o : HO} {w : Option HO} (h : Kpt o w) (n : ∀ kvs, o ≠ .dK kvs) : w = some o := h.elim id fun ⟨_, kvs, e, _⟩ => absurd e (n kvs)
theorem Kept.eq {z : Prop} {o : HO} {w : Option HO} (h : Kept z o w) (n : ∀ kvs, o ≠ .dK kvs) (m : ∀ ps, o ≠ .tbl ps) : w = some o := h.elim id fun h => h.elim (fun ⟨_, _, kvs, e, _⟩ => absurd e (n kvs)) fun ⟨ps, _, e, _⟩ => absurd e (m ps)
theorem Kept.no {z : Prop} {o : HO} {w : Option HO} (h : Kept z o w) (n : ¬ z) (m : ∀ ps, o ≠ .tbl ps) : w = some o := h.elim id fun h => h.elim (fun ⟨q, _⟩ => absurd q n) fun ⟨ps, _, e, _⟩ => absurd e (m ps)
theorem Kept.kpt {z : Prop} {o : HO} {w : Option HO} (h : Kept z o w) (m : ∀ ps, o ≠ .tbl ps) : Kpt o w := h.elim .inl fun h => h.elim (fun ⟨_, q⟩ => .inr q) fun ⟨ps, _, e, _⟩ => absurd e (m ps)
theorem Kept.ne {z : Prop} {o : HO} {w : Option HO} (h : Kept z o w) : w ≠ none := h.elim (fun e => by rw [e]; simp) fun h => h.elim (fun ⟨_, _, _, _, e⟩ => by rw [e]; simp) fun ⟨_, _, _, e⟩ => by rw [e]; simp
theorem Kept.pl {z : Prop} {o : HO} {w : Option HO} (h : Kept z o w) (p : Pl (some o)) : Pl w := by
  obtain ⟨o', e, n, m⟩ := p
  cases e
  rcases h with h | ⟨_, od, kvs, _, h⟩ | ⟨ps, _, e, _⟩
  · rw [h]; exact .of n m
  · rw [h]; exact .of
  · exact absurd e (n ps)
/-- what a piece of code may do: all that was not owned stands; what comes in was owned, or is new -/
structure Ext (Z : Addr → Prop) (O : Nat → List Addr) (H : Hp) (Z' : Addr → Prop) (O' : Nat → List Addr) (H' : Hp) : Prop where
  zs : ∀ a, Z a → Z' a
  kp : ∀ a o, H a = some o → ¬ Ow O a → Kept (Z a) o (H' a)
  zn : ∀ a, Z' a → Z a ∨ Ow O a ∨ H a = none
  on : ∀ a, Ow O' a → Ow O a ∨ H a = none
  dm : ∀ a, H' a = none → H a = none

theorem Ext.refl {Z : Addr → Prop} {O : Nat → List Addr} {H : Hp} : Ext Z O H Z O H :=
  ⟨fun _ h => h, fun _ _ h _ => .inl h, fun _ h => .inl h, fun _ h => .inl h, fun _ h => h⟩
theorem Ext.trans {Z Z1 Z2 : Addr → Prop} {O O1 O2 : Nat → List Addr} {H H1 H2 : Hp} (a : Ext Z O H Z1 O1 H1) (b : Ext Z1 O1 H1 Z2 O2 H2) : Ext Z O H Z2 O2 H2 where
  zs := fun x h => b.zs x (a.zs x h)
  kp := fun x o h n => by
    have n1 : ¬ Ow O1 x := fun q => (a.on x q).elim n fun z => by rw [z] at h; cases h
    rcases a.kp x o h n with e | ⟨z, od, kvs, rfl, e⟩ | ⟨ps, ps', rfl, e⟩
    · rcases b.kp x o e n1 with e2 | ⟨z, od, kvs, eo, e2⟩ | e2
      · exact .inl e2
      · refine .inr (.inl ⟨?_, od, kvs, eo, e2⟩)
        rcases a.zn x z with q | q | q
        · exact q
        · exact absurd q n
        · rw [q] at h; cases h
      · exact .inr (.inr e2)
    · exact .inr (.inl ⟨z, od, kvs, rfl, (b.kp x _ e n1).eq (fun _ q => by cases q) fun _ q => by cases q⟩)
    · rcases b.kp x _ e n1 with e2 | ⟨_, _, _, eo, _⟩ | ⟨_, ps2, _, e2⟩
      · exact .inr (.inr ⟨ps, ps', rfl, e2⟩)
      · cases eo
      · exact .inr (.inr ⟨ps, ps2, rfl, e2⟩)
  zn := fun x h => by
    rcases b.zn x h with h | h | h
    · exact a.zn x h
    · exact .inr (a.on x h)
    · exact .inr (.inr (a.dm x h))
  on := fun x h => by
    rcases b.on x h with h | h
    · exact a.on x h
    · exact .inr (a.dm x h)
  dm := fun x h => a.dm x (b.dm x h)

section
variable {G : Gc} {Z Z' : Addr → Prop} {H H' : Hp}
theorem FzT.sq {a : Addr} {vs : List V} (h : FzT G Z H a vs) : SqT G.K H a vs := h.elim (fun h => .of h.2) .inr
theorem FzL.sq {a : Addr} {vs : List V} (h : FzL Z H a vs) : SqL G.K H a vs := .of h.2
theorem FoL.sq {a : Addr} {vs : List V} (h : FoL G Z H a vs) : SqL G.K H a vs := h.elim (fun h => .inl (.inr h.2)) .inr
/-- what Z tells stands -/
def Kp (Z : Addr → Prop) (H H' : Hp) : Prop := ∀ a o, Z a → H a = some o → Kpt o (H' a)
theorem Kp.eq {a : Addr} {o : HO} (k : Kp Z H H') (z : Z a) (h : H a = some o) (n : ∀ kvs, o ≠ .dK kvs := by intro _ e; cases e) : H' a = some o := (k a o z h).eq n
theorem Kp.trans {Z1 : Addr → Prop} {H1 H2 : Hp} (a : Kp Z H H1) (zs : ∀ a, Z a → Z1 a) (b : Kp Z1 H1 H2) : Kp Z H H2 := fun x o z e => (a x o z e).elim (fun e1 => (b x o (zs x z) e1).elim .inl fun q => .inr q) fun ⟨od, kvs, eo, e1⟩ => .inr ⟨od, kvs, eo, b.eq (zs x z) e1⟩
theorem Kp.of {Z : Addr → Prop} {H H' : Hp} (k : ∀ a o, Z a → H a = some o → H' a = some o) : Kp Z H H' := fun a o z e => .inl (k a o z e)
theorem Kp.rd {a : Addr} {u : HO} (k : Kp Z H H') (z : Z a) (h : Rd H a u) : Rd H' a u := h.elim (fun h => (k a _ z h).elim .inl fun ⟨od, _, e, q⟩ => .inr ⟨od, by rw [e]; exact q⟩) fun ⟨o, h⟩ => .inr ⟨o, k.eq z h⟩

mutual
theorem Rf.keep (zs : ∀ a, Z a → Z' a) (k : Kp Z H H') : ∀ {d : D} {v : V}, Rf G Z H d v → Rf G Z' H' d v
  | .non, _, h | .bl _, _, h | .int _, _, h | .str _, _, h | .ty _, _, h | .at _, _, h => h
  | .tup xs, _, ⟨a, vs, e, f, r⟩ => ⟨a, vs, e, f.elim (fun ⟨z, f⟩ => .inl ⟨zs a z, k.eq z f⟩) .inr, RfL.keep zs k r⟩
  | .lst xs, _, ⟨a, vs, e, ⟨z, f⟩, r⟩ => ⟨a, vs, e, ⟨zs a z, k.eq z f⟩, RfL.keep zs k r⟩
  | .fls xs, _, ⟨a, vs, e, f, r⟩ => ⟨a, vs, e, f.elim (fun ⟨z, o, f⟩ => .inl ⟨zs a z, o, k.eq z f⟩) .inr, RfL.keep zs k r⟩
  | .dct ks xs, _, ⟨a, vs, e, ⟨z, f⟩, l, r⟩ => ⟨a, vs, e, ⟨zs a z, k.rd z f⟩, l, RfL.keep zs k r⟩
  | .ins c ns xs, _, ⟨a, dx, vs, e, ⟨z1, z2⟩, f1, f2, l, r⟩ => ⟨a, dx, vs, e, ⟨zs a z1, zs dx z2⟩, k.eq z1 f1, k.eq z2 f2, l, RfL.keep zs k r⟩
  | .exc c ns xs, _, ⟨a, d, vs, e, z, f, g, l, r⟩ => ⟨a, d, vs, e, zs a z, k.eq z f, g.keep zs (fun a o z e => k.eq z e), l, RfL.keep zs k r⟩
  | .drw _ _ _ _, _, h => h
  | .lam n, _, ⟨a, c, e, z, f, g⟩ => ⟨a, c, e, ⟨zs a z.1, zs c z.2⟩, k.eq z.1 f, k.eq z.2 g (by intro _ q; unfold LamX.CodeO at q; cases q)⟩
theorem RfL.keep (zs : ∀ a, Z a → Z' a) (k : Kp Z H H') : ∀ {xs : List D} {vs : List V}, RfL G Z H xs vs → RfL G Z' H' xs vs
  | [], _, h => h
  | _ :: _, _, ⟨v, r, e, h1, h2⟩ => ⟨v, r, e, Rf.keep zs k h1, RfL.keep zs k h2⟩
end
theorem RfL.length : ∀ {xs : List D} {vs : List V}, RfL G Z H xs vs → xs.length = vs.length
  | [], _, h => by cases h; rfl
  | _ :: _, _, ⟨_, _, e, _, h⟩ => by rw [e, List.length_cons, List.length_cons, h.length]
theorem RfL.get : ∀ {xs : List D} {vs : List V} {i : Nat} {x : D}, RfL G Z H xs vs → xs[i]? = some x → ∃ v, vs[i]? = some v ∧ Rf G Z H x v
  | [], _, _, _, _, e => by simp at e
  | _ :: _, _, 0, _, ⟨v, r, q, h, _⟩, e => by simp at e; subst e; exact ⟨v, by rw [q]; rfl, h⟩
  | _ :: _, _, i + 1, x, ⟨v, r, q, _, h⟩, e => by
    obtain ⟨w, e1, e2⟩ := RfL.get (i := i) (x := x) h (by simpa using e)
    exact ⟨w, by rw [q]; simpa using e1, e2⟩
theorem RfL.append : ∀ {xs ys : List D} {vs ws : List V}, RfL G Z H xs vs → RfL G Z H ys ws → RfL G Z H (xs ++ ys) (vs ++ ws)
  | [], _, _, _, h, k => by cases h; exact k
  | _ :: _, _, _, _, ⟨v, r, e, h1, h2⟩, k => ⟨v, r ++ _, by rw [e]; rfl, h1, h2.append k⟩
theorem RfL.one {x : D} {v : V} (h : Rf G Z H x v) : RfL G Z H [x] [v] := ⟨v, [], rfl, h, rfl⟩

theorem Own.keep {d : D} {v : V} {fp : List Addr} (zs : ∀ a, Z a → Z' a) (k : Kp Z H H') (ko : ∀ a ∈ fp, ∀ o, H a = some o → H' a = some o) (h : Own G Z H d v fp) : Own G Z' H' d v fp := by
  cases d with
  | lst xs =>
    obtain ⟨a, vs, e, rfl, f, r⟩ := h
    exact ⟨a, vs, e, rfl, ko a (by simp) _ f, r.keep zs k⟩
  | dct ks xs =>
    obtain ⟨a, vs, e, rfl, f, l, r⟩ := h
    exact ⟨a, vs, e, rfl, ko a (by simp) _ f, l, r.keep zs k⟩
  | ins c ns xs =>
    obtain ⟨a, dx, vs, e, rfl, f, f2, l, r⟩ := h
    exact ⟨a, dx, vs, e, rfl, ko a (by simp) _ f, ko dx (by simp) _ f2, l, r.keep zs k⟩
  | drw _ _ _ _ =>
    obtain ⟨a, l, c, e, rfl, f1, f2, f3⟩ := h
    exact ⟨a, l, c, e, rfl, ko a (by simp) _ f1, ko l (by simp) _ f2, zs c f3.1, k.eq f3.1 f3.2⟩
  | _ => exact h.elim
theorem Own.there {d : D} {v : V} {fp : List Addr} (h : Own G Z H d v fp) : ∀ a ∈ fp, Pl (H a) := by
  intro b hb
  cases d with
  | lst xs =>
    obtain ⟨a, vs, e, rfl, f, r⟩ := h
    simp at hb; subst hb; rw [f]; exact .of
  | dct ks xs =>
    obtain ⟨a, vs, e, rfl, f, l, r⟩ := h
    simp at hb; subst hb; rw [f]; exact .of
  | ins c ns xs =>
    obtain ⟨a, dx, vs, e, rfl, f, f2, l, r⟩ := h
    simp at hb
    rcases hb with rfl | rfl
    · rw [f]; exact .of
    · rw [f2]; exact .of
  | drw _ _ _ _ =>
    obtain ⟨a, l, c, e, rfl, f1, f2, f3⟩ := h
    simp at hb
    rcases hb with rfl | rfl
    · rw [f1]; exact .of
    · rw [f2]; exact .of
  | _ => exact h.elim
/-- owned, then let go into Z -/
theorem Own.freeze {d : D} {v : V} {fp : List Addr} (h : Own G Z H d v fp) (nd : ∀ l r c t, d ≠ .drw l r c t) : Rf G (fun a => Z a ∨ a ∈ fp) H d v := by
  have zs : ∀ a, Z a → (fun a => Z a ∨ a ∈ fp) a := fun a z => .inl z
  have k : Kp Z H H := fun _ _ _ e => .inl e
  cases d with
  | lst xs =>
    obtain ⟨a, vs, e, rfl, f, r⟩ := h
    exact ⟨a, vs, e, ⟨.inr (by simp), f⟩, r.keep zs k⟩
  | dct ks xs =>
    obtain ⟨a, vs, e, rfl, f, l, r⟩ := h
    exact ⟨a, vs, e, ⟨.inr (by simp), .inl f⟩, l, r.keep zs k⟩
  | ins c ns xs =>
    obtain ⟨a, dx, vs, e, rfl, f, f2, l, r⟩ := h
    exact ⟨a, dx, vs, e, ⟨.inr (by simp), .inr (by simp)⟩, f, f2, l, r.keep zs k⟩
  | drw l r c t => exact absurd rfl (nd l r c t)
  | _ => exact h.elim

theorem RS.keep {s : Sl} {w : Option V} {fp : List Addr} (zs : ∀ a, Z a → Z' a) (k : Kp Z H H') (ko : ∀ a ∈ fp, ∀ o, H a = some o → H' a = some o) (h : RS G Z H s w fp) : RS G Z' H' s w fp := by
  cases s with
  | un => exact h
  | fr d =>
    obtain ⟨e, v, e2, r⟩ := h
    exact ⟨e, v, e2, r.keep zs k⟩
  | ow d =>
    obtain ⟨v, e2, r⟩ := h
    exact ⟨v, e2, r.keep zs k ko⟩
  | io d =>
    obtain ⟨v, e2, r⟩ := h
    exact ⟨v, e2, r.keep zs k ko⟩
end
section
variable {G : Gc} {Z Z' : Addr → Prop} {H H' : Hp} {O : Nat → List Addr} {ρ : Env} {σ : St}
theorem Kp.of_ext {Z1 : Addr → Prop} {O1 : Nat → List Addr} (r : R G Z O ρ σ H) (x : Ext Z O H Z1 O1 H') : Kp Z H H' := fun a o z e => (x.kp a o e fun ⟨i, q⟩ => r.oz i a q z).kpt fun ps eo => (r.zd a z).no (e.trans (congrArg some eo))
theorem R.rf {Z1 : Addr → Prop} {O1 : Nat → List Addr} {d : D} {v : V} (r : R G Z O ρ σ H) (x : Ext Z O H Z1 O1 H') (h : Rf G Z H d v) : Rf G Z1 H' d v := h.keep x.zs (Kp.of_ext r x)
theorem R.rfL {Z1 : Addr → Prop} {O1 : Nat → List Addr} {ds : List D} {vs : List V} (r : R G Z O ρ σ H) (x : Ext Z O H Z1 O1 H') (h : RfL G Z H ds vs) : RfL G Z1 H' ds vs := h.keep x.zs (Kp.of_ext r x)
/-- the heap grows, Z too, what is there stands -/
theorem R.grow (r : R G Z O ρ σ H) (zs : ∀ a, Z a → Z' a) (kp : ∀ a o, H a = some o → H' a = some o) (zo : ∀ i a, a ∈ O i → ¬ Z' a) (zd : ∀ a, Z' a → Nt (H' a)) : R G Z' O ρ σ H' where
  len := r.len
  sl := fun i s e => (r.sl i s e).keep zs (fun a o _ e => .inl (kp a o e)) fun a _ o e => kp a o e
  nd := r.nd
  dj := r.dj
  oz := zo
  od := fun i a h => by
    obtain ⟨o, e, n⟩ := r.od i a h
    exact ⟨o, kp a o e, n⟩
  zd := zd
  tb := r.tb.grow zs kp
abbrev addZ (Z : Addr → Prop) (p : Addr) : Addr → Prop := fun a => Z a ∨ a = p
theorem upd_keep {p : Addr} {o : HO} (hp : H p = none) : ∀ a u, H a = some u → upd H p o a = some u := fun a u e => by rw [upd_ne (ne_of_none e hp)]; exact e
/-- a new frozen object -/
theorem R.new {p : Addr} {o : HO} (r : R G Z O ρ σ H) (hp : H p = none) (n : ∀ ps, o ≠ .tbl ps := by intro _ e; cases e) : R G (addZ Z p) O ρ σ (upd H p o) :=
  r.grow (fun _ z => .inl z) (upd_keep hp) (fun i a h z => z.elim (r.oz i a h) fun e => (r.od i a h).ne (e ▸ hp)) fun a z => z.elim (fun z => by
    obtain ⟨u, e, m⟩ := r.zd a z
    exact ⟨u, upd_keep hp a u e, m⟩) fun e => by subst e; rw [upd_same]; exact .of n
theorem Ext.new {p : Addr} {o : HO} (hp : H p = none) : Ext Z O H (addZ Z p) O (upd H p o) :=
  ⟨fun _ z => .inl z, fun a u e _ => .inl (upd_keep hp a u e), fun a z => z.elim .inl fun e => .inr (.inr (e ▸ hp)), fun _ h => .inl h, fun a e => by
    by_cases q : a = p
    · rw [q]; exact hp
    · rw [upd_ne q] at e; exact e⟩
/-- a new object that stands apart -/
theorem R.newO {p : Addr} {o : HO} (r : R G Z O ρ σ H) (hp : H p = none) : R G Z O ρ σ (upd H p o) :=
  r.grow (fun _ z => z) (upd_keep hp) r.oz fun a z => by
    obtain ⟨u, e, m⟩ := r.zd a z
    exact ⟨u, upd_keep hp a u e, m⟩
theorem Ext.newO {p : Addr} {o : HO} (hp : H p = none) : Ext Z O H Z O (upd H p o) :=
  ⟨fun _ z => z, fun a u e _ => .inl (upd_keep hp a u e), fun a z => .inl z, fun _ h => .inl h, fun a e => by
    by_cases q : a = p
    · rw [q]; exact hp
    · rw [upd_ne q] at e; exact e⟩
end
end PB
set_option maxRecDepth 100000
set_option maxHeartbeats 4000000
/-! PB1: what a slot may do; results; the lifted readings. -/
namespace PB
open PySem L2
section
variable {G : Gc} {Z Z' : Addr → Prop} {H H' : Hp} {O : Nat → List Addr} {ρ : Env} {σ : St}
theorem setO_same {i : Nat} {fp : List Addr} : setO O i fp i = fp := by unfold setO; rw [if_pos rfl]
theorem setO_ne {i j : Nat} {fp : List Addr} (h : j ≠ i) : setO O i fp j = O j := by unfold setO; rw [if_neg h]
theorem getD_set {i j : Nat} {w : Option V} : (σ.set i w)[j]?.getD none = if j = i then (if i < σ.length then w else none) else σ[j]?.getD none := by
  rw [List.getElem?_set]
  by_cases e : i = j
  · subst e
    rw [if_pos rfl, if_pos rfl]
    by_cases h : i < σ.length
    · rw [if_pos h, if_pos h]; rfl
    · rw [if_neg h, if_neg h]; rfl
  · rw [if_neg e, if_neg (fun h => e h.symm)]
/-- a slot takes a frozen value -/
theorem R.setFr (r : R G Z O ρ σ H) {i : Nat} {d : D} {v : V} (h : Rf G Z H d v) : R G Z (setO O i []) (ρ.set i (.fr d)) (σ.set i (some v)) H where
  len := by rw [List.length_set, List.length_set]; exact r.len
  sl := fun j s e => by
    rw [getD_set]
    by_cases q : j = i
    · subst q
      rw [if_pos rfl, setO_same]
      obtain ⟨hl, _⟩ := List.getElem?_eq_some_iff.mp e
      rw [List.length_set] at hl
      rw [List.getElem?_set, if_pos rfl, if_pos hl] at e
      cases e
      rw [if_pos (by rw [← r.len]; exact hl)]
      exact ⟨rfl, v, rfl, h⟩
    · rw [if_neg q, setO_ne q]
      rw [List.getElem?_set, if_neg (fun z => q z.symm)] at e
      exact r.sl j s e
  nd := fun j => by
    by_cases q : j = i
    · subst q; rw [setO_same]; exact List.nodup_nil
    · rw [setO_ne q]; exact r.nd j
  dj := fun j k a h1 h2 => by
    by_cases q : j = i
    · subst q; rw [setO_same] at h1; cases h1
    · by_cases q2 : k = i
      · subst q2; rw [setO_same] at h2; cases h2
      · rw [setO_ne q] at h1; rw [setO_ne q2] at h2; exact r.dj j k a h1 h2
  oz := fun j a h => by
    by_cases q : j = i
    · subst q; rw [setO_same] at h; cases h
    · rw [setO_ne q] at h; exact r.oz j a h
  od := fun j a h => by
    by_cases q : j = i
    · subst q; rw [setO_same] at h; cases h
    · rw [setO_ne q] at h; exact r.od j a h
  zd := r.zd
  tb := r.tb
theorem ow_setO {i : Nat} {fp : List Addr} {a : Addr} (h : Ow (setO O i fp) a) : a ∈ fp ∨ Ow O a := by
  obtain ⟨j, h⟩ := h
  by_cases q : j = i
  · subst q; rw [setO_same] at h; exact .inl h
  · rw [setO_ne q] at h; exact .inr ⟨j, h⟩
theorem Ext.drop {i : Nat} : Ext Z O H Z (setO O i []) H :=
  ⟨fun _ z => z, fun _ _ e _ => .inl e, fun _ z => .inl z, fun _ h => (ow_setO h).elim (fun z => nomatch z) .inl, fun _ e => e⟩
/-- what a slot owns apart: new, or taken out -/
structure Apart (Z : Addr → Prop) (O : Nat → List Addr) (H : Hp) (fp : List Addr) : Prop where
  nd : fp.Nodup
  z : ∀ a ∈ fp, ¬ Z a
  o : ∀ a ∈ fp, ¬ Ow O a
  h : ∀ a ∈ fp, Pl (H a)
theorem R.setOw (r : R G Z O ρ σ H) {i : Nat} {d : D} {v : V} {fp : List Addr} (h : Own G Z H d v fp) (ap : Apart Z O H fp) : R G Z (setO O i fp) (ρ.set i (.ow d)) (σ.set i (some v)) H where
  len := by rw [List.length_set, List.length_set]; exact r.len
  sl := fun j s e => by
    rw [getD_set]
    by_cases q : j = i
    · subst q
      rw [if_pos rfl, setO_same]
      obtain ⟨hl, _⟩ := List.getElem?_eq_some_iff.mp e
      rw [List.length_set] at hl
      rw [List.getElem?_set, if_pos rfl, if_pos hl] at e
      cases e
      rw [if_pos (by rw [← r.len]; exact hl)]
      exact ⟨v, rfl, h⟩
    · rw [if_neg q, setO_ne q]
      rw [List.getElem?_set, if_neg (fun z => q z.symm)] at e
      exact r.sl j s e
  nd := fun j => by
    by_cases q : j = i
    · subst q; rw [setO_same]; exact ap.nd
    · rw [setO_ne q]; exact r.nd j
  dj := fun j k a h1 h2 => by
    by_cases q : j = i
    · by_cases q2 : k = i
      · rw [q, q2]
      · subst q; rw [setO_same] at h1; rw [setO_ne q2] at h2; exact absurd ⟨k, h2⟩ (ap.o a h1)
    · by_cases q2 : k = i
      · subst q2; rw [setO_same] at h2; rw [setO_ne q] at h1; exact absurd ⟨j, h1⟩ (ap.o a h2)
      · rw [setO_ne q] at h1; rw [setO_ne q2] at h2; exact r.dj j k a h1 h2
  oz := fun j a h => by
    by_cases q : j = i
    · subst q; rw [setO_same] at h; exact ap.z a h
    · rw [setO_ne q] at h; exact r.oz j a h
  od := fun j a h => by
    by_cases q : j = i
    · subst q; rw [setO_same] at h; exact ap.h a h
    · rw [setO_ne q] at h; exact r.od j a h
  zd := r.zd
  tb := r.tb
/-- a slot's owned value is let go: frozen -/
theorem R.freeze (r : R G Z O ρ σ H) {i : Nat} {d : D} (e : ρ[i]? = some (.ow d)) (nd : ∀ l r c t, d ≠ .drw l r c t) :
    ∃ v, σ[i]? = some (some v) ∧ R G (fun a => Z a ∨ a ∈ O i) (setO O i []) (ρ.set i (.fr d)) σ H ∧ Rf G (fun a => Z a ∨ a ∈ O i) H d v := by
  obtain ⟨v, e2, ow⟩ := r.sl i _ e
  have e3 : σ[i]? = some (some v) := by
    cases q : σ[i]? with
    | none => rw [q] at e2; cases e2
    | some w => rw [q] at e2; exact congrArg some e2
  have f := ow.freeze nd
  refine ⟨v, e3, ?_, f⟩
  have r1 : R G (fun a => Z a ∨ a ∈ O i) (setO O i []) ρ (σ.set i none) H → True := fun _ => trivial
  have hs : σ.set i (some v) = σ := by
    apply List.ext_getElem?
    intro j
    rw [List.getElem?_set]
    by_cases q : i = j
    · subst q
      rw [if_pos rfl, e3]
      obtain ⟨hl, _⟩ := List.getElem?_eq_some_iff.mp e3
      rw [if_pos hl]
    · rw [if_neg q]
  refine ⟨by rw [List.length_set]; exact r.len, fun j s q => ?_, fun j => ?_, fun j k a h1 h2 => ?_, fun j a h => ?_, fun j a h => ?_, fun a z => z.elim (r.zd a) fun h => (r.od i a h).nt, r.tb.mono fun _ z => .inl z⟩
  · by_cases q2 : j = i
    · subst q2
      obtain ⟨hl, _⟩ := List.getElem?_eq_some_iff.mp q
      rw [List.length_set] at hl
      rw [List.getElem?_set, if_pos rfl, if_pos hl] at q
      cases q
      rw [setO_same, e3]
      exact ⟨rfl, v, rfl, f⟩
    · rw [List.getElem?_set, if_neg (fun z => q2 z.symm)] at q
      rw [setO_ne q2]
      exact (r.sl j s q).keep (fun a z => .inl z) (fun _ _ _ e => .inl e) fun _ _ _ e => e
  · by_cases q : j = i
    · subst q; rw [setO_same]; exact List.nodup_nil
    · rw [setO_ne q]; exact r.nd j
  · by_cases q : j = i
    · subst q; rw [setO_same] at h1; cases h1
    · by_cases q2 : k = i
      · subst q2; rw [setO_same] at h2; cases h2
      · rw [setO_ne q] at h1; rw [setO_ne q2] at h2; exact r.dj j k a h1 h2
  · by_cases q : j = i
    · subst q; rw [setO_same] at h; cases h
    · rw [setO_ne q] at h
      exact fun z => z.elim (r.oz j a h) fun z => q (r.dj j i a h z)
  · by_cases q : j = i
    · subst q; rw [setO_same] at h; cases h
    · rw [setO_ne q] at h; exact r.od j a h
theorem Ext.freeze {i : Nat} : Ext Z O H (fun a => Z a ∨ a ∈ O i) (setO O i []) H :=
  ⟨fun _ z => .inl z, fun _ _ e _ => .inl e, fun a z => z.elim .inl fun z => .inr (.inl ⟨i, z⟩), fun _ h => (ow_setO h).elim (fun z => nomatch z) .inl, fun _ e => e⟩
/-- an owned object is written -/
theorem R.write (r : R G Z O ρ σ H) {i : Nat} {s s' : Sl} {a : Addr} {o : HO} (po : Pl (some o)) (e : ρ[i]? = some s) (ha : a ∈ O i)
    (h : RS G Z (upd H a o) s' (σ[i]?.getD none) (O i)) : R G Z O (ρ.set i s') σ (upd H a o) where
  len := by rw [List.length_set]; exact r.len
  sl := fun j t q => by
    by_cases q2 : j = i
    · subst q2
      obtain ⟨hl, _⟩ := List.getElem?_eq_some_iff.mp q
      rw [List.length_set] at hl
      rw [List.getElem?_set, if_pos rfl, if_pos hl] at q
      cases q
      exact h
    · rw [List.getElem?_set, if_neg (fun z => q2 z.symm)] at q
      refine (r.sl j t q).keep (fun _ z => z) (fun b u z e => ?_) fun b hb u e => ?_
      · rw [upd_ne fun (z2 : b = a) => r.oz i a ha (z2 ▸ z)]; exact .inl e
      · rw [upd_ne fun (z2 : b = a) => q2 (r.dj j i b hb (z2 ▸ ha))]; exact e
  nd := r.nd
  dj := r.dj
  oz := r.oz
  od := fun j b h => by
    by_cases q : b = a
    · rw [q, upd_same]; exact po
    · rw [upd_ne q]; exact r.od j b h
  zd := fun b z => by
    by_cases q : b = a
    · rw [q, upd_same]; exact po.nt
    · rw [upd_ne q]; exact r.zd b z
  tb := tabs_at r.tb (r.od i a ha)
theorem Ext.write {a : Addr} {o : HO} (ha : Ow O a) (hn : H a ≠ none) : Ext Z O H Z O (upd H a o) :=
  ⟨fun _ z => z, fun b u e n => by rw [upd_ne fun (z : b = a) => n (z ▸ ha)]; exact .inl e, fun _ z => .inl z, fun _ h => .inl h, fun b e => by
    by_cases q : b = a
    · rw [q, upd_same] at e; cases e
    · rw [upd_ne q] at e; exact e⟩
/-- frozen by value in Rf of the written object: nothing frozen hangs on it -/
theorem Rf.write (r : R G Z O ρ σ H) {a : Addr} {o : HO} {d : D} {v : V} (ha : Ow O a) (h : Rf G Z H d v) : Rf G Z (upd H a o) d v :=
  h.keep (fun _ z => z) fun b u z e => by rw [upd_ne fun (z2 : b = a) => ha.elim fun i q => r.oz i a q (z2 ▸ z)]; exact .inl e
theorem RfL.write (r : R G Z O ρ σ H) {a : Addr} {o : HO} {d : List D} {v : List V} (ha : Ow O a) (h : RfL G Z H d v) : RfL G Z (upd H a o) d v :=
  h.keep (fun _ z => z) fun b u z e => by rw [upd_ne fun (z2 : b = a) => ha.elim fun i q => r.oz i a q (z2 ▸ z)]; exact .inl e
end

def isDrw : D → Bool
  | .drw _ _ _ _ => true
  | _ => false
theorem isDrw_no {d : D} (h : isDrw d = false) : ∀ l r c t, d ≠ .drw l r c t := fun l r c t e => by subst e; cases h
/-! ### results -/
inductive Res (α : Type) where
  | ok (a : α) (ρ : Env)
  | ex (x : D) (ρ : Env)
  | bad
@[inline] def Res.bind {α β : Type} (r : Res α) (f : α → Env → Res β) : Res β := match r with
  | .ok a ρ => f a ρ
  | .ex x ρ => .ex x ρ
  | .bad => .bad
abbrev M (α : Type) := Env → Res α

/-- an exception in flight is the datum x: its class, its own dict -/
def XR (G : Gc) (Z : Addr → Prop) (H : Hp) (x : D) (c : Value) (dd : Option Addr) : Prop := match x with
  | .exc n ns xs => c = .ref (G.cl n) ∧ ∃ vs, XcD Z H dd (ns.zip vs) ∧ ns.length = xs.length ∧ RfL G Z H xs vs
  | _ => False

/-- how a datum lies -/
abbrev Rep (α β : Type) := (Addr → Prop) → (Nat → List Addr) → Env → St → Hp → α → β → Prop
/-- behind a result: what is wanted of it -/
def contG {α β : Type} (G : Gc) (W : WX) (rep : Rep α β) (r : Res α) (Z : Addr → Prop) (O : Nat → List Addr) (σ : St) (H : Hp) (Q : β → Hp → Prop) : Prop := match r with
  | .ok d ρ' => ∀ v Z' O' H', Ext Z O H Z' O' H' → R G Z' O' ρ' σ H' → rep Z' O' ρ' σ H' d v → Q v H'
  | .ex x ρ' => ∀ c dd Z' O' H', Ext Z O H Z' O' H' → R G Z' O' ρ' σ H' → XR G Z' H' x c dd → W c dd σ H'
  | .bad => False
/-- a reading out of what the code does -/
def liftG {α β : Type} (G : Gc) (W : WX) (rep : Rep α β) (m : M α) : St → Hp → (β → Hp → Prop) → Prop := fun σ H Q => ∃ Z O ρ, R G Z O ρ σ H ∧ contG G W rep (m ρ) Z O σ H Q
abbrev repB : Rep Bool Bool := fun _ _ _ _ _ a b => a = b
abbrev repF (G : Gc) : Rep D V := fun Z _ _ _ H d v => Rf G Z H d v
abbrev repL (G : Gc) : Rep (List D) (List V) := fun Z _ _ _ H d v => RfL G Z H d v
/-- owned: at the place behind the slots -/
abbrev repO (G : Gc) : Rep D V := fun Z O ρ _ H d v => Own G Z H d v (O ρ.length)
abbrev cont (G : Gc) (W : WX) := contG G W (repF G)
abbrev lift (G : Gc) (W : WX) (m : M D) : TE := liftG G W (repF G) m
abbrev liftO (G : Gc) (W : WX) (m : M D) : TE := liftG G W (repO G) m
abbrev liftL (G : Gc) (W : WX) (m : M (List D)) : TA := liftG G W (repL G) m
abbrev liftB (G : Gc) (W : WX) (m : M Bool) : TT := liftG G W repB m

section
variable {α β γ δ : Type} {G : Gc} {W : WX} {rep : Rep α β} {rep' : Rep γ δ} {Z : Addr → Prop} {O : Nat → List Addr} {ρ : Env} {σ : St} {H : Hp}
theorem contG.ext {r : Res α} {Z1 : Addr → Prop} {O1 : Nat → List Addr} {H1 : Hp} {Q : β → Hp → Prop} (x : Ext Z O H Z1 O1 H1) (h : contG G W rep r Z O σ H Q) : contG G W rep r Z1 O1 σ H1 Q := by
  cases r with
  | ok d ρ' => exact fun v Z' O' H' y => h v Z' O' H' (x.trans y)
  | ex d ρ' => exact fun c dd Z' O' H' y => h c dd Z' O' H' (x.trans y)
  | bad => exact h
/-- one after the other -/
theorem contG.bind {r : Res α} {f : α → Env → Res γ} {Q : δ → Hp → Prop} (h : contG G W rep' (r.bind f) Z O σ H Q) :
    contG G W rep r Z O σ H (fun v H1 => ∃ Z1 O1 ρ1 d1, Ext Z O H Z1 O1 H1 ∧ R G Z1 O1 ρ1 σ H1 ∧ rep Z1 O1 ρ1 σ H1 d1 v ∧ contG G W rep' (f d1 ρ1) Z1 O1 σ H1 Q) := by
  cases r with
  | ok d ρ' => exact fun v Z' O' H' y rr hf => ⟨Z', O', ρ', d, y, rr, hf, h.ext y⟩
  | ex d ρ' => exact h
  | bad => exact h
theorem contG.mono {r : Res α} {Q Q' : β → Hp → Prop} (h : contG G W rep r Z O σ H Q) (hQ : ∀ v H, Q v H → Q' v H) : contG G W rep r Z O σ H Q' := by
  cases r with
  | ok d ρ' => exact fun v Z' O' H' y rr hf => hQ _ _ (h v Z' O' H' y rr hf)
  | ex d ρ' => exact h
  | bad => exact h
/-- the first of two readings -/
theorem liftG.bind {m : M α} {f : α → Env → Res γ} {Q : δ → Hp → Prop} (h : liftG G W rep' (fun ρ => (m ρ).bind f) σ H Q) :
    liftG G W rep m σ H (fun v H1 => ∃ Z1 O1 ρ1 d1, R G Z1 O1 ρ1 σ H1 ∧ rep Z1 O1 ρ1 σ H1 d1 v ∧ contG G W rep' (f d1 ρ1) Z1 O1 σ H1 Q) := by
  obtain ⟨Z, O, ρ, r, h⟩ := h
  exact ⟨Z, O, ρ, r, h.bind.mono fun v H ⟨Z1, O1, ρ1, d1, _, b, c, d⟩ => ⟨Z1, O1, ρ1, d1, b, c, d⟩⟩
theorem liftG.mk {m : M α} {Q : β → Hp → Prop} (r : R G Z O ρ σ H) (h : contG G W rep (m ρ) Z O σ H Q) : liftG G W rep m σ H Q := ⟨Z, O, ρ, r, h⟩
theorem liftG.mono {m : M α} {Q Q' : β → Hp → Prop} (h : liftG G W rep m σ H Q) (hQ : ∀ v H, Q v H → Q' v H) : liftG G W rep m σ H Q' := by
  obtain ⟨Z, O, ρ, r, h⟩ := h
  exact ⟨Z, O, ρ, r, h.mono hQ⟩
/-- another way to represent -/
theorem contG.chg {rep2 : Rep α β} {r : Res α} {Q : β → Hp → Prop} (w : ∀ Z' O' ρ' H' d v, R G Z' O' ρ' σ H' → rep2 Z' O' ρ' σ H' d v → ∃ Z2 O2 H2, Ext Z' O' H' Z2 O2 H2 ∧ H2 = H' ∧ R G Z2 O2 ρ' σ H2 ∧ rep Z2 O2 ρ' σ H2 d v)
    (h : contG G W rep r Z O σ H Q) : contG G W rep2 r Z O σ H Q := by
  cases r with
  | ok d ρ' =>
    intro v Z' O' H' y rr hf
    obtain ⟨Z2, O2, H2, x2, rfl, r2, f2⟩ := w Z' O' ρ' H' d v rr hf
    exact h v Z2 O2 H2 (y.trans x2) r2 f2
  | ex d ρ' => exact h
  | bad => exact h
end
/-- an option as a result -/
def optR {α : Type} (o : Option α) (ρ : Env) : Res α := match o with
  | some a => .ok a ρ
  | none => .bad

/-! ### the place behind the slots -/
section
variable {G : Gc} {Z Z' : Addr → Prop} {H H' : Hp} {O : Nat → List Addr} {ρ : Env} {σ : St}
theorem R.freezeT (r : R G Z O ρ σ H) {t : Nat} (ht : ρ.length ≤ t) : R G (fun a => Z a ∨ a ∈ O t) (setO O t []) ρ σ H where
  len := r.len
  sl := fun j s q => by
    have hj : j ≠ t := fun e => by
      obtain ⟨hl, _⟩ := List.getElem?_eq_some_iff.mp q
      omega
    rw [setO_ne hj]
    exact (r.sl j s q).keep (fun a z => .inl z) (fun _ _ _ e => .inl e) fun _ _ _ e => e
  nd := fun j => by
    by_cases q : j = t
    · subst q; rw [setO_same]; exact List.nodup_nil
    · rw [setO_ne q]; exact r.nd j
  dj := fun j k a h1 h2 => by
    by_cases q : j = t
    · subst q; rw [setO_same] at h1; cases h1
    · by_cases q2 : k = t
      · subst q2; rw [setO_same] at h2; cases h2
      · rw [setO_ne q] at h1; rw [setO_ne q2] at h2; exact r.dj j k a h1 h2
  oz := fun j a h => by
    by_cases q : j = t
    · subst q; rw [setO_same] at h; cases h
    · rw [setO_ne q] at h
      exact fun z => z.elim (r.oz j a h) fun z => q (r.dj j t a h z)
  od := fun j a h => by
    by_cases q : j = t
    · subst q; rw [setO_same] at h; cases h
    · rw [setO_ne q] at h; exact r.od j a h
  zd := fun a z => z.elim (r.zd a) fun h => (r.od t a h).nt
  tb := r.tb.mono fun _ z => .inl z
/-- what is behind the slots is let go -/
theorem frz_rep {d : D} {v : V} (nd : isDrw d = false) (r : R G Z O ρ σ H) (h : Own G Z H d v (O ρ.length)) : ∃ Z2 O2 H2, Ext Z O H Z2 O2 H2 ∧ H2 = H ∧ R G Z2 O2 ρ σ H2 ∧ Rf G Z2 H2 d v :=
  ⟨_, _, H, .freeze (i := ρ.length), rfl, r.freezeT (Nat.le_refl _), h.freeze (isDrw_no nd)⟩
/-- a new object, owned behind the slots -/
theorem R.newT (r : R G Z O ρ σ H) {t : Nat} {p : Addr} {o : HO} (ht : ρ.length ≤ t) (hp : H p = none) (po : Pl (some o) := by exact .of) : R G Z (setO O t [p]) ρ σ (upd H p o) where
  len := r.len
  sl := fun j s q => by
    have hj : j ≠ t := fun e => by
      obtain ⟨hl, _⟩ := List.getElem?_eq_some_iff.mp q
      omega
    rw [setO_ne hj]
    exact (r.sl j s q).keep (fun a z => z) (fun a u _ e => .inl (upd_keep hp a u e)) fun a _ u e => upd_keep hp a u e
  nd := fun j => by
    by_cases q : j = t
    · subst q; rw [setO_same]; exact List.nodup_cons.mpr ⟨by simp, List.nodup_nil⟩
    · rw [setO_ne q]; exact r.nd j
  dj := fun j k a h1 h2 => by
    have no : ∀ i, p ∉ O i := fun i h => (r.od i p h).ne hp
    by_cases q : j = t
    · by_cases q2 : k = t
      · rw [q, q2]
      · subst q; rw [setO_same] at h1; rw [setO_ne q2] at h2
        simp at h1; subst h1; exact absurd h2 (no k)
    · by_cases q2 : k = t
      · subst q2; rw [setO_same] at h2; rw [setO_ne q] at h1
        simp at h2; subst h2; exact absurd h1 (no j)
      · rw [setO_ne q] at h1; rw [setO_ne q2] at h2; exact r.dj j k a h1 h2
  oz := fun j a h z => by
    by_cases q : j = t
    · subst q; rw [setO_same] at h; simp at h; subst h; exact (r.zd _ z).ne hp
    · rw [setO_ne q] at h; exact r.oz j a h z
  od := fun j a h => by
    by_cases q : j = t
    · subst q; rw [setO_same] at h; simp at h; subst h; rw [upd_same]; exact po
    · rw [setO_ne q] at h
      obtain ⟨u, e, m⟩ := r.od j a h
      exact ⟨u, upd_keep hp a u e, m⟩
  zd := fun a z => by
    obtain ⟨u, e, m⟩ := r.zd a z
    exact ⟨u, upd_keep hp a u e, m⟩
  tb := tabs_new r.tb hp
theorem Ext.newT {t : Nat} {p : Addr} {o : HO} (hp : H p = none) : Ext Z O H Z (setO O t [p]) (upd H p o) :=
  ⟨fun _ z => z, fun a u e _ => .inl (upd_keep hp a u e), fun a z => .inl z, fun a h => (ow_setO h).elim (fun z => .inr (by simp at z; subst z; exact hp)) .inl, fun a e => by
    by_cases q : a = p
    · rw [q]; exact hp
    · rw [upd_ne q] at e; exact e⟩
/-- what is behind the slots goes into a slot -/
theorem R.moveT (r : R G Z O ρ σ H) {t i : Nat} {d : D} {v : V} (ht : ρ.length ≤ t) (h : Own G Z H d v (O t)) (hi : i < ρ.length) : R G Z (setO (setO O t []) i (O t)) (ρ.set i (.ow d)) (σ.set i (some v)) H := by
  have hit : i ≠ t := by omega
  have r1 : R G Z (setO O t []) ρ σ H := {
    len := r.len
    sl := fun j s q => by
      have hj : j ≠ t := fun e => by
        obtain ⟨hl, _⟩ := List.getElem?_eq_some_iff.mp q
        omega
      rw [setO_ne hj]
      exact r.sl j s q
    nd := fun j => by
      by_cases q : j = t
      · subst q; rw [setO_same]; exact List.nodup_nil
      · rw [setO_ne q]; exact r.nd j
    dj := fun j k a h1 h2 => by
      by_cases q : j = t
      · subst q; rw [setO_same] at h1; cases h1
      · by_cases q2 : k = t
        · subst q2; rw [setO_same] at h2; cases h2
        · rw [setO_ne q] at h1; rw [setO_ne q2] at h2; exact r.dj j k a h1 h2
    oz := fun j a h => by
      by_cases q : j = t
      · subst q; rw [setO_same] at h; cases h
      · rw [setO_ne q] at h; exact r.oz j a h
    od := fun j a h => by
      by_cases q : j = t
      · subst q; rw [setO_same] at h; cases h
      · rw [setO_ne q] at h; exact r.od j a h
    zd := r.zd
    tb := r.tb }
  refine r1.setOw h ⟨r.nd t, r.oz t, fun a ha z => ?_, r.od t⟩
  obtain ⟨j, z⟩ := z
  by_cases q : j = t
  · subst q; rw [setO_same] at z; cases z
  · rw [setO_ne q] at z; exact q (r.dj j t a z ha)
theorem Ext.moveT {t i : Nat} : Ext Z O H Z (setO (setO O t []) i (O t)) H :=
  ⟨fun _ z => z, fun _ _ e _ => .inl e, fun _ z => .inl z, fun a h => (ow_setO h).elim (fun z => .inl ⟨t, z⟩) fun z => (ow_setO z).elim (fun z => nomatch z) .inl, fun _ e => e⟩
end
end PB
set_option maxRecDepth 100000
set_option maxHeartbeats 4000000
/-! PB2: rules for expressions. -/
namespace PB
open PySem L2
variable {G : Gc} {W : WX} {X : Cx}

theorem PE_imp {e : Expr} {t t' : TE} (h : PE X e t) (w : ∀ σ H Q, t' σ H Q → t σ H Q) : PE X e t' := ⟨fun pins s σ H Q I q => h.run pins s σ H Q I (w _ _ _ q)⟩
theorem PT_imp {e : Expr} {t t' : TT} (h : PT X e t) (w : ∀ σ H Q, t' σ H Q → t σ H Q) : PT X e t' := ⟨fun pins s σ H Q I q => h.run pins s σ H Q I (w _ _ _ q)⟩
theorem PW_imp {e : Expr} {t t' : TT} (h : PW X e t) (w : ∀ σ H Q, t' σ H Q → t σ H Q) : PW X e t' := ⟨fun wh pins s σ H Q I q => h.run wh pins s σ H Q I (w _ _ _ q)⟩
theorem PA_imp {es : List Expr} {t t' : TA} (h : PA X es t) (w : ∀ σ H Q, t' σ H Q → t σ H Q) : PA X es t' := ⟨fun pos pins s σ H Q I q => h.run pos pins s σ H Q I (w _ _ _ q)⟩
theorem PS_imp {st : Stmt} {t t' : TS} (h : PS X st t) (w : ∀ D σ H, t' D σ H → t D σ H) : PS X st t' := ⟨fun pins s σ H D I q => h.run pins s σ H D I (w _ _ _ q)⟩
theorem PSs_imp {st : List Stmt} {t t' : TS} (h : PSs X st t) (w : ∀ D σ H, t' D σ H → t D σ H) : PSs X st t' := ⟨fun pins s σ H D I q => h.run pins s σ H D I (w _ _ _ q)⟩

/-! ### names, constants -/
/-- a name read as a value: what it owned is frozen from now on -/
def rdV (i : Nat) : M D := fun ρ => match ρ[i]? with
  | some (.fr d) => .ok d ρ
  | some (.ow d) => if isDrw d then .bad else .ok d (ρ.set i (.fr d))
  | _ => .bad
theorem slot_some {σ : St} {i : Nat} {v : V} (h : σ[i]?.getD none = some v) : σ[i]? = some (some v) := by
  cases q : σ[i]? with
  | none => rw [q] at h; cases h
  | some w => rw [q] at h; exact congrArg some h
theorem d_var {e : Expr} {i : Nat} (h : PE X e (tVar i)) : PE X e (lift G W (rdV i)) := PE_imp h fun σ H Q ⟨Z, O, ρ, r, q⟩ => by
  unfold rdV at q
  cases e1 : ρ[i]? with
  | none => rw [e1] at q; exact q.elim
  | some s =>
    rw [e1] at q
    cases s with
    | un => exact q.elim
    | io d => exact q.elim
    | fr d =>
      obtain ⟨_, v, e2, hf⟩ := r.sl i _ e1
      exact ⟨v, slot_some e2, q v Z O H .refl r hf⟩
    | ow d =>
      simp only at q
      cases e2 : isDrw d with
      | true => rw [e2] at q; exact q.elim
      | false =>
        rw [e2] at q
        obtain ⟨v, e3, r1, hf⟩ := r.freeze e1 (isDrw_no e2)
        exact ⟨v, e3, q v _ _ H .freeze r1 hf⟩
def rdC (d : D) : M D := fun ρ => .ok d ρ
theorem d_const {e : Expr} {d : D} {v : V} (h : PE X e (tC v)) (f : ∀ Z H, Rf G Z H d v) : PE X e (lift G W (rdC d)) := PE_imp h fun σ H Q ⟨Z, O, ρ, r, q⟩ => q v Z O H .refl r (f Z H)
theorem d_int {i : Int} {j pos} : PE X (.Constant (.int i) j pos) (lift G W (rdC (.int i))) := d_const pe_int fun _ _ => rfl
theorem d_bl {b : Bool} {j pos} : PE X (.Constant (.bool b) j pos) (lift G W (rdC (.bl b))) := d_const pe_bl fun _ _ => rfl
theorem d_non {j pos} : PE X (.Constant .none j pos) (lift G W (rdC .non)) := d_const pe_non fun _ _ => rfl
theorem d_str {x : Str} {j pos} : PE X (.Constant (.str x) j pos) (lift G W (rdC (.str x))) := d_const pe_str fun _ _ => rfl

/-! ### operators by values -/
/-- an operator of values does f -/
def Op2 (G : Gc) (W : WX) (r : R2) (f : D → D → Option D) : Prop := ∀ Z O ρ σ H v w d1 d2 d Q, R G Z O ρ σ H → Rf G Z H d1 v → Rf G Z H d2 w → f d1 d2 = some d → cont G W (.ok d ρ) Z O σ H Q → r v w H Q
def bin2 (f : D → D → Option D) (ma mb : M D) : M D := fun ρ => (ma ρ).bind fun x ρ => (mb ρ).bind fun y ρ => optR (f x y) ρ
theorem op2_tOp {r : R2} {f : D → D → Option D} {ta tb : TE} {ma mb : M D} (hf : Op2 G W r f) (ha : ta = lift G W ma) (hb : tb = lift G W mb) {σ : St} {H : Hp} {Q : VK} (q : lift G W (bin2 f ma mb) σ H Q) : tOp r ta tb σ H Q := by
  subst ha hb
  refine liftG.mono (liftG.bind q) fun v H1 ⟨Z1, O1, ρ1, d1, r1, f1, q1⟩ => ?_
  refine ⟨Z1, O1, ρ1, r1, (contG.bind q1).mono fun w H2 ⟨Z2, O2, ρ2, d2, x, r2, f2, q2⟩ => ?_⟩
  cases e : f d1 d2 with
  | none => rw [e] at q2; exact q2.elim
  | some d =>
    rw [e] at q2
    exact hf Z2 O2 ρ2 σ H2 v w d1 d2 d Q r2 (r1.rf x f1) f2 e q2
theorem d_bin {a b : Expr} {op : Operator} {r : R2} {f : D → D → Option D} {ma mb : M D} {pos : Pos} (ho : OpR X (binaryOp op) r) (hf : Op2 G W r f) (ha : PE X a (lift G W ma)) (hb : PE X b (lift G W mb)) : PE X (.BinOp a op b pos) (lift G W (bin2 f ma mb)) :=
  PE_imp (pe_op ho ha hb) fun σ H Q q => op2_tOp hf rfl rfl q
theorem d_cmp {a b : Expr} {op : CmpOp} {r : R2} {f : D → D → Option D} {ma mb : M D} {pos : Pos} (ho : OpR X (compareOp op) r) (hf : Op2 G W r f) (ha : PE X a (lift G W ma)) (hb : PE X b (lift G W mb)) (hm : behindInMarks op b = false) :
    PE X (.Compare a [op] [b] pos) (lift G W (bin2 f ma mb)) := PE_imp (pe_cmpR ho ha hb hm) fun σ H Q q => op2_tOp hf rfl rfl q
theorem d_ix {a b : Expr} {r : R2} {f : D → D → Option D} {ma mb : M D} {pos : Pos} (ho : IxR X r) (hf : Op2 G W r f) (ha : PE X a (lift G W ma)) (hb : PE X b (lift G W mb)) (hs : PlainIx b) : PE X (.Subscript a b pos) (lift G W (bin2 f ma mb)) :=
  PE_imp (pe_ix ho ha hb hs) fun σ H Q q => op2_tOp hf rfl rfl q
/-- two rules for one operator, by the data's kinds -/
theorem Op2.or {r r' : R2} {f f' : D → D → Option D} (h : Op2 G W r f) (h' : Op2 G W r' f') : Op2 G W (fun x y H Q => r x y H Q ∨ r' x y H Q) (fun x y => (f x y).orElse fun _ => f' x y) := fun Z O ρ σ H v w d1 d2 d Q rr f1 f2 e q => by
  have e : (f d1 d2).orElse (fun _ => f' d1 d2) = some d := e
  cases e1 : f d1 d2 with
  | some d' =>
    rw [e1] at e
    cases e
    exact .inl (h Z O ρ σ H v w d1 d2 _ Q rr f1 f2 e1 q)
  | none =>
    rw [e1] at e
    exact .inr (h' Z O ρ σ H v w d1 d2 _ Q rr f1 f2 e q)
/-- a flat answer -/
theorem Op2.flat {r : R2} {f : D → D → Option D} (h : ∀ Z H v w d1 d2 d Q, Rf G Z H d1 v → Rf G Z H d2 w → f d1 d2 = some d → (∀ u, (∀ Z' H', Rf G Z' H' d u) → Q u H) → r v w H Q) : Op2 G W r f := fun Z O ρ σ H v w d1 d2 d Q rr f1 f2 e q =>
  h Z H v w d1 d2 d Q f1 f2 e fun u hu => q u Z O H .refl rr (hu _ _)

def fI (g : Int → Int → Int) : D → D → Option D
  | .int i, .int j => some (.int (g i j))
  | _, _ => none
def fIB (g : Int → Int → Bool) : D → D → Option D
  | .int i, .int j => some (.bl (g i j))
  | _, _ => none
theorem o_I {g : Int → Int → Int} : Op2 G W (rI0 fun i j => .int (g i j)) (fI g) := .flat fun Z H v w d1 d2 d Q f1 f2 e q => by
  cases d1 <;> cases d2 <;> first | (cases e; done) | skip
  cases e
  cases f1; cases f2
  exact ⟨_, _, rfl, rfl, q _ fun _ _ => rfl⟩
theorem o_IB {g : Int → Int → Bool} : Op2 G W (rI0 fun i j => .bl (g i j)) (fIB g) := .flat fun Z H v w d1 d2 d Q f1 f2 e q => by
  cases d1 <;> cases d2 <;> first | (cases e; done) | skip
  cases e
  cases f1; cases f2
  exact ⟨_, _, rfl, rfl, q _ fun _ _ => rfl⟩
def fIC (c : Int → Int → Bool) (g : Int → Int → Int) : D → D → Option D
  | .int i, .int j => if c i j = true then some (.int (g i j)) else none
  | _, _ => none
theorem o_IC {C : Int → Int → Prop} {c : Int → Int → Bool} (hc : ∀ i j, c i j = true → C i j) {g : Int → Int → Int} : Op2 G W (rI C fun i j => .int (g i j)) (fIC c g) := .flat fun Z H v w d1 d2 d Q f1 f2 e q => by
  cases d1 <;> cases d2 <;> first | (cases e; done) | skip
  rename_i i j
  cases e1 : c i j with
  | false => simp only [fIC, e1] at e; cases e
  | true =>
    simp only [fIC, e1, if_true] at e
    cases e
    cases f1; cases f2
    exact ⟨_, _, rfl, rfl, hc _ _ e1, q _ fun _ _ => rfl⟩

/-! ### sizes -/
abbrev lim : Nat := 16777216
theorem lim_eq : lim = sizeLine := by rw [sizeLine_eq]
def fMulI : D → D → Option D := fIC (fun i j => decide (-(2 ^ 64) < i ∧ i < 2 ^ 64) || decide (-(2 ^ 64) < j ∧ j < 2 ^ 64)) (fun i j => i * j)
theorem o_mulI : Op2 G W (rI CMul fun i j => .int (i * j)) fMulI := o_IC fun i j h => by
  rcases Bool.or_eq_true_iff.mp h with h | h
  · exact .inl (of_decide_eq_true h)
  · exact .inr (of_decide_eq_true h)
def fModI : D → D → Option D := fIC (fun _ j => decide (j ≠ 0)) fun i j => i.fmod j
theorem o_modI : Op2 G W (rI (fun _ j => j ≠ 0) fun i j => .int (i.fmod j)) fModI := o_IC fun i j h => of_decide_eq_true h
def fDivI : D → D → Option D := fIC (fun _ j => decide (j ≠ 0 ∧ j.natAbs < 1073741824)) fun i j => i.fdiv j
theorem o_divI : Op2 G W (rI CDivN fun i j => .int (i.fdiv j)) fDivI := o_IC fun i j h => show j ≠ 0 ∧ j.natAbs < 1073741824 from of_decide_eq_true h
def fPowI : D → D → Option D := fIC (fun i j => decide (0 ≤ j ∧ j ≤ 1000000 ∧ i.natAbs < 2 ^ 64)) fun i j => i ^ j.toNat
theorem o_powI : Op2 G W (rI CPow fun i j => .int (i ^ j.toNat)) fPowI := o_IC fun i j h => show 0 ≤ j ∧ j ≤ 1000000 ∧ i.natAbs < 2 ^ 64 from of_decide_eq_true h

/-- texts joined -/
def fAddS : D → D → Option D
  | .str x, .str y => if x.length + y.length ≤ lim then some (.str (x ++ y)) else none
  | _, _ => none
theorem o_addS : Op2 G W (fun x y H Q => ∃ i j, x = .str i ∧ y = .str j ∧ i.length + j.length ≤ sizeLine ∧ Q (.str (i ++ j)) H) fAddS := .flat fun Z H v w d1 d2 d Q f1 f2 e q => by
  cases d1 <;> cases d2 <;> first | (cases e; done) | skip
  rename_i x y
  by_cases h : x.length + y.length ≤ lim
  · simp only [fAddS, if_pos h] at e
    cases e; cases f1; cases f2
    exact ⟨_, _, rfl, rfl, by rw [← lim_eq]; exact h, q _ fun _ _ => rfl⟩
  · simp only [fAddS, if_neg h] at e; cases e
/-- lists joined: a new one -/
def fAddL : D → D → Option D
  | .lst x, .lst y => if x.length + y.length ≤ lim then some (.lst (x ++ y)) else none
  | _, _ => none
theorem FzL.at {Z : Addr → Prop} {H : Hp} {a : Addr} {vs : List V} (h : FzL Z H a vs) : H a = some (.lst vs) := h.2
/-- a new list, frozen -/
theorem cont_lst {Z : Addr → Prop} {O : Nat → List Addr} {ρ : Env} {σ : St} {H : Hp} {Q : VK} {ds : List D} {vs : List V} (r : R G Z O ρ σ H) (f : RfL G Z H ds vs) (q : cont G W (.ok (.lst ds) ρ) Z O σ H Q) (p : Addr) (hp : H p = none) :
    Q (.ref p) (upd H p (.lst vs)) :=
  q _ _ _ _ (.new hp) (r.new hp) ⟨p, vs, rfl, ⟨.inr rfl, upd_same⟩, f.keep (fun _ z => .inl z) fun a o _ e => .inl (upd_keep hp a o e)⟩
theorem cont_tup {Z : Addr → Prop} {O : Nat → List Addr} {ρ : Env} {σ : St} {H : Hp} {Q : VK} {ds : List D} {vs : List V} (r : R G Z O ρ σ H) (f : RfL G Z H ds vs) (q : cont G W (.ok (.tup ds) ρ) Z O σ H Q) (p : Addr) (hp : H p = none) :
    Q (.ref p) (upd H p (.tup vs)) :=
  q _ _ _ _ (.new hp) (r.new hp) ⟨p, vs, rfl, .inl ⟨.inr rfl, upd_same⟩, f.keep (fun _ z => .inl z) fun a o _ e => .inl (upd_keep hp a o e)⟩
theorem o_addL : Op2 G W rCat fAddL := fun Z O ρ σ H v w d1 d2 d Q rr f1 f2 e q => by
  cases d1 <;> cases d2 <;> first | (cases e; done) | skip
  rename_i x y
  by_cases h : x.length + y.length ≤ lim
  · simp only [fAddL, if_pos h] at e
    cases e
    obtain ⟨a, vs, rfl, g1, r1⟩ := f1
    obtain ⟨b, ws, rfl, g2, r2⟩ := f2
    exact ⟨a, b, vs, ws, rfl, rfl, g1.at, g2.at, by rw [← lim_eq, ← r1.length, ← r2.length]; exact h, cont_lst rr (r1.append r2) q⟩
  · simp only [fAddL, if_neg h] at e; cases e
/-- tuples joined -/
def fAddT : D → D → Option D
  | .tup (x :: xs), .tup y => if (x :: xs).length + y.length ≤ lim then some (.tup (x :: xs ++ y)) else none
  | _, _ => none
theorem o_addT : Op2 G W (rCatT G.K) fAddT := fun Z O ρ σ H v w d1 d2 d Q rr f1 f2 e q => by
  cases d1 with
  | tup xs0 =>
    cases xs0 with
    | nil => cases d2 <;> cases e
    | cons x xs =>
      cases d2 with
      | tup y =>
        by_cases h : (x :: xs).length + y.length ≤ lim
        · simp only [fAddT, if_pos h] at e
          cases e
          obtain ⟨a, vs, rfl, g1, r1⟩ := f1
          obtain ⟨b, ws, rfl, g2, r2⟩ := f2
          refine ⟨a, b, vs, ws, rfl, rfl, g1.sq, g2.sq, ?_, by rw [← lim_eq, ← r1.length, ← r2.length]; exact h, fun e => ?_, fun _ => cont_tup rr (r1.append r2) q⟩
          · obtain ⟨v, r, e, _⟩ := r1
            rw [e]; exact List.cons_ne_nil _ _
          · subst e
            have hy : y = [] := by
              have := r2.length
              exact List.eq_nil_of_length_eq_zero this
            subst hy
            rw [List.append_nil] at q
            exact q _ Z O H .refl rr ⟨a, vs, rfl, g1, r1⟩
        · simp only [fAddT, if_neg h] at e; cases e
      | _ => cases e
  | _ => cases e

/-! ### equality of data -/
mutual
def toP : D → Option PyData
  | .non => some .none
  | .bl b => some (.bool b)
  | .int i => some (.int i)
  | .str x => some (.str x)
  | .tup xs => (toPL xs).map .tuple
  | .lst xs => (toPL xs).map .list
  | _ => none
def toPL : List D → Option (List PyData)
  | [] => some []
  | x :: xs => match toP x, toPL xs with
    | some p, some ps => some (p :: ps)
    | _, _ => none
end
mutual
theorem toP_dp {Z : Addr → Prop} {H : Hp} : ∀ {d : D} {v : V} {p : PyData}, Rf G Z H d v → toP d = some p → Dp G.K H v p
  | .non, _, _, h, e => by cases e; cases h; exact .non
  | .bl _, _, _, h, e => by cases e; cases h; exact .bl _
  | .int _, _, _, h, e => by cases e; cases h; exact .int _
  | .str _, _, _, h, e => by cases e; cases h; exact .str _
  | .tup xs, _, _, ⟨a, vs, q, f, r⟩, e => by
    unfold toP at e
    cases e1 : toPL xs with
    | none => rw [e1] at e; cases e
    | some ps => rw [e1] at e; cases e; subst q; exact .tup f.sq (toPL_dp r e1)
  | .lst xs, _, _, ⟨a, vs, q, f, r⟩, e => by
    unfold toP at e
    cases e1 : toPL xs with
    | none => rw [e1] at e; cases e
    | some ps => rw [e1] at e; cases e; subst q; exact .lst f.sq (toPL_dp r e1)
  | .ty _, _, _, _, e | .at _, _, _, _, e | .dct _ _, _, _, _, e | .ins _ _ _, _, _, _, e | .exc _ _ _, _, _, _, e | .drw _ _ _ _, _, _, _, e | .fls _, _, _, _, e | .lam _, _, _, _, e => by cases e
theorem toPL_dp {Z : Addr → Prop} {H : Hp} : ∀ {ds : List D} {vs : List V} {ps : List PyData}, RfL G Z H ds vs → toPL ds = some ps → DpAll G.K H vs ps
  | [], _, _, h, e => by cases e; cases h; exact .nil
  | x :: xs, _, _, ⟨v, r, q, h1, h2⟩, e => by
    unfold toPL at e
    cases e1 : toP x with
    | none => rw [e1] at e; cases e
    | some p =>
      cases e2 : toPL xs with
      | none => rw [e1, e2] at e; cases e
      | some ps => rw [e1, e2] at e; cases e; subst q; exact .cons (toP_dp h1 e1) (toPL_dp h2 e2)
end
def fEqB (g : Bool → Bool) (x y : D) : Option D := match toP x, toP y with
  | some p, some q => if (SeqAt.shaped p && SeqAt.shaped q) = true then some (.bl (g (PyData.eqv p q))) else none
  | _, _ => none
def fEq : D → D → Option D := fEqB id
def fNe : D → D → Option D := fEqB not
theorem fEqB_some {g : Bool → Bool} {x y d : D} (e : fEqB g x y = some d) : ∃ p q, toP x = some p ∧ toP y = some q ∧ SeqAt.shaped p = true ∧ SeqAt.shaped q = true ∧ d = .bl (g (PyData.eqv p q)) := by
  unfold fEqB at e
  cases e1 : toP x with
  | none => rw [e1] at e; cases e
  | some p =>
    cases e2 : toP y with
    | none => rw [e1, e2] at e; cases e
    | some q =>
      rw [e1, e2] at e
      simp only at e
      by_cases h : (SeqAt.shaped p && SeqAt.shaped q) = true
      · rw [if_pos h] at e
        cases e
        exact ⟨p, q, rfl, rfl, (Bool.and_eq_true_iff.mp h).1, (Bool.and_eq_true_iff.mp h).2, rfl⟩
      · rw [if_neg h] at e; cases e
theorem o_eq : Op2 G W (rEqD G.K) fEq := .flat fun Z H v w d1 d2 d Q f1 f2 e q => by
  obtain ⟨p, p', e1, e2, s1, s2, rfl⟩ := fEqB_some e
  exact ⟨p, p', toP_dp f1 e1, toP_dp f2 e2, s1, s2, q _ fun _ _ => rfl⟩
theorem o_ne : Op2 G W (rNeD G.K) fNe := .flat fun Z H v w d1 d2 d Q f1 f2 e q => by
  obtain ⟨p, p', e1, e2, s1, s2, rfl⟩ := fEqB_some e
  exact ⟨p, p', toP_dp f1 e1, toP_dp f2 e2, s1, s2, q _ fun _ _ => rfl⟩

/-! ### in, is -/
def flatD : D → Bool
  | .non | .bl _ | .int _ | .str _ => true
  | _ => false
def toV : D → V
  | .bl b => .bl b
  | .int i => .int i
  | .str x => .str x
  | _ => .non
theorem flatD_v {Z : Addr → Prop} {H : Hp} {d : D} {v : V} (h : Rf G Z H d v) (f : flatD d = true) : v = toV d ∧ flatV v = true := by
  cases d <;> first | (cases f; done) | (cases h; exact ⟨rfl, rfl⟩)
theorem flatL_v {Z : Addr → Prop} {H : Hp} : ∀ {ds : List D} {vs : List V}, RfL G Z H ds vs → ds.all flatD = true → vs = ds.map toV ∧ vs.all flatV = true
  | [], _, h, _ => by cases h; exact ⟨rfl, rfl⟩
  | x :: xs, _, ⟨v, r, e, h1, h2⟩, f => by
    rw [List.all_cons, Bool.and_eq_true_iff] at f
    obtain ⟨a, b⟩ := flatD_v h1 f.1
    obtain ⟨c, d⟩ := flatL_v h2 f.2
    rw [e, List.map_cons, List.all_cons, ← a, ← c, b, d]
    exact ⟨rfl, rfl⟩
/-- x in a written list or tuple of flat things -/
def fInB (neg : Bool) (x y : D) : Option D := match y with
  | .tup ys => if (flatD x && ys.all flatD) = true then some (.bl (if neg then !inV (toV x) (ys.map toV) else inV (toV x) (ys.map toV))) else none
  | .lst ys => if (flatD x && ys.all flatD) = true then some (.bl (if neg then !inV (toV x) (ys.map toV) else inV (toV x) (ys.map toV))) else none
  | _ => none
theorem o_inB {neg : Bool} : Op2 G W (rIn G.K neg) (fInB neg) := .flat fun Z H v w d1 d2 d Q f1 f2 e q => by
  cases d2 <;> first | (cases e; done) | skip
  all_goals
    rename_i ys
    by_cases h : (flatD d1 && ys.all flatD) = true
    · simp only [fInB, if_pos h] at e
      cases e
      obtain ⟨a, vs, rfl, g, r⟩ := f2
      obtain ⟨h1, h2⟩ := Bool.and_eq_true_iff.mp h
      obtain ⟨e1, e2⟩ := flatD_v f1 h1
      obtain ⟨e3, e4⟩ := flatL_v r h2
      refine ⟨a, vs, rfl, by first | exact .inl g.sq | exact .inr g.sq, e2, e4, ?_⟩
      rw [e1, e3]
      exact q _ fun _ _ => rfl
    · simp only [fInB, if_neg h] at e; cases e
/-- a sign in a text -/
def fInS (g : Bool → Bool) : D → D → Option D
  | .str x, .str y => match x with
    | ⟨⟨[c]⟩⟩ => some (.bl (g (decide (c ∈ y.cps.toList))))
    | _ => none
  | _, _ => none
theorem o_inS : Op2 G W (fun x y H Q => ∃ (c : Nat) (z : Str), x = .str ⟨#[c]⟩ ∧ y = .str z ∧ Q (.bl (decide (c ∈ z.cps.toList))) H) (fInS id) := .flat fun Z H v w d1 d2 d Q f1 f2 e q => by
  cases d1 <;> cases d2 <;> first | (cases e; done) | skip
  rename_i x y
  obtain ⟨⟨l⟩⟩ := x
  match l, e, f1 with
  | [], e, _ => cases e
  | [c], e, f1 => cases e; cases f1; cases f2; exact ⟨c, y, rfl, rfl, q _ fun _ _ => rfl⟩
  | _ :: _ :: _, e, _ => cases e
/-- is None -/
def fIsN (g : Bool → Bool) : D → D → Option D
  | x, .non => match x with
    | .drw _ _ _ _ => none
    | .non => some (.bl (g true))
    | _ => some (.bl (g false))
  | _, _ => none
theorem isN_dec {Z : Addr → Prop} {H : Hp} {d : D} {v : V} (h : Rf G Z H d v) : decide (v = .non) = (match d with | .non => true | _ => false) := by
  cases d with
  | non => cases h; rfl
  | bl _ => cases h; rfl
  | int _ => cases h; rfl
  | str _ => cases h; rfl
  | ty _ => cases h; rfl
  | «at» _ => cases h; rfl
  | tup _ => obtain ⟨a, vs, rfl, _⟩ := h; rfl
  | lst _ => obtain ⟨a, vs, rfl, _⟩ := h; rfl
  | fls _ => obtain ⟨a, vs, rfl, _⟩ := h; rfl
  | dct _ _ => obtain ⟨a, vs, rfl, _⟩ := h; rfl
  | ins _ _ _ => obtain ⟨a, dx, vs, rfl, _⟩ := h; rfl
  | exc _ _ _ => obtain ⟨a, dx, vs, rfl, _⟩ := h; rfl
  | drw _ _ _ _ => exact h.elim
  | lam _ => obtain ⟨a, c, rfl, _⟩ := h; rfl
theorem o_isN : Op2 G W (fun x y H Q => y = .non ∧ Q (.bl (decide (x = .non))) H) (fIsN id) := .flat fun Z H v w d1 d2 d Q f1 f2 e q => by
  cases d2 <;> first | (cases d1 <;> cases e; done) | skip
  cases f2
  refine ⟨rfl, ?_⟩
  rw [isN_dec f1]
  cases d1 <;> first | (cases e; done) | (cases e; exact q _ fun _ _ => rfl)
theorem o_notN : Op2 G W (fun x y H Q => y = .non ∧ Q (.bl (!decide (x = .non))) H) (fIsN not) := .flat fun Z H v w d1 d2 d Q f1 f2 e q => by
  cases d2 <;> first | (cases d1 <;> cases e; done) | skip
  cases f2
  refine ⟨rfl, ?_⟩
  rw [isN_dec f1]
  cases d1 <;> first | (cases e; done) | (cases e; exact q _ fun _ _ => rfl)

/-! ### subscripts -/
def fIxT : D → D → Option D
  | .tup xs, .int i => atI xs i
  | _, _ => none
def fIxL : D → D → Option D
  | .lst xs, .int i => atI xs i
  | _, _ => none
theorem RfL.at {Z : Addr → Prop} {H : Hp} {ds : List D} {vs : List V} {i : Int} {d : D} (r : RfL G Z H ds vs) (e : atI ds i = some d) : ∃ v, atI vs i = some v ∧ Rf G Z H d v := by
  unfold atI at e ⊢
  rw [← r.length]
  cases q : ixN ds.length i with
  | none => rw [q] at e; cases e
  | some j => rw [q] at e; exact r.get e
theorem o_ixT : Op2 G W (rIxT G.K) fIxT := fun Z O ρ σ H v w d1 d2 d Q rr f1 f2 e q => by
  cases d1 <;> cases d2 <;> first | (cases e; done) | skip
  obtain ⟨a, vs, rfl, g, r⟩ := f1
  cases f2
  obtain ⟨x, e1, f⟩ := r.at e
  exact ⟨a, vs, _, x, rfl, rfl, g.sq, e1, q _ Z O H .refl rr f⟩
theorem o_ixL : Op2 G W (rIxL G.K) fIxL := fun Z O ρ σ H v w d1 d2 d Q rr f1 f2 e q => by
  cases d1 <;> cases d2 <;> first | (cases e; done) | skip
  obtain ⟨a, vs, rfl, g, r⟩ := f1
  cases f2
  obtain ⟨x, e1, f⟩ := r.at e
  exact ⟨a, vs, _, x, rfl, rfl, g.sq, e1, q _ Z O H .refl rr f⟩
end PB
set_option maxRecDepth 100000
set_option maxHeartbeats 4000000
/-! PB3: tests, displays, statements. -/
namespace PB
open PySem L2
variable {G : Gc} {W : WX} {X : Cx}

/-! ### truth, tests -/
def truD : D → Option Bool
  | .non => some false
  | .bl b => some b
  | .int i => some (i != 0)
  | .str x => if x.length ≤ lim then some ((x.length : Int) != 0) else none
  | .tup xs => some (!xs.isEmpty)
  | .lst xs => some (!xs.isEmpty)
  | .fls xs => some (!xs.isEmpty)
  | _ => none
theorem isEmpty_L {Z : Addr → Prop} {H : Hp} {ds : List D} {vs : List V} (r : RfL G Z H ds vs) : (!ds.isEmpty) = !vs.isEmpty := by
  cases ds with
  | nil => cases r; rfl
  | cons x xs => obtain ⟨v, s, e, _⟩ := r; rw [e]; rfl
theorem tru_of {Z : Addr → Prop} {H : Hp} {d : D} {v : V} {k : Bool} (f : Rf G Z H d v) (e : truD d = some k) : TruV G.K v H k := by
  cases d with
  | non => cases f; cases e; exact rfl
  | bl b => cases f; cases e; exact rfl
  | int i => cases f; cases e; exact rfl
  | str x =>
    cases f
    by_cases h : x.length ≤ lim
    · simp only [truD, if_pos h] at e; cases e; exact ⟨by rw [← lim_eq]; exact h, rfl⟩
    · simp only [truD, if_neg h] at e; cases e
  | tup xs => obtain ⟨a, vs, rfl, g, r⟩ := f; cases e; exact .inr (.inl ⟨vs, g.sq, isEmpty_L r⟩)
  | lst xs => obtain ⟨a, vs, rfl, g, r⟩ := f; cases e; exact .inl ⟨vs, g.sq, isEmpty_L r⟩
  | fls xs => obtain ⟨a, vs, rfl, g, r⟩ := f; cases e; exact .inl ⟨vs, g.sq, isEmpty_L r⟩
  | _ => cases e
theorem rf_bl {Z : Addr → Prop} {H : Hp} {d : D} {k : Bool} (f : Rf G Z H d (.bl k)) : d = .bl k := by
  cases d with
  | bl b => cases f; rfl
  | tup _ => obtain ⟨_, _, e, _⟩ := f; cases e
  | lst _ => obtain ⟨_, _, e, _⟩ := f; cases e
  | fls _ => obtain ⟨_, _, e, _⟩ := f; cases e
  | dct _ _ => obtain ⟨_, _, e, _⟩ := f; cases e
  | ins _ _ _ => obtain ⟨_, _, _, e, _⟩ := f; cases e
  | exc _ _ _ => obtain ⟨_, _, _, e, _⟩ := f; cases e
  | drw _ _ _ _ => exact f.elim
  | lam _ => obtain ⟨_, _, e, _⟩ := f; cases e
  | _ => cases f
def mTru (m : M D) : M Bool := fun ρ => (m ρ).bind fun d ρ => optR (truD d) ρ
def asB : D → Option Bool
  | .bl b => some b
  | _ => none
/-- any expression as a test -/
theorem t_of {e : Expr} {m : M D} (hK : G.K = X.K) (h : PE X e (lift G W m)) (he : ∀ whole, isTrue e X.env whole = (do let v ← whole; standAt e.pos; holding [v] (truthy v)) := by intro _; rfl) : PT X e (liftB G W (mTru m)) :=
  PT_imp (pt_truth h he) fun σ H Q q => liftG.mono (liftG.bind q) fun v H1 ⟨Z1, O1, ρ1, d1, r1, f1, q1⟩ => by
    cases e : truD d1 with
    | none => rw [e] at q1; exact q1.elim
    | some k => rw [e] at q1; exact ⟨k, hK ▸ tru_of f1 e, q1 k Z1 O1 H1 .refl r1 rfl⟩
/-- a comparison as a test -/
theorem t_cmp {a b : Expr} {op : CmpOp} {r : R2} {f : D → D → Option D} {ma mb : M D} {pos : Pos} (ho : OpR X (compareOp op) r) (hf : Op2 G W r f) (hb : ∀ x y d, f x y = some d → ∃ k, d = .bl k) (ha : PE X a (lift G W ma)) (hb' : PE X b (lift G W mb)) (hm : behindInMarks op b = false) :
    PT X (.Compare a [op] [b] pos) (liftB G W (mTru (bin2 f ma mb))) := PT_imp (pt_cmpR ho ha hb' hm) fun σ H Q q => by
  refine op2_tOp (f := f) (ma := ma) (mb := mb) hf rfl rfl ?_
  obtain ⟨Z, O, ρ, r, q⟩ := q
  refine ⟨Z, O, ρ, r, ?_⟩
  unfold mTru at q
  have q1 := contG.bind (rep := repF G) q
  unfold bin2 at q1 ⊢
  cases e1 : ma ρ with
  | bad => rw [e1] at q1; exact q1.elim
  | ex x ρ' => rw [e1] at q1; exact q1
  | ok d1 ρ1 =>
    rw [e1] at q1
    simp only [Res.bind] at q1 ⊢
    cases e2 : mb ρ1 with
    | bad => rw [e2] at q1; exact q1.elim
    | ex x ρ' => rw [e2] at q1; exact q1
    | ok d2 ρ2 =>
      rw [e2] at q1
      simp only [Res.bind] at q1 ⊢
      cases e3 : f d1 d2 with
      | none => rw [e3] at q1; exact q1.elim
      | some d =>
        rw [e3] at q1
        obtain ⟨k, rfl⟩ := hb _ _ _ e3
        intro v Z' O' H' x rr ff
        cases ff
        obtain ⟨Z1, O1, ρ1', d1', x1, r1, f1, q2⟩ := q1 (.bl k) Z' O' H' x rr rfl
        cases rf_bl f1
        exact ⟨k, rfl, q2 k Z1 O1 H' .refl r1 rfl⟩
theorem bl_eq {g : Bool → Bool} : ∀ x y d, fEqB g x y = some d → ∃ k, d = .bl k := fun x y d e => let ⟨p, q, _, _, _, _, h⟩ := fEqB_some e; ⟨_, h⟩
theorem bl_IB {g : Int → Int → Bool} : ∀ x y d, fIB g x y = some d → ∃ k, d = .bl k := fun x y d e => by
  cases x <;> cases y <;> first | (cases e; done) | (cases e; exact ⟨_, rfl⟩)
theorem bl_inB {n : Bool} : ∀ x y d, fInB n x y = some d → ∃ k, d = .bl k := fun x y d e => by
  cases y <;> first | (cases e; done) | skip
  all_goals
    rename_i ys
    by_cases h : (flatD x && ys.all flatD) = true
    · simp only [fInB, if_pos h] at e
      cases e; exact ⟨_, rfl⟩
    · simp only [fInB, if_neg h] at e; cases e
theorem bl_inS {g : Bool → Bool} : ∀ x y d, fInS g x y = some d → ∃ k, d = .bl k := fun x y d e => by
  cases x <;> cases y <;> first | (cases e; done) | skip
  rename_i x y
  obtain ⟨⟨l⟩⟩ := x
  match l, e with
  | [], e => cases e
  | [c], e => cases e; exact ⟨_, rfl⟩
  | _ :: _ :: _, e => cases e
theorem bl_isN {g : Bool → Bool} : ∀ x y d, fIsN g x y = some d → ∃ k, d = .bl k := fun x y d e => by
  cases y <;> first | (cases x <;> cases e; done) | skip
  cases x <;> first | (cases e; done) | (cases e; exact ⟨_, rfl⟩)

def mNotB (m : M Bool) : M Bool := fun ρ => (m ρ).bind fun b ρ => .ok (!b) ρ
def mAndB (a b : M Bool) : M Bool := fun ρ => (a ρ).bind fun k ρ => if k = true then b ρ else .ok false ρ
def mOrB (a b : M Bool) : M Bool := fun ρ => (a ρ).bind fun k ρ => if k = true then .ok true ρ else b ρ
theorem t_not {a : Expr} {m : M Bool} {pos : Pos} (h : PT X a (liftB G W m)) : PT X (.UnaryOp .Not a pos) (liftB G W (mNotB m)) :=
  PT_imp (pt_not h) fun σ H Q q => liftG.mono (liftG.bind (rep := repB) q) fun v H1 ⟨Z1, O1, ρ1, d1, r1, f1, q1⟩ => by
    subst f1; exact q1 _ Z1 O1 H1 .refl r1 rfl
theorem t_and1 {a : Expr} {m : M Bool} {pos : Pos} (h : PT X a (liftB G W m)) : PW X (.BoolOp .And [a] pos) (liftB G W m) := pw_and1 h
theorem t_or1 {a : Expr} {m : M Bool} {pos : Pos} (h : PT X a (liftB G W m)) : PW X (.BoolOp .Or [a] pos) (liftB G W m) := pw_or1 h
theorem t_and {a b : Expr} {rest : List Expr} {ma mb : M Bool} {pos : Pos} (ha : PT X a (liftB G W ma)) (hb : PW X (.BoolOp .And (b :: rest) pos) (liftB G W mb)) : PW X (.BoolOp .And (a :: b :: rest) pos) (liftB G W (mAndB ma mb)) :=
  PW_imp (pw_and ha hb) fun σ H Q q => liftG.mono (liftG.bind (rep := repB) q) fun v H1 ⟨Z1, O1, ρ1, d1, r1, f1, q1⟩ => by
    subst f1
    cases d1 with
    | true => exact ⟨Z1, O1, ρ1, r1, q1⟩
    | false => exact q1 _ Z1 O1 H1 .refl r1 rfl
theorem t_or {a b : Expr} {rest : List Expr} {ma mb : M Bool} {pos : Pos} (ha : PT X a (liftB G W ma)) (hb : PW X (.BoolOp .Or (b :: rest) pos) (liftB G W mb)) : PW X (.BoolOp .Or (a :: b :: rest) pos) (liftB G W (mOrB ma mb)) :=
  PW_imp (pw_or ha hb) fun σ H Q q => liftG.mono (liftG.bind (rep := repB) q) fun v H1 ⟨Z1, O1, ρ1, d1, r1, f1, q1⟩ => by
    subst f1
    cases d1 with
    | false => exact ⟨Z1, O1, ρ1, r1, q1⟩
    | true => exact q1 _ Z1 O1 H1 .refl r1 rfl
/-- as values -/
def mAndV (a b : M D) : M D := fun ρ => (a ρ).bind fun d ρ => match truD d with
  | some true => b ρ
  | some false => .ok d ρ
  | none => .bad
def mOrV (a b : M D) : M D := fun ρ => (a ρ).bind fun d ρ => match truD d with
  | some true => .ok d ρ
  | some false => b ρ
  | none => .bad
def mNotV (a : M D) : M D := fun ρ => (a ρ).bind fun d ρ => match truD d with
  | some k => .ok (.bl (!k)) ρ
  | none => .bad
theorem d_one {op : BoolOp} {a : Expr} {m : M D} {pos : Pos} (h : PE X a (lift G W m)) : PE X (.BoolOp op [a] pos) (lift G W m) := pe_one h
theorem d_and {a b : Expr} {rest : List Expr} {ma mb : M D} {pos : Pos} (hK : G.K = X.K) (ha : PE X a (lift G W ma)) (hb : PE X (.BoolOp .And (b :: rest) pos) (lift G W mb)) : PE X (.BoolOp .And (a :: b :: rest) pos) (lift G W (mAndV ma mb)) :=
  PE_imp (pe_andT ha hb) fun σ H Q q => liftG.mono (liftG.bind q) fun v H1 ⟨Z1, O1, ρ1, d1, r1, f1, q1⟩ => by
    cases e : truD d1 with
    | none => rw [e] at q1; exact q1.elim
    | some k =>
      rw [e] at q1
      refine ⟨k, hK ▸ tru_of f1 e, ?_⟩
      cases k with
      | true => exact ⟨Z1, O1, ρ1, r1, q1⟩
      | false => exact q1 _ Z1 O1 H1 .refl r1 f1
theorem d_or {a b : Expr} {rest : List Expr} {ma mb : M D} {pos : Pos} (hK : G.K = X.K) (ha : PE X a (lift G W ma)) (hb : PE X (.BoolOp .Or (b :: rest) pos) (lift G W mb)) : PE X (.BoolOp .Or (a :: b :: rest) pos) (lift G W (mOrV ma mb)) :=
  PE_imp (pe_orT ha hb) fun σ H Q q => liftG.mono (liftG.bind q) fun v H1 ⟨Z1, O1, ρ1, d1, r1, f1, q1⟩ => by
    cases e : truD d1 with
    | none => rw [e] at q1; exact q1.elim
    | some k =>
      rw [e] at q1
      refine ⟨k, hK ▸ tru_of f1 e, ?_⟩
      cases k with
      | false => exact ⟨Z1, O1, ρ1, r1, q1⟩
      | true => exact q1 _ Z1 O1 H1 .refl r1 f1
theorem d_not {a : Expr} {ma : M D} {pos : Pos} (hK : G.K = X.K) (ha : PE X a (lift G W ma)) : PE X (.UnaryOp .Not a pos) (lift G W (mNotV ma)) :=
  PE_imp (pe_notT ha) fun σ H Q q => liftG.mono (liftG.bind q) fun v H1 ⟨Z1, O1, ρ1, d1, r1, f1, q1⟩ => by
    cases e : truD d1 with
    | none => rw [e] at q1; exact q1.elim
    | some k => rw [e] at q1; exact ⟨k, hK ▸ tru_of f1 e, q1 _ Z1 O1 H1 .refl r1 rfl⟩
def mIf {α : Type} (t : M Bool) (a b : M α) : M α := fun ρ => (t ρ).bind fun k ρ => if k = true then a ρ else b ρ
theorem d_if {c a b : Expr} {t : M Bool} {ma mb : M D} {pos : Pos} (hc : PT X c (liftB G W t)) (ha : PE X a (lift G W ma)) (hb : PE X b (lift G W mb)) : PE X (.IfExp c a b pos) (lift G W (mIf t ma mb)) :=
  PE_imp (pe_ifExp hc ha hb) fun σ H Q q => liftG.mono (liftG.bind (rep := repB) q) fun v H1 ⟨Z1, O1, ρ1, d1, r1, f1, q1⟩ => by
    subst f1
    cases d1 with
    | true => exact ⟨Z1, O1, ρ1, r1, q1⟩
    | false => exact ⟨Z1, O1, ρ1, r1, q1⟩
/-- a op b op' c -/
def mChain (f g : D → D → Option D) (ma mb mc : M D) : M D := fun ρ => (ma ρ).bind fun x ρ => (mb ρ).bind fun y ρ => match f x y with
  | some (.bl true) => (mc ρ).bind fun z ρ => optR (g y z) ρ
  | some (.bl false) => .ok (.bl false) ρ
  | _ => .bad
theorem d_chain {a b c : Expr} {op op' : CmpOp} {r r' : R2} {f g : D → D → Option D} {ma mb mc : M D} {pos : Pos} (ho : OpR X (compareOp op) r) (ho' : OpR X (compareOp op') r') (hf : Op2 G W r f) (hg : Op2 G W r' g)
    (ha : PE X a (lift G W ma)) (hb : PE X b (lift G W mb)) (hc : PE X c (lift G W mc)) (hm : lastMarks [op, op'] [b, c] = false := by with_unfolding_all rfl) : PE X (.Compare a [op, op'] [b, c] pos) (lift G W (mChain f g ma mb mc)) :=
  PE_imp (pe_chain ho ho' ha hb hc hm) fun σ H Q q => by
    refine liftG.mono (liftG.bind q) fun v H1 ⟨Z1, O1, ρ1, d1, r1, f1, q1⟩ => ?_
    refine ⟨Z1, O1, ρ1, r1, (contG.bind (rep := repF G) q1).mono fun w H2 ⟨Z2, O2, ρ2, d2, x, r2, f2, q2⟩ => ?_⟩
    cases e : f d1 d2 with
    | none => rw [e] at q2; exact q2.elim
    | some d =>
      rw [e] at q2
      cases d with
      | bl k =>
        refine hf Z2 O2 ρ2 σ H2 v w d1 d2 _ _ r2 (r1.rf x f1) f2 e fun u Z3 O3 H3 x3 r3 f3 => ⟨k, f3, ?_⟩
        cases k with
        | false => exact iteF (q2 _ Z3 O3 H3 x3 r3 rfl)
        | true =>
          refine iteT ⟨Z3, O3, ρ2, r3, (contG.bind (rep := repF G) (q2.ext x3)).mono fun z H4 ⟨Z4, O4, ρ4, d4, x4, r4, f4, q4⟩ => ?_⟩
          cases e4 : g d2 d4 with
          | none => rw [e4] at q4; exact q4.elim
          | some d' =>
            rw [e4] at q4
            exact hg Z4 O4 ρ4 σ H4 w z d2 d4 d' Q r4 (r3.rf x4 (r2.rf x3 f2)) f4 e4 q4
      | _ => exact q2.elim
theorem t_chain {a b c : Expr} {op op' : CmpOp} {r r' : R2} {f g : D → D → Option D} {ma mb mc : M D} {pos : Pos} (ho : OpR X (compareOp op) r) (ho' : OpR X (compareOp op') r') (hf : Op2 G W r f) (hg : Op2 G W r' g) (hgb : ∀ x y d, g x y = some d → ∃ k, d = .bl k)
    (ha : PE X a (lift G W ma)) (hb : PE X b (lift G W mb)) (hc : PE X c (lift G W mc)) (hm : lastMarks [op, op'] [b, c] = false := by with_unfolding_all rfl) : PT X (.Compare a [op, op'] [b, c] pos) (liftB G W (mTru (mChain f g ma mb mc))) :=
  PT_imp (pt_chain ho ho' ha hb hc hm) fun σ H Q ⟨Z, O, ρ, r0, q⟩ => by
    unfold mTru mChain at q
    have q := contG.bind (rep := repF G) q
    have q1 : lift G W (fun ρ => (ma ρ).bind fun x ρ => (mb ρ).bind fun y ρ => match f x y with
      | some (.bl true) => (mc ρ).bind fun z ρ => optR (g y z) ρ
      | some (.bl false) => .ok (.bl false) ρ
      | _ => .bad) σ H _ := ⟨Z, O, ρ, r0, q⟩
    refine liftG.mono (liftG.bind q1) fun v H1 ⟨Z1, O1, ρ1, d1, r1, f1, q1⟩ => ?_
    refine ⟨Z1, O1, ρ1, r1, (contG.bind (rep := repF G) q1).mono fun w H2 ⟨Z2, O2, ρ2, d2, x, r2, f2, q2⟩ => ?_⟩
    cases e : f d1 d2 with
    | none => rw [e] at q2; exact q2.elim
    | some d =>
      rw [e] at q2
      cases d with
      | bl k =>
        refine hf Z2 O2 ρ2 σ H2 v w d1 d2 _ _ r2 (r1.rf x f1) f2 e fun u Z3 O3 H3 x3 r3 f3 => ⟨k, f3, ?_⟩
        cases k with
        | false =>
          refine iteF ⟨false, rfl, ?_⟩
          obtain ⟨Z4, O4, ρ4, d4, x4, r4, f4, q4⟩ := q2 (.bl false) Z3 O3 H3 x3 r3 rfl
          cases rf_bl f4
          exact q4 false Z4 O4 H3 .refl r4 rfl
        | true =>
          refine iteT ⟨Z3, O3, ρ2, r3, (contG.bind (rep := repF G) (q2.ext x3)).mono fun z H4 ⟨Z4, O4, ρ4, d4, x4, r4, f4, q4⟩ => ?_⟩
          cases e4 : g d2 d4 with
          | none => rw [e4] at q4; exact q4.elim
          | some d' =>
            rw [e4] at q4
            obtain ⟨k, rfl⟩ := hgb _ _ _ e4
            refine hg Z4 O4 ρ4 σ H4 w z d2 d4 _ _ r4 (r3.rf x4 (r2.rf x3 f2)) f4 e4 fun u Z5 O5 H5 x5 r5 f5 => ⟨k, f5, ?_⟩
            obtain ⟨Z6, O6, ρ6, d6, x6, r6, f6, q6⟩ := q4 (.bl k) Z5 O5 H5 x5 r5 rfl
            cases rf_bl f6
            exact q6 k Z6 O6 H5 .refl r6 rfl
      | _ => exact q2.elim

/-! ### argument lists, displays -/
def mNil : M (List D) := fun ρ => .ok [] ρ
def mCons (m : M D) (ms : M (List D)) : M (List D) := fun ρ => (m ρ).bind fun x ρ => (ms ρ).bind fun xs ρ => .ok (x :: xs) ρ
theorem a_nil : PA X [] (liftL G W mNil) := PA_imp pa_nil fun σ H Q ⟨Z, O, ρ, r, q⟩ => q _ Z O H .refl r rfl
theorem a_cons {e : Expr} {es : List Expr} {m : M D} {ms : M (List D)} (h : PE X e (lift G W m)) (hs : PA X es (liftL G W ms)) (hst : starEach (e :: es) X.env = (false, eval e X.env) :: starEach es X.env := by rfl) : PA X (e :: es) (liftL G W (mCons m ms)) :=
  PA_imp (pa_cons h hs hst) fun σ H Q q => by
    refine liftG.mono (liftG.bind q) fun v H1 ⟨Z1, O1, ρ1, d1, r1, f1, q1⟩ => ?_
    refine ⟨Z1, O1, ρ1, r1, (contG.bind (rep := repL G) q1).mono fun w H2 ⟨Z2, O2, ρ2, d2, x, r2, f2, q2⟩ => ?_⟩
    exact q2 _ Z2 O2 H2 .refl r2 ⟨v, w, rfl, r1.rf x f1, f2⟩
def mTup (ms : M (List D)) : M D := fun ρ => (ms ρ).bind fun xs ρ => if xs.length ≤ lim then .ok (.tup xs) ρ else .bad
def mLst (ms : M (List D)) : M D := fun ρ => (ms ρ).bind fun xs ρ => if xs.length ≤ lim then .ok (.lst xs) ρ else .bad
theorem d_tup {es : List Expr} {x1} {ms : M (List D)} {pos : Pos} (h : PA X es (liftL G W ms)) : PE X (.Tuple es x1 pos) (lift G W (mTup ms)) :=
  PE_imp (pe_tup h) fun σ H Q q => liftG.mono (liftG.bind q) fun v H1 ⟨Z1, O1, ρ1, d1, r1, f1, q1⟩ => by
    by_cases e : d1.length ≤ lim
    · rw [if_pos e] at q1; exact ⟨by rw [← f1.length, ← lim_eq]; exact e, cont_tup r1 f1 q1⟩
    · rw [if_neg e] at q1; exact q1.elim
theorem d_lst {es : List Expr} {ms : M (List D)} {pos : Pos} (h : PA X es (liftL G W ms)) : PE X (.List es pos) (lift G W (mLst ms)) :=
  PE_imp (pe_lst h) fun σ H Q q => liftG.mono (liftG.bind q) fun v H1 ⟨Z1, O1, ρ1, d1, r1, f1, q1⟩ => by
    by_cases e : d1.length ≤ lim
    · rw [if_pos e] at q1; exact ⟨by rw [← f1.length, ← lim_eq]; exact e, cont_lst r1 f1 q1⟩
    · rw [if_neg e] at q1; exact q1.elim
theorem contO_lst {Z : Addr → Prop} {O : Nat → List Addr} {ρ : Env} {σ : St} {H : Hp} {Q : VK} {ds : List D} {vs : List V} (r : R G Z O ρ σ H) (f : RfL G Z H ds vs) (q : contG G W (repO G) (.ok (.lst ds) ρ) Z O σ H Q) (p : Addr) (hp : H p = none) :
    Q (.ref p) (upd H p (.lst vs)) :=
  q _ Z _ _ (.newT (t := ρ.length) hp) (r.newT (Nat.le_refl _) hp) ⟨p, vs, rfl, setO_same, upd_same, f.keep (fun _ z => z) fun a o _ e => .inl (upd_keep hp a o e)⟩
theorem o_lst {es : List Expr} {ms : M (List D)} {pos : Pos} (h : PA X es (liftL G W ms)) : PE X (.List es pos) (liftO G W (mLst ms)) :=
  PE_imp (pe_lst h) fun σ H Q q => liftG.mono (liftG.bind (rep := repL G) q) fun v H1 ⟨Z1, O1, ρ1, d1, r1, f1, q1⟩ => by
    by_cases e : d1.length ≤ lim
    · rw [if_pos e] at q1; exact ⟨by rw [← f1.length, ← lim_eq]; exact e, contO_lst r1 f1 q1⟩
    · rw [if_neg e] at q1; exact q1.elim
/-- the owned, let go -/
def mFrz (m : M D) : M D := fun ρ => (m ρ).bind fun d ρ => if isDrw d = true then .bad else .ok d ρ
theorem d_frz {e : Expr} {m : M D} (h : PE X e (liftO G W m)) : PE X e (lift G W (mFrz m)) := PE_imp h fun σ H Q q => by
  refine liftG.mono (liftG.bind (rep := repO G) q) fun v H1 ⟨Z1, O1, ρ1, d1, r1, f1, q1⟩ => ?_
  cases e : isDrw d1 with
  | true => rw [e] at q1; exact q1.elim
  | false =>
    rw [e] at q1
    obtain ⟨Z2, O2, H2, x, rfl, r2, f2⟩ := frz_rep e r1 f1
    exact q1 v Z2 O2 _ x r2 f2
end PB
set_option maxRecDepth 100000
set_option maxHeartbeats 4000000
/-! PB4: statements. -/
namespace PB
open PySem L2
/-- how a statement ends -/
inductive Fl where
  | nx | bk | ct
  | rt (d : D)
  | ro (d : D)
/-- behind a statement; I: the slots that are borrowed, never stored anew -/
def contS (G : Gc) (W : WX) (I : List Nat) (r : Res Fl) (Z : Addr → Prop) (O : Nat → List Addr) (σ : St) (H : Hp) (E : Ends) : Prop :=
  match r with
  | .ok f ρ' => ∀ Z' O' σ' H', Ext Z O H Z' O' H' → (∀ i ∈ I, σ'[i]? = σ[i]?) → R G Z' O' ρ' σ' H' → (match f with
    | .nx => E.nx σ' H'
    | .bk => E.bk σ' H'
    | .ct => E.ct σ' H'
    | .rt d => ∀ v, Rf G Z' H' d v → E.rt v H'
    | .ro d => ∀ v, Own G Z' H' d v (O' ρ'.length) → E.rt v H')
  | .ex x ρ' => ∀ c dd Z' O' σ' H', Ext Z O H Z' O' H' → (∀ i ∈ I, σ'[i]? = σ[i]?) → R G Z' O' ρ' σ' H' → XR G Z' H' x c dd → W c dd σ' H'
  | .bad => False
def liftS (G : Gc) (W : WX) (I : List Nat) (m : M Fl) : TS := fun E σ H => ∃ Z O ρ, R G Z O ρ σ H ∧ contS G W I (m ρ) Z O σ H E
variable {G : Gc} {W : WX} {X : Cx} {I : List Nat}
section
variable {Z : Addr → Prop} {O : Nat → List Addr} {ρ : Env} {σ : St} {H : Hp} {E : Ends}
theorem contS.ext {r : Res Fl} {Z1 : Addr → Prop} {O1 : Nat → List Addr} {σ1 : St} {H1 : Hp} (x : Ext Z O H Z1 O1 H1) (k : ∀ i ∈ I, σ1[i]? = σ[i]?) (h : contS G W I r Z O σ H E) : contS G W I r Z1 O1 σ1 H1 E := by
  cases r with
  | ok d ρ' => exact fun Z' O' σ' H' y k' => h Z' O' σ' H' (x.trans y) fun i hi => (k' i hi).trans (k i hi)
  | ex d ρ' => exact fun c dd Z' O' σ' H' y k' => h c dd Z' O' σ' H' (x.trans y) fun i hi => (k' i hi).trans (k i hi)
  | bad => exact h
/-- an expression ahead of what a statement does with it -/
theorem contS.bind {α β : Type} {rep : Rep α β} {r : Res α} {f : α → Env → Res Fl} (h : contS G W I (r.bind f) Z O σ H E) :
    contG G W rep r Z O σ H (fun v H1 => ∃ Z1 O1 ρ1 d1, Ext Z O H Z1 O1 H1 ∧ R G Z1 O1 ρ1 σ H1 ∧ rep Z1 O1 ρ1 σ H1 d1 v ∧ contS G W I (f d1 ρ1) Z1 O1 σ H1 E) := by
  cases r with
  | ok d ρ' => exact fun v Z' O' H' y rr hf => ⟨Z', O', ρ', d, y, rr, hf, h.ext y fun _ _ => rfl⟩
  | ex d ρ' => exact fun c dd Z' O' H' y rr x => h c dd Z' O' σ H' y (fun _ _ => rfl) rr x
  | bad => exact h
theorem liftS.bind {α β : Type} {rep : Rep α β} {m : M α} {f : α → Env → Res Fl} (h : liftS G W I (fun ρ => (m ρ).bind f) E σ H) :
    liftG G W rep m σ H (fun v H1 => ∃ Z1 O1 ρ1 d1, R G Z1 O1 ρ1 σ H1 ∧ rep Z1 O1 ρ1 σ H1 d1 v ∧ contS G W I (f d1 ρ1) Z1 O1 σ H1 E) := by
  obtain ⟨Z, O, ρ, r, h⟩ := h
  exact ⟨Z, O, ρ, r, h.bind.mono fun v H ⟨Z1, O1, ρ1, d1, _, b, c, d⟩ => ⟨Z1, O1, ρ1, d1, b, c, d⟩⟩
end
def sNx : M Fl := fun ρ => .ok .nx ρ
def sSeq (a b : M Fl) : M Fl := fun ρ => match a ρ with
  | .ok .nx ρ => b ρ
  | r => r
theorem s_nil : PSs X [] (liftS G W I sNx) := PSs_imp pss_nil fun E σ H ⟨Z, O, ρ, r, q⟩ => q Z O σ H .refl (fun _ _ => rfl) r
theorem s_one {st : Stmt} {m : M Fl} (h : PS X st (liftS G W I m)) : PSs X [st] (liftS G W I m) := pss_one h
theorem s_cons {st : Stmt} {rest : List Stmt} {a b : M Fl} (h : PS X st (liftS G W I a)) (hr : PSs X rest (liftS G W I b)) : PSs X (st :: rest) (liftS G W I (sSeq a b)) :=
  PSs_imp (pss_cons h hr) fun E σ H ⟨Z, O, ρ, r, q⟩ => by
    refine ⟨Z, O, ρ, r, ?_⟩
    unfold sSeq at q
    cases e : a ρ with
    | bad => rw [e] at q; exact q
    | ex x ρ' => rw [e] at q; exact q
    | ok f ρ' =>
      rw [e] at q
      cases f with
      | nx => exact fun Z' O' σ' H' y k rr => ⟨Z', O', ρ', rr, contS.ext y k q⟩
      | bk => exact q
      | ct => exact q
      | rt d => exact q
      | ro d => exact q
theorem s_pass {pos : Pos} : PS X (.Pass pos) (liftS G W I sNx) := PS_imp ps_pass fun E σ H ⟨Z, O, ρ, r, q⟩ => q Z O σ H .refl (fun _ _ => rfl) r
theorem s_break {pos : Pos} : PS X (.Break pos) (liftS G W I (fun ρ => .ok .bk ρ)) := PS_imp ps_break fun E σ H ⟨Z, O, ρ, r, q⟩ => q Z O σ H .refl (fun _ _ => rfl) r
theorem s_continue {pos : Pos} : PS X (.Continue pos) (liftS G W I (fun ρ => .ok .ct ρ)) := PS_imp ps_continue fun E σ H ⟨Z, O, ρ, r, q⟩ => q Z O σ H .refl (fun _ _ => rfl) r
def sRet (m : M D) : M Fl := fun ρ => (m ρ).bind fun d ρ => .ok (.rt d) ρ
def sRetO (m : M D) : M Fl := fun ρ => (m ρ).bind fun d ρ => .ok (.ro d) ρ
theorem s_ret {e : Expr} {m : M D} {pos : Pos} (h : PE X e (lift G W m)) : PS X (.Return (some e) pos) (liftS G W I (sRet m)) :=
  PS_imp (ps_ret h) fun E σ H q => liftG.mono (liftS.bind (rep := repF G) q) fun v H1 ⟨Z1, O1, ρ1, d1, r1, f1, q1⟩ => q1 Z1 O1 σ H1 .refl (fun _ _ => rfl) r1 v f1
theorem s_retO {e : Expr} {m : M D} {pos : Pos} (h : PE X e (liftO G W m)) : PS X (.Return (some e) pos) (liftS G W I (sRetO m)) :=
  PS_imp (ps_ret h) fun E σ H q => liftG.mono (liftS.bind (rep := repO G) q) fun v H1 ⟨Z1, O1, ρ1, d1, r1, f1, q1⟩ => q1 Z1 O1 σ H1 .refl (fun _ _ => rfl) r1 v f1
theorem s_retN {pos : Pos} : PS X (.Return none pos) (liftS G W I (fun ρ => .ok (.rt .non) ρ)) := PS_imp ps_retN fun E σ H ⟨Z, O, ρ, r, q⟩ => q Z O σ H .refl (fun _ _ => rfl) r .non rfl
def sDo (m : M D) : M Fl := fun ρ => (m ρ).bind fun _ ρ => .ok .nx ρ
theorem s_expr {e : Expr} {m : M D} {pos : Pos} (h : PE X e (lift G W m)) (hs : swapsWith e none pos.line X.env = pure false := by rfl) : PS X (.Expr e pos) (liftS G W I (sDo m)) :=
  PS_imp (ps_expr h hs) fun E σ H q => liftG.mono (liftS.bind (rep := repF G) q) fun v H1 ⟨Z1, O1, ρ1, d1, r1, f1, q1⟩ => q1 Z1 O1 σ H1 .refl (fun _ _ => rfl) r1
def sIf (t : M Bool) (a b : M Fl) : M Fl := fun ρ => (t ρ).bind fun k ρ => if k = true then a ρ else b ρ
theorem s_if {c : Expr} {a b : List Stmt} {t : M Bool} {ma mb : M Fl} {pos : Pos} (hc : PT X c (liftB G W t)) (ha : PSs X a (liftS G W I ma)) (hb : PSs X b (liftS G W I mb)) : PS X (.If c a b pos) (liftS G W I (sIf t ma mb)) :=
  PS_imp (ps_if hc ha hb) fun E σ H q => liftG.mono (liftS.bind (rep := repB) q) fun v H1 ⟨Z1, O1, ρ1, d1, r1, f1, q1⟩ => by
    subst f1
    cases d1 with
    | true => exact ⟨Z1, O1, ρ1, r1, q1⟩
    | false => exact ⟨Z1, O1, ρ1, r1, q1⟩

/-! ### targets -/
/-- a target takes a frozen value -/
def Tgt (G : Gc) (I : List Nat) (g : TG) (gb : D → Env → Option Env) : Prop := ∀ Z O ρ σ H v d ρ' Q, R G Z O ρ σ H → Rf G Z H d v → gb d ρ = some ρ' →
  (∀ O' σ', Ext Z O H Z O' H → (∀ i ∈ I, σ'[i]? = σ[i]?) → R G Z O' ρ' σ' H → Q σ' H) → g v σ H Q
def TgtL (G : Gc) (I : List Nat) (g : TGs) (gb : List D → Env → Option Env) : Prop := ∀ Z O ρ σ H vs ds ρ' Q, R G Z O ρ σ H → RfL G Z H ds vs → gb ds ρ = some ρ' →
  (∀ O' σ', Ext Z O H Z O' H → (∀ i ∈ I, σ'[i]? = σ[i]?) → R G Z O' ρ' σ' H → Q σ' H) → g vs σ H Q
def bName (i : Nat) (d : D) (ρ : Env) : Option Env := some (ρ.set i (.fr d))
def bNil (ds : List D) (ρ : Env) : Option Env := match ds with
  | [] => some ρ
  | _ => none
def bCons (g : D → Env → Option Env) (gs : List D → Env → Option Env) (ds : List D) (ρ : Env) : Option Env := match ds with
  | d :: ds => (g d ρ).bind (gs ds)
  | [] => none
def bTup (n : Nat) (gs : List D → Env → Option Env) (d : D) (ρ : Env) : Option Env := match d with
  | .tup xs => if xs.length = n then gs xs ρ else none
  | _ => none
theorem set_other {σ : St} {i j : Nat} {w : Option V} (h : j ≠ i) : (σ.set i w)[j]? = σ[j]? := by rw [List.getElem?_set, if_neg (fun e => h e.symm)]
theorem keepI {i : Nat} (hi : I.contains i = false) {σ : St} {w : Option V} : ∀ j ∈ I, (σ.set i w)[j]? = σ[j]? := fun j hj => set_other fun e => by
  subst e
  have : I.contains j = true := by simpa using hj
  rw [this] at hi; cases hi
theorem g_name {i : Nat} (hi : I.contains i = false) : Tgt G I (gName i) (bName i) := fun Z O ρ σ H v d ρ' Q r f e q => by
  cases e
  exact q _ _ .drop (keepI hi) (r.setFr f)
theorem g_nil : TgtL G I gNil bNil := fun Z O ρ σ H vs ds ρ' Q r f e q => by
  cases ds with
  | nil => cases e; cases f; exact ⟨rfl, q O σ .refl (fun _ _ => rfl) r⟩
  | cons _ _ => cases e
theorem g_cons {g : TG} {gs : TGs} {b : D → Env → Option Env} {bs : List D → Env → Option Env} (hg : Tgt G I g b) (hs : TgtL G I gs bs) : TgtL G I (gCons g gs) (bCons b bs) := fun Z O ρ σ H vs ds ρ' Q r f e q => by
  cases ds with
  | nil => cases e
  | cons d ds =>
    obtain ⟨v, ws, e1, f1, f2⟩ := f
    have e : (b d ρ).bind (bs ds) = some ρ' := e
    cases e2 : b d ρ with
    | none => rw [e2] at e; cases e
    | some ρ1 =>
      rw [e2] at e
      refine ⟨v, ws, e1, hg Z O ρ σ H v d ρ1 _ r f1 e2 fun O1 σ1 x1 k1 r1 => ?_⟩
      exact hs Z O1 ρ1 σ1 H ws ds ρ' _ r1 f2 e fun O2 σ2 x2 k2 r2 => q O2 σ2 (x1.trans x2) (fun i hi => (k2 i hi).trans (k1 i hi)) r2
theorem g_tup {n : Nat} {gs : TGs} {bs : List D → Env → Option Env} (hs : TgtL G I gs bs) : Tgt G I (gTup G.K n gs) (bTup n bs) := fun Z O ρ σ H v d ρ' Q r f e q => by
  cases d <;> first | (cases e; done) | skip
  rename_i xs
  unfold bTup at e
  by_cases h : xs.length = n
  · simp only [if_pos h] at e
    obtain ⟨a, vs, rfl, g, rr⟩ := f
    exact ⟨a, vs, rfl, g.sq, by rw [← rr.length]; exact h, hs Z O ρ σ H vs xs ρ' Q r rr e q⟩
  · simp only [if_neg h] at e; cases e
/-- target = e, e frozen -/
def sAsg (gb : D → Env → Option Env) (m : M D) : M Fl := fun ρ => (m ρ).bind fun d ρ => match gb d ρ with
  | some ρ' => .ok .nx ρ'
  | none => .bad
theorem s_asg {st : Stmt} {g : TG} {gb : D → Env → Option Env} {m : M D} (hg : Tgt G I g gb) (h : PS X st (tAsg (lift G W m) g)) : PS X st (liftS G W I (sAsg gb m)) :=
  PS_imp h fun E σ H q => liftG.mono (liftS.bind (rep := repF G) q) fun v H1 ⟨Z1, O1, ρ1, d1, r1, f1, q1⟩ => by
    cases e : gb d1 ρ1 with
    | none => rw [e] at q1; exact q1.elim
    | some ρ2 => rw [e] at q1; exact hg Z1 O1 ρ1 σ H1 v d1 ρ2 _ r1 f1 e fun O' σ' x k r => q1 Z1 O' σ' H1 x k r
/-- name = e, e owned -/
def sAsgO (i : Nat) (m : M D) : M Fl := fun ρ => (m ρ).bind fun d ρ => if i < ρ.length then .ok .nx (ρ.set i (.ow d)) else .bad
theorem s_asgO {st : Stmt} {i : Nat} {m : M D} (hi : I.contains i = false) (h : PS X st (tAsg (liftO G W m) (gName i))) : PS X st (liftS G W I (sAsgO i m)) :=
  PS_imp h fun E σ H q => liftG.mono (liftS.bind (rep := repO G) q) fun v H1 ⟨Z1, O1, ρ1, d1, r1, f1, q1⟩ => by
    by_cases e : i < ρ1.length
    · simp only [if_pos e] at q1
      exact q1 Z1 _ _ H1 (.moveT (t := ρ1.length)) (keepI hi) (r1.moveT (Nat.le_refl _) f1 e)
    · simp only [if_neg e] at q1; exact q1.elim

/-! ### loops -/
/-- over the items -/
def forL (gb : D → Env → Option Env) (mb : M Fl) : List D → M Fl
  | [], ρ => .ok .nx ρ
  | x :: xs, ρ => match gb x ρ with
    | none => .bad
    | some ρ1 => match mb ρ1 with
      | .ok .nx ρ2 => forL gb mb xs ρ2
      | .ok .ct ρ2 => forL gb mb xs ρ2
      | .ok .bk ρ2 => .ok .nx ρ2
      | r => r
def sFor (gb : D → Env → Option Env) (mi : M (List D)) (mb : M Fl) : M Fl := fun ρ => (mi ρ).bind fun xs ρ => forL gb mb xs ρ
/-- one turn -/
theorem for_turn {g : TG} {gb : D → Env → Option Env} {mb : M Fl} {x : D} {xs : List D} {v : V} {Z : Addr → Prop} {O : Nat → List Addr} {ρ : Env} {σ : St} {H : Hp} {E : Ends} {N : St → Hp → Prop} (hg : Tgt G I g gb) (r : R G Z O ρ σ H) (f : Rf G Z H x v)
    (q : contS G W I (forL gb mb (x :: xs) ρ) Z O σ H E)
    (hN : ∀ Z' O' ρ' σ' H', Ext Z O H Z' O' H' → (∀ i ∈ I, σ'[i]? = σ[i]?) → R G Z' O' ρ' σ' H' → contS G W I (forL gb mb xs ρ') Z' O' σ' H' E → N σ' H') :
    g v σ H fun σ2 H2 => liftS G W I mb { E with nx := N, ct := N, bk := E.nx } σ2 H2 := by
  unfold forL at q
  cases e : gb x ρ with
  | none => rw [e] at q; exact q.elim
  | some ρ1 =>
    rw [e] at q
    refine hg Z O ρ σ H v x ρ1 _ r f e fun O1 σ1 x1 k1 r1 => ⟨Z, O1, ρ1, r1, ?_⟩
    simp only at q
    cases e2 : mb ρ1 with
    | bad => rw [e2] at q; exact q.elim
    | ex y ρ2 => rw [e2] at q; exact q.ext x1 k1
    | ok fl ρ2 =>
      rw [e2] at q
      cases fl with
      | nx => exact fun Z' O' σ' H' y k rr => hN Z' O' ρ2 σ' H' (x1.trans y) (fun i hi => (k i hi).trans (k1 i hi)) rr (q.ext (x1.trans y) fun i hi => (k i hi).trans (k1 i hi))
      | ct => exact fun Z' O' σ' H' y k rr => hN Z' O' ρ2 σ' H' (x1.trans y) (fun i hi => (k i hi).trans (k1 i hi)) rr (q.ext (x1.trans y) fun i hi => (k i hi).trans (k1 i hi))
      | bk => exact q.ext x1 k1
      | rt d => exact q.ext x1 k1
      | ro d => exact q.ext x1 k1
theorem RfL.drop {Z : Addr → Prop} {H : Hp} : ∀ {ds : List D} {vs : List V} (n : Nat), RfL G Z H ds vs → RfL G Z H (ds.drop n) (vs.drop n)
  | _, _, 0, h => h
  | [], _, n + 1, h => by cases h; rw [List.drop_nil, List.drop_nil]; rfl
  | _ :: _, _, n + 1, ⟨v, r, e, _, h⟩ => by rw [e]; exact h.drop n
theorem drop_cons {α : Type} {xs : List α} {i : Nat} {x : α} (e : xs[i]? = some x) : xs.drop i = x :: xs.drop (i + 1) := by
  obtain ⟨h, e⟩ := List.getElem?_eq_some_iff.mp e
  rw [← e]; exact List.drop_eq_getElem_cons h
theorem bind_bind {α β γ : Type} (r : Res α) (f : α → Env → Res β) (g : β → Env → Res γ) : (r.bind f).bind g = r.bind fun a ρ => (f a ρ).bind g := by cases r <;> rfl
/-- J walks the items xs, as long as what Z1 tells stands -/
structure Wk (G : Gc) (Z1 : Addr → Prop) (H1 : Hp) (J : It) (xs : List D) : Prop where
  stop : ∀ (Z : Addr → Prop) H, (∀ a, Z1 a → Z a) → Kp Z1 H1 H → J.stop xs.length H
  go : ∀ (Z : Addr → Prop) H i, (∀ a, Z1 a → Z a) → Kp Z1 H1 H → i < xs.length → J.go i H
  yld : ∀ Z O ρ σ H i x v H', R G Z O ρ σ H → (∀ a, Z1 a → Z a) → Kp Z1 H1 H → xs[i]? = some x → J.yld i H v H' → ∃ Z', Ext Z O H Z' O H' ∧ R G Z' O ρ σ H' ∧ Rf G Z' H' x v
abbrev repW (G : Gc) : Rep (List D) It := fun Z _ _ _ H xs J => Wk G Z H J xs
/-- what is walked gives these items -/
def Src (G : Gc) (W : WX) (wi : TI) (mi : M (List D)) : Prop := ∀ σ H Q, liftG G W (repW G) mi σ H Q → wi σ H Q
theorem s_for {st : Stmt} {wi : TI} {g : TG} {gb : D → Env → Option Env} {mi : M (List D)} {mb : M Fl} (hs : Src G W wi mi) (hg : Tgt G I g gb) (h : PS X st (tFor wi g (liftS G W I mb))) : PS X st (liftS G W I (sFor gb mi mb)) :=
  PS_imp h fun E σ H q => hs σ H _ <| liftG.mono (liftS.bind (rep := repW G) q) fun J H1 ⟨Z1, O1, ρ1, xs, r1, wk, q1⟩ => by
    refine ⟨fun i m σ' H' => m = xs.length - i ∧ i ≤ xs.length ∧ ∃ Z O ρ, R G Z O ρ σ' H' ∧ (∀ a, Z1 a → Z a) ∧ Kp Z1 H1 H' ∧ contS G W I (forL gb mb (xs.drop i) ρ) Z O σ' H' E,
      ⟨_, rfl, Nat.zero_le _, Z1, O1, ρ1, r1, fun _ z => z, fun _ _ _ e => .inl e, q1⟩, ?_⟩
    rintro i m σ' H' ⟨rfl, hi, Z, O, ρ, r, zs, k, q2⟩
    by_cases hlt : i < xs.length
    · have ed : xs[i]? = some xs[i] := List.getElem?_eq_getElem hlt
      refine .inr ⟨wk.go Z H' i zs k hlt, fun σ'' H'' => i + 1 ≤ xs.length ∧ ∃ Z O ρ, R G Z O ρ σ'' H'' ∧ (∀ a, Z1 a → Z a) ∧ Kp Z1 H1 H'' ∧ contS G W I (forL gb mb (xs.drop (i + 1)) ρ) Z O σ'' H'' E,
        fun σ'' H'' h => ⟨xs.length - (i + 1), by omega, rfl, h.1, h.2⟩, fun v H2 y => ?_⟩
      obtain ⟨Z2, x2, r2, f2⟩ := wk.yld Z O ρ σ' H' i _ v H2 r zs k ed y
      rw [drop_cons ed] at q2
      refine for_turn hg r2 f2 (q2.ext x2 fun _ _ => rfl) fun Z' O' ρ' σ'' H'' xt ks rr q3 => ⟨hlt, Z', O', ρ', rr, fun a z => xt.zs a (x2.zs a (zs a z)), (k.trans zs (Kp.of_ext r x2)).trans (fun a z => x2.zs a (zs a z)) (Kp.of_ext r2 xt), q3⟩
    · have e : i = xs.length := by omega
      subst e
      rw [List.drop_eq_nil_of_le (Nat.le_refl _)] at q2
      exact .inl ⟨wk.stop Z H' zs k, q2 Z O σ' H' .refl (fun _ _ => rfl) r⟩
def asL : D → Option (List D)
  | .lst xs => some xs
  | .fls xs => some xs
  | _ => none
def asT : D → Option (List D)
  | .tup xs => some xs
  | _ => none
def mItems (f : D → Option (List D)) (m : M D) : M (List D) := fun ρ => (m ρ).bind fun d ρ => optR (f d) ρ
theorem wk_list {Z1 : Addr → Prop} {H1 : Hp} {xs : List D} {vs : List V} {a : Addr} (hsq : ∀ (Z : Addr → Prop) H, (∀ a, Z1 a → Z a) → Kp Z1 H1 H → SqL G.K H a vs) (rl : RfL G Z1 H1 xs vs) : Wk G Z1 H1 (Itl G.K a) xs where
  stop := fun Z H zs k => ⟨vs, hsq Z H zs k, by rw [rl.length]; exact Nat.le_refl _⟩
  go := fun Z H i zs k h => ⟨vs, vs[i]'(by rw [← rl.length]; exact h), hsq Z H zs k, List.getElem?_eq_getElem _⟩
  yld := fun Z O ρ σ H i x v H' r zs k e y => by
    obtain ⟨rfl, y⟩ := y
    obtain ⟨w, ew, fw⟩ := rl.get e
    rw [y vs (hsq Z H' zs k)] at ew; cases ew
    exact ⟨Z, .refl, r, fw.keep zs k⟩
theorem wk_tup {Z1 : Addr → Prop} {H1 : Hp} {xs : List D} {vs : List V} {a : Addr} (g : FzT G Z1 H1 a vs) (rl : RfL G Z1 H1 xs vs) : Wk G Z1 H1 (Itt G.K a) xs := by
  have hsq : ∀ (Z : Addr → Prop) H, (∀ a, Z1 a → Z a) → Kp Z1 H1 H → SqT G.K H a vs := fun Z H zs k => g.elim (fun ⟨z, e⟩ => .of (k.eq z e)) .inr
  exact {
    stop := fun Z H zs k => ⟨vs, hsq Z H zs k, by rw [rl.length]; exact Nat.le_refl _⟩
    go := fun Z H i zs k h => ⟨vs, vs[i]'(by rw [← rl.length]; exact h), hsq Z H zs k, List.getElem?_eq_getElem _⟩
    yld := fun Z O ρ σ H i x v H' r zs k e y => by
      obtain ⟨rfl, y⟩ := y
      obtain ⟨w, ew, fw⟩ := rl.get e
      rw [y vs (hsq Z H' zs k)] at ew; cases ew
      exact ⟨Z, .refl, r, fw.keep zs k⟩ }
theorem src_list {m : M D} : Src G W (iList G.K (lift G W m)) (mItems asL m) := fun σ H Q q => by
  unfold mItems at q
  refine liftG.mono (liftG.bind (rep := repF G) q) fun v H1 ⟨Z1, O1, ρ1, d1, r1, f1, q1⟩ => ?_
  cases d1 <;> first | exact q1.elim | skip
  · obtain ⟨a, vs, rfl, g1, rl⟩ := f1
    exact ⟨a, rfl, ⟨vs, g1.sq⟩, q1 _ Z1 O1 H1 .refl r1 (wk_list (fun Z H zs k => .of (k.eq g1.1 g1.2)) rl)⟩
  · obtain ⟨a, vs, rfl, g1, rl⟩ := f1
    exact ⟨a, rfl, ⟨vs, g1.sq⟩, q1 _ Z1 O1 H1 .refl r1 (wk_list (fun Z H zs k => g1.elim (fun ⟨z, o, e⟩ => .inl (.inr ⟨o, k.eq z e⟩)) .inr) rl)⟩
theorem src_tup {m : M D} : Src G W (iTup G.K (lift G W m)) (mItems asT m) := fun σ H Q q => by
  unfold mItems at q
  refine liftG.mono (liftG.bind (rep := repF G) q) fun v H1 ⟨Z1, O1, ρ1, d1, r1, f1, q1⟩ => ?_
  cases d1 <;> first | exact q1.elim | skip
  obtain ⟨a, vs, rfl, g1, rl⟩ := f1
  exact ⟨a, rfl, ⟨vs, g1.sq⟩, q1 _ Z1 O1 H1 .refl r1 (wk_tup g1 rl)⟩
/-- range -/
def rngD (lo : Int) : Nat → List D
  | 0 => []
  | n + 1 => .int lo :: rngD (lo + 1) n
theorem rngD_length : ∀ (n : Nat) (lo : Int), (rngD lo n).length = n
  | 0, _ => rfl
  | n + 1, lo => by unfold rngD; rw [List.length_cons, rngD_length n]
theorem rngD_get : ∀ (i n : Nat) (lo : Int) (x : D), (rngD lo n)[i]? = some x → x = .int (lo + i)
  | _, 0, lo, x, h => by unfold rngD at h; simp at h
  | 0, n + 1, lo, x, h => by unfold rngD at h; simp at h; rw [← h]; simp
  | i + 1, n + 1, lo, x, h => by
    unfold rngD at h
    have := rngD_get i n (lo + 1) x (by simpa using h)
    rw [this]
    congr 1
    push_cast
    omega
theorem wk_rng {Z1 : Addr → Prop} {H1 : Hp} {lo : Int} {n : Nat} : Wk G Z1 H1 (Itr lo n) (rngD lo n) where
  stop := fun Z H zs k => by rw [rngD_length]; exact Nat.le_refl _
  go := fun Z H i zs k h => by rw [rngD_length] at h; exact h
  yld := fun Z O ρ σ H i x v H' r zs k e y => by
    obtain ⟨rfl, rfl⟩ := y
    exact ⟨Z, .refl, r, by rw [rngD_get i n lo x e]; exact rfl⟩
def asR1 (ds : List D) : Option (List D) := match ds with
  | [.int j] => if -(2 ^ 62) ≤ j ∧ j < 2 ^ 62 then some (rngD 0 j.toNat) else none
  | _ => none
def asR2 (ds : List D) : Option (List D) := match ds with
  | [.int i, .int j] => if -(2 ^ 62) ≤ i ∧ i < 2 ^ 62 ∧ -(2 ^ 62) ≤ j ∧ j < 2 ^ 62 then some (rngD i (j - i).toNat) else none
  | _ => none
def mItemsL (f : List D → Option (List D)) (m : M (List D)) : M (List D) := fun ρ => (m ρ).bind fun d ρ => optR (f d) ρ
theorem src_range1 {m : M (List D)} : Src G W (iRng1 (liftL G W m)) (mItemsL asR1 m) := fun σ H Q q => by
  unfold mItemsL at q
  refine liftG.mono (liftG.bind (rep := repL G) q) fun v H1 ⟨Z1, O1, ρ1, d1, r1, f1, q1⟩ => ?_
  cases e : asR1 d1 with
  | none => rw [e] at q1; exact q1.elim
  | some xs =>
    rw [e] at q1
    unfold asR1 at e
    split at e
    · rename_i j
      split at e
      · rename_i h
        cases e
        obtain ⟨w, s, rfl, fw, fs⟩ := f1
        cases fw; cases fs
        exact ⟨j, rfl, h.1, h.2, q1 _ Z1 O1 H1 .refl r1 wk_rng⟩
      · cases e
    · cases e
theorem src_range2 {m : M (List D)} : Src G W (iRng2 (liftL G W m)) (mItemsL asR2 m) := fun σ H Q q => by
  unfold mItemsL at q
  refine liftG.mono (liftG.bind (rep := repL G) q) fun v H1 ⟨Z1, O1, ρ1, d1, r1, f1, q1⟩ => ?_
  cases e : asR2 d1 with
  | none => rw [e] at q1; exact q1.elim
  | some xs =>
    rw [e] at q1
    unfold asR2 at e
    split at e
    · rename_i i j
      split at e
      · rename_i h
        cases e
        obtain ⟨w, s, rfl, fw, w2, s2, rfl, fw2, fs⟩ := f1
        cases fw; cases fw2; cases fs
        exact ⟨i, j, rfl, h, q1 _ Z1 O1 H1 .refl r1 wk_rng⟩
      · cases e
    · cases e
/-- while, with so much fuel -/
def whileM (t : M Bool) (b : M Fl) : Nat → M Fl
  | 0, _ => .bad
  | n + 1, ρ => (t ρ).bind fun k ρ1 => if k = true then (match b ρ1 with
      | .ok .nx ρ2 => whileM t b n ρ2
      | .ok .ct ρ2 => whileM t b n ρ2
      | .ok .bk ρ2 => .ok .nx ρ2
      | r => r) else .ok .nx ρ1
theorem s_while {c : Expr} {body : List Stmt} {t : M Bool} {mb : M Fl} {n : Nat} {pos : Pos} (hp : PassesOwn (model X.prog X.w) X.A X.env X.xe) (hc : PT X c (liftB G W t)) (hb : PSs X body (liftS G W I mb)) : PS X (.While c body [] pos) (liftS G W I (whileM t mb n)) :=
  PS_imp (ps_while hp hc hb) fun E σ H ⟨Z, O, ρ, r, q⟩ => by
    refine ⟨fun m σ H => ∃ Z O ρ, R G Z O ρ σ H ∧ contS G W I (whileM t mb m ρ) Z O σ H E, ⟨n, Z, O, ρ, r, q⟩, ?_⟩
    rintro m σ H ⟨Z, O, ρ, r, q⟩
    cases m with
    | zero => exact q.elim
    | succ m =>
      unfold whileM at q
      refine ⟨Z, O, ρ, r, (contS.bind (rep := repB) q).mono fun k H1 ⟨Z1, O1, ρ1, d1, x1, r1, f1, q1⟩ => ?_⟩
      subst f1
      cases d1 with
      | false => exact iteF (q1 Z1 O1 σ H1 .refl (fun _ _ => rfl) r1)
      | true =>
        refine iteT ⟨fun σ' H' => ∃ Z O ρ, R G Z O ρ σ' H' ∧ contS G W I (whileM t mb m ρ) Z O σ' H' E, fun σ' H' h => ⟨m, Nat.lt_succ_self m, h⟩, Z1, O1, ρ1, r1, ?_⟩
        rw [if_pos rfl] at q1
        cases e2 : mb ρ1 with
        | bad => rw [e2] at q1; exact q1.elim
        | ex y ρ2 => rw [e2] at q1; exact q1
        | ok fl ρ2 =>
          rw [e2] at q1
          cases fl with
          | nx => exact fun Z' O' σ' H' y k rr => ⟨Z', O', ρ2, rr, q1.ext y k⟩
          | ct => exact fun Z' O' σ' H' y k rr => ⟨Z', O', ρ2, rr, q1.ext y k⟩
          | bk => exact q1
          | rt d => exact q1
          | ro d => exact q1
end PB
set_option maxRecDepth 100000
set_option maxHeartbeats 4000000
/-! PB5: defs and their calls. -/
namespace PB
open PySem PySem.Spec L2
/-- how a def ends; o: what its borrowed parameters hold then -/
inductive FR where
  | ok (d : D) (o : Env)
  | own (d : D) (o : Env)
  | ex (x : D) (o : Env)
  | bad
def outs (I : List Nat) (n : Nat) (ρ : Env) : Env := (List.range n).map fun i => if I.contains i = true then ρ.getD i .un else .un
theorem outs_get {I : List Nat} {n i : Nat} {ρ : Env} {s : Sl} (h : (outs I n ρ)[i]? = some s) : i < n ∧ (s = .un ∨ (i ∈ I ∧ ρ.getD i .un = s)) := by
  unfold outs at h
  rw [List.getElem?_map] at h
  cases e : (List.range n)[i]? with
  | none => rw [e] at h; cases h
  | some j =>
    rw [e] at h
    obtain ⟨h1, h2⟩ := List.getElem?_eq_some_iff.mp e
    rw [List.length_range] at h1
    rw [List.getElem_range] at h2
    subst h2
    refine ⟨h1, ?_⟩
    simp only [Option.map_some, Option.some.injEq] at h
    by_cases c : I.contains i = true
    · rw [if_pos c] at h; exact .inr ⟨by simpa using c, h⟩
    · rw [if_neg c] at h; exact .inl h.symm
theorem outs_length {I : List Nat} {n : Nat} {ρ : Env} : (outs I n ρ).length = n := by unfold outs; rw [List.length_map, List.length_range]
def runF (I : List Nat) (np nN : Nat) (mb : M Fl) (args : Env) : FR :=
  if args.length = np then (match mb (args ++ List.replicate (nN - np) .un) with
    | .ok .nx ρ => .ok .non (outs I np ρ)
    | .ok (.rt d) ρ => .ok d (outs I np ρ)
    | .ok (.ro d) ρ => .own d (outs I np ρ)
    | .ex x ρ => .ex x (outs I np ρ)
    | _ => .bad) else .bad
/-- a def's promise by what it does -/
def spF (G : Gc) (F : Env → FR) : Sp := fun vs H Q E => ∃ Z O args, args.length = vs.length ∧ R G Z O args (vs.map some) H ∧ (match F args with
  | .ok d o => ∀ v Z' O' H', Ext Z O H Z' O' H' → R G Z' O' o (vs.map some) H' → Rf G Z' H' d v → Q v H'
  | .own d o => ∀ v Z' O' H', Ext Z O H Z' O' H' → R G Z' O' o (vs.map some) H' → Own G Z' H' d v (O' vs.length) → Q v H'
  | .ex x o => ∀ c dd Z' O' H', Ext Z O H Z' O' H' → R G Z' O' o (vs.map some) H' → XR G Z' H' x c dd → E c dd H'
  | .bad => False)
section
variable {G : Gc} {Z Z' : Addr → Prop} {H H' : Hp} {O : Nat → List Addr} {ρ : Env} {σ : St}
/-- the places told anew -/
theorem R.reix (r : R G Z O ρ σ H) {ρ2 : Env} {σ2 : St} {O2 : Nat → List Addr} (f : Nat → Nat) (len : ρ2.length = σ2.length) (sl : ∀ i s, ρ2[i]? = some s → RS G Z H s (σ2[i]?.getD none) (O2 i))
    (h : ∀ i, O2 i = [] ∨ O2 i = O (f i)) (inj : ∀ i j, O2 i ≠ [] → O2 j ≠ [] → f i = f j → i = j) : R G Z O2 ρ2 σ2 H where
  len := len
  sl := sl
  nd := fun i => by
    rcases h i with e | e
    · rw [e]; exact List.nodup_nil
    · rw [e]; exact r.nd _
  dj := fun i j a h1 h2 => by
    have n1 : O2 i ≠ [] := fun e => by rw [e] at h1; cases h1
    have n2 : O2 j ≠ [] := fun e => by rw [e] at h2; cases h2
    refine inj i j n1 n2 ?_
    rcases h i with e | e
    · exact absurd e n1
    · rcases h j with e2 | e2
      · exact absurd e2 n2
      · rw [e] at h1; rw [e2] at h2; exact r.dj _ _ a h1 h2
  oz := fun i a h1 => by
    rcases h i with e | e
    · rw [e] at h1; cases h1
    · rw [e] at h1; exact r.oz _ a h1
  od := fun i a h1 => by
    rcases h i with e | e
    · rw [e] at h1; cases h1
    · rw [e] at h1; exact r.od _ a h1
  zd := r.zd
  tb := r.tb
def outO (O : Nat → List Addr) (n t : Nat) : Nat → List Addr := fun i => if i < n ∧ i < t then O i else if i = n then O t else []
theorem outO_own {n t : Nat} : outO O n t n = O t := by unfold outO; rw [if_neg (fun h => Nat.lt_irrefl _ h.1), if_pos rfl]
/-- at a def's end -/
theorem R.out {I : List Nat} {n : Nat} {vs : List V} (r : R G Z O ρ σ H) (hv : vs.length = n) (hσ : ∀ i ∈ I, σ[i]? = (vs.map some)[i]?) :
    R G Z (outO O n ρ.length) (outs I n ρ) (vs.map some) H := by
  refine r.reix (fun i => if i < n ∧ i < ρ.length then i else ρ.length) (by rw [outs_length, List.length_map, hv]) (fun i s e => ?_) (fun i => ?_) fun i j n1 n2 e => ?_
  · obtain ⟨h1, h2⟩ := outs_get e
    rcases h2 with h2 | ⟨h2, h3⟩
    · rw [h2]; exact trivial
    · by_cases h4 : i < ρ.length
      · unfold outO
        rw [if_pos ⟨h1, h4⟩]
        have e3 : ρ[i]? = some s := by
          rw [List.getD_eq_getElem?_getD, List.getElem?_eq_getElem h4] at h3
          rw [List.getElem?_eq_getElem h4]
          exact congrArg some h3
        rw [← hσ i h2]
        exact r.sl i s e3
      · rw [List.getD_eq_getElem?_getD, List.getElem?_eq_none (Nat.le_of_not_lt h4)] at h3
        rw [← h3]; exact trivial
  · unfold outO
    by_cases h1 : i < n ∧ i < ρ.length
    · rw [if_pos h1, if_pos h1]; exact .inr (Eq.refl _)
    · rw [if_neg h1, if_neg h1]
      by_cases h2 : i = n
      · rw [if_pos h2]; exact .inr (Eq.refl _)
      · rw [if_neg h2]; exact .inl (Eq.refl _)
  · unfold outO at n1 n2
    by_cases h1 : i < n ∧ i < ρ.length
    · rw [if_pos h1] at e
      by_cases h2 : j < n ∧ j < ρ.length
      · rw [if_pos h2] at e; exact e
      · rw [if_neg h2] at e; omega
    · rw [if_neg h1] at e n1
      have i1 : i = n := by
        by_cases h3 : i = n
        · exact h3
        · rw [if_neg h3] at n1; exact absurd (Eq.refl _) n1
      by_cases h2 : j < n ∧ j < ρ.length
      · rw [if_pos h2] at e; omega
      · rw [if_neg h2] at n2
        have j1 : j = n := by
          by_cases h3 : j = n
          · exact h3
          · rw [if_neg h3] at n2; exact absurd (Eq.refl _) n2
        omega
theorem Ext.out {O' : Nat → List Addr} {n t : Nat} (x : Ext Z O H Z' O' H') : Ext Z O H Z' (outO O' n t) H' where
  zs := x.zs
  kp := x.kp
  zn := x.zn
  on := fun a ⟨i, h⟩ => by
    unfold outO at h
    by_cases h1 : i < n ∧ i < t
    · rw [if_pos h1] at h; exact x.on a ⟨i, h⟩
    · rw [if_neg h1] at h
      by_cases h2 : i = n
      · rw [if_pos h2] at h; exact x.on a ⟨t, h⟩
      · rw [if_neg h2] at h; cases h
  dm := x.dm
/-- at a def's beginning -/
theorem R.begin {args : Env} {vs : List V} {k : Nat} (r : R G Z O args (vs.map some) H) : R G Z O (args ++ List.replicate k .un) (vs.map some ++ List.replicate k none) H :=
  r.reix id (by rw [List.length_append, List.length_append, r.len, List.length_replicate, List.length_replicate]) (fun i s e => by
    by_cases h : i < args.length
    · rw [List.getElem?_append_left h] at e
      rw [List.getElem?_append_left (by rw [← r.len]; exact h)]
      exact r.sl i s e
    · rw [List.getElem?_append_right (Nat.le_of_not_lt h), List.getElem?_replicate] at e
      split at e
      · cases e; exact trivial
      · cases e) (fun i => .inr rfl) fun i j _ _ e => e
end
section
variable {P : Program} {w : World} {mg : Str → Option Value} {base : Heap} {G : Gc}
/-- THE RULE for a def -/
theorem fn_ok {x qual : Str} {st : Stmt} {f : Addr} {fd : FuncData} {N ps : List Str} {k : Nat} {I : List Nat} {mb : M Fl} (F : Fun G.K x qual st f fd) (S : FnScope N ps (defScope st)) (hI : ∀ i ∈ I, i < ps.length)
    (hbody : ∀ (cdv : Value) (A : Around) (outer : List PySem.Env) (s : Shared) (H : Hp) (E : XK), Room k (A.deeper (PyProof.Rows.envOfC qual (defScope st) s.heap.objs.size f cdv)) →
      PSs (cxOf (L2.CX P w) P w G.K mg base N qual (defScope st) f cdv A outer s H E) (defBody st) (liftS G (fun c d _ H => E c d H) I mb)) :
    FnOk P w G.K mg base (L2.CX P w) (k + 1) f fd ps (spF G (runF I ps.length N.length mb)) := by
  refine F.okX S (fun vs H Q E h => ?_) fun cdv A outer s H vs Q E hr h => ⟨_, hbody cdv A outer s H E hr, ?_⟩
  · obtain ⟨Z, O, args, hl, r, q⟩ := h
    unfold runF at q
    by_cases e : args.length = ps.length
    · rw [← hl, e]
    · rw [if_neg e] at q; exact q.elim
  · obtain ⟨Z, O, args, hl, r, q⟩ := h
    unfold runF at q
    by_cases e : args.length = ps.length
    · rw [if_pos e] at q
      have hv : vs.length = ps.length := by rw [← hl, e]
      refine ⟨Z, O, args ++ List.replicate (N.length - ps.length) .un, ?_, ?_⟩
      · have := r.begin (k := N.length - ps.length)
        unfold L2.start
        rw [hv]
        exact this
      · have hσ : ∀ {σ' : St}, (∀ i ∈ I, σ'[i]? = (L2.start N vs)[i]?) → ∀ i ∈ I, σ'[i]? = (vs.map some)[i]? := fun h i hi => by
          rw [h i hi]
          unfold L2.start
          rw [List.getElem?_append_left (by rw [List.length_map, hv]; exact hI i hi)]
        cases e2 : mb (args ++ List.replicate (N.length - ps.length) .un) with
        | bad => rw [e2] at q; exact q.elim
        | ex y ρ' =>
          rw [e2] at q
          exact fun c dd Z' O' σ' H' xt k rr xr => q c dd Z' _ H' (xt.out (n := ps.length) (t := ρ'.length)) (rr.out hv (hσ k)) xr
        | ok fl ρ' =>
          rw [e2] at q
          cases fl with
          | bk => exact q.elim
          | ct => exact q.elim
          | nx => exact fun Z' O' σ' H' xt k rr => q .non Z' _ H' (xt.out (n := ps.length) (t := ρ'.length)) (rr.out hv (hσ k)) (Eq.refl _)
          | rt d => exact fun Z' O' σ' H' xt k rr v f => q v Z' _ H' (xt.out (n := ps.length) (t := ρ'.length)) (rr.out hv (hσ k)) f
          | ro d => exact fun Z' O' σ' H' xt k rr v f => q v Z' _ H' (xt.out (n := ps.length) (t := ρ'.length)) (rr.out hv (hσ k)) (by rw [hv, outO_own]; exact f)
    · rw [if_neg e] at q; exact q.elim
end

/-! ### calls -/
/-- an argument: a frozen value, or a slot that is lent -/
inductive Arg where
  | v (d : D)
  | s (j : Nat)
def repA1 (G : Gc) (Z : Addr → Prop) (σ : St) (H : Hp) : Arg → V → Prop
  | .v d, v => Rf G Z H d v
  | .s j, v => σ[j]? = some (some v)
inductive RAs (G : Gc) (Z : Addr → Prop) (σ : St) (H : Hp) : List Arg → List V → Prop
  | nil : RAs G Z σ H [] []
  | cons {a v as vs} : repA1 G Z σ H a v → RAs G Z σ H as vs → RAs G Z σ H (a :: as) (v :: vs)
abbrev repA (G : Gc) : Rep (List Arg) (List V) := fun Z _ _ σ H d v => RAs G Z σ H d v
abbrev liftA (G : Gc) (W : WX) (m : M (List Arg)) : TA := liftG G W (repA G) m
def slotsOf : List Arg → List Nat
  | [] => []
  | .v _ :: as => slotsOf as
  | .s j :: as => j :: slotsOf as
def mkArgs : List Arg → Env → Option Env
  | [], _ => some []
  | .v d :: as, ρ => (mkArgs as ρ).map (.fr d :: ·)
  | .s j :: as, ρ => match ρ[j]? with
    | some (.io d) => (mkArgs as ρ).map (.io d :: ·)
    | some (.ow d) => (mkArgs as ρ).map (.io d :: ·)
    | _ => none
def putBack : List Arg → Env → Env → Option Env
  | [], _, ρ => some ρ
  | .v _ :: as, _ :: os, ρ => putBack as os ρ
  | .s j :: as, .io d :: os, ρ => match ρ[j]? with
    | some (.io _) => putBack as os (ρ.set j (.io d))
    | some (.ow _) => putBack as os (ρ.set j (.ow d))
    | _ => none
  | _, _, _ => none
def endR (as : List Arg) (o : Env) (ρ : Env) (k : Env → Res D) : Res D := match putBack as o ρ with
  | some ρ' => k ρ'
  | none => .bad
/-- the call; what is handed back is frozen -/
def callR (F : Env → FR) (as : List Arg) (ρ : Env) : Res D := if (slotsOf as).Nodup then (match mkArgs as ρ with
  | none => .bad
  | some args => match F args with
    | .ok d o => endR as o ρ fun ρ' => .ok d ρ'
    | .own d o => endR as o ρ fun ρ' => if isDrw d = true then .bad else .ok d ρ'
    | .ex x o => endR as o ρ fun ρ' => .ex x ρ'
    | .bad => .bad) else .bad
/-- the call; what is handed back is owned -/
def callO (F : Env → FR) (as : List Arg) (ρ : Env) : Res D := if (slotsOf as).Nodup then (match mkArgs as ρ with
  | none => .bad
  | some args => match F args with
    | .own d o => endR as o ρ fun ρ' => .ok d ρ'
    | .ex x o => endR as o ρ fun ρ' => .ex x ρ'
    | _ => .bad) else .bad
/-- where a slot stands among the arguments -/
def posA : List Arg → Nat → Option Nat
  | [], _ => none
  | .v _ :: as, k => (posA as k).map (· + 1)
  | .s j :: as, k => if j = k then some 0 else (posA as k).map (· + 1)
theorem posA_get : ∀ {as : List Arg} {k i : Nat}, posA as k = some i → as[i]? = some (.s k)
  | [], _, _, h => by cases h
  | .v _ :: as, k, i, h => by
    unfold posA at h
    cases e : posA as k with
    | none => rw [e] at h; cases h
    | some j => rw [e] at h; cases h; simpa using posA_get e
  | .s j :: as, k, i, h => by
    unfold posA at h
    by_cases e : j = k
    · rw [if_pos e] at h; cases h; rw [e]; rfl
    · rw [if_neg e] at h
      cases e2 : posA as k with
      | none => rw [e2] at h; cases h
      | some j => rw [e2] at h; cases h; simpa using posA_get e2
theorem posA_none : ∀ {as : List Arg} {k : Nat}, posA as k = none → k ∉ slotsOf as
  | [], _, _ => by simp [slotsOf]
  | .v _ :: as, k, h => by
    unfold posA at h
    cases e : posA as k with
    | none => exact posA_none (as := as) e
    | some j => rw [e] at h; cases h
  | .s j :: as, k, h => by
    unfold posA at h
    by_cases e : j = k
    · rw [if_pos e] at h; cases h
    · rw [if_neg e] at h
      cases e2 : posA as k with
      | none => exact fun z => (List.mem_cons.mp z).elim (fun z => e z.symm) (posA_none e2)
      | some j => rw [e2] at h; cases h
theorem slotsOf_mem : ∀ {as : List Arg} {i k : Nat}, as[i]? = some (.s k) → k ∈ slotsOf as
  | [], _, _, h => by simp at h
  | .v _ :: as, 0, _, h => by simp at h
  | .v _ :: as, i + 1, k, h => slotsOf_mem (as := as) (i := i) (by simpa using h)
  | .s j :: as, 0, k, h => by simp at h; subst h; exact List.mem_cons_self
  | .s j :: as, i + 1, k, h => List.mem_cons_of_mem _ (slotsOf_mem (as := as) (i := i) (by simpa using h))
theorem posA_of : ∀ {as : List Arg} {k i : Nat}, (slotsOf as).Nodup → as[i]? = some (.s k) → posA as k = some i
  | [], _, _, _, h => by simp at h
  | .v _ :: as, k, 0, _, h => by simp at h
  | .v _ :: as, k, i + 1, n, h => by
    unfold posA
    rw [posA_of (as := as) (i := i) n (by simpa using h)]; rfl
  | .s j :: as, k, 0, n, h => by
    simp at h; subst h
    unfold posA; rw [if_pos rfl]
  | .s j :: as, k, i + 1, n, h => by
    have h' : as[i]? = some (.s k) := by simpa using h
    have n' := List.nodup_cons.mp n
    have hn : j ≠ k := fun e => n'.1 (by rw [e]; exact slotsOf_mem h')
    unfold posA
    rw [if_neg hn, posA_of n'.2 h']; rfl
theorem mkArgs_get : ∀ {as : List Arg} {ρ args : Env} {i : Nat} {s : Sl}, mkArgs as ρ = some args → args[i]? = some s →
    (∃ d, as[i]? = some (.v d) ∧ s = .fr d) ∨ ∃ j d, as[i]? = some (.s j) ∧ s = .io d ∧ (ρ[j]? = some (.io d) ∨ ρ[j]? = some (.ow d))
  | [], _, _, _, _, h, e => by cases h; simp at e
  | .v d :: as, ρ, args, i, s, h, e => by
    unfold mkArgs at h
    cases e1 : mkArgs as ρ with
    | none => rw [e1] at h; cases h
    | some r =>
      rw [e1] at h; cases h
      cases i with
      | zero => simp at e; subst e; exact .inl ⟨d, rfl, rfl⟩
      | succ i => simpa using mkArgs_get e1 (by simpa using e)
  | .s j :: as, ρ, args, i, s, h, e => by
    unfold mkArgs at h
    cases e0 : ρ[j]? with
    | none => rw [e0] at h; cases h
    | some t =>
      rw [e0] at h
      cases t with
      | un => cases h
      | fr d => cases h
      | ow d =>
        simp only at h
        cases e1 : mkArgs as ρ with
        | none => rw [e1] at h; cases h
        | some r =>
          rw [e1] at h; cases h
          cases i with
          | zero => simp at e; subst e; exact .inr ⟨j, d, rfl, rfl, .inr e0⟩
          | succ i => simpa using mkArgs_get e1 (by simpa using e)
      | io d =>
        simp only at h
        cases e1 : mkArgs as ρ with
        | none => rw [e1] at h; cases h
        | some r =>
          rw [e1] at h; cases h
          cases i with
          | zero => simp at e; subst e; exact .inr ⟨j, d, rfl, rfl, .inl e0⟩
          | succ i => simpa using mkArgs_get e1 (by simpa using e)
theorem mkArgs_length : ∀ {as : List Arg} {ρ args : Env}, mkArgs as ρ = some args → args.length = as.length
  | [], _, _, h => by cases h; rfl
  | .v d :: as, ρ, args, h => by
    unfold mkArgs at h
    cases e1 : mkArgs as ρ with
    | none => rw [e1] at h; cases h
    | some r => rw [e1] at h; cases h; simp [mkArgs_length e1]
  | .s j :: as, ρ, args, h => by
    unfold mkArgs at h
    cases e0 : ρ[j]? with
    | none => rw [e0] at h; cases h
    | some t =>
      rw [e0] at h
      cases t with
      | un => cases h
      | fr d => cases h
      | ow d =>
        simp only at h
        cases e1 : mkArgs as ρ with
        | none => rw [e1] at h; cases h
        | some r => rw [e1] at h; cases h; simp [mkArgs_length e1]
      | io d =>
        simp only at h
        cases e1 : mkArgs as ρ with
        | none => rw [e1] at h; cases h
        | some r => rw [e1] at h; cases h; simp [mkArgs_length e1]
theorem RAs.length {G : Gc} {Z : Addr → Prop} {σ : St} {H : Hp} {as : List Arg} {vs : List V} (h : RAs G Z σ H as vs) : as.length = vs.length := by
  induction h with
  | nil => rfl
  | cons _ _ ih => simp [ih]
theorem RAs.get {G : Gc} {Z : Addr → Prop} {σ : St} {H : Hp} {as : List Arg} {vs : List V} (h : RAs G Z σ H as vs) : ∀ {i : Nat} {a : Arg}, as[i]? = some a → ∃ v, vs[i]? = some v ∧ repA1 G Z σ H a v := by
  induction h with
  | nil => intro i a e; simp at e
  | cons h1 h2 ih =>
    intro i a e
    cases i with
    | zero => simp at e; subst e; exact ⟨_, rfl, h1⟩
    | succ i => simpa using ih (by simpa using e)
/-- what is put back -/
theorem putBack_get : ∀ {as : List Arg} {os ρ ρ' : Env}, (slotsOf as).Nodup → putBack as os ρ = some ρ' → ρ'.length = ρ.length ∧ ∀ k, match posA as k with
    | none => ρ'[k]? = ρ[k]?
    | some i => ∃ d d0, os[i]? = some (.io d) ∧ ((ρ[k]? = some (.io d0) ∧ ρ'[k]? = some (.io d)) ∨ (ρ[k]? = some (.ow d0) ∧ ρ'[k]? = some (.ow d)))
  | [], os, ρ, ρ', _, h => by cases h; exact ⟨rfl, fun k => rfl⟩
  | .v _ :: as, [], ρ, ρ', _, h => by cases h
  | .v _ :: as, o :: os, ρ, ρ', n, h => by
    obtain ⟨h1, h2⟩ := putBack_get (as := as) (os := os) n h
    refine ⟨h1, fun k => ?_⟩
    have h3 := h2 k
    unfold posA
    cases e : posA as k with
    | none => rw [e] at h3; exact h3
    | some i => rw [e] at h3; simpa using h3
  | .s j :: as, [], ρ, ρ', _, h => by cases h
  | .s j :: as, .un :: os, ρ, ρ', _, h => by cases h
  | .s j :: as, .fr _ :: os, ρ, ρ', _, h => by cases h
  | .s j :: as, .ow _ :: os, ρ, ρ', _, h => by cases h
  | .s j :: as, .io d :: os, ρ, ρ', n, h => by
    have n' := List.nodup_cons.mp n
    unfold putBack at h
    have go : ∀ (t : Sl), j < ρ.length → putBack as os (ρ.set j t) = some ρ' → ρ'.length = ρ.length ∧ ρ'[j]? = some t ∧ ∀ k, k ≠ j → match posA as k with
        | none => ρ'[k]? = ρ[k]?
        | some i => ∃ d d0, os[i]? = some (.io d) ∧ ((ρ[k]? = some (.io d0) ∧ ρ'[k]? = some (.io d)) ∨ (ρ[k]? = some (.ow d0) ∧ ρ'[k]? = some (.ow d))) := fun t hj h => by
      obtain ⟨h1, h2⟩ := putBack_get (as := as) (os := os) n'.2 h
      rw [List.length_set] at h1
      refine ⟨h1, ?_, fun k hk => ?_⟩
      · have h3 := h2 j
        cases e : posA as j with
        | none => rw [e] at h3; rw [h3, List.getElem?_set, if_pos rfl, if_pos hj]
        | some i => exact absurd (slotsOf_mem (posA_get e)) n'.1
      · have h3 := h2 k
        have e4 : (ρ.set j t)[k]? = ρ[k]? := by rw [List.getElem?_set, if_neg (fun e => hk e.symm)]
        rw [e4] at h3
        exact h3
    cases e0 : ρ[j]? with
    | none => rw [e0] at h; cases h
    | some t =>
      have hj := (List.getElem?_eq_some_iff.mp e0).1
      rw [e0] at h
      cases t with
      | un => cases h
      | fr _ => cases h
      | io d0 =>
        obtain ⟨h1, h2, h3⟩ := go _ hj h
        refine ⟨h1, fun k => ?_⟩
        unfold posA
        by_cases e : j = k
        · subst e; rw [if_pos rfl]; exact ⟨d, d0, rfl, .inl ⟨e0, h2⟩⟩
        · rw [if_neg e]
          have h4 := h3 k fun z => e z.symm
          cases e5 : posA as k with
          | none => rw [e5] at h4; exact h4
          | some i => rw [e5] at h4; simpa using h4
      | ow d0 =>
        obtain ⟨h1, h2, h3⟩ := go _ hj h
        refine ⟨h1, fun k => ?_⟩
        unfold posA
        by_cases e : j = k
        · subst e; rw [if_pos rfl]; exact ⟨d, d0, rfl, .inr ⟨e0, h2⟩⟩
        · rw [if_neg e]
          have h4 := h3 k fun z => e z.symm
          cases e5 : posA as k with
          | none => rw [e5] at h4; exact h4
          | some i => rw [e5] at h4; simpa using h4
/-- the callee's places -/
def inO (O : Nat → List Addr) (as : List Arg) : Nat → List Addr := fun i => match as[i]? with
  | some (.s j) => O j
  | _ => []
/-- the caller's places behind the call -/
def backO (O O1 : Nat → List Addr) (as : List Arg) (t : Nat) : Nat → List Addr := fun k => if k = t then O1 as.length else match posA as k with
  | some i => O1 i
  | none => O k
section
variable {G : Gc} {Z Z' : Addr → Prop} {H H' : Hp} {O O1 : Nat → List Addr} {ρ : Env} {σ : St}
theorem inO_ow {as : List Arg} {a : Addr} (h : Ow (inO O as) a) : ∃ j ∈ slotsOf as, a ∈ O j := by
  obtain ⟨i, h⟩ := h
  unfold inO at h
  cases e : as[i]? with
  | none => rw [e] at h; cases h
  | some b =>
    rw [e] at h
    cases b with
    | v d => cases h
    | s j => exact ⟨j, slotsOf_mem e, h⟩
theorem R.enter {as : List Arg} {args : Env} {vs : List V} (r : R G Z O ρ σ H) (n : (slotsOf as).Nodup) (e : mkArgs as ρ = some args) (ra : RAs G Z σ H as vs) : R G Z (inO O as) args (vs.map some) H := by
  refine r.reix (fun i => match as[i]? with | some (.s j) => j | _ => 0) (by rw [mkArgs_length e, List.length_map, ra.length]) (fun i s q => ?_) (fun i => ?_) fun i j n1 n2 q => ?_
  · rcases mkArgs_get e q with ⟨d, q1, rfl⟩ | ⟨j, d, q1, rfl, q2⟩
    · obtain ⟨v, q3, q4⟩ := ra.get q1
      unfold inO; rw [q1]
      exact ⟨rfl, v, by rw [List.getElem?_map, q3]; rfl, q4⟩
    · obtain ⟨v, q3, q4⟩ := ra.get q1
      have q4' : σ[j]? = some (some v) := q4
      unfold inO; rw [q1]
      refine ⟨v, by rw [List.getElem?_map, q3]; rfl, ?_⟩
      rcases q2 with q2 | q2
      · obtain ⟨v', e1, o1⟩ := r.sl j _ q2
        rw [q4'] at e1; cases e1; exact o1
      · obtain ⟨v', e1, o1⟩ := r.sl j _ q2
        rw [q4'] at e1; cases e1; exact o1
  · unfold inO
    cases q : as[i]? with
    | none => exact .inl rfl
    | some b => cases b with
      | v d => exact .inl rfl
      | s j => exact .inr rfl
  · unfold inO at n1 n2
    cases q1 : as[i]? with
    | none => rw [q1] at n1; exact absurd rfl n1
    | some b => cases b with
      | v d => rw [q1] at n1; exact absurd rfl n1
      | s k =>
        cases q2 : as[j]? with
        | none => rw [q2] at n2; exact absurd rfl n2
        | some b => cases b with
          | v d => rw [q2] at n2; exact absurd rfl n2
          | s k2 =>
            rw [q1, q2] at q
            have q : k = k2 := q
            subst q
            have a1 := posA_of n q1
            have a2 := posA_of n q2
            rw [a1] at a2; exact Option.some.inj a2
theorem Ext.back {as : List Arg} {t : Nat} (x : Ext Z (inO O as) H Z' O1 H') : Ext Z O H Z' (backO O O1 as t) H' where
  zs := x.zs
  kp := fun a o e n => x.kp a o e fun z => n (let ⟨j, _, h⟩ := inO_ow z; ⟨j, h⟩)
  zn := fun a z => (x.zn a z).imp id fun z => z.imp (fun z => let ⟨j, _, h⟩ := inO_ow z; ⟨j, h⟩) id
  on := fun a ⟨k, h⟩ => by
    have f : Ow O1 a → Ow O a ∨ H a = none := fun z => (x.on a z).imp (fun z => let ⟨j, _, h⟩ := inO_ow z; ⟨j, h⟩) id
    unfold backO at h
    by_cases e : k = t
    · rw [if_pos e] at h; exact f ⟨_, h⟩
    · rw [if_neg e] at h
      cases e2 : posA as k with
      | none => rw [e2] at h; exact .inl ⟨k, h⟩
      | some i => rw [e2] at h; exact f ⟨i, h⟩
  dm := x.dm
theorem R.back {as : List Arg} {os ρ' : Env} {vs : List V} (r : R G Z O ρ σ H) (n : (slotsOf as).Nodup) (ra : RAs G Z σ H as vs) (x : Ext Z (inO O as) H Z' O1 H') (r1 : R G Z' O1 os (vs.map some) H')
    (p : putBack as os ρ = some ρ') : R G Z' (backO O O1 as ρ.length) ρ' σ H' := by
  obtain ⟨pl, pg⟩ := putBack_get n p
  have lt : ∀ {k i}, posA as k = some i → i < as.length := fun e => (List.getElem?_eq_some_iff.mp (posA_get e)).1
  -- nothing of the caller's other places is the callee's
  have other : ∀ k a, posA as k = none → a ∈ O k → ¬ Ow (inO O as) a := fun k a e h z => by
    obtain ⟨j, hj, h2⟩ := inO_ow z
    have := r.dj k j a h h2
    subst this
    exact posA_none e hj
  have apart : ∀ k i a, posA as k = none → a ∈ O k → a ∉ O1 i := fun k i a e h z => by
    rcases x.on a ⟨i, z⟩ with z | z
    · exact other k a e h z
    · exact (r.od k a h).ne z
  refine ⟨by rw [pl]; exact r.len, fun k s e => ?_, fun k => ?_, fun k l a h1 h2 => ?_, fun k a h z => ?_, fun k a h => ?_, r1.zd, r1.tb⟩
  · have hk : k ≠ ρ.length := fun z => by
      have := (List.getElem?_eq_some_iff.mp e).1
      omega
    unfold backO
    rw [if_neg hk]
    have g := pg k
    cases e2 : posA as k with
    | none =>
      rw [e2] at g
      rw [g] at e
      exact (r.sl k s e).keep x.zs (fun a o z e => (x.kp a o e fun q => let ⟨j, _, q⟩ := inO_ow q; r.oz j a q z).kpt fun ps eo => (r.zd a z).no (e.trans (congrArg some eo))) fun a ha o ho => (x.kp a o ho (other k a e2 ha)).no (r.oz k a ha) fun ps eo => (r.od k a ha).no (ho.trans (congrArg some eo))
    | some i =>
      rw [e2] at g
      obtain ⟨d, d0, g1, g2⟩ := g
      obtain ⟨v, v1, v2⟩ := r1.sl i _ g1
      obtain ⟨v', v3, v4⟩ := ra.get (posA_get e2)
      have v4 : σ[k]? = some (some v') := v4
      rw [List.getElem?_map, v3] at v1
      cases v1
      rcases g2 with ⟨_, g2⟩ | ⟨_, g2⟩
      · rw [g2] at e; cases e; exact ⟨_, by rw [v4]; rfl, v2⟩
      · rw [g2] at e; cases e; exact ⟨_, by rw [v4]; rfl, v2⟩
  · unfold backO
    by_cases e : k = ρ.length
    · rw [if_pos e]; exact r1.nd _
    · rw [if_neg e]
      cases e2 : posA as k with
      | none => exact r.nd k
      | some i => exact r1.nd i
  · unfold backO at h1 h2
    by_cases e1 : k = ρ.length
    · rw [if_pos e1] at h1
      by_cases e2 : l = ρ.length
      · rw [e1, e2]
      · rw [if_neg e2] at h2
        cases e3 : posA as l with
        | none => rw [e3] at h2; exact absurd h1 (apart l _ a e3 h2)
        | some i =>
          rw [e3] at h2
          have := r1.dj _ _ a h1 h2
          have := lt e3
          omega
    · rw [if_neg e1] at h1
      cases e4 : posA as k with
      | none =>
        rw [e4] at h1
        by_cases e2 : l = ρ.length
        · rw [if_pos e2] at h2; exact absurd h2 (apart k _ a e4 h1)
        · rw [if_neg e2] at h2
          cases e3 : posA as l with
          | none => rw [e3] at h2; exact r.dj k l a h1 h2
          | some i => rw [e3] at h2; exact absurd h2 (apart k _ a e4 h1)
      | some i =>
        rw [e4] at h1
        by_cases e2 : l = ρ.length
        · rw [if_pos e2] at h2
          have := r1.dj _ _ a h1 h2
          have := lt e4
          omega
        · rw [if_neg e2] at h2
          cases e3 : posA as l with
          | none => rw [e3] at h2; exact absurd h1 (apart l _ a e3 h2)
          | some j =>
            rw [e3] at h2
            have := r1.dj _ _ a h1 h2
            subst this
            have a1 := posA_get e4
            have a2 := posA_get e3
            rw [a1] at a2
            injection a2 with a2
            injection a2
  · unfold backO at h
    by_cases e : k = ρ.length
    · rw [if_pos e] at h; exact r1.oz _ a h z
    · rw [if_neg e] at h
      cases e2 : posA as k with
      | some i => rw [e2] at h; exact r1.oz _ a h z
      | none =>
        rw [e2] at h
        rcases x.zn a z with z | z | z
        · exact r.oz k a h z
        · exact other k a e2 h z
        · exact (r.od k a h).ne z
  · unfold backO at h
    by_cases e : k = ρ.length
    · rw [if_pos e] at h; exact r1.od _ a h
    · rw [if_neg e] at h
      cases e2 : posA as k with
      | some i => rw [e2] at h; exact r1.od _ a h
      | none =>
        rw [e2] at h
        obtain ⟨o, ho, n⟩ := r.od k a h
        exact (x.kp a o ho (other k a e2 h)).pl ⟨o, rfl, n⟩
end

section
variable {G : Gc} {W : WX} {X : Cx}
/-- the callee's promise out of the caller's reading -/
theorem call_cont {F : Env → FR} {as : List Arg} {vs : List V} {Z : Addr → Prop} {O : Nat → List Addr} {ρ : Env} {σ : St} {H : Hp} {Q : VK} (r : R G Z O ρ σ H) (ra : RAs G Z σ H as vs) (q : contG G W (repF G) (callR F as ρ) Z O σ H Q) : spF G F vs H Q (WE W σ) := by
  unfold callR at q
  by_cases n : (slotsOf as).Nodup
  · rw [if_pos n] at q
    cases e : mkArgs as ρ with
    | none => rw [e] at q; exact q.elim
    | some args =>
      rw [e] at q
      refine ⟨Z, _, args, by rw [mkArgs_length e, ra.length], r.enter n e ra, ?_⟩
      simp only at q
      cases e2 : F args with
      | bad => rw [e2] at q; exact q.elim
      | ok d o =>
        rw [e2] at q
        simp only [endR] at q ⊢
        cases e3 : putBack as o ρ with
        | none => rw [e3] at q; exact q.elim
        | some ρ' => rw [e3] at q; exact fun v Z' O' H' x rr f => q v Z' _ H' (x.back (t := ρ.length)) (r.back n ra x rr e3) f
      | ex y o =>
        rw [e2] at q
        simp only [endR] at q ⊢
        cases e3 : putBack as o ρ with
        | none => rw [e3] at q; exact q.elim
        | some ρ' => rw [e3] at q; exact fun c dd Z' O' H' x rr f => q c dd Z' _ H' (x.back (t := ρ.length)) (r.back n ra x rr e3) f
      | own d o =>
        rw [e2] at q
        simp only [endR] at q ⊢
        cases e3 : putBack as o ρ with
        | none => rw [e3] at q; exact q.elim
        | some ρ' =>
          rw [e3] at q
          simp only at q
          cases e4 : isDrw d with
          | true => rw [e4] at q; exact q.elim
          | false =>
            rw [e4] at q
            intro v Z' O' H' x rr f
            have rr2 := r.back n ra x rr e3
            have hl : ρ'.length = ρ.length := (putBack_get n e3).1
            have f2 : Own G Z' H' d v (backO O O' as ρ.length ρ'.length) := by
              rw [hl]; unfold backO; rw [if_pos rfl, ra.length]; exact f
            obtain ⟨Z2, O2, H2, x2, rfl, r2, g2⟩ := frz_rep e4 rr2 f2
            exact q v Z2 O2 _ ((x.back (t := ρ.length)).trans x2) r2 g2
  · rw [if_neg n] at q; exact q.elim
theorem callO_cont {F : Env → FR} {as : List Arg} {vs : List V} {Z : Addr → Prop} {O : Nat → List Addr} {ρ : Env} {σ : St} {H : Hp} {Q : VK} (r : R G Z O ρ σ H) (ra : RAs G Z σ H as vs) (q : contG G W (repO G) (callO F as ρ) Z O σ H Q) : spF G F vs H Q (WE W σ) := by
  unfold callO at q
  by_cases n : (slotsOf as).Nodup
  · rw [if_pos n] at q
    cases e : mkArgs as ρ with
    | none => rw [e] at q; exact q.elim
    | some args =>
      rw [e] at q
      refine ⟨Z, _, args, by rw [mkArgs_length e, ra.length], r.enter n e ra, ?_⟩
      simp only at q
      cases e2 : F args with
      | bad => rw [e2] at q; exact q.elim
      | ok d o => rw [e2] at q; exact q.elim
      | ex y o =>
        rw [e2] at q
        simp only [endR] at q ⊢
        cases e3 : putBack as o ρ with
        | none => rw [e3] at q; exact q.elim
        | some ρ' => rw [e3] at q; exact fun c dd Z' O' H' x rr f => q c dd Z' _ H' (x.back (t := ρ.length)) (r.back n ra x rr e3) f
      | own d o =>
        rw [e2] at q
        simp only [endR] at q ⊢
        cases e3 : putBack as o ρ with
        | none => rw [e3] at q; exact q.elim
        | some ρ' =>
          rw [e3] at q
          intro v Z' O' H' x rr f
          refine q v Z' _ H' (x.back (t := ρ.length)) (r.back n ra x rr e3) ?_
          have hl : ρ'.length = ρ.length := (putBack_get n e3).1
          show Own G Z' H' d v (backO O O' as ρ.length ρ'.length)
          rw [hl]; unfold backO; rw [if_pos rfl, ra.length]; exact f
  · rw [if_neg n] at q; exact q.elim

def aNil : M (List Arg) := fun ρ => .ok [] ρ
def aV (m : M D) (ms : M (List Arg)) : M (List Arg) := fun ρ => (m ρ).bind fun x ρ => (ms ρ).bind fun xs ρ => .ok (.v x :: xs) ρ
def aS (j : Nat) (ms : M (List Arg)) : M (List Arg) := fun ρ => match ρ[j]? with
  | some (.io _) => (ms ρ).bind fun xs ρ => .ok (.s j :: xs) ρ
  | some (.ow _) => (ms ρ).bind fun xs ρ => .ok (.s j :: xs) ρ
  | _ => .bad
theorem aa_nil : PA X [] (liftA G W aNil) := PA_imp pa_nil fun σ H Q ⟨Z, O, ρ, r, q⟩ => q _ Z O H .refl r .nil
theorem repA1.keep {Z Z' : Addr → Prop} {H H' : Hp} {σ : St} {a : Arg} {v : V} (zs : ∀ a, Z a → Z' a) (k : Kp Z H H') (h : repA1 G Z σ H a v) : repA1 G Z' σ H' a v := by
  cases a with
  | v d => exact Rf.keep zs k h
  | s j => exact h
theorem aa_v {e : Expr} {es : List Expr} {m : M D} {ms : M (List Arg)} (h : PE X e (lift G W m)) (hs : PA X es (liftA G W ms)) (hst : starEach (e :: es) X.env = (false, eval e X.env) :: starEach es X.env := by rfl) : PA X (e :: es) (liftA G W (aV m ms)) :=
  PA_imp (pa_cons h hs hst) fun σ H Q q => by
    refine liftG.mono (liftG.bind (rep := repF G) q) fun v H1 ⟨Z1, O1, ρ1, d1, r1, f1, q1⟩ => ?_
    refine ⟨Z1, O1, ρ1, r1, (contG.bind (rep := repA G) q1).mono fun w H2 ⟨Z2, O2, ρ2, d2, x, r2, f2, q2⟩ => ?_⟩
    exact q2 _ Z2 O2 H2 .refl r2 (.cons (r1.rf x f1) f2)
theorem aa_s {e : Expr} {es : List Expr} {j : Nat} {ms : M (List Arg)} (h : PE X e (tVar j)) (hs : PA X es (liftA G W ms)) (hst : starEach (e :: es) X.env = (false, eval e X.env) :: starEach es X.env := by rfl) : PA X (e :: es) (liftA G W (aS j ms)) :=
  PA_imp (pa_cons h hs hst) fun σ H Q ⟨Z, O, ρ, r, q⟩ => by
    unfold aS at q
    have go : ∀ v, σ[j]? = some (some v) → contG G W (repA G) ((ms ρ).bind fun xs ρ => .ok (.s j :: xs) ρ) Z O σ H Q → tCons (tVar j) (liftA G W ms) σ H Q := fun v e q => by
      refine ⟨v, e, Z, O, ρ, r, (contG.bind (rep := repA G) q).mono fun w H2 ⟨Z2, O2, ρ2, d2, x, r2, f2, q2⟩ => ?_⟩
      exact q2 _ Z2 O2 H2 .refl r2 (.cons e f2)
    cases e1 : ρ[j]? with
    | none => rw [e1] at q; exact q.elim
    | some s =>
      rw [e1] at q
      cases s with
      | un => exact q.elim
      | fr d => exact q.elim
      | io d => obtain ⟨v, e2, _⟩ := r.sl j _ e1; exact go v (slot_some e2) q
      | ow d => obtain ⟨v, e2, _⟩ := r.sl j _ e1; exact go v (slot_some e2) q
def mCall (F : Env → FR) (ms : M (List Arg)) : M D := fun ρ => (ms ρ).bind fun as ρ => callR F as ρ
def mCallO (F : Env → FR) (ms : M (List Arg)) : M D := fun ρ => (ms ρ).bind fun as ρ => callO F as ρ
section
variable {k : Nat} {f : Addr} {fd : FuncData} {ps : List Str} {F : Env → FR} {x : Str} {p pos : Pos} {e : Expr} {es : List Expr} {ms : M (List Arg)}
theorem d_call (tk : Takes X W) (FF : FnOk X.prog X.w X.K X.mg X.base (L2.CX X.prog X.w) k f fd ps (spF G F)) (hr : Room k X.A) (hg : Gl X x) (hm : X.mg x = some (.ref f)) (hk : PySem.W.keepIn X.K (.ref f) = true) (hb : Binds X.K fd ps [])
    (ha : PA X (e :: es) (liftA G W ms)) (hdb : (x == ("__debug__" : Str)) = false := by decide) (he : starEach (e :: es) X.env = (false, eval e X.env) :: starEach es X.env := by rfl) (hpl : (backTo pos (starEach es X.env)).any (·.1) = false := by rfl) :
    PE X (.Call (.Name x p) (e :: es) [] pos) (lift G W (mCall F ms)) :=
  PE_imp (pe_callS FF hr hg hm hk hb (fun σ => passAt tk σ) ha hdb he hpl) fun σ H Q q => liftG.mono (liftG.bind (rep := repA G) q) fun v H1 ⟨Z1, O1, ρ1, d1, r1, f1, q1⟩ => call_cont r1 f1 q1
theorem o_call (tk : Takes X W) (FF : FnOk X.prog X.w X.K X.mg X.base (L2.CX X.prog X.w) k f fd ps (spF G F)) (hr : Room k X.A) (hg : Gl X x) (hm : X.mg x = some (.ref f)) (hk : PySem.W.keepIn X.K (.ref f) = true) (hb : Binds X.K fd ps [])
    (ha : PA X (e :: es) (liftA G W ms)) (hdb : (x == ("__debug__" : Str)) = false := by decide) (he : starEach (e :: es) X.env = (false, eval e X.env) :: starEach es X.env := by rfl) (hpl : (backTo pos (starEach es X.env)).any (·.1) = false := by rfl) :
    PE X (.Call (.Name x p) (e :: es) [] pos) (liftO G W (mCallO F ms)) :=
  PE_imp (pe_callS FF hr hg hm hk hb (fun σ => passAt tk σ) ha hdb he hpl) fun σ H Q q => liftG.mono (liftG.bind (rep := repA G) q) fun v H1 ⟨Z1, O1, ρ1, d1, r1, f1, q1⟩ => callO_cont r1 f1 q1
end
end
end PB
set_option maxRecDepth 100000
set_option maxHeartbeats 4000000
/-! PB6: list comprehensions; built-in calls; methods of what a slot owns. -/
namespace PB
open PySem PySem.Spec L2
variable {G : Gc} {W : WX} {X : Cx} {I : List Nat}
abbrev W0 : WX := fun _ _ _ _ => False

/-! ### comprehensions -/
def wipeE (own : List Nat) (ρ : Env) : Env := match own with
  | [] => ρ
  | v :: vs => (wipeE vs ρ).set v .un
theorem wipeE_length (ρ : Env) : ∀ own, (wipeE own ρ).length = ρ.length
  | [] => rfl
  | v :: vs => by unfold wipeE; rw [List.length_set, wipeE_length ρ vs]
theorem wipeE_get {ρ : Env} {i : Nat} {s : Sl} : ∀ {own : List Nat}, (wipeE own ρ)[i]? = some s → s = .un ∨ (i ∉ own ∧ ρ[i]? = some s)
  | [], h => .inr ⟨by simp, h⟩
  | v :: vs, h => by
    unfold wipeE at h
    by_cases e : v = i
    · subst e
      rw [List.getElem?_set, if_pos rfl] at h
      split at h
      · cases h; exact .inl rfl
      · cases h
    · rw [List.getElem?_set, if_neg e] at h
      rcases wipeE_get h with h | ⟨h1, h2⟩
      · exact .inl h
      · exact .inr ⟨by simp only [List.mem_cons, not_or]; exact ⟨fun z => e z.symm, h1⟩, h2⟩
theorem wipe_other {σ : St} {i : Nat} : ∀ {own : List Nat}, i ∉ own → (wipe σ own)[i]? = σ[i]?
  | [], _ => rfl
  | v :: vs, h => by
    simp only [List.mem_cons, not_or] at h
    unfold wipe
    rw [List.getElem?_set, if_neg (fun z => h.1 z.symm), wipe_other h.2]
/-- the comprehension's names forgotten, whatever the slots at σ' hold of them -/
theorem R.wiped {Z : Addr → Prop} {H : Hp} {O : Nat → List Addr} {ρ : Env} {σ σ' : St} {own : List Nat} (r : R G Z O ρ σ H) (hl : σ'.length = σ.length) (h : ∀ i, i ∉ own → σ'[i]? = σ[i]?) : R G Z O (wipeE own ρ) σ' H :=
  r.reix id (by rw [wipeE_length, hl, r.len]) (fun i s e => by
    rcases wipeE_get e with rfl | ⟨h1, h2⟩
    · exact trivial
    · rw [h i h1]; exact r.sl i s h2) (fun _ => .inr rfl) fun _ _ _ _ e => e
/-- the items, one by one; acc: what came so far -/
def lcL (own : List Nat) (gb : D → Env → Option Env) (mt : M Bool) (me : M D) : List D → List D → M D
  | [], acc, ρ => .ok (.lst acc) ρ
  | x :: xs, acc, ρ => match gb x ρ with
    | none => .bad
    | some ρ1 => match mt ρ1 with
      | .ok true ρ2 => (match me ρ2 with
        | .ok y ρ3 => if acc.length < lim then lcL own gb mt me xs (acc ++ [y]) (wipeE own ρ3) else .bad
        | _ => .bad)
      | .ok false ρ2 => lcL own gb mt me xs acc (wipeE own ρ2)
      | _ => .bad
def mLc (own : List Nat) (gb : D → Env → Option Env) (mi : M (List D)) (mt : M Bool) (me : M D) : M D := fun ρ => (mi ρ).bind fun xs ρ => lcL own gb mt me xs [] (wipeE own ρ)
/-- the target stores nothing but the comprehension's own names -/
def TgtO (G : Gc) (own : List Nat) (g : TG) (gb : D → Env → Option Env) : Prop := ∀ Z O ρ σ H v d ρ' Q, R G Z O ρ σ H → Rf G Z H d v → gb d ρ = some ρ' →
  (∀ O' σ', Ext Z O H Z O' H → σ'.length = σ.length → (∀ i, i ∉ own → σ'[i]? = σ[i]?) → R G Z O' ρ' σ' H → Q σ' H) → g v σ H Q
def TgtOL (G : Gc) (own : List Nat) (g : TGs) (gb : List D → Env → Option Env) : Prop := ∀ Z O ρ σ H vs ds ρ' Q, R G Z O ρ σ H → RfL G Z H ds vs → gb ds ρ = some ρ' →
  (∀ O' σ', Ext Z O H Z O' H → σ'.length = σ.length → (∀ i, i ∉ own → σ'[i]? = σ[i]?) → R G Z O' ρ' σ' H → Q σ' H) → g vs σ H Q
theorem c_name {i : Nat} {own : List Nat} (hi : own.contains i = true) : TgtO G own (gName i) (bName i) := fun Z O ρ σ H v d ρ' Q r f e q => by
  cases e
  exact q _ _ .drop (by rw [List.length_set]) (fun j hj => set_other fun e => hj (by subst e; simpa using hi)) (r.setFr f)
theorem c_nil {own : List Nat} : TgtOL G own gNil bNil := fun Z O ρ σ H vs ds ρ' Q r f e q => by
  cases ds with
  | nil => cases e; cases f; exact ⟨rfl, q O σ .refl rfl (fun _ _ => rfl) r⟩
  | cons _ _ => cases e
theorem c_cons {own : List Nat} {g : TG} {gs : TGs} {b : D → Env → Option Env} {bs : List D → Env → Option Env} (hg : TgtO G own g b) (hs : TgtOL G own gs bs) : TgtOL G own (gCons g gs) (bCons b bs) := fun Z O ρ σ H vs ds ρ' Q r f e q => by
  cases ds with
  | nil => cases e
  | cons d ds =>
    obtain ⟨v, ws, e1, f1, f2⟩ := f
    have e : (b d ρ).bind (bs ds) = some ρ' := e
    cases e2 : b d ρ with
    | none => rw [e2] at e; cases e
    | some ρ1 =>
      rw [e2] at e
      refine ⟨v, ws, e1, hg Z O ρ σ H v d ρ1 _ r f1 e2 fun O1 σ1 x1 l1 k1 r1 => ?_⟩
      exact hs Z O1 ρ1 σ1 H ws ds ρ' _ r1 f2 e fun O2 σ2 x2 l2 k2 r2 => q O2 σ2 (x1.trans x2) (l2.trans l1) (fun i hi => (k2 i hi).trans (k1 i hi)) r2
theorem c_tup {own : List Nat} {n : Nat} {gs : TGs} {bs : List D → Env → Option Env} (hs : TgtOL G own gs bs) : TgtO G own (gTup G.K n gs) (bTup n bs) := fun Z O ρ σ H v d ρ' Q r f e q => by
  cases d <;> first | (cases e; done) | skip
  rename_i xs
  unfold bTup at e
  by_cases h : xs.length = n
  · simp only [if_pos h] at e
    obtain ⟨a, vs, rfl, g, rr⟩ := f
    exact ⟨a, vs, rfl, g.sq, by rw [← rr.length]; exact h, hs Z O ρ σ H vs xs ρ' Q r rr e q⟩
  · simp only [if_neg h] at e; cases e
/-- a comprehension's tests -/
def TstOk (G : Gc) (tt : TT) (mt : M Bool) : Prop := ∀ σ H Q, liftB G W0 mt σ H Q → tt σ H Q
def mYes : M Bool := fun ρ => .ok true ρ
theorem tst_yes : TstOk G tYes mYes := fun σ H Q ⟨Z, O, ρ, r, q⟩ => q true Z O H .refl r rfl
theorem tst_one {mt : M Bool} : TstOk G (liftB G W0 mt) mt := fun σ H Q q => q
theorem wipe_eq {σ σ2 : St} {own : List Nat} (hl : σ2.length = σ.length) (h : ∀ i, i ∉ own → σ2[i]? = σ[i]?) : wipe σ2 own = wipe σ own := by
  apply List.ext_getElem?
  intro i
  by_cases hi : i ∈ own
  · cases e : (wipe σ2 own)[i]? with
    | none =>
      rw [List.getElem?_eq_none_iff, wipe_length, hl, ← wipe_length σ own, ← List.getElem?_eq_none_iff] at e
      exact e.symm
    | some w =>
      have hlt := (List.getElem?_eq_some_iff.mp e).1
      rw [wipe_length, hl, ← wipe_length σ own] at hlt
      have e2 : (wipe σ own)[i]? = some (wipe σ own)[i] := List.getElem?_eq_getElem hlt
      have n : ∀ {σ : St} {w : Option V}, (wipe σ own)[i]? = some w → w = none := fun {σ w} e => by
        cases w with
        | none => rfl
        | some v => exact absurd hi (wipe_some e).2
      rw [e2, n e, n e2]
  · rw [wipe_other hi, wipe_other hi, h i hi]
theorem Ext.at {Z Z' : Addr → Prop} {O O' : Nat → List Addr} {H H' : Hp} {D : Addr} {o : HO} (x : Ext Z O H Z' O' H') (hD : H D = none) (hs : H' D ≠ none) : Ext Z O H Z' O' (upd H' D o) where
  zs := x.zs
  kp := fun a u e n => by rw [upd_ne (ne_of_none e hD)]; exact x.kp a u e n
  zn := x.zn
  on := x.on
  dm := fun a e => by
    by_cases q : a = D
    · rw [q]; exact hD
    · rw [upd_ne q] at e; exact x.dm a e
/-- an object that is nobody's is written -/
theorem R.at {Z : Addr → Prop} {O : Nat → List Addr} {H : Hp} {ρ : Env} {σ : St} {D : Addr} {o : HO} (r : R G Z O ρ σ H) (hz : ¬ Z D) (ho : ¬ Ow O D) (hp : Pl (H D)) : R G Z O ρ σ (upd H D o) where
  len := r.len
  sl := fun i s e => (r.sl i s e).keep (fun _ z => z) (fun b u z e => by rw [upd_ne fun (q : b = D) => hz (q ▸ z)]; exact .inl e) fun b hb u e => by rw [upd_ne fun (q : b = D) => ho ⟨i, q ▸ hb⟩]; exact e
  nd := r.nd
  dj := r.dj
  oz := r.oz
  od := fun i a h => by rw [upd_ne fun (q : a = D) => ho ⟨i, q ▸ h⟩]; exact r.od i a h
  zd := fun a z => by rw [upd_ne fun (q : a = D) => hz (q ▸ z)]; exact r.zd a z
  tb := tabs_at r.tb hp
theorem R.ownT {Z : Addr → Prop} {O : Nat → List Addr} {H : Hp} {ρ : Env} {σ : St} {D : Addr} (r : R G Z O ρ σ H) {t : Nat} (ht : ρ.length ≤ t) (hz : ¬ Z D) (ho : ¬ Ow O D) (hd : Pl (H D)) : R G Z (setO O t [D]) ρ σ H where
  len := r.len
  sl := fun j s q => by
    have hj : j ≠ t := fun e => by
      obtain ⟨hl, _⟩ := List.getElem?_eq_some_iff.mp q
      omega
    rw [setO_ne hj]; exact r.sl j s q
  nd := fun j => by
    by_cases q : j = t
    · subst q; rw [setO_same]; exact List.nodup_cons.mpr ⟨by simp, List.nodup_nil⟩
    · rw [setO_ne q]; exact r.nd j
  dj := fun j k a h1 h2 => by
    by_cases q : j = t
    · by_cases q2 : k = t
      · rw [q, q2]
      · subst q; rw [setO_same] at h1; rw [setO_ne q2] at h2
        simp at h1; subst h1; exact absurd ⟨k, h2⟩ ho
    · by_cases q2 : k = t
      · subst q2; rw [setO_same] at h2; rw [setO_ne q] at h1
        simp at h2; subst h2; exact absurd ⟨j, h1⟩ ho
      · rw [setO_ne q] at h1; rw [setO_ne q2] at h2; exact r.dj j k a h1 h2
  oz := fun j a h z => by
    by_cases q : j = t
    · subst q; rw [setO_same] at h; simp at h; subst h; exact hz z
    · rw [setO_ne q] at h; exact r.oz j a h z
  od := fun j a h => by
    by_cases q : j = t
    · subst q; rw [setO_same] at h; simp at h; subst h; exact hd
    · rw [setO_ne q] at h; exact r.od j a h
  zd := r.zd
  tb := r.tb
theorem lc_run {own : List Nat} {wi : TI} {g : TG} {gb : D → Env → Option Env} {tt : TT} {mi : M (List D)} {mt : M Bool} {me : M D} (hs : Src G W wi mi) (hg : TgtO G own g gb) (ht : TstOk G tt mt) {σ : St} {H : Hp} {Q : VK}
    (q : liftO G W (mLc own gb mi mt me) σ H Q) : tLc wi g tt (lift G W0 me) own σ H Q := by
  refine hs σ H _ <| liftG.mono (liftG.bind (rep := repW G) q) fun J H1 ⟨Z1, O1, ρ1, xs, r1, wk, q1⟩ => fun Dd hD => ?_
  have rlen : (wipe σ own).length = σ.length := wipe_length σ own
  refine ⟨fun i m H' => m = xs.length - i ∧ i ≤ xs.length ∧ ∃ Z O ρ acc av, R G Z O (wipeE own ρ) (wipe σ own) H' ∧ Ext Z1 O1 H1 Z O H' ∧ H' Dd = some (.lst av) ∧ RfL G Z H' acc av ∧ ¬ Z Dd ∧ ¬ Ow O Dd ∧
      (wipeE own ρ).length = ρ1.length ∧ contG G W (repO G) (lcL own gb mt me (xs.drop i) acc (wipeE own ρ)) Z1 O1 σ H1 Q,
    ⟨_, rfl, Nat.zero_le _, Z1, O1, ρ1, [], [], (r1.wiped rlen fun i hi => wipe_other hi).newO hD, .newO hD, upd_same, rfl, fun z => (r1.zd _ z).ne hD, fun ⟨i, z⟩ => (r1.od i _ z).ne hD, wipeE_length _ _, q1⟩, ?_⟩
  rintro i m H' ⟨rfl, hi, Z, O, ρ, acc, av, r, x, eD, fa, nz, no, hl, q2⟩
  have zs := x.zs
  have k : Kp Z1 H1 H' := Kp.of_ext r1 x
  by_cases hlt : i < xs.length
  · have ed : xs[i]? = some xs[i] := List.getElem?_eq_getElem hlt
    refine .inr ⟨wk.go Z H' i zs k hlt, fun H'' => i + 1 ≤ xs.length ∧ ∃ Z O ρ acc av, R G Z O (wipeE own ρ) (wipe σ own) H'' ∧ Ext Z1 O1 H1 Z O H'' ∧ H'' Dd = some (.lst av) ∧ RfL G Z H'' acc av ∧ ¬ Z Dd ∧ ¬ Ow O Dd ∧
        (wipeE own ρ).length = ρ1.length ∧ contG G W (repO G) (lcL own gb mt me (xs.drop (i + 1)) acc (wipeE own ρ)) Z1 O1 σ H1 Q,
      fun H'' h => ⟨xs.length - (i + 1), by omega, rfl, h.1, h.2⟩, fun v H2 y => ?_⟩
    obtain ⟨Z2, x2, r2, f2⟩ := wk.yld Z O _ _ H' i _ v H2 r zs k ed y
    -- D stays nobody's over an extension
    have still : ∀ {Z' : Addr → Prop} {O' : Nat → List Addr} {H3 : Hp}, Ext Z O H' Z' O' H3 → H3 Dd = some (.lst av) ∧ ¬ Z' Dd ∧ ¬ Ow O' Dd := fun y => by
      refine ⟨(y.kp _ _ eD no).no nz (fun _ e => by cases e), fun z => ?_, fun z => ?_⟩
      · rcases y.zn _ z with z | z | z
        · exact nz z
        · exact no z
        · rw [eD] at z; cases z
      · rcases y.on _ z with z | z
        · exact no z
        · rw [eD] at z; cases z
    rw [drop_cons ed] at q2
    unfold lcL at q2
    cases e1 : gb xs[i] (wipeE own ρ) with
    | none => rw [e1] at q2; exact q2.elim
    | some ρ2 =>
      rw [e1] at q2
      simp only at q2
      have hw : wipe (wipe σ own) own = wipe σ own := wipe_eq rlen fun i hi => wipe_other hi
      refine hg Z2 O _ _ H2 v _ ρ2 _ r2 f2 e1 fun O2 σ2 x3 l2 k2 r3 => ⟨(wipe_eq l2 k2).trans hw, ?_⟩
      have back : ∀ {Z' : Addr → Prop} {O' : Nat → List Addr} {ρ' : Env} {H3 : Hp}, R G Z' O' ρ' σ2 H3 → R G Z' O' (wipeE own ρ') (wipe σ own) H3 := fun r => r.wiped (by rw [l2]) fun i hi => (k2 i hi).symm
      refine ht σ2 H2 _ ⟨Z2, O2, ρ2, r3, ?_⟩
      cases e2 : mt ρ2 with
      | bad => rw [e2] at q2; exact q2.elim
      | ex _ _ => rw [e2] at q2; exact q2.elim
      | ok kk ρ3 =>
        rw [e2] at q2
        intro b Z4 O4 H4 x4 r4 eb
        subst eb
        have xx : Ext Z O H' Z4 O4 H4 := (x2.trans x3).trans x4
        cases kk with
        | false =>
          obtain ⟨s1, s2, s3⟩ := still xx
          refine iteF ⟨hlt, Z4, O4, ρ3, acc, av, back r4, x.trans xx, s1, fa.keep xx.zs (Kp.of_ext r xx), s2, s3, ?_, q2⟩
          rw [wipeE_length, r4.len, l2, rlen, ← r1.len]
        | true =>
          refine iteT ⟨Z4, O4, ρ3, r4, ?_⟩
          simp only at q2
          cases e5 : me ρ3 with
          | bad => rw [e5] at q2; exact q2.elim
          | ex _ _ => rw [e5] at q2; exact q2.elim
          | ok y5 ρ5 =>
            rw [e5] at q2
            simp only at q2
            by_cases e6 : acc.length < lim
            · rw [if_pos e6] at q2
              intro w Z5 O5 H5 x5 r5 f5
              have xy := xx.trans x5
              obtain ⟨s1, s2, s3⟩ := still xy
              have fa5 := fa.keep xy.zs (Kp.of_ext r xy)
              have kk5 : Kp Z5 H5 (upd H5 Dd (.lst (av ++ [w]))) := fun a o z e => by rw [upd_ne fun (q : a = Dd) => s2 (q ▸ z)]; exact .inl e
              refine ⟨av, s1, by rw [← fa.length, ← lim_eq]; exact e6, hlt, Z5, O5, ρ5, acc ++ [y5], av ++ [w], (back r5).at s2 s3 (by rw [s1]; exact .of), (x.trans xy).at hD (by rw [s1]; simp), upd_same, ?_, s2, s3, ?_, q2⟩
              · exact (fa5.append (RfL.one f5)).keep (fun _ z => z) kk5
              · rw [wipeE_length, r5.len, l2, rlen, ← r1.len]
            · rw [if_neg e6] at q2; exact q2.elim
  · have e : i = xs.length := by omega
    subst e
    rw [List.drop_eq_nil_of_le (Nat.le_refl _)] at q2
    refine .inl ⟨wk.stop Z H' zs k, ?_⟩
    have rr : R G Z O (wipeE own (wipeE own ρ)) σ H' := r.wiped rlen.symm fun i hi => (wipe_other hi).symm
    have ww : wipeE own (wipeE own ρ) = wipeE own ρ := by
      have idem : ∀ (l l2 : List Nat) (ρ : Env), (∀ i ∈ l, i ∈ l2) → wipeE l (wipeE l2 ρ) = wipeE l2 ρ := by
        intro l l2 ρ
        induction l with
        | nil => intro _; rfl
        | cons v vs ih =>
          intro h
          show (wipeE vs (wipeE l2 ρ)).set v .un = wipeE l2 ρ
          rw [ih fun i hi => h i (List.mem_cons_of_mem _ hi)]
          apply List.ext_getElem?
          intro j
          rw [List.getElem?_set]
          by_cases e : v = j
          · subst e
            rw [if_pos rfl]
            cases e2 : (wipeE l2 ρ)[v]? with
            | none =>
              have e3 := List.getElem?_eq_none_iff.mp e2
              rw [if_neg (by omega)]
              try exact e2.symm
            | some s =>
              have hv := (List.getElem?_eq_some_iff.mp e2).1
              rw [if_pos hv]
              rcases wipeE_get e2 with rfl | ⟨h1, _⟩
              · rfl
              · exact absurd (h v List.mem_cons_self) h1
          · rw [if_neg e]
      exact idem own own ρ fun _ h => h
    rw [ww] at rr
    exact q2 (.ref Dd) Z _ H' ⟨x.zs, x.kp, x.zn, fun a h => (ow_setO h).elim (fun z => .inr (by simp at z; rw [z]; exact hD)) (x.on a), x.dm⟩ (rr.ownT (t := (wipeE own ρ).length) (Nat.le_refl _) nz no (by rw [eD]; exact .of)) ⟨Dd, av, rfl, setO_same, eD, fa⟩
end PB
set_option maxRecDepth 100000
set_option maxHeartbeats 4000000
/-! PX0: an exception class of the text whose __init__ says super().__init__(text) and stores one field. -/
namespace PB
open PySem PySem.Spec PySem.Calls PyProof.Rows L2 NdefX
open PySem.W (ksFn ksEnv ks_loadName_global kxs_getMethod kxs_callWith kxs_mw KxsAt excTup excObj exc_init_tree check_bound_init)

theorem call_mw {prog : Program} {w : World} {A : Around} {E : Value → Shared → Prop} {h : Heap} {g : Array GenState} {d : Drawn} {t : Nat} {os : OsState} {nm q : Str} {C N : Addr} {bs bm : List Value} {hdct : Bool} {sn : List Str} {sub : List Value} {ab : Bool} {col : Option Bool} {dd : Option Addr} {k0 k1 k2 k3 k5 : Option Value}
    {u a t0 : Addr} {rest : List Value} {Q : Value → Shared → Prop}
    (hC : h.get? C = some (excClassObj nm q C N bs bm hdct sn sub ab col dd k0 k1 k2 k3 k5 "ValueError.__new__")) (he : h.get? a = some (excObj C t0 none .none)) (hu : h.get? u = some (kxs_mw "ValueError.__init__" a)) (hrest : rest.length ≤ sizeLine)
    (hq : ∀ h' t1, (∀ b o, b ≠ a → h.get? b = some o → h'.get? b = some o) → h'.get? a = some (excObj C t1 none .none) → Q .none ⟨h', g, d, t, os⟩) :
    wpAny (model prog w) A (call (.ref u) rest) Q E ⟨h, g, d, t, os⟩ := by
  refine wpAny_call (codeAny_of_tree ?_)
  show wpAny _ A.in1 (callAny (.ref u) ⟨rest, []⟩) _ _ _
  simp only [callAny]
  refine wpAny_bind (wpAny_load hu ?_)
  simp only [kxs_mw, show (Value.type "method-wrapper" == Value.type "method" || Value.type "method-wrapper" == Value.type "builtin_function_or_method" || Value.type "method-wrapper" == Value.type "method-wrapper") = true by decide, if_true]
  refine PySem.W.KFB.if_so (by decide) ?_
  refine wpAny_bind (check_bound_init F.excBase_ValueError.toExcCallFacts hC he rfl ?_)
  refine wpAny_bind (wpAny_pure (wpAny_pure ?_))
  refine ⟨plainId_quiet F.excBase_ValueError.init.plain _, codeAny_builtin F.excBase_ValueError.initEntry ?_⟩
  exact exc_init_tree (cls := .ref C) (t0 := t0) (dv := none) (c2 := .none) (c3 := .none) (b4 := .bool false) he hrest fun h' k e' _ => hq h' _ k e'
/-- what the written part tells of such a class -/
structure XcF (P : Program) (K : PySem.W.Frag) (C : Addr) : Prop where
  oex : OexC K C
  along : ∃ cd, PySem.W.clsIn K C = some cd ∧ PySem.W.alongIn K "__init__" ((cd.mro.dropWhile (· != .ref C)).drop 1) = some (some (.builtin "ValueError.__init__"))
  sub : PySem.W.subIn K (.ref C) (.type "ValueError") = some true
  self : PySem.W.mroIn K C (.ref C) = some true
  thd : PySem.W.nsIn K cStatics "thirdparty.any" = some none
section
variable {P : Program} {w : World} {K : PySem.W.Frag} {mg : Str → Option Value} {base : Heap} {k : Nat} {f cc cda C : Addr} {name qual : Str} {params : Arguments} {scope : Scope} {dV kV doc pm ct oc : Value} {an od : Option Addr} {osl : Array (Option Value)}
  {prm fld txt : Str} {ar : PySem.Arg} {j : Nat} {p0 p1 p2 p3 p4 p5 q0 q1 q2 q3 : Pos} {vs5 : Array Value} {file : Str} {tf : Tok} {cl5 clc : Value} {d5 dc : Option Addr} {sl5 slc : Array (Option Value)}
/-- what is wanted of it: the object that is being made gets its dict -/
def spInit (K : PySem.W.Frag) (C : Addr) (fld : Str) : Sp := fun vs H Q E => ∃ (a : Addr) (y : V), vs = [.ref a, y] ∧ H a = some (exo a C none) ∧ ∀ dx, H dx = none → dx ≠ a → Q .non (upd (upd H dx (exd dx [(fld, y)])) a (exo a C (some dx)))
abbrev xBody (txt prm fld : Str) (j : Nat) (p0 p1 p2 p3 p4 p5 q0 q1 q2 q3 : Pos) : List Stmt :=
  [.Expr (.Call (.Attribute (.Call (.Name "super" p0) [] [] p1) "__init__" p2) [.Constant (.str txt) j p3] [] p4) p5, .Assign [.Attribute (.Name "self" q0) fld q1] (.Name prm q2) q3]
theorem xinit_fn (X0 : XcF P K C)
    (lk : K.lookup f = some ⟨oc, od, .func (ksFn name qual params (xBody txt prm fld j p0 p1 p2 p3 p4 p5 q0 q1 q2 q3) scope dV kV doc pm an (.ref cda) ct cc), osl⟩) (hcd : PySem.W.codeIn K (.ref cda) qual = true)
    (hcode : K.lookup cda = some ⟨cl5, d5, .fields vs5, sl5⟩) (hvs : vs5[2]? = some (.str file tf)) (hfile : ((P.main.file : Str) == file) = true)
    (hcell : K.lookup cc = some ⟨clc, dc, .cell (some (.ref C)), slc⟩)
    (hno : PySem.W.findIn K (.ref C) fld = some none) (hsm : mg "super" = none) (htop : (P.main.scope.names.lookup ("super" : Str)).isSome = false)
    (S : NScope ["self", prm, "__class__"] ["self", prm] ["__class__"] scope) (hks : scope.names.lookup ("super" : Str) = some .globalImplicit)
    (hp : (params.posonlyargs ++ params.args).head? = some ar) (har : ar.arg = "self") (hne : ("self" : Str) ≠ prm) (hpd : (prm == ("__debug__" : Str)) = false) (hpc : (prm == ("__classdict__" : Str)) = false)
    (hme : ∀ L, ∃ pl : Sem Bool, eval (.Call (.Attribute (.Call (.Name "super" p0) [] [] p1) "__init__" p2) [.Constant (.str txt) j p3] [] p4) (PySem.W.envX qual scope L f (.ref cda) [("__class__", cc)]) = (do
      let ov ← attributeBase (.Call (.Name "super" p0) [] [] p1) "__init__" (PySem.W.envX qual scope L f (.ref cda) [("__class__", cc)]) (eval (.Call (.Name "super" p0) [] [] p1) (PySem.W.envX qual scope L f (.ref cda) [("__class__", cc)]))
      standAt p2.atName
      let (f', first) ← holding [ov] (getMethod ov "__init__" pl)
      callWith p4 f' first (backTo p4 (starEach [.Constant (.str txt) j p3] (PySem.W.envX qual scope L f (.ref cda) [("__class__", cc)]))) []))
    (hin : ∀ L, interactive (PySem.W.envX qual scope L f (.ref cda) [("__class__", cc)]) = false)
    (hst : ∀ L, swapsWith (.Name prm q2) (some (.Attribute (.Name "self" q0) fld q1)) q3.line (PySem.W.envX qual scope L f (.ref cda) [("__class__", cc)]) = pure false) :
    FnOk P w K mg base (L2.CX P w) (k + 1) f (ksFn name qual params (xBody txt prm fld j p0 p1 p2 p3 p4 p5 q0 q1 q2 q3) scope dV kV doc pm an (.ref cda) ct cc) ["self", prm] (spInit K C fld) := by
  refine ⟨fun vs H Q E ⟨a, y, e, _⟩ => by rw [e] <;> rfl, fun A outer s H args us vs Q E hr e0 hb r hsp => ?_⟩
  obtain ⟨a, y, rfl, ea, hq⟩ := hsp
  have KX : K.In s.heap := e0.mod.kin.keeps fun b o e => (e0.bs b o e).1
  have lim : s.heap.NoLimit := e0.mod.nolimit.keeps fun b o e => (e0.bs b o e).1
  let F : NF := { name := name, qual := qual, params := params, body := xBody txt prm fld j p0 p1 p2 p3 p4 p5 q0 q1 q2 q3, scope := scope, cl := [("__class__", cc)], c := cda }
  have hl : ([V.ref a, y] : List V).length = (["self", prm] : List Str).length := rfl
  have hcb : base.get? cc = some ⟨clc, dc, .cell (some (.ref C)), slc⟩ := e0.mod.kin _ _ hcell
  have CA : CellsAt F.cl ["__class__"] [none] s.heap H := {
    len := rfl
    all := fun y c e => by
      have e : ([("__class__", cc)] : List (Str × Addr)).lookup y = some c := e
      have e2 : c = cc := by
        simp only [List.lookup] at e
        split at e
        · exact (Option.some.inj e).symm
        · cases e
      rw [e2]
      exact ⟨(e0.bs cc _ hcb).2, _, ⟨_, (e0.bs cc _ hcb).1, rfl⟩⟩
    inj := fun x y c h1 h2 => by
      have g : ∀ {z : Str} {c : Addr}, ([("__class__", cc)] : List (Str × Addr)).lookup z = some c → z = "__class__" := fun {z c} e => by
        simp only [List.lookup] at e
        split at e
        · rename_i q; exact beq_iff_eq.mp q
        · cases e
      rw [g h1, g h2]
    has := fun i y e => by
      cases i with
      | zero =>
        simp at e
        subst e
        exact ⟨cc, rfl, fun v q => by simp at q⟩
      | succ i => simp at e }
  refine ks_codeAny_call_defAt (binds := (["self", prm] : List Str).zip us) hr.depth (KX _ _ lk) rfl lim (PySem.W.codeRec_of KX hcd) rfl hb (fun x hx => S.nocell x hx) (fun ⟨n, _⟩ hy => S.par n (List.of_mem_zip hy).1) (fun h₁ hns kp => ?_) S.co S.gen S.kind
  have I : Inv (ncx (L2.CX P w) P w K mg base ["self", prm, "__class__"] F f A outer s H E) [] (startF ["self", prm, "__class__"] [V.ref a, y] [none]) H { s with heap := h₁, toks := s.toks + ((["self", prm] : List Str).zip us).length } :=
    inv_startN (tk := s.toks + ((["self", prm] : List Str).zip us).length) S hr.hd e0 hl r CA hns kp
  obtain ⟨u1, rfl, ru⟩ : ∃ u1, us = [.ref a, u1] ∧ RelV y u1 := by
    cases r with
    | @cons _ u0 _ ur r1 r2 =>
      cases r2 with
      | @cons _ u1 _ ur2 r3 r4 =>
        cases r4
        obtain rfl : u0 = Value.ref a := r1
        exact ⟨u1, rfl, r3⟩
  obtain ⟨nm, q, N, bs, bm, sn, sub, ab, col, dd, k0, k1, k2, k3, k5, hC, hbm⟩ := X0.oex.cls
  obtain ⟨cdC, hcdC, hal⟩ := X0.along
  have hcl : PySem.W.clsIn K C = some { name := nm, bases := bs, mro := .ref C :: bm, ns := N, qualname := q, hasDict := true, slotNames := sn, subclasses := sub, abstract := ab, collection := col, hasDel := false } := by unfold PySem.W.clsIn; rw [hC] <;> rfl
  have ecd := hcdC.symm.trans hcl
  let X : Cx := ncx (L2.CX P w) P w K mg base ["self", prm, "__class__"] F f A outer s H E
  show PySem.wpAt (model P w) X.A (.func (xBody txt prm fld j p0 p1 p2 p3 p4 p5 q0 q1 q2 q3) X.env) (execs (xBody txt prm fld j p0 p1 p2 p3 p4 p5 q0 q1 q2 q3) X.env) _ _ _
  have hkS : X.env.kindOf "super" = some .globalImplicit := hks
  have hkC : X.env.kindOf "__class__" = some .free := S.frk "__class__" (by simp)
  have hkF : X.env.scope.kind = .function := S.kind
  have hk1 : ∀ b o, base.get? b = some o → h₁.get? b = some o := fun b o e => kp b o (e0.bs b o e).1
  have hC1 : h₁.get? C = _ := hk1 _ _ (e0.mod.kin _ _ hC)
  obtain ⟨t1, ho⟩ := exo_at I.hok ea
  obtain ⟨pl, hpl⟩ := hme s.heap.objs.size
  refine ks_wpAt_execs_cons (ks_wpAt_Expr_any (ks_wpAt_MethodCall (pl := pl) ?_ hpl) (hin _))
  refine ks_wpAt_super_base (env := X.env) hkS hkC (by decide) rfl (hk1 _ _ (e0.mod.kin _ _ lk)) rfl hp rfl (hk1 _ _ (e0.mod.kin _ _ hcode)) rfl hvs hfile htop ?_
  obtain ⟨mb, hb1, hb2⟩ := e0.mod.blt
  refine ks_loadName_global hkF hkS (Calls.loadGlobal_builtin (env := X.env) (e0.mod.glob.keeps hk1) hsm (hb1.keeps hk1) ((hb2 "super" (by decide)).trans Boot.«super») ⟨rfl, ?_⟩)
  refine wpAny_loadName_free hkF hkC rfl ⟨_, hk1 _ _ hcb, rfl⟩ ?_
  rw [har]
  refine wpAny_loadName_local hkF (S.par "self" (by simp)) hns (v := .ref a) ?_ ?_
  · exact zip_look (i := 0) (ps := ["self", prm]) (us := [.ref a, u1]) (by simpa using hne) rfl rfl
  refine ks_wpAny_isType_cls hC1 rfl ⟨rfl, ?_⟩
  refine ks_wpAny_call_super hC1 rfl ho rfl (fun c z => nomatch z) (PySem.W.looks_mroIn I.kIn X0.self) (fun h2 hso k2 => ?_)
  have I2 : Inv X [] (startF ["self", prm, "__class__"] [V.ref a, y] [none]) H { s with heap := h2, toks := s.toks + ((["self", prm] : List Str).zip [Value.ref a, u1]).length } := I.kept (t' := s.toks + ((["self", prm] : List Str).zip [Value.ref a, u1]).length) k2
  have J : PySem.W.InstAt h2 a (excObj C t1 none .none) C none := ⟨k2 _ _ ho, rfl, rfl, trivial⟩
  refine kxs_getMethod PySem.W.kxs_ValueError hso (PySem.W.looks_opaque I2.kIn X0.thd) (l₀ := cdC.mro) (fun A Q E s k q => wpAny_bind ((PySem.W.looks_clsIn I2.kIn hcdC) A _ E s k (wpAny_pure q))) rfl I2.kIn hal (J.type.andThen (PySem.W.looks_subIn I2.kIn X0.sub)) (PySem.W.ks_ne I2.kIn J hcdC) (by decide) ?_
  refine kxs_callWith (i := "ValueError.__init__") (x := a) rfl (evalArgs_plain (spliced_cons (Calls.Constant_str (k := j) (pos := p3) (spliced_nil ⟨Heap.get?_push_at rfl rfl, ?_⟩))))
  have I3 : Inv X [] (startF ["self", prm, "__class__"] [V.ref a, y] [none]) H { s with heap := h2.push (kxs_mw "ValueError.__init__" a), toks := s.toks + ((["self", prm] : List Str).zip [Value.ref a, u1]).length + 1 + 1 } := I2.kept (t' := s.toks + ((["self", prm] : List Str).zip [Value.ref a, u1]).length + 1 + 1) fun b o e => Heap.get?_push_of_some _ e
  refine call_mw (I3.kIn _ _ hC) (t0 := t1) (Heap.get?_push_of_some _ (k2 _ _ ho)) (Heap.get?_push_at rfl rfl) (by show 1 ≤ sizeLine; rw [sizeLine_eq]; omega) fun h4 t4 k4 e4 => ?_
  have I4 := I3.write (t' := s.toks + ((["self", prm] : List Str).zip [Value.ref a, u1]).length + 1 + 1) (x := a) (e := a) (o := exo a C none) (by rw [ea]; exact True.intro) (.inl rfl) k4 ⟨_, e4⟩ (exo_ok e4)
  have eu : upd H a (exo a C none) = H := by
    funext b
    by_cases hb : b = a
    · rw [hb, upd_same, ea]
    · rw [upd_ne hb]
  rw [eu] at I4
  refine wpAt_of_wpAny ?_
  have R2 : PSs X [.Assign [.Attribute (.Name "self" q0) fld q1] (.Name prm q2) q3] _ := pss_cons (ps_ost (f := fld) (pe_var (i := 0) (x := "self") rfl (.inl (S.par "self" (by simp)))) (pe_var (i := 1) (x := prm) rfl (.inl (S.par prm (by simp))) hpd hpc) (hst _)) pss_nil
  refine wpAny_mono (R2.run [] _ _ H { nx := fun _ H' => Q .non H', rt := Q } I4 ⟨y, rfl, .ref a, rfl, a, C, rfl, X0.oex, hno, .inl ⟨ea, fun dx n ne => hq dx n ne⟩⟩) (fun fl s' hs => ?_) fun e s' hs => hs
  have fin : ∀ {σ' : L2.St} {H' : Hp} {v : V} {u : Value}, Inv X [] σ' H' s' → L2.RelV v u → Q v H' → CE outer P w H s Q u s' := fun {σ' H' v u} J rv q => ⟨v, H', J.os, J.bare, J.base, J.hok, rv, q⟩
  cases fl with
  | ret u =>
    obtain ⟨v, σ', H', J, rv, q⟩ := hs
    exact fin J rv q
  | next =>
    obtain ⟨σ', H', J, q⟩ := hs
    exact fin (v := V.non) (u := Value.none) J rfl q
  | brk =>
    obtain ⟨_, _, _, q⟩ := hs
    exact False.elim q
  | cont =>
    obtain ⟨_, _, _, q⟩ := hs
    exact False.elim q
end
end PB
set_option maxRecDepth 100000
set_option maxHeartbeats 4000000
/-! PX1: such an exception made: by position or by name. -/
namespace PB
open PySem PySem.Spec PySem.Calls PyProof.Rows L2 PySem.HandSPX
section
variable {prog : Program} {w : World} {A : Around} {E : Value → Shared → Prop} {R : Result → Shared → Prop} {h : Heap} {g : Array GenState} {d : Drawn} {t : Nat} {os : OsState}
variable {nm q : Str} {C N : Addr} {bs bm : List Value} {hdct : Bool} {sn : List Str} {sub : List Value} {ab : Bool} {col : Option Bool} {dd : Option Addr} {k0 k1 k2 k3 k5 : Option Value} {rest : List Value} {kw : List (Str × Value)} {fI : Addr}
theorem xk_new_chk (hT : ∀ X : String, bm.contains (.type X) = veTail.contains (.type X)) {Q : Unit → Shared → Prop}
    (hC : h.get? C = some (excClassObj nm q C N bs bm hdct sn sub ab col dd k0 k1 k2 k3 k5 "ValueError.__new__")) (hq : Q () ⟨h, g, d, t, os⟩) : wpAny (model prog w) A (checkBuiltinCall "ValueError.__new__" ⟨.ref C :: rest, kw⟩) Q E ⟨h, g, d, t, os⟩ := by
  have FB := F.excBase_ValueError
  have c1 : (Value.ref C :: bm).contains (.type "ValueError") = true := by rw [List.contains_cons, hT, FB.hasB, Bool.or_true]
  have c2 := FB.noStar
  simp only [checkBuiltinCall, FB.newKind, FB.newSplit, FB.newRow]
  repeat (first | refine wpAny_loadPart_at hC ?_ | (refine wpAny_isSubtype_exc hC ?_; rw [c1]) | refine wpAny_staticBase_exc hC ?_ | refine wpAny_madeBy_exc hC ?_ | simp only [bne_self_eq_false, Bool.false_eq_true, if_false] | wp_step)
  exact hq
theorem xk_new (hT : ∀ X : String, bm.contains (.type X) = veTail.contains (.type X))
    (hC : h.get? C = some (excClassObj nm q C N bs bm hdct sn sub ab col dd k0 k1 k2 k3 k5 "ValueError.__new__"))
    (hq : R (.ok (.ret (.ref (h.objs.size + 1)))) ⟨(h.push (PySem.W.kdv_tup rest)).push (excO C h.objs.size), g, d, t, os⟩) (hrest : rest.length ≤ sizeLine) :
    codeAny (model prog w) A (.builtin "ValueError.__new__" ⟨.ref C :: rest, kw⟩) R ⟨h, g, d, t, os⟩ := by
  have FB := F.excBase_ValueError
  have e1 := FB.ends
  have c1 : (Value.ref C :: bm).contains (.type "ValueError") = true := by rw [List.contains_cons, hT, FB.hasB, Bool.or_true]
  have c2 : (Value.ref C :: bm).contains (.type "AttributeError") = false := by rw [List.contains_cons, hT, FB.noAttr]; rfl
  have c3 : (Value.ref C :: bm).contains (.type "NameError") = false := by rw [List.contains_cons, hT, FB.noName]; rfl
  refine codeAny_builtinAt FB.entry ?_
  unfold Builtin.«BaseException.__new__»
  refine PySem.wpAt_bind ?_
  show PySem.wpAt _ _ _ (stack >>= _) _ _ _
  refine PySem.wpAt_bind (PySem.wpAt_stack fun p below => PySem.wpAt_of_wpAny ?_)
  wp_walk
  refine PySem.wpAt_of_wpAny ?_
  rw [FB.owner]
  repeat (first | with_reducible refine wpAny_madeHere_exc FB.canon hC ?_ | with_reducible refine wpAny_loadPart_at hC ?_ | (with_reducible refine wpAny_isSubtype_exc hC ?_; first | rw [c1] | rw [c2] | rw [c3]) | wp_step)
  show R _ _
  rw [Heap.size_push]
  exact hq
theorem xk_type (hT : ∀ X : String, bm.contains (.type X) = veTail.contains (.type X)) {Q : Fin → Shared → Prop} {E : Value → Shared → Prop}
    (hC : h.get? C = some (excClassObj nm q C N bs bm hdct sn sub ab col dd k0 k1 k2 k3 k5 "ValueError.__new__"))
    (hi : PySem.W.Looks (model prog w) h (typeLookup (.ref C) "__init__") (some (.ref fI))) (hb : ∀ self, PySem.W.Looks (model prog w) h (bindSpecial (.ref fI) self) (.ref fI, [self])) (hrest : rest.length ≤ sizeLine)
    (hq : codeAny (model prog w) A (.call (.ref fI) ⟨.ref (h.objs.size + 1) :: rest, kw⟩)
      (fun r s' => match r with | .ok (.ret v) => v = .none ∧ Q (.done (.ret (.ref (h.objs.size + 1)))) s' | .ok _ => False | .error e => E e s')
      ⟨(h.push (PySem.W.kdv_tup rest)).push (excO C h.objs.size), g, d, t, os⟩) :
    wpAny (model prog w) A (Builtin.«type.__call__» ⟨.ref C :: rest, kw⟩) Q E ⟨h, g, d, t, os⟩ := by
  have FB := F.excBase_ValueError
  repeat (first | with_reducible refine wpAny_loadPart_at hC ?_ | with_reducible refine wpAny_madeBy_exc hC ?_ | wp_step)
  refine codeAny_call_builtin_code (Code.quiet_builtin _ FB.quiet) (xk_new_chk hT hC ?_)
  refine xk_new hT hC ?_ hrest
  show wpAny _ _ _ _ _ _
  have kp : ∀ b o, h.get? b = some o → ((h.push (PySem.W.kdv_tup rest)).push (excO C h.objs.size)).get? b = some o := fun b o e => Heap.get?_push_of_some _ (Heap.get?_push_of_some _ e)
  have hC1 := kp _ _ hC
  have hget : ((h.push (PySem.W.kdv_tup rest)).push (excO C h.objs.size)).get? (h.objs.size + 1) = some (excO C h.objs.size) := by heap_get
  have cC : (Value.ref C :: bm).contains (.ref C) = true := by simp
  have i1 := hi.keeps kp
  have b1 := (hb (.ref (h.objs.size + 1))).keeps kp
  unfold isInstance
  repeat (first | with_reducible refine wpAny_loadPart_at hget ?_ | (with_reducible refine wpAny_isSubtype_exc hC1 ?_; rw [cC]) | wp_step)
  show wpAny _ _ (typeLookup (.ref C) _) _ _ _
  refine i1.at ?_
  refine wpAny_holding (wpAny_bind (b1.at ?_))
  refine wpAny_bind (wpAny_call (codeAny_mono hq fun r s' z => ?_))
  rcases r with e | (v | _ | _ | _) <;> first | exact z | exact z.elim | skip
  obtain ⟨rfl, z⟩ := z
  first
    | exact wpAny_pure (wpAny_pure z)
    | (wp_walk; exact z)
theorem xk_call (hT : ∀ X : String, bm.contains (.type X) = veTail.contains (.type X))
    (hC : h.get? C = some (excClassObj nm q C N bs bm hdct sn sub ab col dd k0 k1 k2 k3 k5 "ValueError.__new__"))
    (hi : PySem.W.Looks (model prog w) h (typeLookup (.ref C) "__init__") (some (.ref fI))) (hb : ∀ self, PySem.W.Looks (model prog w) h (bindSpecial (.ref fI) self) (.ref fI, [self])) (hrest : rest.length ≤ sizeLine)
    (hq : codeAny (model prog w) (A.under (.builtin "type.__call__" ⟨.ref C :: rest, kw⟩)) (.call (.ref fI) ⟨.ref (h.objs.size + 1) :: rest, kw⟩) (PySem.W.InitBack (h.objs.size + 1) R)
      ⟨(h.push (PySem.W.kdv_tup rest)).push (excO C h.objs.size), g, d, t, os⟩) :
    codeAny (model prog w) A (.call (.ref C) ⟨rest, kw⟩) R ⟨h, g, d, t, os⟩ := by
  have f1 := tc_lookup
  have f2 := tc_bind (.ref C)
  have hTy : (⟨h, g, d, t, os⟩ : Shared).TypeIs (.ref C) "type" := ⟨_, hC, rfl⟩
  refine codeAny_of_tree ?_
  show wpAny _ _ (callAny (.ref C) _) _ _ _
  repeat (any_goals (first | assumption | with_reducible refine wpAny_loadPart_at hC ?_ | wp_step))
  refine ⟨rfl, ?_⟩
  refine codeAny_call_builtin_at (Code.quiet_builtin _ (by decide +kernel)) entry_typeCall (wpAny_check_type_call_sub hC (xk_type hT hC hi hb hrest ?_))
  refine codeAny_mono hq fun r s' z => ?_
  rcases r with e | (v | _ | _ | _) <;> exact z
end
end PB
set_option maxRecDepth 100000
set_option maxHeartbeats 4000000
/-! PX2: exceptions as values: made, asked, read. -/
namespace PB
open PySem PySem.Spec PySem.Calls L2 PySem.HandSPX
/-- what the heap tells less of one object -/
theorem inv_less {X : Cx} {pins : List (Addr × Obj)} {σ : St} {H : Hp} {s : Shared} {a : Addr} {φ : Heap → Prop} {o : HO} (I : Inv X pins σ H s) (e : H a = some (.ext φ)) (n : ObjOk X.prog X.w (upd H a o) s.heap a o) : Inv X pins σ (upd H a o) s := by
  obtain ⟨_, ⟨oe, h1⟩, _⟩ := I.hok a _ e
  exact I.write (h' := s.heap) (t' := s.toks) (x := a) (e := a) (o := o) (by rw [e]; exact True.intro) (.inl rfl) (fun b u _ z => z) ⟨oe, h1⟩ n
theorem excO_ok {P : Program} {w : World} {H : Hp} {h : Heap} {a : Addr} {c : Value} {d : Option Addr} {oe : Obj} {vs : Array Value} (e : h.get? a = some oe) (h1 : oe.cls = c) (h2 : oe.dict = d) (h3 : oe.data = .fields vs) : ObjOk P w H h a (ExcO c d a) :=
  ⟨⟨oe, vs, e, h1, h2, h3⟩, ⟨oe, e⟩, fun _ _ ⟨o, v, q, r⟩ k => ⟨o, v, k o q, r⟩⟩
section
variable {X : Cx} {CX : CXT} {pins : List (Addr × Obj)} {σ : St} {H1 : Hp} {s : Shared} {C fI : Addr} {k : Nat} {fd : FuncData} {prm fld : Str} {y : V} {u : Value} {rest : List Value} {kw : List (Str × Value)} {Q : VK}
theorem xv_core (T : OexC X.K C) (iC : PySem.W.findIn X.K (.ref C) "__init__" = some (some (.ref fI))) (tI : PySem.W.typeIn X.K (.ref fI) = some (.type "function"))
    (F1 : FnOk X.prog X.w X.K X.mg X.base CX k fI fd ["self", prm] (spInit X.K C fld)) (hr : Room (k + 1) X.A) (hx : Passes CX X (fun _ _ _ => False)) (I1 : Inv X pins σ H1 s) (ry : RelV y u) (hus : rest.length ≤ sizeLine)
    (hb : ∀ (a : Addr) (s' : Shared), X.K.In s'.heap → BindsTo s' fd ⟨.ref a :: rest, kw⟩ ((["self", prm] : List Str).zip [.ref a, u]))
    (q : ∀ a dx, H1 a = none → H1 dx = none → dx ≠ a → Q (.ref a) (upd (upd H1 a (ExcO (.ref C) (some dx) a)) dx (.xd [(fld, y)]))) :
    wpAny (model X.prog X.w) X.A (call (.ref C) rest kw) (EP X pins σ Q) X.xe s := by
  obtain ⟨nm, qn, N, bs, bm, sn, sub, ab, col, dd, k0, k1, k2, k3, k5, hC, hbm⟩ := T.cls
  obtain ⟨hp, g, dr, tk, os⟩ := s
  have hsz : hp.objs.size ≤ hp.objs.size + 1 := Nat.le_succ _
  have hn : H1 (hp.objs.size + 1) = none := I1.hok.fresh hsz
  have kk : ∀ b o, hp.get? b = some o → ((hp.push (PySem.W.kdv_tup rest)).push (excO C hp.objs.size)).get? b = some o := fun b o e => Heap.get?_push_of_some _ (Heap.get?_push_of_some _ e)
  have hget : ((hp.push (PySem.W.kdv_tup rest)).push (excO C hp.objs.size)).get? (hp.objs.size + 1) = some (excO C hp.objs.size) := by heap_get
  have I2 : Inv X pins σ (upd H1 (hp.objs.size + 1) (exo (hp.objs.size + 1) C none)) ⟨(hp.push (PySem.W.kdv_tup rest)).push (excO C hp.objs.size), g, dr, tk, os⟩ :=
    I1.laid (t' := tk) (a := hp.objs.size + 1) (o := exo (hp.objs.size + 1) C none) (h' := (hp.push (PySem.W.kdv_tup rest)).push (excO C hp.objs.size)) kk hsz (exo_ok hget)
  have r2 : Vals [V.ref (hp.objs.size + 1), y] [Value.ref (hp.objs.size + 1), u] := .cons rfl (.cons ry .nil)
  refine wpAny_call (xk_call (fun Y => refsVE_contains Y bm hbm) (I1.kIn _ _ hC) (PySem.W.looks_findIn I1.kIn iC) (fun self => PySem.W.bind_fn I1.kIn self tI) hus
    (codeAny_mono (F1.run _ X.stack _ _ ⟨Value.ref (hp.objs.size + 1) :: rest, kw⟩ [Value.ref (hp.objs.size + 1), u] _
      (fun v H2 => v = .non ∧ ∃ dx, H1 dx = none ∧ dx ≠ hp.objs.size + 1 ∧ H2 = upd (upd (upd H1 (hp.objs.size + 1) (exo (hp.objs.size + 1) C none)) dx (exd dx [(fld, y)])) (hp.objs.size + 1) (exo (hp.objs.size + 1) C (some dx)))
      (fun _ _ _ => False) (hr.make C rest kw) (I2.env0.make C rest kw) (hb _ _ I2.kIn) r2
      ⟨_, _, rfl, upd_same, fun dx n ne => ⟨rfl, dx, by rw [upd_ne ne] at n; exact n, ne, rfl⟩⟩) fun r s' hq' => ?_))
  cases r with
  | error er => exact hx pins σ _ _ er s' I2 hq'
  | ok fl =>
    cases fl with
    | ret uu =>
      obtain ⟨v, H2, os2, bare2, un2, hok2, rv, ev, dx, hdx, ne, rfl⟩ := hq'
      subst ev
      have J := I2.call' (ch := []) os2 un2 hok2 bare2 (fun b z => absurd z (by simp))
      refine ⟨rv, .ref (hp.objs.size + 1), _, ?_, rfl, q (hp.objs.size + 1) dx hn hdx ne⟩
      obtain ⟨t1, he⟩ := exo_at J.hok upd_same
      have J2 := inv_less J (a := hp.objs.size + 1) (o := ExcO (.ref C) (some dx) (hp.objs.size + 1)) upd_same (excO_ok he rfl rfl rfl)
      have ed : (upd (upd (upd (upd H1 (hp.objs.size + 1) (exo (hp.objs.size + 1) C none)) dx (exd dx [(fld, y)])) (hp.objs.size + 1) (exo (hp.objs.size + 1) C (some dx))) (hp.objs.size + 1) (ExcO (.ref C) (some dx) (hp.objs.size + 1))) dx = some (exd dx [(fld, y)]) := by
        rw [upd_ne ne, upd_ne ne, upd_same]
      obtain ⟨mA, hns, rel⟩ := exd_at J2.hok ed
      have J3 := inv_less J2 (a := dx) (o := .xd [(fld, y)]) ed ⟨mA, hns, rel⟩
      have eq : upd (upd (upd (upd (upd H1 (hp.objs.size + 1) (exo (hp.objs.size + 1) C none)) dx (exd dx [(fld, y)])) (hp.objs.size + 1) (exo (hp.objs.size + 1) C (some dx))) (hp.objs.size + 1) (ExcO (.ref C) (some dx) (hp.objs.size + 1))) dx (.xd [(fld, y)]) =
          upd (upd H1 (hp.objs.size + 1) (ExcO (.ref C) (some dx) (hp.objs.size + 1))) dx (.xd [(fld, y)]) := by
        funext b
        by_cases h1 : b = dx
        · rw [h1, upd_same, upd_same]
        · rw [upd_ne h1, upd_ne h1]
          by_cases h2 : b = hp.objs.size + 1
          · rw [h2, upd_same, upd_same]
          · rw [upd_ne h2, upd_ne h2, upd_ne h1, upd_ne h2, upd_ne h2]
      rw [eq] at J3
      exact J3
    | next => exact False.elim hq'
    | brk => exact False.elim hq'
    | cont => exact False.elim hq'
end
end PB
set_option maxRecDepth 100000
set_option maxHeartbeats 4000000
/-! PX3: isinstance of all data; an exception's fields. -/
namespace PB
open PySem PySem.Spec PySem.Calls L2 PySem.HandSPX
open PySem.W (Frag findIn specialIn takesIn subIn mroIn hasDictIn clsIn InstAt KitX findObj kitOne)
section
variable {prog : Program} {w : World} {A : Around} {E : Value → Shared → Prop} {s : Shared} {K : Frag} {x D : Addr} {ox : Obj} {od : Option Obj}
theorem xf_cls (C : ExcC K D) : findObj K D od "__class__" = some (.bind (.builtin "getset_descriptor.__get__") (.builtin "object.__class__")) := by
  obtain ⟨cd, hc, _⟩ := PySem.W.any_some C.hd
  unfold findObj
  rw [hc, Option.bind_some, C.ha, Option.bind_some]
  simp [C.hn, C.ht]
theorem xk_class {Q : Option Value → Shared → Prop} (C : ExcC K D) (X : K.In s.heap) (I : InstAt s.heap x ox D od) (h : Q (some (.ref D)) { s with toks := s.toks + 1 }) :
    wpAny (model prog w) A (getAttr? (.ref x) "__class__") Q E s := by
  have hf := xf_cls (od := od) C
  obtain ⟨hp, g, d, t, os⟩ := s
  have a0 := I.type (M := model prog w)
  have a1 := PySem.W.looks_findIn (M := model prog w) X C.hg
  have a2 := PySem.W.looks_findIn (M := model prog w) X C.hk
  have a3 := PySem.W.looks_find (M := model prog w) X I hf
  have a4 : PySem.W.Looks (model prog w) hp (isInstance (.ref x) (.type "BaseException")) true := a0.andThen (PySem.W.looks_subIn X C.hs)
  have b1 : (false && onTheHeap (Value.builtin "BaseException.__getattribute__")) = false := rfl
  have b2 : (onTheHeap (Value.ref D) && Value.builtin "BaseException.__getattribute__" == Value.builtin "object.__getattribute__") = false := by
    rw [show (Value.builtin "BaseException.__getattribute__" == Value.builtin "object.__getattribute__") = false by decide +kernel]
    rfl
  unfold getAttr? getAttrBy? getAttrBy
  refine wpAny_bind (wpAny_mkText (wpAny_bind (wpAny_attempt (wpAny_holding (wpAny_bind (a0.at (wpAny_bind (a1.at ?_))))))))
  show wpAny _ _ (if (onTheHeap (Value.ref D) && Value.builtin "BaseException.__getattribute__" == Value.builtin "object.__getattribute__") = true then _ else _) _ _ _
  rw [b2, if_neg Bool.false_ne_true]
  unfold getAttrByItsOwn hookBefore
  refine wpAny_bind ?_
  rw [if_pos (show onTheHeap (Value.ref D) = true from rfl)]
  refine a2.at ?_
  refine wpAny_bind (wpAny_attempt (wpAny_holding ?_))
  unfold callGetattribute
  rw [b1, if_neg Bool.false_ne_true]
  unfold boundAndCalled
  rw [PySem.F.excAttr_ValueError.ga.bind (.ref x)]
  refine wpAny_bind (wpAny_pure ?_)
  show wpAny _ _ (call (.builtin "BaseException.__getattribute__") [.ref x, .str "__class__" t]) _ _ _
  refine wpAny_call (codeAny_call_builtin PySem.F.excAttr_ValueError.ga.plain PySem.F.entry_bexc_ga ?_)
  refine @PySem.W.check_slot (model prog w) _ _ ⟨hp, g, d, t + 1, os⟩ "BaseException.__getattribute__" "BaseException" "__getattribute__" (.ref x) [.str "__class__" t] [] _ (by decide +kernel) (by decide +kernel) a4 (PySem.F.args_bexc_ga (.ref x) (.str "__class__" t)) ?_
  unfold Builtin.«object.__getattribute__»
  refine wpAny_bind (wpAny_of_eq (a := ((Value.ref x : Value), [Value.str "__class__" t])) (by first | rfl | (simp only [slotArgs]; rfl)) ?_)
  refine wpAny_bind (wpAny_pure (wpAny_bind (a0.at (wpAny_bind (a3.at ?_)))))
  show wpAny _ _ (holding [Value.builtin "object.__class__"] (call (.builtin "getset_descriptor.__get__") [.builtin "object.__class__", .ref x, .ref D]) >>= ret) _ _ _
  refine wpAny_bind (wpAny_holding (wpAny_call (PySem.W.class_get (s := ⟨hp, g, d, t + 1, os⟩) (ox := ox) (od := od) X I C.hm ?_)))
  refine wpAny_pure ?_
  show wpAny _ _ (handedOut (.ref D)) _ _ _
  rw [PySem.W.handedOut_of (v := .ref D) rfl]
  first
    | exact wpAny_pure (wpAny_pure h)
    | exact wpAny_pure h
    | exact wpAny_pure (wpAny_bind (wpAny_pure (wpAny_pure h)))
theorem xkit (C : ExcC K D) : KitX K (.ref x) (.ref D) (fun h => InstAt h x ox D od) := by
  obtain ⟨cdD, hcD, _⟩ := PySem.W.any_some C.hd
  unfold clsIn at hcD
  split at hcD
  · rename_i c' d' cd' sl' ho
    exact {
      ty := fun _ _ _ I => I.type
      it := fun _ _ X _ => by
        intro A' Q' E' s' k q
        unfold isType loadHead
        exact wpAny_bind (wpAny_loadPart (k _ _ (X _ _ ho)) (wpAny_pure q))
      ne := fun h tp dd its n sl X htp => by
        refine Bool.eq_false_iff.mpr fun q => ?_
        have e : D = tp := Value.ref.inj (beq_iff_eq.mp q)
        subst e
        have z := (X _ _ ho).symm.trans htp
        cases z
      ca := fun X I k => xk_class C X I k }
  · cases hcD
end
def XdO (H : Hp) (d : Option Addr) : Prop := match d with
  | none => True
  | some dd => ∃ fs, H dd = some (.xd fs)
/-- isinstance(e, c), e an exception object -/
def rIsX (K : Frag) : List V → Hp → VK → Prop := fun xs H Q => ∃ (a D : Addr) (d : Option Addr) (c : V) (cv : Value) (b : Bool), xs = [.ref a, c] ∧ H a = some (ExcO (.ref D) d a) ∧ XdO H d ∧ ExcC K D ∧ ClsV c cv ∧ kitOne K (.ref D) cv = some b ∧ Q (.bl b) H
theorem exc_inst {X : Cx} {pins : List (Addr × Obj)} {σ : St} {H : Hp} {s : Shared} {a D : Addr} {d : Option Addr} (I : L2.Inv X pins σ H s) (e : H a = some (ExcO (.ref D) d a)) (hd : XdO H d) :
    ∃ oe od, InstAt s.heap a oe D od ∧ oe.dict = d := by
  obtain ⟨⟨oe, vs, h1, h2, h3, h4⟩, _, _⟩ := I.hok a _ e
  obtain ⟨oc, odt, oda, osl⟩ := oe
  dsimp only at h2 h3 h4
  subst h2 h3 h4
  cases odt with
  | none => exact ⟨_, none, ⟨h1, rfl, rfl, trivial⟩, rfl⟩
  | some dd =>
    obtain ⟨fs, e2⟩ := hd
    obtain ⟨mA, hns, _⟩ : ObjOk X.prog X.w H s.heap dd (.xd fs) := I.hok dd _ e2
    obtain ⟨o, es, ep, h5, _⟩ := hns
    exact ⟨_, some o, ⟨h1, rfl, rfl, h5⟩, rfl⟩
theorem call_isX {X : Cx} : CallR X (.builtin "isinstance") (rIsX X.K) := by
  intro pins s σ H xs us Q I r h
  obtain ⟨a, D, d, c, cv, b, rfl, e, hd, C, k, kb, q⟩ := h
  obtain ⟨u1, u2, rfl, r1, r2⟩ := vals2 r
  cases (show u1 = Value.ref a from r1)
  have e2 := k.eq r2
  subst e2
  obtain ⟨oe, od, J, _⟩ := exc_inst I e hd
  exact PySem.W.kia_one (xkit C) I.kIn J kb (fun z => nomatch z) fun tk => ⟨.bl b, H, I.tok tk, rfl, q⟩
/-- e.n, e an exception object -/
def tXv (K : Frag) (n : Str) (te : TE) : TE := fun σ H Q => te σ H fun x H1 => ∃ (a D dd : Addr) (fs : List (Str × V)) (v : V), x = .ref a ∧ H1 a = some (ExcO (.ref D) (some dd) a) ∧ H1 dd = some (.xd fs) ∧ XfC K D ∧ findIn K (.ref D) n = some none ∧ fs.lookup n = some v ∧ Q v H1
theorem pe_xv {X : Cx} {e : Expr} {te : TE} {n : Str} {pos : Pos} (he : PE X e te) (hb : attributeBase e n X.env (eval e X.env) = eval e X.env := by rfl) : PE X (.Attribute e n pos) (tXv X.K n te) := by
  refine ⟨fun pins s σ H Q I h => ?_⟩
  refine attr_of hb (thn (he.run pins s σ H _ I h) fun u s1 ⟨x, H1, I1, rx, a, D, dd, fs, v, ex, e1, e2, T, hno, hl, q⟩ => ?_)
  subst ex
  obtain rfl : u = Value.ref a := rx
  obtain ⟨oe, od, J, jd⟩ := exc_inst I1 e1 ⟨fs, e2⟩
  obtain ⟨mA, hns, rel⟩ : ObjOk X.prog X.w H1 s1.heap dd (.xd fs) := I1.hok dd _ e2
  obtain ⟨o, ho, hlo⟩ := lookIn_ns hns
  obtain ⟨u, hu, ru⟩ := RelO.some_of (v := v) (o := mA n) (by rw [← hl]; exact rel n)
  have jo : od = some o := by
    have jl := J.4
    rw [jd] at jl
    cases od with
    | none => exact jl.elim
    | some o2 =>
      have jl : s1.heap.get? dd = some o2 := jl
      rw [ho] at jl
      exact jl.symm
  subst jo
  exact exc_get I1.kIn J T.ga T.gg T.exC (PySem.W.findObj_own T.hdC hno rfl (by rw [hlo, hu])) (handed_of ru) ⟨v, H1, I1.tok _, ru, q⟩
end PB
set_option maxRecDepth 100000
set_option maxHeartbeats 4000000
/-! PX4: repr of data. -/
namespace PB
open PySem PySem.Spec PySem.Calls L2
def kQ : Key → PyData
  | .inl i => .int i
  | .inr x => .str x
mutual
def toQ : D → Option PyData
  | .non => some .none
  | .bl b => some (.bool b)
  | .int i => some (.int i)
  | .str x => some (.str x)
  | .tup xs => (toQL xs).map .tuple
  | .lst xs => (toQL xs).map .list
  | .dct ks xs => (toQL xs).map fun ps => .dict ((ks.map kQ).zip ps)
  | _ => none
def toQL : List D → Option (List PyData)
  | [] => some []
  | x :: xs => match toQ x, toQL xs with
    | some p, some ps => some (p :: ps)
    | _, _ => none
end
section
variable {X : Cx} {pins : List (Addr × Obj)} {σ : St} {H : Hp} {s : Shared} {G : Gc} {Z : Addr → Prop}
def NoSys (as : List Addr) (H : Hp) : Prop := ∀ a ∈ as, H a ≠ none
theorem reads_keys : ∀ {es : List DictEntry} {kvs : List (Key × Value)}, Pairs (mixKind X.prog X.w) es kvs → ReadsAll s.heap (es.map (·.key)) ((kvs.map (·.1)).map kQ) []
  | [], _, h => by cases h; exact .nil
  | e :: es, _, h => by
    cases h with
    | @cons _ kv _ kvs h1 h2 h3 =>
      have r := reads_keys h3
      have h1 : keyIs kv.1 e.key = true := h1
      rcases keyIs_shape h1 with ⟨i, t, e1, e2⟩ | ⟨x, t, e1, e2⟩
      · have q : Reads s.heap e.key (kQ kv.1) [] := by rw [e1, e2]; exact .int i t
        exact ReadsAll.cons (as := []) (bs := []) q r
      · have q : Reads s.heap e.key (kQ kv.1) [] := by rw [e1, e2]; exact .str x t
        exact ReadsAll.cons (as := []) (bs := []) q r
theorem pairs_vals : ∀ {es : List DictEntry} {kvs : List (Key × Value)}, Pairs (mixKind X.prog X.w) es kvs → es.map (·.val) = kvs.map (·.2)
  | [], _, h => by cases h; rfl
  | e :: es, _, h => by
    cases h with
    | cons h1 h2 h3 => rw [List.map_cons, List.map_cons, h2, pairs_vals h3]
theorem kv_zip : ∀ {ks : List Key} {vs : List V} {kvs : List (Key × Value)}, ks.length = vs.length → KV (ks.zip vs) kvs → kvs.map (·.1) = ks ∧ Vals vs (kvs.map (·.2))
  | [], [], _, _, h => by cases h; exact ⟨rfl, .nil⟩
  | k :: ks, v :: vs, _, l, h => by
    cases h with
    | cons h1 h2 =>
      obtain ⟨e, r⟩ := kv_zip (by simpa using l) h2
      exact ⟨by rw [List.map_cons, e, ← h1.1], .cons h1.2 r⟩
  | [], _ :: _, _, l, _ => by simp at l
  | _ :: _, [], _, l, _ => by simp at l
mutual
theorem rf_reads (hK : G.K = X.K) (zd : ∀ a, Z a → H a ≠ none) (I : L2.Inv X pins σ H s) : ∀ {d : D} {v : V} {u : Value} {p : PyData}, Rf G Z H d v → RelV v u → toQ d = some p → ∃ as, Reads s.heap u p as ∧ NoSys as H
  | .non, _, _, _, h, r, e => by cases e; cases h; cases r; exact ⟨_, .none, fun a h => nomatch h⟩
  | .bl b, _, _, _, h, r, e => by cases e; cases h; cases r; exact ⟨_, .bool b, fun a h => nomatch h⟩
  | .int i, _, _, _, h, r, e => by cases e; cases h; obtain ⟨t, rfl⟩ := r; exact ⟨_, .int i t, fun a h => nomatch h⟩
  | .str x, _, _, _, h, r, e => by cases e; cases h; obtain ⟨t, rfl⟩ := r; exact ⟨_, .str x t, fun a h => nomatch h⟩
  | .tup xs, _, _, _, ⟨a, vs, q, f, rl⟩, r, e => by
    unfold toQ at e
    cases e1 : toQL xs with
    | none => rw [e1] at e; cases e
    | some ps =>
      rw [e1] at e
      cases e
      subst q
      cases r
      obtain ⟨its, rv, ⟨o, ho, hc, n, hd⟩, _⟩ := I.tuple (hK ▸ f.sq)
      obtain ⟨as, q1, q2⟩ := rf_readsL hK zd I rl rv e1
      exact ⟨_, .tuple ho hc hd q1, q2⟩
  | .lst xs, _, _, _, ⟨a, vs, q, f, rl⟩, r, e => by
    unfold toQ at e
    cases e1 : toQL xs with
    | none => rw [e1] at e; cases e
    | some ps =>
      rw [e1] at e
      cases e
      subst q
      cases r
      obtain ⟨its, rv, ⟨o, n, ho, hc, _, hd⟩, _⟩ := I.list (X := X) (SqL.of f.2)
      obtain ⟨as, q1, q2⟩ := rf_readsL hK zd I rl rv e1
      exact ⟨_, .list ho hc hd q1, fun b hb => (List.mem_cons.mp hb).elim (fun e => by rw [e]; exact zd a f.1) (q2 b)⟩
  | .dct ks xs, _, _, _, ⟨a, vs, q, f, l, rl⟩, r, e => by
    unfold toQ at e
    cases e1 : toQL xs with
    | none => rw [e1] at e; cases e
    | some ps =>
      rw [e1] at e
      cases e
      subst q
      cases r
      have hl : ks.length = vs.length := by rw [l, rl.length]
      obtain ⟨_, hsm, kvs, kv, o, es, ep, ho, hx, hd, hks, hp, nd⟩ : ObjOk X.prog X.w H s.heap a (.dK (ks.zip vs)) := by
        rcases f.2 with g | ⟨o, g⟩
        · exact I.hok a _ g
        · exact (show ObjOk X.prog X.w H s.heap a (.frz o (.dK (ks.zip vs))) from I.hok a _ g).2
      obtain ⟨ek, rv⟩ := kv_zip hl kv
      obtain ⟨as, q1, q2⟩ := rf_readsL hK zd I rl rv e1
      have lp : ks.length = ps.length := by
        have : ∀ {xs : List D} {ps : List PyData}, toQL xs = some ps → xs.length = ps.length := by
          intro xs
          induction xs with
          | nil => intro ps e; cases e; rfl
          | cons x xs ih =>
            intro ps e
            unfold toQL at e
            cases e2 : toQ x with
            | none => rw [e2] at e; cases e
            | some p =>
              cases e3 : toQL xs with
              | none => rw [e2, e3] at e; cases e
              | some ps => rw [e2, e3] at e; cases e; rw [List.length_cons, List.length_cons, ih e3]
        rw [l, this e1]
      have z1 : (((ks.map kQ).zip ps).map (·.1)) = ks.map kQ := List.map_fst_zip (by rw [List.length_map, lp]; exact Nat.le_refl _)
      have z2 : (((ks.map kQ).zip ps).map (·.2)) = ps := List.map_snd_zip (by rw [List.length_map, lp]; exact Nat.le_refl _)
      refine ⟨_, .dict (as := []) (bs := as) ho hx.1 hd ?_ ?_, fun b hb => ?_⟩
      · rw [z1, ← ek]; exact reads_keys (X := X) hp
      · rw [z2, pairs_vals hp]; exact q1
      · rcases List.mem_cons.mp hb with e | hb
        · rw [e]; exact zd a f.1
        · exact q2 b hb
  | .ty _, _, _, _, _, _, e | .at _, _, _, _, _, _, e | .ins _ _ _, _, _, _, _, _, e | .exc _ _ _, _, _, _, _, _, e | .drw _ _ _ _, _, _, _, _, _, e | .fls _, _, _, _, _, _, e | .lam _, _, _, _, _, _, e => by cases e
theorem rf_readsL (hK : G.K = X.K) (zd : ∀ a, Z a → H a ≠ none) (I : L2.Inv X pins σ H s) : ∀ {ds : List D} {vs : List V} {us : List Value} {ps : List PyData}, RfL G Z H ds vs → Vals vs us → toQL ds = some ps → ∃ as, ReadsAll s.heap us ps as ∧ NoSys as H
  | [], _, _, _, h, r, e => by cases e; cases h; cases r; exact ⟨_, .nil, fun a h => nomatch h⟩
  | x :: xs, _, _, _, ⟨v, w, q, h1, h2⟩, r, e => by
    unfold toQL at e
    cases e1 : toQ x with
    | none => rw [e1] at e; cases e
    | some p =>
      cases e2 : toQL xs with
      | none => rw [e1, e2] at e; cases e
      | some ps =>
        rw [e1, e2] at e
        cases e
        subst q
        cases r with
        | cons r1 r2 =>
          obtain ⟨as, a1, a2⟩ := rf_reads hK zd I h1 r1 e1
          obtain ⟨bs, b1, b2⟩ := rf_readsL hK zd I h2 r2 e2
          exact ⟨_, .cons a1 b1, fun b hb => (List.mem_append.mp hb).elim (a2 b) (b2 b)⟩
end
end
/-- repr(x), x a list, a tuple, a dict of data -/
def rRep (G : Gc) : List V → Hp → VK → Prop := fun xs H Q => ∃ (a : Addr) (d : D) (Z : Addr → Prop) (p : PyData), xs = [.ref a] ∧ Rf G Z H d (.ref a) ∧ (∀ a, Z a → H a ≠ none) ∧ toQ d = some p ∧ p.showable = true ∧ p.shown.length ≤ sizeLine ∧ p.depth ≤ 60 ∧ Q (.str p.shown) H
theorem call_rep {X : Cx} {G : Gc} (hK : G.K = X.K) (hg : X.A.guards = some []) (hu : X.A.units + 64 < cLine) (hsy : (X.K.lookup sysModules).isSome = true) : CallR X (.builtin "repr") (rRep G) := by
  intro pins s σ H xs us Q I r h
  obtain ⟨a, d, Z, p, rfl, f, zd, e, hs, hz, hd, q⟩ := h
  cases r with
  | cons rx rr =>
    cases rr
    cases rx
    obtain ⟨as, r1, r2⟩ := rf_reads hK zd I f rfl e
    refine PySem.repr_of_reads' r1 hs (fun _ hm => ?_) hg (by omega) (fun b o e => e) (fun h' u tk k => ⟨.str p.shown, H, I.kept (t' := tk) k, ⟨u, rfl⟩, q⟩) hz
    obtain ⟨o, ho⟩ := Option.isSome_iff_exists.mp hsy
    exact r2 _ hm (I.bs _ _ (I.ok.mod.kin _ _ ho)).2
end PB
set_option maxRecDepth 100000
set_option maxHeartbeats 4000000
/-! PX5: calls of built-in functions and of classes, by data. -/
namespace PB
open PySem PySem.Spec PySem.Calls L2
open PySem.W (findIn specialIn takesIn mroIn kitOne keepIn)
variable {G : Gc} {W : WX} {X : Cx}
/-- a function of a list of values does f -/
def OpN (G : Gc) (W : WX) (r : List V → Hp → VK → Prop) (f : List D → Option D) : Prop := ∀ Z O ρ σ H vs ds d Q, R G Z O ρ σ H → RfL G Z H ds vs → f ds = some d → cont G W (.ok d ρ) Z O σ H Q → r vs H Q
/-- .. and what it gives is new -/
def OpNO (G : Gc) (W : WX) (r : List V → Hp → VK → Prop) (f : List D → Option D) : Prop := ∀ Z O ρ σ H vs ds d Q, R G Z O ρ σ H → RfL G Z H ds vs → f ds = some d → contG G W (repO G) (.ok d ρ) Z O σ H Q → r vs H Q
def mFn (f : List D → Option D) (ms : M (List D)) : M D := fun ρ => (ms ρ).bind fun ds ρ => optR (f ds) ρ
theorem opN_tCB {r : List V → Hp → VK → Prop} {f : List D → Option D} {ms : M (List D)} (hf : OpN G W r f) {σ : St} {H : Hp} {Q : VK} (q : lift G W (mFn f ms) σ H Q) : tCB r (liftL G W ms) σ H Q := by
  refine liftG.mono (liftG.bind (rep := repL G) q) fun v H1 ⟨Z1, O1, ρ1, ds, r1, f1, q1⟩ => ?_
  cases e : f ds with
  | none => rw [e] at q1; exact q1.elim
  | some d => rw [e] at q1; exact hf Z1 O1 ρ1 σ H1 v ds d Q r1 f1 e q1
theorem opNO_tCB {r : List V → Hp → VK → Prop} {f : List D → Option D} {ms : M (List D)} (hf : OpNO G W r f) {σ : St} {H : Hp} {Q : VK} (q : liftO G W (mFn f ms) σ H Q) : tCB r (liftL G W ms) σ H Q := by
  refine liftG.mono (liftG.bind (rep := repL G) q) fun v H1 ⟨Z1, O1, ρ1, ds, r1, f1, q1⟩ => ?_
  cases e : f ds with
  | none => rw [e] at q1; exact q1.elim
  | some d => rw [e] at q1; exact hf Z1 O1 ρ1 σ H1 v ds d Q r1 f1 e q1
theorem OpN.or {r r' : List V → Hp → VK → Prop} {f f' : List D → Option D} (h : OpN G W r f) (h' : OpN G W r' f') : OpN G W (fun x H Q => r x H Q ∨ r' x H Q) (fun x => (f x).orElse fun _ => f' x) := fun Z O ρ σ H vs ds d Q rr f1 e q => by
  have e : (f ds).orElse (fun _ => f' ds) = some d := e
  cases e1 : f ds with
  | some d' => rw [e1] at e; cases e; exact .inl (h Z O ρ σ H vs ds _ Q rr f1 e1 q)
  | none => rw [e1] at e; exact .inr (h' Z O ρ σ H vs ds _ Q rr f1 e q)
theorem callR_or {f : Value} {r r' : List V → Hp → VK → Prop} (h : CallR X f r) (h' : CallR X f r') : CallR X f (fun x H Q => r x H Q ∨ r' x H Q) := fun pins s σ H vs us Q I rv q => q.elim (h pins s σ H vs us Q I rv) (h' pins s σ H vs us Q I rv)
section
variable {x : Str} {id T : String} {r : List V → Hp → VK → Prop} {f : List D → Option D} {e : Expr} {es : List Expr} {ms : M (List D)} {p pos : Pos}
theorem d_fn (hc : CallR X (.builtin id) r) (hf : OpN G W r f) (hg : Gl X x) (hm : X.mg x = none) (hv : bootBuiltins x = some (.builtin id)) (ha : PA X (e :: es) (liftL G W ms)) (hn : x ≠ "__name__" := by decide) (hdb : (x == ("__debug__" : Str)) = false := by decide)
    (he : starEach (e :: es) X.env = (false, eval e X.env) :: starEach es X.env := by rfl) (hpl : (backTo pos (starEach es X.env)).any (·.1) = false := by rfl) : PE X (.Call (.Name x p) (e :: es) [] pos) (lift G W (mFn f ms)) :=
  PE_imp (pe_callB hc hg hm hv ha hn hdb he hpl) fun σ H Q q => opN_tCB hf q
theorem d_ty (hc : CallR X (.type T) r) (hf : OpN G W r f) (hg : Gl X x) (hm : X.mg x = none) (hv : bootBuiltins x = some (.type T)) (ha : PA X (e :: es) (liftL G W ms)) (hn : x ≠ "__name__" := by decide) (hdb : (x == ("__debug__" : Str)) = false := by decide)
    (he : starEach (e :: es) X.env = (false, eval e X.env) :: starEach es X.env := by rfl) (hpl : (backTo pos (starEach es X.env)).any (·.1) = false := by rfl) : PE X (.Call (.Name x p) (e :: es) [] pos) (lift G W (mFn f ms)) :=
  PE_imp (pe_callTy hc hg hm hv ha hn hdb he hpl) fun σ H Q q => opN_tCB hf q
theorem o_ty (hc : CallR X (.type T) r) (hf : OpNO G W r f) (hg : Gl X x) (hm : X.mg x = none) (hv : bootBuiltins x = some (.type T)) (ha : PA X (e :: es) (liftL G W ms)) (hn : x ≠ "__name__" := by decide) (hdb : (x == ("__debug__" : Str)) = false := by decide)
    (he : starEach (e :: es) X.env = (false, eval e X.env) :: starEach es X.env := by rfl) (hpl : (backTo pos (starEach es X.env)).any (·.1) = false := by rfl) : PE X (.Call (.Name x p) (e :: es) [] pos) (liftO G W (mFn f ms)) :=
  PE_imp (pe_callTy hc hg hm hv ha hn hdb he hpl) fun σ H Q q => opNO_tCB hf q
end
/-- one flat answer of one datum -/
theorem opN_flat {r : List V → Hp → VK → Prop} {f : List D → Option D} (h : ∀ Z H vs ds d Q, RfL G Z H ds vs → f ds = some d → (∀ u, (∀ Z' H', Rf G Z' H' d u) → Q u H) → r vs H Q) : OpN G W r f := fun Z O ρ σ H vs ds d Q rr f1 e q =>
  h Z H vs ds d Q f1 e fun u hu => q u Z O H .refl rr (hu _ _)
theorem rfl1 {Z : Addr → Prop} {H : Hp} {d : D} {vs : List V} (h : RfL G Z H [d] vs) : ∃ v, vs = [v] ∧ Rf G Z H d v := by
  obtain ⟨v, r, e, h1, h2⟩ := h
  cases h2
  exact ⟨v, e, h1⟩
theorem rfl2 {Z : Addr → Prop} {H : Hp} {d d2 : D} {vs : List V} (h : RfL G Z H [d, d2] vs) : ∃ v w, vs = [v, w] ∧ Rf G Z H d v ∧ Rf G Z H d2 w := by
  obtain ⟨v, r, e, h1, h2⟩ := h
  obtain ⟨w, rfl, h3⟩ := rfl1 h2
  exact ⟨v, w, e, h1, h3⟩
/-! ### len, abs, int -/
def fLen : List D → Option D
  | [.str x] => if x.length ≤ lim then some (.int x.length) else none
  | [.tup xs] => some (.int xs.length)
  | [.lst xs] => some (.int xs.length)
  | [.fls xs] => some (.int xs.length)
  | _ => none
theorem n_len : OpN G W (fun xs H Q => ∃ x n, xs = [x] ∧ LenV G.K x H n ∧ Q (.int n) H) fLen := opN_flat fun Z H vs ds d Q f1 e q => by
  unfold fLen at e
  split at e
  · rename_i x
    obtain ⟨v, rfl, h⟩ := rfl1 f1
    cases h
    split at e
    · rename_i hz
      cases e
      exact ⟨_, x.length, rfl, ⟨by rw [← lim_eq]; exact hz, rfl⟩, q _ fun _ _ => rfl⟩
    · cases e
  · obtain ⟨v, rfl, a, ws, rfl, g, rl⟩ := rfl1 f1
    cases e
    rw [rl.length] at q
    exact ⟨_, ws.length, rfl, .inr ⟨ws, g.sq, rfl⟩, q _ fun _ _ => rfl⟩
  · obtain ⟨v, rfl, a, ws, rfl, g, rl⟩ := rfl1 f1
    cases e
    rw [rl.length] at q
    exact ⟨_, ws.length, rfl, .inl ⟨ws, g.sq, rfl⟩, q _ fun _ _ => rfl⟩
  · obtain ⟨v, rfl, a, ws, rfl, g, rl⟩ := rfl1 f1
    cases e
    rw [rl.length] at q
    exact ⟨_, ws.length, rfl, .inl ⟨ws, g.sq, rfl⟩, q _ fun _ _ => rfl⟩
  · cases e
def fAbs : List D → Option D
  | [.int i] => some (.int (if i < 0 then -i else i))
  | _ => none
theorem n_abs : OpN G W (fun xs H Q => ∃ i, xs = [.int i] ∧ Q (.int (if i < 0 then -i else i)) H) fAbs := opN_flat fun Z H vs ds d Q f1 e q => by
  unfold fAbs at e
  split at e
  · rename_i i
    obtain ⟨v, rfl, h⟩ := rfl1 f1
    cases h; cases e
    exact ⟨i, rfl, q _ fun _ _ => rfl⟩
  · cases e
def fInt : List D → Option D
  | [.int i] => some (.int i)
  | _ => none
theorem n_int : OpN G W (fun xs H Q => (∃ i, xs = [.int i] ∧ Q (.int i) H) ∨ ∃ k, xs = [.bl k] ∧ Q (.int (if k then 1 else 0)) H) fInt := opN_flat fun Z H vs ds d Q f1 e q => by
  unfold fInt at e
  split at e
  · rename_i i
    obtain ⟨v, rfl, h⟩ := rfl1 f1
    cases h; cases e
    exact .inl ⟨i, rfl, q _ fun _ _ => rfl⟩
  · cases e
def fMin (g : Int → Int → Int) : List D → Option D
  | [.int i, .int j] => some (.int (g i j))
  | _ => none
theorem n_two {g : Int → Int → Int} : OpN G W (fun xs H Q => ∃ i j, xs = [.int i, .int j] ∧ Q (.int (g i j)) H) (fMin g) := opN_flat fun Z H vs ds d Q f1 e q => by
  unfold fMin at e
  split at e
  · rename_i i j
    obtain ⟨v, w, rfl, h1, h2⟩ := rfl2 f1
    cases h1; cases h2; cases e
    exact ⟨i, j, rfl, q _ fun _ _ => rfl⟩
  · cases e
/-! ### isinstance -/
abbrev Tn := Nat ⊕ String
def tnV (G : Gc) : Tn → Value
  | .inl n => .ref (G.cl n)
  | .inr s => .type s
def tyD : D → Option Tn
  | .non => some (.inr "NoneType")
  | .bl _ => some (.inr "bool")
  | .int _ => some (.inr "int")
  | .str _ => some (.inr "str")
  | .tup _ => some (.inr "tuple")
  | .lst _ => some (.inr "list")
  | .dct _ _ => some (.inr "dict")
  | .ins c _ _ => some (.inl c)
  | .exc c _ _ => some (.inl c)
  | _ => none
def clD : D → Option Tn
  | .at n => some (.inl n)
  | .ty n => some (.inr n)
  | _ => none
/-- the text's own classes: which are exceptions, which are plain ones, and who is whose -/
structure ClF (G : Gc) (is : Tn → Tn → Option Bool) (exB inB : Nat → Bool) : Prop where
  kit : ∀ t c b, is t c = some b → kitOne G.K (tnV G t) (tnV G c) = some b
  exc : ∀ n, exB n = true → ExcC G.K (G.cl n)
  ins : ∀ n, inB n = true → Cls G.K (G.cl n) ∧ findIn G.K (.ref (G.cl n)) "__class__" = some (some (.builtin "object.__class__")) ∧ mroIn G.K (G.cl n) (.type "object") = some true
  sp : specialIn G.K (.builtin "object.__class__") "__get__" = some (some (.builtin "getset_descriptor.__get__"))
  tk : takesIn G.K (.builtin "object.__class__") = some true
def isOk (exB inB : Nat → Bool) : D → Bool
  | .ins c _ _ => inB c
  | .exc c _ _ => exB c
  | _ => true
def fIsi (is : Tn → Tn → Option Bool) (exB inB : Nat → Bool) : List D → Option D
  | [x, c] => if isOk exB inB x = true then (tyD x).bind fun t => (clD c).bind fun k => (is t k).map .bl else none
  | _ => none
theorem clD_v {Z : Addr → Prop} {H : Hp} {d : D} {v : V} {k : Tn} (h : Rf G Z H d v) (e : clD d = some k) : ClsV v (tnV G k) := by
  cases d <;> first | (cases e; done) | skip
  · cases e; cases h; exact .ty _
  · cases e; cases h; exact .own _
theorem n_isi {is : Tn → Tn → Option Bool} {exB inB : Nat → Bool} (C : ClF G is exB inB) : OpN G W (fun xs H Q => rIsi G.K xs H Q ∨ rIsX G.K xs H Q) (fIsi is exB inB) := opN_flat fun Z H vs ds d Q f1 e q => by
  unfold fIsi at e
  split at e
  · rename_i x c
    obtain ⟨v, w, rfl, h1, h2⟩ := rfl2 f1
    split at e
    · rename_i ok
      cases e1 : tyD x with
      | none => rw [e1] at e; cases e
      | some t =>
        cases e2 : clD c with
        | none => rw [e1, e2] at e; cases e
        | some k =>
          cases e3 : is t k with
          | none => rw [e1, e2] at e; simp only [Option.bind_some, e3] at e; cases e
          | some b =>
            rw [e1, e2] at e
            simp only [Option.bind_some, e3, Option.map_some] at e
            cases e
            have kk := C.kit t k b e3
            have kc := clD_v h2 e2
            have qq := q (.bl b) fun _ _ => rfl
            cases x with
            | non => cases e1; cases h1; exact .inl ⟨_, _, _, _, b, rfl, kc, .base .non, kk, qq⟩
            | bl y => cases e1; cases h1; exact .inl ⟨_, _, _, _, b, rfl, kc, .base (.bl y), kk, qq⟩
            | int y => cases e1; cases h1; exact .inl ⟨_, _, _, _, b, rfl, kc, .base (.int y), kk, qq⟩
            | str y => cases e1; cases h1; exact .inl ⟨_, _, _, _, b, rfl, kc, .base (.str y), kk, qq⟩
            | tup ys =>
              cases e1
              obtain ⟨a, ws, rfl, g, rl⟩ := h1
              rcases g with ⟨_, g⟩ | ⟨o, its, n, g1, g2, _⟩
              · exact .inl ⟨_, _, _, _, b, rfl, kc, .base (.tup g), kk, qq⟩
              · exact .inl ⟨_, _, _, _, b, rfl, kc, .kTuple g1 g2, kk, qq⟩
            | lst ys =>
              cases e1
              obtain ⟨a, ws, rfl, g, rl⟩ := h1
              exact .inl ⟨_, _, _, _, b, rfl, kc, .base (.lst g.2), kk, qq⟩
            | dct ks ys =>
              cases e1
              obtain ⟨a, ws, rfl, g, l, rl⟩ := h1
              rcases g.2 with g | ⟨o, g⟩
              · exact .inl ⟨_, _, _, _, b, rfl, kc, .base (.dK g), kk, qq⟩
              · exact .inl ⟨_, _, _, _, b, rfl, kc, .fDict g, kk, qq⟩
            | ins n ns ys =>
              cases e1
              obtain ⟨a, dx, ws, rfl, _, g1, _⟩ := h1
              obtain ⟨c1, c2, c3⟩ := C.ins n ok
              exact .inl ⟨_, _, _, _, b, rfl, kc, .base (.ins g1 c1 c2 C.sp C.tk c3), kk, qq⟩
            | exc n ns ys =>
              cases e1
              obtain ⟨a, dd, ws, rfl, z, g1, g2, _⟩ := h1
              refine .inr ⟨a, G.cl n, dd, w, _, b, rfl, g1, ?_, C.exc n ok, kc, kk, qq⟩
              cases dd with
              | none => exact trivial
              | some d' => exact ⟨_, g2.2⟩
            | _ => cases e1
    · cases e
  · cases e
theorem call_isD {is : Tn → Tn → Option Bool} : CallR X (.builtin "isinstance") (fun xs H Q => rIsi X.K xs H Q ∨ rIsX X.K xs H Q) := callR_or call_isi call_isX
/-! ### repr -/
def fRep : List D → Option D
  | [x] => match x with
    | .tup _ | .lst _ | .dct _ _ => (toQ x).bind fun p => if (p.showable && decide (p.shown.length ≤ lim) && decide (p.depth ≤ 60)) = true then some (.str p.shown) else none
    | _ => none
  | _ => none
theorem n_rep : OpN G W (rRep G) fRep := fun Z O ρ σ H vs ds d Q rr f1 e q => by
  unfold fRep at e
  split at e
  · rename_i x
    obtain ⟨v, rfl, h⟩ := rfl1 f1
    have key : ∀ {a : Addr}, v = .ref a → (toQ x).bind (fun p => if (p.showable && decide (p.shown.length ≤ lim) && decide (p.depth ≤ 60)) = true then some (D.str p.shown) else none) = some d → rRep G [v] H Q := fun {a} ev e => by
      cases e1 : toQ x with
      | none => rw [e1] at e; cases e
      | some p =>
        rw [e1] at e
        simp only [Option.bind_some] at e
        split at e
        · rename_i ok
          cases e
          simp only [Bool.and_eq_true, decide_eq_true_eq] at ok
          subst ev
          exact ⟨a, x, Z, p, rfl, h, fun a z => (rr.zd a z).ne, e1, ok.1.1, by rw [← lim_eq]; exact ok.1.2, ok.2, q _ Z O H .refl rr rfl⟩
        · cases e
    split at e
    · obtain ⟨a, _, ev, _⟩ := id h; exact key ev e
    · obtain ⟨a, _, ev, _⟩ := id h; exact key ev e
    · obtain ⟨a, _, ev, _⟩ := id h; exact key ev e
    · cases e
  · cases e
end PB
set_option maxRecDepth 100000
set_option maxHeartbeats 4000000
/-! PX6: exceptions by data; lists and dicts that a slot owns; the draw. -/
namespace PB
open PySem PySem.Spec PySem.Calls L2
open PySem.W (findIn typeIn keepIn)
variable {G : Gc} {W : WX} {X : Cx} {I : List Nat}
theorem upd_upd {H : Hp} {a : Addr} {o o' : HO} : upd (upd H a o) a o' = upd H a o' := by
  funext b
  by_cases h : b = a
  · rw [h, upd_same, upd_same]
  · rw [upd_ne h, upd_ne h, upd_ne h]
theorem PE.less {e : Expr} {t : TE} (h : PE X e t) : PE X e (fun σ H Q => t σ H fun v H1 => ∃ (a : Addr) (φ : Heap → Prop) (o : HO), H1 a = some (.ext φ) ∧ (∀ h, φ h → ObjOk X.prog X.w (upd H1 a o) h a o) ∧ Q v (upd H1 a o)) :=
  ⟨fun pins s σ H Q J q => thn (h.run pins s σ H _ J q) fun u s1 ⟨v, H1, I1, r1, a, φ, o, e, n, q⟩ => ⟨v, _, inv_less I1 e (n _ (I1.hok a _ e).1), r1, q⟩⟩
/-! ### exceptions -/
def mX0 (c : Nat) (m : M D) : M D := fun ρ => (m ρ).bind fun _ ρ => .ok (.exc c [] []) ρ
def mX1 (c : Nat) (f : Str) (m : M D) : M D := fun ρ => (m ρ).bind fun d ρ => .ok (.exc c [f] [d]) ρ
section
variable {c : Nat} {x prm fld : Str} {e : Expr} {m : M D} {p pos kpos : Pos} {fI : Addr} {k : Nat} {fd : FuncData} {CX : CXT}
theorem d_x0 {bmB : List Value} {B newId initId : String} (F : ExcBaseFacts B newId initId bmB) (q : PySem.W.excIn X.K (G.cl c) bmB newId = true) (gC : X.mg x = some (.ref (G.cl c))) (kC : keepIn X.K (.ref (G.cl c)) = true) (hg : Gl X x)
    (he : PE X e (lift G W m)) (hs : starEach [e] X.env = (false, eval e X.env) :: starEach [] X.env := by rfl) (hdb : (x == ("__debug__" : Str)) = false := by decide) : PE X (.Call (.Name x p) [e] [] pos) (lift G W (mX0 c m)) :=
  PE_imp (PE.less (pe_exc1 F q gC kC hg he hs hdb)) fun σ H Q q => liftG.mono (liftG.bind (rep := repF G) q) fun v H1 ⟨Z1, O1, ρ1, d1, r1, f1, q1⟩ => fun a ha =>
    ⟨a, _, ExcO (.ref (G.cl c)) none a, upd_same, fun h ⟨oe, vs, e1, z, d, _⟩ => excO_ok e1 z.1 z.2 d, by
      rw [upd_upd]
      exact q1 _ _ _ _ (.new ha) (r1.new ha) ⟨a, none, [], rfl, .inr rfl, upd_same, rfl, rfl, rfl⟩⟩
/-- what a made exception is read as -/
def tXm (C : Addr) (fld : Str) (te : TE) : TE := fun σ H Q => te σ H fun y H1 => ∀ a dx, H1 a = none → H1 dx = none → dx ≠ a → Q (.ref a) (upd (upd H1 a (ExcO (.ref C) (some dx) a)) dx (.xd [(fld, y)]))
theorem xm_imp {σ : St} {H : Hp} {Q : VK} (q : lift G W (mX1 c fld m) σ H Q) : tXm (G.cl c) fld (lift G W m) σ H Q := liftG.mono (liftG.bind (rep := repF G) q) fun v H1 ⟨Z1, O1, ρ1, d1, r1, f1, q1⟩ => fun a dx ha hd ne => by
  have hd2 : upd H1 a (ExcO (.ref (G.cl c)) (some dx) a) dx = none := by rw [upd_ne ne]; exact hd
  refine q1 _ _ _ _ ((Ext.new ha).trans (.new hd2)) ((r1.new ha).new hd2) ⟨a, some dx, [v], rfl, .inl (.inr rfl), ?_, ⟨.inr rfl, upd_same⟩, rfl, RfL.one ?_⟩
  · rw [upd_ne (Ne.symm ne), upd_same]
  · exact f1.keep (fun _ z => .inl (.inl z)) fun b o z e => by
      rw [upd_ne (ne_of_none e hd), upd_ne (ne_of_none e ha)]; exact .inl e
theorem d_x1 (T : OexC X.K (G.cl c)) (iC : findIn X.K (.ref (G.cl c)) "__init__" = some (some (.ref fI))) (tI : typeIn X.K (.ref fI) = some (.type "function")) (F1 : FnOk X.prog X.w X.K X.mg X.base CX k fI fd ["self", prm] (spInit X.K (G.cl c) fld))
    (hr : Room (k + 1) X.A) (hx : Passes CX X (fun _ _ _ => False)) (hb : Binds X.K fd ["self", prm] []) (hg : Gl X x) (hm : X.mg x = some (.ref (G.cl c))) (he : PE X e (lift G W m))
    (hs : starEach [e] X.env = (false, eval e X.env) :: starEach [] X.env := by rfl) (hdb : (x == ("__debug__" : Str)) = false := by decide) : PE X (.Call (.Name x p) [e] [] pos) (lift G W (mX1 c fld m)) := by
  refine PE_imp (t := tXm (G.cl c) fld (lift G W m)) ⟨fun pins s σ H Q J h => ?_⟩ fun σ H Q q => xm_imp q
  refine wpAny_Call_Name_kw (ld_glob J hg hm ?_ hdb)
  refine PySem.W.callWith_K (h₀ := X.base) J.ok.mod.kin T.kC ?_ hs (by rfl)
  rw [hs]
  show wpAny _ _ (spliced ((false, eval e X.env) :: backTo pos (starEach [] X.env))) _ _ s
  refine Calls.spliced_cons (thn (he.run pins s σ H _ J h) fun u s1 ⟨v, H1, I1, r1, q1⟩ => Calls.spliced_nil ⟨I1.kIn, ?_⟩)
  exact xv_core (rest := [u]) (kw := []) T iC tI F1 hr hx I1 r1 (by show 1 ≤ sizeLine; rw [sizeLine_eq]; omega) (fun a s' kin => by
    have := hb s' [.ref a, u] kin rfl
    rw [List.append_nil] at this
    exact this) q1
theorem d_xk (T : OexC X.K (G.cl c)) (iC : findIn X.K (.ref (G.cl c)) "__init__" = some (some (.ref fI))) (tI : typeIn X.K (.ref fI) = some (.type "function")) (F1 : FnOk X.prog X.w X.K X.mg X.base CX k fI fd ["self", prm] (spInit X.K (G.cl c) fld))
    (hr : Room (k + 1) X.A) (hx : Passes CX X (fun _ _ _ => False)) (hb : ∀ (a : Addr) (u : Value) (s' : Shared), X.K.In s'.heap → BindsTo s' fd ⟨[.ref a], [(prm, u)]⟩ ((["self", prm] : List Str).zip [.ref a, u])) (hg : Gl X x) (hm : X.mg x = some (.ref (G.cl c))) (he : PE X e (lift G W m))
    (hall : (backToKw pos (keywordEach [⟨some prm, e, kpos⟩] X.env)).all (·.1.isSome) = true := by rfl) (hks : (backToKw pos (keywordEach [⟨some prm, e, kpos⟩] X.env)).filterMap (·.1) = [prm] := by rfl)
    (hpl : ((backTo pos (starEach [] X.env)).any (·.1) || (backToKw pos (keywordEach [⟨some prm, e, kpos⟩] X.env)).any (·.1.isNone)) = false := by rfl) (hdb : (x == ("__debug__" : Str)) = false := by decide) :
    PE X (.Call (.Name x p) [] [⟨some prm, e, kpos⟩] pos) (lift G W (mX1 c fld m)) := by
  refine PE_imp (t := tXm (G.cl c) fld (lift G W m)) ⟨fun pins s σ H Q J h => ?_⟩ fun σ H Q q => xm_imp q
  refine wpAny_Call_Name_kw (ld_glob J hg hm ?_ hdb)
  refine PySem.W.callWith_KW0 (h₀ := X.base) J.ok.mod.kin T.kC hall (thn ((pk_cons he pk_nil).run pos pins s σ H (fun vs H1 => ∃ y, vs = [y] ∧ ∀ a dx, H1 a = none → H1 dx = none → dx ≠ a → Q (.ref a) (upd (upd H1 a (ExcO (.ref (G.cl c)) (some dx) a)) dx (.xd [(fld, y)]))) J ?_) fun ws s1 ⟨vs, H1, I1, r1, y, ev, q1⟩ => ⟨I1.kIn, ?_⟩) hpl
  · exact liftG.mono h fun y H1 q => ⟨y, rfl, q⟩
  · subst ev
    cases r1 with
    | cons ry rn =>
      cases rn
      rw [hks]
      exact xv_core (rest := []) (kw := [(prm, _)]) T iC tI F1 hr hx I1 ry (Nat.zero_le _) (fun a s' kin => hb a _ s' kin) q1
end
/-- one field -/
def xfD (fok : Nat → Str → Bool) (n : Str) : D → Option D
  | .exc c ns xs => if fok c n = true then (ns.zip xs).lookup n else none
  | _ => none
def m1 (f : D → Option D) (m : M D) : M D := fun ρ => (m ρ).bind fun d ρ => optR (f d) ρ
theorem zip_lookup {Z : Addr → Prop} {H : Hp} {n : Str} {d : D} : ∀ {ns : List Str} {xs : List D} {vs : List V}, RfL G Z H xs vs → (ns.zip xs).lookup n = some d → ∃ v, (ns.zip vs).lookup n = some v ∧ Rf G Z H d v
  | [], _, _, _, e => by cases e
  | _ :: _, [], _, _, e => by cases e
  | k :: ns, x :: xs, _, ⟨v, w, q, h1, h2⟩, e => by
    subst q
    rw [List.zip_cons_cons] at e ⊢
    rw [List.lookup_cons] at e ⊢
    cases q : n == k with
    | true => rw [q] at e; simp only at e ⊢; cases e; exact ⟨v, rfl, h1⟩
    | false => rw [q] at e; simp only at e ⊢; exact zip_lookup h2 e
theorem d_xf {e : Expr} {n : Str} {m : M D} {pos : Pos} {fok : Nat → Str → Bool} (hf : ∀ c, fok c n = true → XfC X.K (G.cl c) ∧ findIn X.K (.ref (G.cl c)) n = some none) (he : PE X e (lift G W m)) (hb : attributeBase e n X.env (eval e X.env) = eval e X.env := by rfl) :
    PE X (.Attribute e n pos) (lift G W (m1 (xfD fok n) m)) := PE_imp (pe_xv he hb) fun σ H Q q => liftG.mono (liftG.bind (rep := repF G) q) fun v H1 ⟨Z1, O1, ρ1, d1, r1, f1, q1⟩ => by
  cases e1 : xfD fok n d1 with
  | none => rw [e1] at q1; exact q1.elim
  | some d =>
    rw [e1] at q1
    cases d1 with
    | exc c ns xs =>
      have e2 : (if fok c n = true then (ns.zip xs).lookup n else none) = some d := e1
      split at e2
      · rename_i ok
        obtain ⟨a, dd, vs, rfl, z, g1, g2, l, rl⟩ := f1
        obtain ⟨w, e3, f3⟩ := zip_lookup rl e2
        cases dd with
        | none =>
          have g2 : ns.zip vs = [] := g2
          rw [g2] at e3; cases e3
        | some dd => exact ⟨a, G.cl c, dd, _, w, rfl, g1, g2.2, (hf c ok).1, (hf c ok).2, e3, q1 _ Z1 O1 H1 .refl r1 f3⟩
      · cases e2
    | _ => cases e1
/-! ### raise -/
def sX1 (c : Nat) (f : Str) (m : M D) : M Fl := fun ρ => (m ρ).bind fun d ρ => .ex (.exc c [f] [d]) ρ
def sX0 (c : Nat) (m : M D) : M Fl := fun ρ => (m ρ).bind fun _ ρ => .ex (.exc c [] []) ρ
end PB
set_option maxRecDepth 100000
set_option maxHeartbeats 4000000
/-! PX7: raise; what a slot owns, changed and looked at. -/
namespace PB
open PySem PySem.Spec PySem.Calls L2
open PySem.W (findIn typeIn keepIn)
variable {G : Gc} {W : WX} {X : Cx} {I : List Nat}
/-! ### raise -/
section
variable {c : Nat} {x prm fld : Str} {e : Expr} {m : M D} {p pos pos2 : Pos} {fI : Addr} {k : Nat} {fd : FuncData} {CX : CXT}
theorem s_raise1 (hc : X.calm = true) (tk : Takes X W) (T : OexC X.K (G.cl c)) (iC : findIn X.K (.ref (G.cl c)) "__init__" = some (some (.ref fI))) (tI : typeIn X.K (.ref fI) = some (.type "function"))
    (F1 : FnOk X.prog X.w X.K X.mg X.base CX k fI fd ["self", prm] (spInit X.K (G.cl c) fld)) (hr : Room (k + 1) X.A) (hx : Passes CX X (fun _ _ _ => False)) (hb : Binds X.K fd ["self", prm] []) (hg : Gl X x) (hm : X.mg x = some (.ref (G.cl c))) (he : PE X e (lift G W m))
    (hdb : (x == ("__debug__" : Str)) = false := by decide) (hs : starEach [e] X.env = (false, eval e X.env) :: starEach [] X.env := by rfl) : PS X (.Raise (some (.Call (.Name x p) [e] [] pos)) none pos2) (liftS G W I (sX1 c fld m)) :=
  PS_imp (ps_raise hc tk (pmk_oex T iC tI F1 hr hb .nil hx hg hm (pa_cons he pa_nil hs) hdb hs (by rfl))) fun E σ H q => liftG.mono (liftS.bind (rep := repF G) q) fun v H1 ⟨Z1, O1, ρ1, d1, r1, f1, q1⟩ => by
    refine ⟨by show 1 ≤ 1000; omega, fun a ha => ⟨a, v, rfl, upd_same, fun dx hd ne => ?_⟩⟩
    have hd1 : H1 dx = none := by rw [upd_ne ne] at hd; exact hd
    refine ⟨rfl, dx, [(fld, v)], upd_same, by rw [upd_ne ne, upd_same], hd1, ?_⟩
    have eq : upd (del (upd (upd (upd H1 a (exo a (G.cl c) none)) dx (exd dx [(fld, v)])) a (exo a (G.cl c) (some dx))) a) dx (.xd [(fld, v)]) = upd H1 dx (.xd [(fld, v)]) := by
      funext b
      by_cases h1 : b = dx
      · rw [h1, upd_same, upd_same]
      · rw [upd_ne h1, upd_ne h1]
        by_cases h2 : b = a
        · rw [h2, del_same, ha]
        · rw [del_ne h2, upd_ne h2, upd_ne h1, upd_ne h2]
    rw [eq]
    exact q1 _ _ _ _ σ _ (.new hd1) (fun _ _ => rfl) (r1.new hd1) ⟨rfl, [v], ⟨.inr rfl, upd_same⟩, rfl, RfL.one (f1.keep (fun _ z => .inl z) fun b o _ e => .inl (upd_keep hd1 b o e))⟩
theorem s_raise0 {bmB : List Value} {B newId initId : String} (hc : X.calm = true) (tk : Takes X W) (F : ExcBaseFacts B newId initId bmB) (q : PySem.W.excIn X.K (G.cl c) bmB newId = true) (gC : X.mg x = some (.ref (G.cl c))) (kC : keepIn X.K (.ref (G.cl c)) = true)
    (hr : Raises X (.ref (G.cl c))) (hg : Gl X x) (he : PE X e (lift G W m)) (hs : starEach [e] X.env = (false, eval e X.env) :: starEach [] X.env := by rfl) (hdb : (x == ("__debug__" : Str)) = false := by decide) :
    PS X (.Raise (some (.Call (.Name x p) [e] [] pos)) none pos2) (liftS G W I (sX0 c m)) :=
  PS_imp (ps_raise hc tk (SkE.pmk_own1 F q gC kC hr hg he hs hdb)) fun E σ H q => liftG.mono (liftS.bind (rep := repF G) q) fun v H1 ⟨Z1, O1, ρ1, d1, r1, f1, q1⟩ => q1 _ _ Z1 O1 σ H1 .refl (fun _ _ => rfl) r1 ⟨rfl, [], (show ([] : List (Str × V)) = [] from rfl), rfl, rfl⟩
end
/-! ### what a slot owns -/
def getO (ρ : Env) (i : Nat) : Option D := match ρ[i]? with
  | some (.ow d) => some d
  | some (.io d) => some d
  | _ => none
def putO (ρ : Env) (i : Nat) (d : D) : Env := match ρ[i]? with
  | some (.ow _) => ρ.set i (.ow d)
  | _ => ρ.set i (.io d)
section
variable {Z : Addr → Prop} {H : Hp} {O : Nat → List Addr} {ρ : Env} {σ : St}
theorem R.getO {i : Nat} {d : D} (r : R G Z O ρ σ H) (e : getO ρ i = some d) : ∃ v, σ[i]? = some (some v) ∧ Own G Z H d v (O i) := by
  unfold PB.getO at e
  cases e1 : ρ[i]? with
  | none => rw [e1] at e; cases e
  | some s =>
    rw [e1] at e
    cases s with
    | un => cases e
    | fr _ => cases e
    | ow d' => cases e; obtain ⟨v, e2, h⟩ := r.sl i _ e1; exact ⟨v, slot_some e2, h⟩
    | io d' => cases e; obtain ⟨v, e2, h⟩ := r.sl i _ e1; exact ⟨v, slot_some e2, h⟩
theorem R.putO {i : Nat} {d d' : D} {a : Addr} {o : HO} {v : V} (r : R G Z O ρ σ H) (e : PB.getO ρ i = some d) (hv : σ[i]? = some (some v)) (ha : a ∈ O i) (h : Own G Z (upd H a o) d' v (O i)) : R G Z O (PB.putO ρ i d') σ (upd H a o) := by
  have hs : σ[i]?.getD none = some v := by rw [hv]; rfl
  have po : Pl (some o) := by have := h.there a ha; rw [upd_same] at this; exact this
  unfold PB.getO at e
  unfold PB.putO
  cases e1 : ρ[i]? with
  | none => rw [e1] at e; cases e
  | some s =>
    rw [e1] at e
    cases s with
    | un => cases e
    | fr _ => cases e
    | ow _ => exact r.write po e1 ha ⟨v, hs, h⟩
    | io _ => exact r.write po e1 ha ⟨v, hs, h⟩
theorem R.owt {i : Nat} {d : D} {v : V} (r : R G Z O ρ σ H) (h : Own G Z H d v (O i)) {a : Addr} (ha : a ∈ O i) {o : HO} : Ext Z O H Z O (upd H a o) := .write ⟨i, ha⟩ (h.there a ha).ne
end
/-- x.append(e), x's list owned -/
def sApp (i : Nat) (m : M D) : M Fl := fun ρ => match getO ρ i with
  | some (.lst _) => (m ρ).bind fun d ρ1 => match getO ρ1 i with
    | some (.lst xs) => if xs.length < lim then .ok .nx (putO ρ1 i (.lst (xs ++ [d]))) else .bad
    | _ => .bad
  | _ => .bad
section
variable {i : Nat} {o e : Expr} {m : M D} {apos cpos pos : Pos}
theorem s_app (ho : PE X o (tVar i)) (he : PE X e (lift G W m)) (hbase : attributeBase o "append" X.env (eval o X.env) = eval o X.env := by rfl)
    (hfew : ((backTo cpos (starEach [e] X.env)).all (fun x => !x.1) && (backToKw cpos (keywordEach [] X.env)).all (fun x => x.1.isSome) && decide (([e] : List Expr).length + ([] : List Keyword).length + (if ([] : List Keyword).isEmpty then 0 else 1) < 30)) = true := by rfl)
    (hline : (apos.endLine == cpos.line) = true := by rfl) (hs : starEach [e] X.env = (false, eval e X.env) :: starEach [] X.env := by rfl) (hsw : swapsWith (.Call (.Attribute o "append" apos) [e] [] cpos) none pos.line X.env = pure false := by rfl) :
    PS X (.Expr (.Call (.Attribute o "append" apos) [e] [] cpos) pos) (liftS G W I (sApp i m)) :=
  PS_imp (ps_expr (pe_bm PySem.F.plainAttrs_list PySem.F.slot_list_append PySem.F.type_list_append mt_append ho (pa_cons he pa_nil hs) hbase hfew hline hs (by rfl)) hsw) fun E σ H ⟨Z, O, ρ, r, q⟩ => by
    unfold sApp at q
    cases e1 : getO ρ i with
    | none => rw [e1] at q; exact q.elim
    | some d0 =>
      rw [e1] at q
      cases d0 <;> first | exact q.elim | skip
      obtain ⟨v, hv, a, vs, rfl, fp, ha, rl⟩ := r.getO e1
      refine ⟨_, hv, .inl ⟨rfl, vs, .of ha⟩, ⟨Z, O, ρ, r, (contS.bind (rep := repF G) q).mono fun y H1 ⟨Z1, O1, ρ1, d1, x1, r1, f1, q1⟩ => ?_⟩⟩
      cases e2 : getO ρ1 i with
      | none => rw [e2] at q1; exact q1.elim
      | some d2 =>
        rw [e2] at q1
        cases d2 <;> first | exact q1.elim | skip
        rename_i xs0 xs
        obtain ⟨v2, hv2, hown⟩ := r1.getO e2
        have hown' := hown
        obtain ⟨a2, ws, rfl, fp2, ha2, rl2⟩ := hown
        rw [hv] at hv2; cases hv2
        simp only at q1
        by_cases e3 : xs.length < lim
        · rw [if_pos e3] at q1
          have ha1 : a ∈ O1 i := by rw [fp2]; exact List.mem_singleton.mpr rfl
          refine ⟨a, ws, y, rfl, rfl, ha2, by rw [← rl2.length, ← lim_eq]; exact e3, ?_⟩
          exact q1 Z1 O1 σ _ (r1.owt hown' ha1) (fun _ _ => rfl) (r1.putO e2 hv ha1 ⟨a, _, rfl, fp2, upd_same, (rl2.append (RfL.one f1)).write r1 ⟨i, ha1⟩⟩)
        · rw [if_neg e3] at q1; exact q1.elim
/-- x.pop(e), x's list owned -/
def dPop (i : Nat) (m : M D) : M D := fun ρ => match getO ρ i with
  | some (.lst _) => (m ρ).bind fun d ρ1 => match d, getO ρ1 i with
    | .int k, some (.lst xs) => if -(2 ^ 63) ≤ k ∧ k < 2 ^ 63 then (match seqIndex? k xs.length with
      | some j => match xs[j]? with
        | some y => .ok y (putO ρ1 i (.lst (xs.eraseIdx j)))
        | none => .bad
      | none => .bad) else .bad
    | _, _ => .bad
  | _ => .bad
theorem RfL.erase {Z : Addr → Prop} {H : Hp} : ∀ {ds : List D} {vs : List V} (j : Nat), RfL G Z H ds vs → RfL G Z H (ds.eraseIdx j) (vs.eraseIdx j)
  | [], _, _, h => by cases h; exact rfl
  | _ :: _, _, 0, ⟨v, r, e, _, h⟩ => by rw [e]; exact h
  | _ :: _, _, j + 1, ⟨v, r, e, h1, h⟩ => by rw [e]; exact ⟨v, _, rfl, h1, h.erase j⟩
theorem d_pop (ho : PE X o (tVar i)) (he : PE X e (lift G W m)) (hbase : attributeBase o "pop" X.env (eval o X.env) = eval o X.env := by rfl)
    (hfew : ((backTo cpos (starEach [e] X.env)).all (fun x => !x.1) && (backToKw cpos (keywordEach [] X.env)).all (fun x => x.1.isSome) && decide (([e] : List Expr).length + ([] : List Keyword).length + (if ([] : List Keyword).isEmpty then 0 else 1) < 30)) = true := by rfl)
    (hline : (apos.endLine == cpos.line) = true := by rfl) (hs : starEach [e] X.env = (false, eval e X.env) :: starEach [] X.env := by rfl) :
    PE X (.Call (.Attribute o "pop" apos) [e] [] cpos) (lift G W (dPop i m)) :=
  PE_imp (pe_bm PySem.F.plainAttrs_list PySem.F.slot_list_pop PySem.F.type_list_pop mt_popAt ho (pa_cons he pa_nil hs) hbase hfew hline hs (by rfl)) fun σ H Q ⟨Z, O, ρ, r, q⟩ => by
    unfold dPop at q
    cases e1 : getO ρ i with
    | none => rw [e1] at q; exact q.elim
    | some d0 =>
      rw [e1] at q
      cases d0 <;> first | exact q.elim | skip
      obtain ⟨v, hv, a, vs, rfl, fp, ha, rl⟩ := r.getO e1
      refine ⟨_, hv, .inl ⟨rfl, vs, .of ha⟩, ⟨Z, O, ρ, r, (contG.bind (rep := repF G) q).mono fun y H1 ⟨Z1, O1, ρ1, d1, x1, r1, f1, q1⟩ => ?_⟩⟩
      cases d1 <;> first | exact q1.elim | skip
      rename_i k
      cases e2 : getO ρ1 i with
      | none => rw [e2] at q1; exact q1.elim
      | some d2 =>
        rw [e2] at q1
        cases d2 <;> first | exact q1.elim | skip
        rename_i xs
        obtain ⟨v2, hv2, hown⟩ := r1.getO e2
        have hown' := hown
        obtain ⟨a2, ws, rfl, fp2, ha2, rl2⟩ := hown
        rw [hv] at hv2; cases hv2
        simp only at q1
        split at q1
        · rename_i hk
          cases e3 : seqIndex? k xs.length with
          | none => rw [e3] at q1; exact q1.elim
          | some j =>
            rw [e3] at q1
            simp only at q1
            cases e4 : xs[j]? with
            | none => rw [e4] at q1; exact q1.elim
            | some z =>
              rw [e4] at q1
              cases f1
              obtain ⟨w, e5, f5⟩ := rl2.get e4
              have ha1 : a ∈ O1 i := by rw [fp2]; exact List.mem_singleton.mpr rfl
              refine ⟨a, ws, k, j, w, rfl, rfl, ha2, hk.1, hk.2, by rw [← rl2.length]; exact e3, e5, ?_⟩
              exact q1 w Z1 O1 _ (r1.owt hown' ha1) (r1.putO e2 hv ha1 ⟨a, _, rfl, fp2, upd_same, (rl2.erase j).write r1 ⟨i, ha1⟩⟩) (f5.write r1 ⟨i, ha1⟩)
        · exact q1.elim
end
end PB
set_option maxRecDepth 100000
set_option maxHeartbeats 4000000
/-! PX8: the draw of the laws. -/
namespace PB
open PySem PySem.Spec PySem.Calls L2
variable {G : Gc} {W : WX} {X : Cx} {I : List Nat}
abbrev drK (l c : Addr) (rest turn : Int) : List (Key × V) := [(.inr "large", .ref l), (.inr "rest", .int rest), (.inr "cells", .ref c), (.inr "turn", .int turn)]
theorem dr_large {l c : Addr} {r t : Int} : valV (drK l c r t) (.inr "large") = some (.ref l) := rfl
theorem dr_rest {l c : Addr} {r t : Int} : valV (drK l c r t) (.inr "rest") = some (.int r) := rfl
theorem dr_cells {l c : Addr} {r t : Int} : valV (drK l c r t) (.inr "cells") = some (.ref c) := rfl
theorem dr_turn {l c : Addr} {r t : Int} : valV (drK l c r t) (.inr "turn") = some (.int t) := rfl
theorem dp_rest {l c : Addr} {r t r' : Int} : putK (drK l c r t) (.inr "rest") (.int r') = drK l c r' t := rfl
theorem dp_turn {l c : Addr} {r t t' : Int} : putK (drK l c r t) (.inr "turn") (.int t') = drK l c r t' := rfl
theorem rfl_ints {Z : Addr → Prop} {H : Hp} : ∀ xs : List Int, RfL G Z H (xs.map D.int) (xs.map V.int)
  | [] => rfl
  | x :: xs => ⟨_, _, rfl, rfl, rfl_ints xs⟩
def drRest (i : Nat) : M D := fun ρ => match getO ρ i with
  | some (.drw _ r _ _) => .ok (.int r) ρ
  | _ => .bad
def drTurn (i : Nat) : M D := fun ρ => match getO ρ i with
  | some (.drw _ _ _ t) => .ok (.int t) ρ
  | _ => .bad
def drCells (i : Nat) : M D := fun ρ => match getO ρ i with
  | some (.drw _ _ c _) => .ok (.lst (c.map D.int)) ρ
  | _ => .bad
section
variable {i : Nat} {o e1 e : Expr} {m : M D} {pos pos' apos : Pos}
theorem d_rest (hu : X.A.units + 1 < cLine) (ho : PE X o (tVar i)) (hk : PE X e1 (tC (.str "rest"))) (hs : NoSl e1) : PE X (.Subscript o e1 pos) (lift G W (drRest i)) := PE_imp (pe_dget hu ho hk hs) fun σ H Q ⟨Z, O, ρ, r, q⟩ => by
  unfold drRest at q
  cases g : getO ρ i with
  | none => rw [g] at q; exact q.elim
  | some d0 =>
    rw [g] at q
    cases d0 <;> first | exact q.elim | skip
    obtain ⟨v, hv, a, l, c, rfl, fp, h1, h2, h3⟩ := r.getO g
    exact ⟨_, hv, a, _, rfl, .inl ⟨_, .inr "rest", .inl h1, rfl, dr_rest.symm⟩, q _ Z O H .refl r rfl⟩
theorem d_turn (hu : X.A.units + 1 < cLine) (ho : PE X o (tVar i)) (hk : PE X e1 (tC (.str "turn"))) (hs : NoSl e1) : PE X (.Subscript o e1 pos) (lift G W (drTurn i)) := PE_imp (pe_dget hu ho hk hs) fun σ H Q ⟨Z, O, ρ, r, q⟩ => by
  unfold drTurn at q
  cases g : getO ρ i with
  | none => rw [g] at q; exact q.elim
  | some d0 =>
    rw [g] at q
    cases d0 <;> first | exact q.elim | skip
    obtain ⟨v, hv, a, l, c, rfl, fp, h1, h2, h3⟩ := r.getO g
    exact ⟨_, hv, a, _, rfl, .inl ⟨_, .inr "turn", .inl h1, rfl, dr_turn.symm⟩, q _ Z O H .refl r rfl⟩
theorem d_cells (hu : X.A.units + 1 < cLine) (ho : PE X o (tVar i)) (hk : PE X e1 (tC (.str "cells"))) (hs : NoSl e1) : PE X (.Subscript o e1 pos) (lift G W (drCells i)) := PE_imp (pe_dget hu ho hk hs) fun σ H Q ⟨Z, O, ρ, r, q⟩ => by
  unfold drCells at q
  cases g : getO ρ i with
  | none => rw [g] at q; exact q.elim
  | some d0 =>
    rw [g] at q
    cases d0 <;> first | exact q.elim | skip
    obtain ⟨v, hv, a, l, c, rfl, fp, h1, h2, h3⟩ := r.getO g
    exact ⟨_, hv, a, _, rfl, .inl ⟨_, .inr "cells", .inl h1, rfl, dr_cells.symm⟩, q _ Z O H .refl r ⟨c, _, rfl, h3, rfl_ints _⟩⟩
/-- draw['rest'] = e -/
def drPutR (i : Nat) (m : M D) : M Fl := fun ρ => (m ρ).bind fun d ρ1 => match d, getO ρ1 i with
  | .int r', some (.drw l _ c t) => .ok .nx (putO ρ1 i (.drw l r' c t))
  | _, _ => .bad
def drPutT (i : Nat) (m : M D) : M Fl := fun ρ => (m ρ).bind fun d ρ1 => match d, getO ρ1 i with
  | .int t', some (.drw l r c _) => .ok .nx (putO ρ1 i (.drw l r c t'))
  | _, _ => .bad
theorem ne_of_nodup2 {a l : Addr} {fp : List Addr} (nd : fp.Nodup) (e : fp = [a, l]) : l ≠ a := by
  subst e
  simp at nd
  exact fun z => nd z.symm
theorem drw_write {Z : Addr → Prop} {O : Nat → List Addr} {ρ : Env} {σ : St} {H : Hp} {a l c : Addr} {fp : List Addr} {large cells : List Int} {r t r' t' : Int} (rr : R G Z O ρ σ H) (hfp : O i = fp) (fe : fp = [a, l])
    (h2 : H l = some (.lst (large.map V.int))) (h3 : FzL Z H c (cells.map V.int)) : Own G Z (upd H a (.dK (drK l c r' t'))) (.drw large r' cells t') (.ref a) (O i) := by
  have nl : l ≠ a := ne_of_nodup2 (rr.nd i) (hfp.trans fe)
  have nc : c ≠ a := fun e => rr.oz i a (by rw [hfp, fe]; simp) (e ▸ h3.1)
  exact ⟨a, l, c, rfl, hfp.trans fe, upd_same, by rw [upd_ne nl]; exact h2, h3.1, by rw [upd_ne nc]; exact h3.2⟩
theorem s_putR (hu : X.A.units + 1 < cLine) (ho : PE X o (tVar i)) (hk : PE X e1 (tC (.str "rest"))) (he : PE X e (lift G W m)) (hsw : swapsWith e (some (.Subscript o e1 pos')) pos.line X.env = pure false := by rfl) :
    PS X (.Assign [.Subscript o e1 pos'] e pos) (liftS G W I (drPutR i m)) := PS_imp (ps_dput hu ho hk he hsw) fun E σ H q => liftG.mono (liftS.bind (rep := repF G) q) fun v H1 ⟨Z1, O1, ρ1, d1, r1, f1, q1⟩ => by
  cases d1 <;> first | exact q1.elim | skip
  rename_i k
  cases g : getO ρ1 i with
  | none => rw [g] at q1; exact q1.elim
  | some d0 =>
    rw [g] at q1
    cases d0 <;> first | exact q1.elim | skip
    cases f1
    obtain ⟨v, hv, hown⟩ := r1.getO g
    have hown' := hown
    obtain ⟨a, l, c, rfl, fp, h1, h2, h3⟩ := hown
    have ha : a ∈ O1 i := by rw [fp]; simp
    refine ⟨_, hv, a, _, rfl, .inl ⟨_, .inr "rest", h1, rfl, by show 4 < sizeLine; rw [sizeLine_eq]; omega, rfl⟩, ?_⟩
    rw [dp_rest]
    exact q1 Z1 O1 σ _ (r1.owt hown' ha) (fun _ _ => rfl) (r1.putO g hv ha (drw_write (r := 0) (t := 0) r1 fp rfl h2 h3))
theorem s_putT (hu : X.A.units + 1 < cLine) (ho : PE X o (tVar i)) (hk : PE X e1 (tC (.str "turn"))) (he : PE X e (lift G W m)) (hsw : swapsWith e (some (.Subscript o e1 pos')) pos.line X.env = pure false := by rfl) :
    PS X (.Assign [.Subscript o e1 pos'] e pos) (liftS G W I (drPutT i m)) := PS_imp (ps_dput hu ho hk he hsw) fun E σ H q => liftG.mono (liftS.bind (rep := repF G) q) fun v H1 ⟨Z1, O1, ρ1, d1, r1, f1, q1⟩ => by
  cases d1 <;> first | exact q1.elim | skip
  rename_i k
  cases g : getO ρ1 i with
  | none => rw [g] at q1; exact q1.elim
  | some d0 =>
    rw [g] at q1
    cases d0 <;> first | exact q1.elim | skip
    cases f1
    obtain ⟨v, hv, hown⟩ := r1.getO g
    have hown' := hown
    obtain ⟨a, l, c, rfl, fp, h1, h2, h3⟩ := hown
    have ha : a ∈ O1 i := by rw [fp]; simp
    refine ⟨_, hv, a, _, rfl, .inl ⟨_, .inr "turn", h1, rfl, by show 4 < sizeLine; rw [sizeLine_eq]; omega, rfl⟩, ?_⟩
    rw [dp_turn]
    exact q1 Z1 O1 σ _ (r1.owt hown' ha) (fun _ _ => rfl) (r1.putO g hv ha (drw_write (r := 0) (t := 0) r1 fp rfl h2 h3))
/-- draw['large'] != [] -/
def drAny (i : Nat) : M Bool := fun ρ => match getO ρ i with
  | some (.drw l _ _ _) => .ok (!l.isEmpty) ρ
  | _ => .bad
theorem ints_lay : ∀ xs : List Int, PyData.canLayAll0 (xs.map PyData.int) = true
  | [] => by rw [List.map_nil]; unfold PyData.canLayAll0; rfl
  | x :: xs => by
    rw [List.map_cons]
    unfold PyData.canLayAll0
    rw [ints_lay xs]
    rfl
theorem ints_depth : ∀ xs : List Int, PyData.depthAll (xs.map PyData.int) = 0
  | [] => by rw [List.map_nil]; unfold PyData.depthAll; rfl
  | x :: xs => by
    rw [List.map_cons]
    unfold PyData.depthAll
    rw [ints_depth xs]
    rfl
theorem ints_shaped (xs : List Int) : SeqAt.shaped (.list (xs.map PyData.int)) = true := by
  unfold SeqAt.shaped
  have h1 : PyData.canLay0 (.list (xs.map PyData.int)) = true := by unfold PyData.canLay0; exact ints_lay xs
  have h2 : PyData.depth (.list (xs.map PyData.int)) = 1 := by unfold PyData.depth; rw [ints_depth]
  rw [h1, h2]
  rfl
theorem ints_dp {H : Hp} : ∀ xs : List Int, DpAll X.K H (xs.map V.int) (xs.map PyData.int)
  | [] => .nil
  | x :: xs => .cons (.int x) (ints_dp xs)
theorem d_any (hu : X.A.units + 64 < cLine) (hu1 : X.A.units + 1 < cLine) (ho : PE X o (tVar i)) (hk : PE X e1 (tC (.str "large"))) (hs : NoSl e1) (hm : behindInMarks .NotEq (.List [] pos') = false := by rfl) :
    PT X (.Compare (.Subscript o e1 pos) [.NotEq] [.List [] pos'] apos) (liftB G W (drAny i)) := PT_imp (pt_cmpR (op_neD hu) (pe_dget hu1 ho hk hs) (pe_lst pa_nil) hm) fun σ H Q ⟨Z, O, ρ, r, q⟩ => by
  unfold drAny at q
  cases g : getO ρ i with
  | none => rw [g] at q; exact q.elim
  | some d0 =>
    rw [g] at q
    cases d0 <;> first | exact q.elim | skip
    rename_i large rest cells turn
    simp only at q
    obtain ⟨v, hv, a, l, c, rfl, fp, h1, h2, h3⟩ := r.getO g
    refine ⟨_, hv, a, _, rfl, .inl ⟨_, .inr "large", .inl h1, rfl, dr_large.symm⟩, Nat.zero_le _, fun p hp => ?_⟩
    have h2' : upd H p (.lst []) l = some (.lst (large.map V.int)) := upd_keep hp l _ h2
    refine ⟨.list (large.map PyData.int), .list [], .lst (.of h2') (ints_dp large), .lst (.of upd_same) .nil, ints_shaped large, ints_shaped [], !large.isEmpty, ?_, q (!large.isEmpty) Z O _ (.newO hp) (r.newO hp) rfl⟩
    cases large with
    | nil => rfl
    | cons x xs => rfl
/-- draw['large'].pop(0) -/
def drPop (i : Nat) : M D := fun ρ => match getO ρ i with
  | some (.drw (x :: l) r c t) => .ok (.int x) (putO ρ i (.drw l r c t))
  | _ => .bad
theorem d_drPop (hu : X.A.units + 1 < cLine) (ho : PE X o (tVar i)) (hk : PE X e1 (tC (.str "large"))) (hs0 : NoSl e1) (he : PE X e (tC (.int 0))) (hbase : attributeBase (.Subscript o e1 pos) "pop" X.env (eval (.Subscript o e1 pos) X.env) = eval (.Subscript o e1 pos) X.env := by rfl)
    (hfew : ((backTo pos' (starEach [e] X.env)).all (fun x => !x.1) && (backToKw pos' (keywordEach [] X.env)).all (fun x => x.1.isSome) && decide (([e] : List Expr).length + ([] : List Keyword).length + (if ([] : List Keyword).isEmpty then 0 else 1) < 30)) = true := by rfl)
    (hline : (apos.endLine == pos'.line) = true := by rfl) (hs : starEach [e] X.env = (false, eval e X.env) :: starEach [] X.env := by rfl) :
    PE X (.Call (.Attribute (.Subscript o e1 pos) "pop" apos) [e] [] pos') (lift G W (drPop i)) :=
  PE_imp (pe_bm PySem.F.plainAttrs_list PySem.F.slot_list_pop PySem.F.type_list_pop mt_popAt (pe_dget hu ho hk hs0) (pa_cons he pa_nil hs) hbase hfew hline hs (by rfl)) fun σ H Q ⟨Z, O, ρ, r, q⟩ => by
    unfold drPop at q
    cases g : getO ρ i with
    | none => rw [g] at q; exact q.elim
    | some d0 =>
      rw [g] at q
      cases d0 <;> first | exact q.elim | skip
      rename_i large rest cells turn
      cases large with
      | nil => exact q.elim
      | cons x large =>
        obtain ⟨v, hv, hown⟩ := r.getO g
        have hown' := hown
        obtain ⟨a, l, c, rfl, fp, h1, h2, h3⟩ := hown
        have hl : l ∈ O i := by rw [fp]; simp
        have nl : a ≠ l := Ne.symm (ne_of_nodup2 (r.nd i) fp)
        have nc : c ≠ l := fun e => r.oz i l hl (e ▸ h3.1)
        refine ⟨_, hv, a, _, rfl, .inl ⟨_, .inr "large", .inl h1, rfl, dr_large.symm⟩, .inl ⟨rfl, _, .of h2⟩, l, _, 0, 0, .int x, rfl, rfl, h2, by decide, by decide, ?_, rfl, ?_⟩
        · unfold seqIndex?
          simp
        · refine q (.int x) Z O _ (r.owt hown' hl) (r.putO g hv hl ⟨a, l, c, rfl, fp, by rw [upd_ne nl]; exact h1, upd_same, h3.1, by rw [upd_ne nc]; exact h3.2⟩) rfl
end
end PB
set_option maxRecDepth 100000
set_option maxHeartbeats 4000000
/-! PX9: displays, enumerate, comprehensions, pairs of names. -/
namespace PB
open PySem PySem.Spec PySem.Calls L2
variable {G : Gc} {W : WX} {X : Cx} {I : List Nat}
/-! ### comprehensions -/
section
variable {elt tg iter : Expr} {ifs : List Expr} {scope : Scope} {own : List (Str × Nat)} {pos : Pos} {wi : TI} {g : TG} {gb : D → Env → Option Env} {tt : TT} {mi : M (List D)} {mt : M Bool} {me : M D}
theorem o_lc (hc : X.calm = true) (hN : X.N.Nodup) (hs : Src G W wi mi) (hgt : TgtO G (own.map (·.2)) g gb) (htt : TstOk G tt mt) (hi : PI X tg iter wi) (ok : BlkOk X.N X.env.scope scope own)
    (hg : ∀ (s : Shared) (H : Hp) (C : Addr) (cl : List (Str × Addr)) (fp : List Addr), PG (X.blk s H scope (compEnvC scope cl C X.env) fp) tg g) (ht : ∀ (s : Shared) (H : Hp) (C : Addr) (cl : List (Str × Addr)) (fp : List Addr), PTs (X.blk s H scope (compEnvC scope cl C X.env) fp) ifs tt)
    (he : ∀ (s : Shared) (H : Hp) (C : Addr) (cl : List (Str × Addr)) (fp : List Addr), PE (X.blk s H scope (compEnvC scope cl C X.env) fp) elt (lift G W0 me)) (hf : ∀ x, foldedSetIterable iter X.env x = pure x := by intro _; rfl) :
    PE X (.ListComp elt [⟨tg, iter, ifs, 0⟩] scope pos) (liftO G W (mLc (own.map (·.2)) gb mi mt me)) := PE_imp (pe_lc hc hN hi ok hg ht he hf) fun σ H Q q => lc_run hs hgt htt q
end
/-! ### enumerate -/
def enD (k : Nat) : List D → List D
  | [] => []
  | x :: xs => .tup [.int k, x] :: enD (k + 1) xs
theorem enD_length : ∀ (xs : List D) (k : Nat), (enD k xs).length = xs.length
  | [], _ => rfl
  | x :: xs, k => by unfold enD; rw [List.length_cons, List.length_cons, enD_length xs]
theorem enD_get : ∀ (xs : List D) (k i : Nat) (y : D), (enD k xs)[i]? = some y → ∃ x, xs[i]? = some x ∧ y = .tup [.int (k + i : Nat), x]
  | [], _, _, _, h => by unfold enD at h; simp at h
  | x :: xs, k, 0, y, h => by unfold enD at h; simp at h; exact ⟨x, rfl, by rw [← h]; simp⟩
  | x :: xs, k, i + 1, y, h => by
    unfold enD at h
    obtain ⟨z, e1, e2⟩ := enD_get xs (k + 1) i y (by simpa using h)
    exact ⟨z, by simpa using e1, by rw [e2]; congr 3; omega⟩
def asEn : List D → Option (List D)
  | [.lst xs] => some (enD 0 xs)
  | [.fls xs] => some (enD 0 xs)
  | _ => none
theorem wk_enum {Z1 : Addr → Prop} {H1 : Hp} {xs : List D} {vs : List V} {a : Addr} (hsq : ∀ (Z : Addr → Prop) H, (∀ a, Z1 a → Z a) → Kp Z1 H1 H → SqL G.K H a vs) (rl : RfL G Z1 H1 xs vs) : Wk G Z1 H1 (Ite G.K a) (enD 0 xs) where
  stop := fun Z H zs k => ⟨vs, hsq Z H zs k, by rw [enD_length, rl.length]; exact Nat.le_refl _⟩
  go := fun Z H i zs k h => by
    rw [enD_length, rl.length] at h
    exact ⟨vs, vs[i], hsq Z H zs k, List.getElem?_eq_getElem _⟩
  yld := fun Z O ρ σ H i x v H' r zs k e y => by
    obtain ⟨T, z, rfl, hT, rfl, hy⟩ := y
    obtain ⟨d, e1, rfl⟩ := enD_get xs 0 i x e
    obtain ⟨w, ew, fw⟩ := rl.get e1
    rw [hy vs (hsq Z H zs k)] at ew; cases ew
    refine ⟨addZ Z T, .new hT, r.new hT, T, [.int ((i : Nat) : Int), z], rfl, .inl ⟨.inr rfl, upd_same⟩, _, _, rfl, by rw [Nat.zero_add]; exact rfl, RfL.one ?_⟩
    exact fw.keep (fun a q => .inl (zs a q)) fun b o q e => (k b o q e).elim (fun e => .inl (upd_keep hT _ _ e)) fun ⟨od, kvs, eo, e⟩ => .inr ⟨od, kvs, eo, upd_keep hT _ _ e⟩
theorem src_enum {m : M (List D)} : Src G W (iEnum G.K (liftL G W m)) (mItemsL asEn m) := fun σ H Q q => by
  unfold mItemsL at q
  refine liftG.mono (liftG.bind (rep := repL G) q) fun v H1 ⟨Z1, O1, ρ1, d1, r1, f1, q1⟩ => ?_
  cases e : asEn d1 with
  | none => rw [e] at q1; exact q1.elim
  | some xs =>
    rw [e] at q1
    unfold asEn at e
    split at e
    · cases e
      obtain ⟨w, rfl, a, vs, rfl, g1, rl⟩ := rfl1 f1
      exact ⟨a, vs, rfl, g1.sq, q1 _ Z1 O1 H1 .refl r1 (wk_enum (fun Z H zs k => .of (k.eq g1.1 g1.2)) rl)⟩
    · cases e
      obtain ⟨w, rfl, a, vs, rfl, g1, rl⟩ := rfl1 f1
      exact ⟨a, vs, rfl, g1.sq, q1 _ Z1 O1 H1 .refl r1 (wk_enum (fun Z H zs k => g1.elim (fun ⟨z, o, e⟩ => .inl (.inr ⟨o, k.eq z e⟩)) .inr) rl)⟩
    · cases e
/-! ### a, b = e1, e2 -/
def sPar (i j : Nat) (ms : M (List D)) : M Fl := fun ρ => (ms ρ).bind fun ds ρ => match ds with
  | [a, b] => .ok .nx ((ρ.set i (.fr a)).set j (.fr b))
  | _ => .bad
theorem s_par {st : Stmt} {i j : Nat} {ms : M (List D)} (hi : I.contains i = false) (hj : I.contains j = false) (h : PS X st (tPar i j (liftL G W ms))) : PS X st (liftS G W I (sPar i j ms)) :=
  PS_imp h fun E σ H q => liftG.mono (liftS.bind (rep := repL G) q) fun v H1 ⟨Z1, O1, ρ1, d1, r1, f1, q1⟩ => by
    match d1, f1, q1 with
    | [], f1, q1 => exact q1.elim
    | [_], f1, q1 => exact q1.elim
    | _ :: _ :: _ :: _, f1, q1 => exact q1.elim
    | [a, b], f1, q1 =>
      obtain ⟨v, w, rfl, h1, h2⟩ := rfl2 f1
      exact ⟨v, w, rfl, q1 Z1 _ _ H1 (.trans .drop .drop) (fun k hk => (keepI hj k hk).trans (keepI hi k hk)) ((r1.setFr h1).setFr h2)⟩
/-! ### one operand -/
def fNeg : D → Option D
  | .int i => some (.int (-i))
  | _ => none
theorem d_neg {a : Expr} {m : M D} {pos : Pos} (h : PE X a (lift G W m)) : PE X (.UnaryOp .USub a pos) (lift G W (m1 fNeg m)) := PE_imp (pe_un un_neg h) fun σ H Q q => liftG.mono (liftG.bind (rep := repF G) q) fun v H1 ⟨Z1, O1, ρ1, d1, r1, f1, q1⟩ => by
  cases d1 <;> first | exact q1.elim | skip
  cases f1
  exact ⟨_, rfl, q1 _ Z1 O1 H1 .refl r1 rfl⟩
/-! ### dicts written -/
theorem putK_new {κ : Type} [DecidableEq κ] {kvs : List (κ × V)} {k : κ} {v : V} (h : k ∉ kvs.map (·.1)) : putK kvs k v = kvs ++ [(k, v)] := by
  unfold putK
  rw [if_neg]
  intro e
  obtain ⟨p, hp, e⟩ := List.any_eq_true.mp e
  exact h (List.mem_map.mpr ⟨p, hp, of_decide_eq_true e⟩)
theorem mergeK_new : ∀ (more acc : List (Key × V)), (acc.map (·.1) ++ more.map (·.1)).Nodup → mergeK acc more = acc ++ more
  | [], acc, _ => by rw [List.append_nil]; rfl
  | p :: more, acc, h => by
    show mergeK (putK acc p.1 p.2) more = _
    have h1 : p.1 ∉ acc.map (·.1) := fun z => by
      rw [List.nodup_append] at h
      exact h.2.2 _ z _ (by simp) rfl
    rw [putK_new h1, mergeK_new more _ (by simpa using h), List.append_assoc]
    rfl
/-- the pairs of a display with the keys ks, the values read by ms -/
structure DPs (G : Gc) (W : WX) (X : Cx) (pos : Pos) (keys : List (Option Expr)) (values : List Expr) (ks : List Key) (ms : M (List D)) : Prop where
  ex : ∃ trs, PPs X pos keys values trs ∧ ∀ σ H Q, liftG G W (fun Z _ _ _ H ds ps => ∃ vs, ps = (ks.map kV).zip vs ∧ ks.length = ds.length ∧ RfL G Z H ds vs) ms σ H Q → tPairs trs σ H Q
theorem p_nil {pos : Pos} : DPs G W X pos [] [] [] mNil := ⟨[], pps_nil, fun σ H Q ⟨Z, O, ρ, r, q⟩ => q _ Z O H .refl r ⟨[], rfl, rfl, rfl⟩⟩
theorem p_cons {pos : Pos} {k v : Expr} {ks : List (Option Expr)} {vs : List Expr} {key : Key} {kk : List Key} {m : M D} {ms : M (List D)} (hk : PE X k (tC (kV key))) (hv : PE X v (lift G W m)) (h : DPs G W X pos ks vs kk ms) : DPs G W X pos (some k :: ks) (v :: vs) (key :: kk) (mCons m ms) := by
  obtain ⟨trs, hp, himp⟩ := h.ex
  refine ⟨_, pps_cons hk hv hp, fun σ H Q q => ?_⟩
  refine liftG.mono (liftG.bind (rep := repF G) q) fun y H1 ⟨Z1, O1, ρ1, d1, r1, f1, q1⟩ => ?_
  refine himp σ H1 _ ⟨Z1, O1, ρ1, r1, ?_⟩
  refine (contG.bind (rep := fun Z _ _ _ H ds ps => ∃ vs, ps = (kk.map kV).zip vs ∧ kk.length = ds.length ∧ RfL G Z H ds vs) q1).mono fun w H2 ⟨Z2, O2, ρ2, d2, x, r2, ⟨vs, e1, e2, f2⟩, q2⟩ => ?_
  subst e1
  exact q2 _ Z2 O2 H2 .refl r2 ⟨y :: vs, rfl, by simp [e2], y, vs, rfl, r1.rf x f1, f2⟩
theorem kz_zip : ∀ {ks : List Key} {vs : List V}, (ks.map kV).zip vs = (ks.zip vs).map (fun kv => (kV kv.1, kv.2))
  | [], _ => rfl
  | _ :: _, [] => rfl
  | k :: ks, v :: vs => by rw [List.map_cons, List.zip_cons_cons, List.zip_cons_cons, List.map_cons, kz_zip]
/-- nobody's object is frozen as it is written -/
theorem R.seal {Z : Addr → Prop} {O : Nat → List Addr} {H : Hp} {ρ : Env} {σ : St} {p : Addr} {o : HO} (r : R G Z O ρ σ H) (hz : ¬ Z p) (ho : ¬ Ow O p) (hp : Pl (H p)) (n : ∀ ps, o ≠ .tbl ps := by intro _ e; cases e) : R G (addZ Z p) O ρ σ (upd H p o) := by
  have r1 := r.at (o := o) hz ho hp
  exact r1.grow (fun _ z => .inl z) (fun _ _ e => e) (fun i a h z => z.elim (r1.oz i a h) fun e => ho ⟨i, e ▸ h⟩) fun a z => z.elim (r1.zd a) fun e => by rw [e, upd_same]; exact .of n
def mDct (ks : List Key) (ms : M (List D)) : M D := fun ρ => (ms ρ).bind fun ds ρ => .ok (.dct ks ds) ρ
section
variable {pos : Pos} {keys : List (Option Expr)} {values : List Expr} {ks : List Key} {ms : M (List D)}
/-- the core: what is found at the end, p nobody's -/
theorem disp_run {rep : Rep D V} (hn : ks.Nodup) (h15 : ks.length ≤ 15) {trs : List (TE × TE)} (himp : ∀ σ H Q, liftG G W (fun Z _ _ _ H ds ps => ∃ vs, ps = (ks.map kV).zip vs ∧ ks.length = ds.length ∧ RfL G Z H ds vs) ms σ H Q → tPairs trs σ H Q)
    (fin : ∀ Z O ρ σ H p ds vs, R G Z O ρ σ H → ¬ Z p → ¬ Ow O p → H p = some (.dK []) → ks.length = ds.length → RfL G Z H ds vs →
      ∃ Z' O', R G Z' O' ρ σ (upd H p (.dK (ks.zip vs))) ∧ (∀ Z0 O0 H0, H0 p = none → Ext Z0 O0 H0 Z O H → Ext Z0 O0 H0 Z' O' (upd H p (.dK (ks.zip vs)))) ∧ rep Z' O' ρ σ (upd H p (.dK (ks.zip vs))) (.dct ks ds) (.ref p))
    {σ : St} {H : Hp} {Q : VK} (q : liftG G W rep (mDct ks ms) σ H Q) : tDisp trs σ H Q := by
  obtain ⟨Z, O, ρ, r, q⟩ := q
  intro p hp
  have r0 := r.newO (o := .dK []) hp
  refine himp σ _ _ ⟨Z, O, ρ, r0, ?_⟩
  unfold mDct at q
  cases e : ms ρ with
  | bad => rw [e] at q; exact q.elim
  | ex x ρ' => rw [e] at q; exact fun c dd Z' O' H' y => q c dd Z' O' H' (Ext.trans (.newO hp) y)
  | ok ds ρ' =>
    rw [e] at q
    intro ps Z' O' H' y rr hh
    obtain ⟨vs, e1, e2, f⟩ := hh
    have nz : ¬ Z' p := fun z => by
      rcases y.zn p z with z | z | z
      · exact (r.zd p z).ne hp
      · obtain ⟨i, z⟩ := z; exact (r.od i p z).ne hp
      · rw [upd_same] at z; cases z
    have no : ¬ Ow O' p := fun z => by
      rcases y.on p z with z | z
      · obtain ⟨i, z⟩ := z; exact (r.od i p z).ne hp
      · rw [upd_same] at z; cases z
    have ep : H' p = some (.dK []) := (y.kp p _ upd_same fun ⟨i, z⟩ => (r.od i p z).ne hp).no (fun z => (r.zd p z).ne hp) fun _ e => by cases e
    have lk : ks.length = vs.length := by rw [e2, f.length]
    refine ⟨ep, ks.zip vs, by rw [e1, kz_zip], by rw [List.length_zip]; omega, ?_⟩
    have hm : mergeK [] (ks.zip vs) = ks.zip vs := by
      rw [mergeK_new _ _ (by rw [List.map_nil, List.nil_append, List.map_fst_zip (by omega)]; exact hn), List.nil_append]
    rw [hm]
    obtain ⟨Z2, O2, r2, x2, rp⟩ := fin Z' O' ρ' σ H' p ds vs rr nz no ep e2 f
    exact q (.ref p) Z2 O2 _ (x2 Z O H hp (Ext.trans (.newO hp) y)) r2 rp
theorem d_dct (hn : ks.Nodup) (h15 : ks.length ≤ 15) (h : DPs G W X pos keys values ks ms) (hall : keys.all (·.isSome) = true) (hl : keys.length = values.length) (h0 : keys ≠ []) (hk15 : keys.length ≤ 15) : PE X (.Dict keys values pos) (lift G W (mDct ks ms)) := by
  obtain ⟨trs, hp, himp⟩ := h.ex
  refine PE_imp (pe_disp hp hall hl h0 hk15) fun σ H Q q => disp_run hn h15 himp (fun Z O ρ σ H p ds vs r nz no ep l f => ?_) q
  refine ⟨addZ Z p, O, r.seal nz no (by rw [ep]; exact .of), fun Z0 O0 H0 hp0 x => ?_, p, vs, rfl, ⟨.inr rfl, .inl upd_same⟩, l, f.keep (fun _ z => .inl z) fun a o z e => by rw [upd_ne fun (q : a = p) => nz (q ▸ z)]; exact .inl e⟩
  have xa := x.at (o := .dK (ks.zip vs)) hp0 (by rw [ep]; simp)
  exact ⟨fun a z => .inl (xa.zs a z), xa.kp, fun a z => z.elim (xa.zn a) fun e => .inr (.inr (e ▸ hp0)), xa.on, xa.dm⟩
theorem o_dct (hn : ks.Nodup) (h15 : ks.length ≤ 15) (h : DPs G W X pos keys values ks ms) (hall : keys.all (·.isSome) = true) (hl : keys.length = values.length) (h0 : keys ≠ []) (hk15 : keys.length ≤ 15) : PE X (.Dict keys values pos) (liftO G W (mDct ks ms)) := by
  obtain ⟨trs, hp, himp⟩ := h.ex
  refine PE_imp (pe_disp hp hall hl h0 hk15) fun σ H Q q => disp_run hn h15 himp (fun Z O ρ σ H p ds vs r nz no ep l f => ?_) q
  have r1 := r.at (o := .dK (ks.zip vs)) nz no (by rw [ep]; exact .of)
  refine ⟨Z, setO O ρ.length [p], r1.ownT (Nat.le_refl _) nz no (by rw [upd_same]; exact .of), fun Z0 O0 H0 hp0 x => ?_, p, vs, rfl, setO_same, upd_same, l, f.keep (fun _ z => z) fun a o z e => by rw [upd_ne fun (q : a = p) => nz (q ▸ z)]; exact .inl e⟩
  have xa := x.at (o := .dK (ks.zip vs)) hp0 (by rw [ep]; simp)
  exact ⟨xa.zs, xa.kp, xa.zn, fun a h => (ow_setO h).elim (fun z => .inr (by simp at z; rw [z]; exact hp0)) (xa.on a), xa.dm⟩
theorem d_dct0 : PE X (.Dict [] [] pos) (lift G W (fun ρ => .ok (.dct [] []) ρ)) := PE_imp pe_dnewK fun σ H Q ⟨Z, O, ρ, r, q⟩ p hp =>
  q _ _ _ _ (.new hp) (r.new hp) ⟨p, [], rfl, ⟨.inr rfl, .inl upd_same⟩, rfl, rfl⟩
theorem o_dct0 : PE X (.Dict [] [] pos) (liftO G W (fun ρ => .ok (.dct [] []) ρ)) := PE_imp pe_dnewK fun σ H Q ⟨Z, O, ρ, r, q⟩ p hp =>
  q _ Z _ _ (.newT (t := ρ.length) hp) (r.newT (Nat.le_refl _) hp) ⟨p, [], rfl, setO_same, upd_same, rfl, rfl⟩
end
end PB
set_option maxRecDepth 100000
set_option maxHeartbeats 4000000
/-! PX10: the draw made. -/
namespace PB
open PySem PySem.Spec PySem.Calls L2
variable {G : Gc} {W : WX} {X : Cx} {I : List Nat}
section
variable {Z : Addr → Prop} {H : Hp} {O : Nat → List Addr} {ρ : Env} {σ : St}
theorem R.un (r : R G Z O ρ σ H) (j : Nat) : R G Z (setO O j []) (ρ.set j .un) σ H where
  len := by rw [List.length_set]; exact r.len
  sl := fun i s e => by
    by_cases q : i = j
    · subst q
      rw [List.getElem?_set, if_pos rfl] at e
      split at e
      · cases e; exact trivial
      · cases e
    · rw [setO_ne q]
      rw [List.getElem?_set, if_neg (fun z => q z.symm)] at e
      exact r.sl i s e
  nd := fun i => by
    by_cases q : i = j
    · subst q; rw [setO_same]; exact List.nodup_nil
    · rw [setO_ne q]; exact r.nd i
  dj := fun i k a h1 h2 => by
    by_cases q : i = j
    · subst q; rw [setO_same] at h1; cases h1
    · by_cases q2 : k = j
      · subst q2; rw [setO_same] at h2; cases h2
      · rw [setO_ne q] at h1; rw [setO_ne q2] at h2; exact r.dj i k a h1 h2
  oz := fun i a h => by
    by_cases q : i = j
    · subst q; rw [setO_same] at h; cases h
    · rw [setO_ne q] at h; exact r.oz i a h
  od := fun i a h => by
    by_cases q : i = j
    · subst q; rw [setO_same] at h; cases h
    · rw [setO_ne q] at h; exact r.od i a h
  zd := r.zd
  tb := r.tb
theorem R.giveT (r : R G Z O ρ σ H) {t : Nat} {fp : List Addr} (ht : ρ.length ≤ t) (ap : Apart Z O H fp) : R G Z (setO O t fp) ρ σ H where
  len := r.len
  sl := fun j s q => by
    have hj : j ≠ t := fun e => by
      obtain ⟨hl, _⟩ := List.getElem?_eq_some_iff.mp q
      omega
    rw [setO_ne hj]; exact r.sl j s q
  nd := fun j => by
    by_cases q : j = t
    · subst q; rw [setO_same]; exact ap.nd
    · rw [setO_ne q]; exact r.nd j
  dj := fun j k a h1 h2 => by
    by_cases q : j = t
    · by_cases q2 : k = t
      · rw [q, q2]
      · subst q; rw [setO_same] at h1; rw [setO_ne q2] at h2
        exact absurd ⟨k, h2⟩ (ap.o a h1)
    · by_cases q2 : k = t
      · subst q2; rw [setO_same] at h2; rw [setO_ne q] at h1
        exact absurd ⟨j, h1⟩ (ap.o a h2)
      · rw [setO_ne q] at h1; rw [setO_ne q2] at h2; exact r.dj j k a h1 h2
  oz := fun j a h => by
    by_cases q : j = t
    · subst q; rw [setO_same] at h; exact ap.z a h
    · rw [setO_ne q] at h; exact r.oz j a h
  od := fun j a h => by
    by_cases q : j = t
    · subst q; rw [setO_same] at h; exact ap.h a h
    · rw [setO_ne q] at h; exact r.od j a h
  zd := r.zd
  tb := r.tb
end
def intsD : List D → Option (List Int)
  | [] => some []
  | .int i :: xs => (intsD xs).map (i :: ·)
  | _ => none
theorem intsD_v {Z : Addr → Prop} {H : Hp} : ∀ {xs : List D} {vs : List V} {a : List Int}, RfL G Z H xs vs → intsD xs = some a → vs = a.map V.int
  | [], _, _, h, e => by cases h; cases e; rfl
  | .int i :: xs, _, _, ⟨v, w, q, h1, h2⟩, e => by
    unfold intsD at e
    cases e1 : intsD xs with
    | none => rw [e1] at e; cases e
    | some b => rw [e1] at e; cases e; cases h1; rw [q, intsD_v h2 e1]; rfl
  | .non :: _, _, _, _, e | .bl _ :: _, _, _, _, e | .str _ :: _, _, _, _, e | .ty _ :: _, _, _, _, e | .at _ :: _, _, _, _, e | .tup _ :: _, _, _, _, e | .lst _ :: _, _, _, _, e | .fls _ :: _, _, _, _, e | .dct _ _ :: _, _, _, _, e
  | .ins _ _ _ :: _, _, _, _, e | .exc _ _ _ :: _, _, _, _, e | .drw _ _ _ _ :: _, _, _, _, e | .lam _ :: _, _, _, _, e => by cases e
def mDraw (j : Nat) (mc : M D) : M D := fun ρ => match ρ[j]? with
  | some (.ow (.lst _)) => (mc ρ).bind fun d ρ1 => match ρ1[j]?, d with
    | some (.ow (.lst xs)), .lst ys => match intsD xs, intsD ys with
      | some a, some b => .ok (.drw a 0 b 0) (ρ1.set j .un)
      | _, _ => .bad
    | _, _ => .bad
  | _ => .bad
theorem o_draw {j : Nat} {k1 k2 k3 k4 v1 v2 v3 v4 : Expr} {mc : M D} {pos : Pos} (h1 : PE X k1 (tC (.str "large"))) (h2 : PE X k2 (tC (.str "rest"))) (h3 : PE X k3 (tC (.str "cells"))) (h4 : PE X k4 (tC (.str "turn")))
    (g1 : PE X v1 (tVar j)) (g2 : PE X v2 (tC (.int 0))) (g3 : PE X v3 (liftO G W mc)) (g4 : PE X v4 (tC (.int 0))) : PE X (.Dict [some k1, some k2, some k3, some k4] [v1, v2, v3, v4] pos) (liftO G W (mDraw j mc)) :=
  PE_imp (pe_disp (pps_cons h1 g1 (pps_cons h2 g2 (pps_cons h3 g3 (pps_cons h4 g4 pps_nil)))) rfl rfl (by simp) (by simp)) fun σ H Q ⟨Z, O, ρ, r, q⟩ p hp => by
    unfold mDraw at q
    cases e0 : ρ[j]? with
    | none => rw [e0] at q; exact q.elim
    | some s0 =>
      rw [e0] at q
      cases s0 <;> first | exact q.elim | skip
      rename_i d0
      cases d0 <;> first | exact q.elim | skip
      obtain ⟨vl, hv, _⟩ := r.sl j _ e0
      have hv := slot_some hv
      refine ⟨vl, hv, Z, O, ρ, r.newO hp, ?_⟩
      simp only at q
      cases e : mc ρ with
      | bad => rw [e] at q; exact q.elim
      | ex x ρ' => rw [e] at q; exact fun c dd Z' O' H' y => q c dd Z' O' H' (Ext.trans (.newO hp) y)
      | ok d ρ' =>
        rw [e] at q
        intro vc Z1 O1 H2 y r1 own
        simp only [Res.bind] at q
        cases e1 : ρ'[j]? with
        | none => rw [e1] at q; exact q.elim
        | some s1 =>
          rw [e1] at q
          cases s1 <;> first | exact q.elim | skip
          rename_i d1
          cases d1 <;> first | exact q.elim | skip
          cases d <;> first | exact q.elim | skip
          rename_i xs ys
          simp only at q
          cases e2 : intsD xs with
          | none => rw [e2] at q; exact q.elim
          | some a =>
            cases e3 : intsD ys with
            | none => rw [e2, e3] at q; exact q.elim
            | some b =>
              rw [e2, e3] at q
              obtain ⟨c, ws, rfl, fpc, hc, rlc⟩ := own
              obtain ⟨v', hv', l, us, rfl, fpl, hl, rll⟩ := r1.sl j _ e1
              have hv' := slot_some hv'
              rw [hv] at hv'; cases hv'
              have eus := intsD_v rll e2
              have ews := intsD_v rlc e3
              subst eus ews
              have hj : j < ρ'.length := (List.getElem?_eq_some_iff.mp e1).1
              have jt : j ≠ ρ'.length := by omega
              have hlj : l ∈ O1 j := by rw [fpl]; simp
              have hct : c ∈ O1 ρ'.length := by rw [fpc]; simp
              have nz : ¬ Z1 p := fun z => by
                rcases y.zn p z with z | z | z
                · exact (r.zd p z).ne hp
                · obtain ⟨i, z⟩ := z; exact (r.od i p z).ne hp
                · rw [upd_same] at z; cases z
              have no : ¬ Ow O1 p := fun z => by
                rcases y.on p z with z | z
                · obtain ⟨i, z⟩ := z; exact (r.od i p z).ne hp
                · rw [upd_same] at z; cases z
              have ep : H2 p = some (.dK []) := (y.kp p _ upd_same fun ⟨i, z⟩ => (r.od i p z).ne hp).no (fun z => (r.zd p z).ne hp) fun _ e => by cases e
              have lp : l ≠ p := fun e => no ⟨j, e ▸ hlj⟩
              have cp : c ≠ p := fun e => no ⟨_, e ▸ hct⟩
              have r2 := (r1.freezeT (Nat.le_refl _)).un j
              have nz2 : ¬ (Z1 p ∨ p ∈ O1 ρ'.length) := fun z => z.elim nz fun z => no ⟨_, z⟩
              have no2 : ¬ Ow (setO (setO O1 ρ'.length []) j []) p := fun z => (ow_setO z).elim (fun z => nomatch z) fun z => (ow_setO z).elim (fun z => nomatch z) no
              have r3 := r2.at (o := .dK (drK l c 0 0)) nz2 no2 (by rw [ep]; exact .of)
              have ap : Apart (fun a => Z1 a ∨ a ∈ O1 ρ'.length) (setO (setO O1 ρ'.length []) j []) (upd H2 p (.dK (drK l c 0 0))) [p, l] := by
                refine ⟨by simpa using Ne.symm lp, fun x hx => ?_, fun x hx => ?_, fun x hx => ?_⟩
                · rcases (by simpa using hx : x = p ∨ x = l) with h | h
                  · rw [h]; exact nz2
                  · rw [h]; exact fun z => z.elim (r1.oz j l hlj) fun z => jt (r1.dj j _ l hlj z)
                · rcases (by simpa using hx : x = p ∨ x = l) with h | h
                  · rw [h]; exact no2
                  · rw [h]
                    rintro ⟨i, z⟩
                    by_cases q1 : i = j
                    · rw [q1, setO_same] at z; cases z
                    · rw [setO_ne q1] at z
                      by_cases q2 : i = ρ'.length
                      · rw [q2, setO_same] at z; cases z
                      · rw [setO_ne q2] at z; exact q1 (r1.dj i j l z hlj)
                · rcases (by simpa using hx : x = p ∨ x = l) with h | h
                  · rw [h, upd_same]; exact .of
                  · rw [h, upd_ne lp, hl]; exact .of
              have r4 := r3.giveT (t := (ρ'.set j .un).length) (Nat.le_refl _) ap
              refine ⟨ep, drK l c 0 0, rfl, by simp, ?_⟩
              rw [mergeK_new (drK l c 0 0) [] (show ([.inr "large", .inr "rest", .inr "cells", .inr "turn"] : List Key).Nodup by decide), List.nil_append]
              refine q (.ref p) _ _ _ ?_ r4 ⟨p, l, c, rfl, setO_same, upd_same, by rw [upd_ne lp]; exact hl, .inr hct, by rw [upd_ne cp]; exact hc⟩
              have y0 : Ext Z O H Z1 O1 H2 := Ext.trans (.newO hp) y
              have y1 := y0.at (o := .dK (drK l c 0 0)) hp (by rw [ep]; simp)
              refine ⟨fun x z => .inl (y1.zs x z), y1.kp, fun x z => ?_, fun x z => ?_, y1.dm⟩
              · exact z.elim (y1.zn x) fun z => .inr (y1.on x ⟨_, z⟩)
              · rcases ow_setO z with z | z
                · rcases (by simpa using z : x = p ∨ x = l) with h | h
                  · rw [h]; exact .inr hp
                  · rw [h]; exact y1.on l ⟨j, hlj⟩
                · exact (ow_setO z).elim (fun z => nomatch z) fun z => (ow_setO z).elim (fun z => nomatch z) (y1.on x)
end PB
set_option maxRecDepth 100000
set_option maxHeartbeats 4000000
/-! PX11: the law's def, run by the caller. -/
namespace PB
open PySem PySem.Spec PySem.Calls PyProof.Rows L2
/-- the law's def, called by the caller with the script -/
def RunA (P : Program) (w : World) (K : PySem.W.Frag) (mg : Str → Option Value) (base : Heap) (CX : CXT) (fa : Addr) (sp : Sp) : Prop :=
  ∀ (s : Shared) (H : Hp) (a : Addr) (Q : VK) (E : XK), Env0 P w K mg base callerA [] s H → sp [.ref a] H Q E → codeAny (model P w) callerA (.call (.ref fa) ⟨[.ref a], []⟩) (CR CX [] P w H s Q E) s
theorem run_of {CX : CXT} {P : Program} {w : World} {K : PySem.W.Frag} {mg : Str → Option Value} {base : Heap} {k : Nat} {f : Addr} {name qual : Str} {params : Arguments} {body : List Stmt} {scope : Scope} {dV kV doc pm cdv ct oc : Value} {an od : Option Addr}
    {osl : Array (Option Value)} {N : List Str} {x : Str} {sp : Sp} (lk : K.lookup f = some ⟨oc, od, .func (PySem.W.fnOf name qual params body scope dV kV doc pm an cdv ct), osl⟩) (hcd : PySem.W.codeIn K cdv qual = true) (S : FnScope N [x] scope)
    (hr : Room (k + 1) callerA) (hb : ∀ (s : Shared) (u : Value), BindsTo s (PySem.W.fnOf name qual params body scope dV kV doc pm an cdv ct) ⟨[u], []⟩ [(x, u)])
    (hbody : ∀ (s : Shared) (H : Hp) (v : V) (Q : VK) (E : XK), Room k (callerA.deeper (envOfC qual scope s.heap.objs.size f cdv)) → sp [v] H Q E →
      ∃ t, PSs (cxOf CX P w K mg base N qual scope f cdv callerA [] s H E) body t ∧ t { nx := fun _ H' => Q .non H', rt := Q } (L2.start N [v]) H) : RunA P w K mg base CX f sp := by
  intro s H a Q E e0 hsp
  have KX : K.In s.heap := e0.mod.kin.keeps fun b o e => (e0.bs b o e).1
  have lim : s.heap.NoLimit := e0.mod.nolimit.keeps fun b o e => (e0.bs b o e).1
  have hk : ∀ y ∈ ([x] : List Str).zip [Value.ref a], scope.names.lookup y.1 = some .local ∨ (scope.names.lookup y.1 = some .cell ∧ ((cellsFrom (s.heap.objs.size + 1) scope.names []).lookup y.1).isSome = true) := fun ⟨n, v⟩ hy =>
    (S.par n (List.of_mem_zip hy).1).elim .inl fun q => .inr ⟨q, PySem.W.cellsFrom_some _ _ _ (.inl q)⟩
  refine codeAny_call_function hr.depth (KX _ _ lk) rfl S.co S.gen rfl (PySem.W.codeRec_of KX hcd) (hb s (.ref a) _ _ _ _ ?_)
  refine wpAny_newFunctionEnv_cells S.kind hk fun env he s1 x1 => ?_
  subst he
  refine ⟨lim.keeps x1.toInCall.keep, codeAny_func ?_⟩
  obtain ⟨t, ht, hq⟩ := hbody s H (.ref a) Q E (hr.deeper _) hsp
  have J : L2.Inv (cxOf CX P w K mg base N qual scope f cdv callerA [] s H E) [] (L2.start N [.ref a]) H s1 := inv_start S hr.hd e0 (rfl : [V.ref a].length = [x].length) (.cons rfl .nil) x1
  refine wpAny_mono (ht.run [] s1 (L2.start N [.ref a]) H _ J hq) (fun fl s' hs => ?_) fun e s' hs => hs
  cases fl with
  | ret u =>
    obtain ⟨v, σ', H', J', rv, q⟩ := hs
    exact ⟨v, H', J'.os, J'.bare, J'.base, J'.hok, rv, q⟩
  | next =>
    obtain ⟨σ', H', J', q⟩ := hs
    exact ⟨.non, H', J'.os, J'.bare, J'.base, J'.hok, rfl, q⟩
  | brk => exact False.elim hs.choose_spec.choose_spec.2
  | cont => exact False.elim hs.choose_spec.choose_spec.2
theorem law_callA {P : Program} {w : World} {K : PySem.W.Frag} {mg mb : Str → Option Value} {CX : CXT} {fa a : Addr} {sp : Sp} {s₁ : Shared} {vs : List Value} {ns : List Int}
    (KX : K.In s₁.heap) (hns : s₁.heap.Ns mainGlobals mg) (hb : s₁.heap.Ns builtinsNs mb) (hbb : ∀ x : Str, x ≠ "__name__" → mb x = bootBuiltins x) (hlim : s₁.heap.NoLimit) (hg : s₁.gens = #[])
    (ha : s₁.heap.get? a = some { cls := .type "list", data := .seq vs.toArray }) (hi : IntsAre vs ns) (hl : ns.length ≤ sizeLine)
    (F : ∀ base : Heap, K.In base → base.Ns mainGlobals mg → RunA P w K mg base CX fa sp)
    (hsp : ∀ H : Hp, Only H → SqL K H a (ns.map V.int) → sp [.ref a] H (fun v _ => v = .bl true) fun _ _ _ => False)
    (hCX : ∀ H e s', CX [] H s₁ (fun _ _ _ => False) e s' → False) :
    codeAny (model P w) callerA (.call (.ref fa) ⟨[.ref a], []⟩) (fun r s' => r = .ok (.ret (.bool true)) ∧ OldK s₁.heap s'.heap ∧ s'.os = s₁.os ∧ AllBare s'.gens) s₁ := by
  have rv := vals_ints hi
  have lenV := hi.length
  have main : ∀ H : Hp, Only H → SqL K H a (ns.map V.int) → HOk P w H s₁.heap → (∀ b, H b ≠ none → b = a) → (H a ≠ none → K.lookup a = none) →
      codeAny (model P w) callerA (.call (.ref fa) ⟨[.ref a], []⟩) (fun r s' => r = .ok (.ret (.bool true)) ∧ OldK s₁.heap s'.heap ∧ s'.os = s₁.os ∧ AllBare s'.gens) s₁ := by
    intro H hO hS hok hA hK
    have isA : ∀ {b : Addr} {u : HO}, H b = some u → b = a := fun {b u} q => hA b (by rw [q]; simp)
    have bs : ∀ {b : Addr} {o : Obj}, s₁.heap.get? b = some o → H b = none → (hidT s₁.heap H).get? b = some o := fun e n => hidT_get e n
    have nd : ∀ {b : Addr} {o : Obj} {es : Array DictEntry} {ep : Nat}, s₁.heap.get? b = some o → o.data = .dict es ep → H b = none := fun {b o es ep} e d => by
      cases q : H b with
      | none => rfl
      | some u =>
        rw [isA q, ha] at e
        cases e
        exact absurd d (fun z => by have z : Data.seq vs.toArray _ = Data.dict es ep := z; cases z)
    have nsK : ∀ {b : Addr} {m : Str → Option Value}, s₁.heap.Ns b m → (hidT s₁.heap H).Ns b m := fun {b m} ⟨o, es, ep, e, d, r⟩ => ⟨o, es, ep, bs e (nd e d), d, r⟩
    have kb : K.In (hidT s₁.heap H) := fun b o e => bs (KX b o e) (by
      cases q : H b with
      | none => rfl
      | some u =>
        have e' := isA q
        subst e'
        rw [hK (by rw [q]; simp)] at e
        cases e)
    have md : Mod K mg (hidT s₁.heap H) := ⟨kb, nsK hns, ⟨mb, nsK hb, hbb⟩, let ⟨mc, h1, h2⟩ := hlim; ⟨mc, nsK h1, h2⟩⟩
    have e0 : Env0 P w K mg (hidT s₁.heap H) callerA [] s₁ H := ⟨rfl, md, fun b o e => of_hidT e, Nat.le_of_eq (hidT_size _ _), trivial, fun b hb => absurd (show b ∈ ([] : List Addr) from hb) (by simp), hok, .of_eq hg⟩
    refine codeAny_mono (F _ kb (nsK hns) s₁ H a _ _ e0 (hsp H hO hS)) fun r s' h => ?_
    cases r with
    | error e => exact (hCX H e s' h).elim
    | ok fl =>
      cases fl with
      | ret u =>
        obtain ⟨v, H', os, bare, un, hok', r', q⟩ := h
        have q' : v = .bl true := q
        subst q'
        obtain rfl : u = Value.bool true := r'
        refine ⟨rfl, OldK.of_keep fun b o e => ?_, os, bare⟩
        cases q : H b with
        | none => exact un.keep b o e q (fun z => absurd (show b ∈ ([] : List Addr) from z) (by simp)) (by simp)
        | some u =>
          rcases hO b with z | ⟨ob, xs, z⟩
          · rw [q] at z; cases z
          · obtain ⟨e1, _⟩ := hok b _ z
            obtain ⟨e2, _⟩ := hok' b _ (un.frzs b ob _ z)
            rw [e] at e1
            cases e1
            exact e2
      | next => exact False.elim h
      | brk => exact False.elim h
      | cont => exact False.elim h
  cases hk : K.lookup a with
  | some o =>
    have e := KX a o hk
    rw [ha] at e
    cases e
    exact main (fun _ => none) (fun _ => .inl rfl) (.inr ⟨_, vs.toArray, _, hk, rfl, rfl, rfl, by rw [List.size_toArray, lenV]; exact hl, by simpa using rv⟩) (fun b u z => nomatch z) (fun b z => absurd rfl z) fun z => absurd rfl z
  | none =>
    have sc : ∀ {b : Addr} {u : HO}, (if b = a then some (HO.frz { cls := .type "list", data := .seq vs.toArray } (.lst (ns.map V.int))) else none) = some u → b = a ∧ u = .frz { cls := .type "list", data := .seq vs.toArray } (.lst (ns.map V.int)) := fun {b u} z => by
      by_cases hb : b = a
      · rw [if_pos hb] at z; exact ⟨hb, (Option.some.inj z).symm⟩
      · rw [if_neg hb] at z; cases z
    refine main (fun b => if b = a then some (.frz { cls := .type "list", data := .seq vs.toArray } (.lst (ns.map V.int))) else none) (fun b => ?_) (.inl (.inr ⟨_, if_pos rfl⟩)) (fun b u z => ?_) (fun b z => ?_) fun _ => hk
    · by_cases hb : b = a
      · exact .inr ⟨_, _, if_pos hb⟩
      · exact .inl (if_neg hb)
    · obtain ⟨e1, e2⟩ := sc z
      subst e1 e2
      exact ⟨ha, by rw [List.length_map]; exact hl, vs, _, rv, ha⟩
    · by_cases hb : b = a
      · exact hb
      · exact absurd (if_neg hb) z
/-- a law: what the Hook says gives its run -/
theorem walk_A {l : PySem.W.OpenLaw} {n : Nat} {q : Program} {loose : List Str} {XP : (Str → Option Value) → Heap → Prop} {YP : World → Heap → Prop} {d : DefRec} {CX : World → CXT} (hn : l.most = some n) (hn2 : n ≤ sizeLine) (hdf : d.params.defaults = [])
    (F : ∀ (w : World) (mg : Str → Option Value) (fa : Addr) (h : Heap), YP w h → h.Ns mainGlobals mg → mg d.name = some (.ref fa) → ∃ (K : PySem.W.Frag) (sp : Sp), K.In h ∧
      (∀ (H : Hp) (a : Addr) (ns : List Int), ns.length ≤ n → (∀ z ∈ ns, Builtin.Int.intBits z ≤ 1048576) → Only H → SqL K H a (ns.map V.int) → sp [.ref a] H (fun v _ => v = .bl true) fun _ _ _ => False) ∧
      ∀ base : Heap, K.In base → base.Ns mainGlobals mg → RunA l.prog w K mg base (CX w) fa sp)
    (hCX : ∀ (w : World) (H : Hp) (s : Shared) (e : Value) (s' : Shared), CX w [] H s (fun _ _ _ => False) e s' → False) :
    PySem.W.WalkO q loose XP YP l.row.toRowW d [] (fun f vs => PySem.call f vs) := by
  refine Att.attach_callB hn hdf fun w s₀ s₁ mg mb fa o pm cd doc a vs ns G Y ho hd hcd hmg hobj hints hlen hbits hg => ?_
  obtain ⟨K, sp, KX, hsp, hF⟩ := F w mg fa _ Y G.T.g hmg
  exact law_callA KX G.T.g G.T.b G.T.builtins G.T.nolimit hg hobj hints (Nat.le_trans hlen hn2) hF (fun H hO hS => hsp H a ns hlen hbits hO hS) fun H e s' => hCX w H s₁ e s'
end PB
set_option maxRecDepth 100000
set_option maxHeartbeats 4000000
/-! PX12: what the head tells: functions, classes, exceptions with their own __init__. -/
namespace PB
open PySem PySem.Spec PyProof.Rows L2
open PySem.W (Frag findIn specialIn takesIn subIn mroIn hasDictIn clsIn kitOne typeIn keepIn codeIn nsIn alongIn excIn)
/-! ### the written part: what the module's names name, and their methods -/
def refsV (o : Obj) : List Addr := match o.data with
  | .dict es _ => es.toList.flatMap fun e => He.refV e.val
  | _ => []
def fnAs (g : Addr → Option Obj) (a : Addr) : List Addr := match g a with
  | some o => (match o.data with
    | .func fd => a :: He.refV fd.code ++ fd.closure.map (·.2)
    | _ => [a])
  | none => []
/-- what a written value leans on -/
def deepV (g : Addr → Option Obj) : Nat → Value → List Addr
  | n + 1, .ref a => (match g a with
    | some o => (match o.data with
      | .seq its _ => a :: its.toList.flatMap (deepV g n)
      | .dict es _ => a :: es.toList.flatMap fun e => deepV g n e.val
      | _ => [a])
    | none => [])
  | _, _ => []
def adB (g : Addr → Option Obj) : List Addr := mainGlobals :: cStatics :: sysModules :: (match g mainGlobals with
  | some o => (refsV o).flatMap fun a => match g a with
    | some ob => (match ob.data with
      | .cls cd => a :: cd.ns :: (match g cd.ns with
        | some on => (refsV on).flatMap (fnAs g)
        | none => [])
      | .seq _ _ => deepV g 6 (.ref a)
      | .dict _ _ => deepV g 6 (.ref a)
      | _ => fnAs g a)
    | none => []
  | none => [])
/-! ### an own exception class -/
def xcB (K : Frag) (C : Addr) : Bool :=
  He.eqO (findIn K (.ref C) "__getattribute__") (some (some (.builtin "BaseException.__getattribute__"))) && (He.eqO (findIn K (.ref C) "__getattr__") (some none) && (decide (subIn K (.ref C) (.type "BaseException") = some true) &&
  (hasDictIn K C && (He.eqO (findIn K (.ref C) "__class__") (some (some (.builtin "object.__class__"))) && (decide (mroIn K C (.type "object") = some true) && (keepIn K (.ref C) && decide (typeIn K (.ref C) = some (.type "type"))))))))
def spB (K : Frag) : Bool := He.eqO (specialIn K (.builtin "object.__class__") "__get__") (some (some (.builtin "getset_descriptor.__get__"))) && decide (takesIn K (.builtin "object.__class__") = some true)
structure XcAll (K : Frag) (C : Addr) : Prop where
  exc : ExcC K C
  xf : XfC K C
  kp : keepIn K (.ref C) = true
  sub : subIn K (.ref C) (.type "BaseException") = some true
  ty : typeIn K (.ref C) = some (.type "type")
theorem xcB_ok {K : Frag} {C : Addr} (h : xcB K C = true) (s : spB K = true) : XcAll K C := by
  obtain ⟨h1, h⟩ := He.ba h
  obtain ⟨h2, h⟩ := He.ba h
  obtain ⟨h3, h⟩ := He.ba h
  obtain ⟨h4, h⟩ := He.ba h
  obtain ⟨h5, h⟩ := He.ba h
  obtain ⟨h6, h⟩ := He.ba h
  obtain ⟨h7, h8⟩ := He.ba h
  obtain ⟨s1, s2⟩ := He.ba s
  exact ⟨⟨He.eqO_ok h1, He.eqO_ok h2, of_decide_eq_true h3, h4, He.eqO_ok h5, He.eqO_ok s1, of_decide_eq_true s2, of_decide_eq_true h6⟩, ⟨He.eqO_ok h1, He.eqO_ok h2, of_decide_eq_true h3, h4⟩, h7, of_decide_eq_true h3, of_decide_eq_true h8⟩
/-! ### .. with its own __init__ -/
structure XD where
  c : Nat
  qual : Str
  prm : Str
  fld : Str
  st : Stmt
def mi (K : Frag) (C : Addr) : Addr := He.ma K C "__init__"
abbrev FnZ : Type := Option (Str × Str × Arguments × FuncBody × Scope × Addr × List Str × Value × Addr)
def xdObs (K : Frag) (C : Addr) : FnZ := match K.lookup (mi K C) with
  | some ⟨_, _, .func fd, _⟩ => some (fd.name, fd.qualname, fd.params, fd.body, fd.scope, fd.globals, fd.closure.map (·.1), fd.defaults, fd.builtins)
  | _ => none
def XD.val (d : XD) : FnZ := some ("__init__", d.qual, defArgs d.st, .stmts (defBody d.st), defScope d.st, mainGlobals, ["__class__"], .none, builtinsNs)
def oexB (K : Frag) (C : Addr) : Bool := match K.lookup C with
  | some ⟨.type t, _, .cls cd, sl⟩ => (match cd.mro, sl.toList with
    | .ref C' :: bm, [_, _, _, _, some (.builtin n), _] => decide (t = "type") && (decide (C' = C) && (decide (n = "ValueError.__new__") && (!cd.hasDel && (cd.hasDict && (PySem.HandSPX.refsVE bm && He.eqO (alongIn K "__init__" bm) (some (some (.builtin "ValueError.__init__"))))))))
    | _, _ => false)
  | _ => false
theorem oexB_ok {K : Frag} {C : Addr} (h : oexB K C = true) : (∃ nm q N bs bm sn sub ab col dd k0 k1 k2 k3 k5, K.lookup C = some (excClassObj nm q C N bs bm true sn sub ab col dd k0 k1 k2 k3 k5 "ValueError.__new__") ∧ PySem.HandSPX.refsVE bm = true) ∧
    ∃ cd, clsIn K C = some cd ∧ alongIn K "__init__" ((cd.mro.dropWhile (· != .ref C)).drop 1) = some (some (.builtin "ValueError.__init__")) := by
  unfold oexB at h
  split at h
  · rename_i t dd cd sl ho
    split at h
    · rename_i C' bm k0 k1 k2 k3 n k5 hm hs
      obtain ⟨h1, h⟩ := He.ba h
      obtain ⟨h2, h⟩ := He.ba h
      obtain ⟨h3, h⟩ := He.ba h
      obtain ⟨h4, h⟩ := He.ba h
      obtain ⟨h5, h⟩ := He.ba h
      obtain ⟨h6, h7⟩ := He.ba h
      have e1 := of_decide_eq_true h1
      have e2 := of_decide_eq_true h2
      have e3 := of_decide_eq_true h3
      subst e1 e2 e3
      obtain ⟨nm, bs, mro, ns, qn, hd, sn, sb, ab, col, del⟩ := cd
      dsimp only at hm h4 h5
      subst hm h5
      have h4 : del = false := by simpa using h4
      subst h4
      have hsl : sl = #[k0, k1, k2, k3, some (.builtin "ValueError.__new__"), k5] := by
        obtain ⟨l⟩ := sl
        simp only at hs
        rw [hs]
      subst hsl
      refine ⟨⟨nm, qn, ns, bs, bm, sn, sb, ab, col, dd, k0, k1, k2, k3, k5, ho, h6⟩, _, by unfold clsIn; rw [ho], ?_⟩
      have e4 : (Value.ref C' :: bm).dropWhile (· != .ref C') = .ref C' :: bm := by simp [List.dropWhile_cons]
      show alongIn K "__init__" (((Value.ref C' :: bm).dropWhile (· != .ref C')).drop 1) = _
      rw [e4]
      exact He.eqO_ok h7
    · cases h
  · cases h
def xcellB (file : Str) (K : Frag) (C : Addr) (qual : Str) : Bool := match K.lookup (mi K C) with
  | some ⟨_, _, .func fd, _⟩ => codeIn K fd.code qual && ((match fd.code with
    | .ref cda => (match K.lookup cda with
      | some ⟨_, _, .fields vs, _⟩ => (match vs[2]? with
        | some (Value.str f _) => file == f
        | _ => false)
      | _ => false)
    | _ => false) && (match fd.closure with
    | [(_, cc)] => (match K.lookup cc with
      | some ⟨_, _, .cell (some (.ref D)), _⟩ => decide (D = C)
      | _ => false)
    | _ => false))
  | _ => false
/-- its function object -/
structure XFn (P : Program) (K : Frag) (C : Addr) (d : XD) : Prop where
  ex : ∃ (oc : Value) (od : Option Addr) (kV doc pm : Value) (an : Option Addr) (cda cc : Addr) (ct : Value) (osl : Array (Option Value)) (vs5 : Array Value) (file : Str) (tf : Tok) (cl5 clc : Value) (d5 dc : Option Addr) (sl5 slc : Array (Option Value)),
    K.lookup (mi K C) = some ⟨oc, od, .func (PySem.W.ksFn "__init__" d.qual (defArgs d.st) (defBody d.st) (defScope d.st) .none kV doc pm an (.ref cda) ct cc), osl⟩ ∧ codeIn K (.ref cda) d.qual = true ∧
    K.lookup cda = some ⟨cl5, d5, .fields vs5, sl5⟩ ∧ vs5[2]? = some (.str file tf) ∧ ((P.main.file : Str) == file) = true ∧ K.lookup cc = some ⟨clc, dc, .cell (some (.ref C)), slc⟩
theorem xfn_ok {P : Program} {K : Frag} {C : Addr} {d : XD} (e : xdObs K C = d.val) (h : xcellB P.main.file K C d.qual = true) : XFn P K C d := by
  unfold xdObs at e
  unfold xcellB at h
  cases q : K.lookup (mi K C) with
  | none => rw [q] at h; cases h
  | some o =>
    obtain ⟨oc, od, dt, osl⟩ := o
    rw [q] at h e
    cases dt with
    | func fd =>
      obtain ⟨n1, n2, n3, n4, n5, n6, n7, n8, n9, n10, n11, n12, n13, n14, n15⟩ := fd
      have e2 : (some (n1, n2, n3, n4, n5, n6, n7.map (·.1), n8, n15) : FnZ) = some (("__init__" : Str), d.qual, defArgs d.st, FuncBody.stmts (defBody d.st), defScope d.st, mainGlobals, [("__class__" : Str)], Value.none, builtinsNs) := e
      simp only [Option.some.injEq, Prod.mk.injEq] at e2
      obtain ⟨h1, h2, h3, h4, h5, h6, h7, h9, h8⟩ := e2
      subst h1 h2 h3 h4 h5 h6 h8 h9
      dsimp only at h
      obtain ⟨g1, g⟩ := He.ba h
      obtain ⟨g2, g3⟩ := He.ba g
      split at g2
      · rename_i cda
        split at g2
        · rename_i cl5 d5 vs5 sl5 hc5
          split at g2
          · rename_i f tf hf
            split at g3
            · rename_i nm cc
              split at g3
              · rename_i clc dc D slc hcc
                have eD := of_decide_eq_true g3
                subst eD
                have enm : nm = "__class__" := by simpa using h7
                subst enm
                exact ⟨oc, od, n9, n10, n11, n12, cda, cc, n14, osl, vs5, f, tf, cl5, clc, d5, dc, sl5, slc, q, g1, hc5, hf, g2, hcc⟩
              · cases g3
            · cases g3
          · cases g2
        · cases g2
      · cases g2
    | _ => cases h
def xdB (file : Str) (K : Frag) (C : Addr) (d : XD) : Bool :=
  He.eqO (findIn K (.ref C) "__init__") (some (some (.ref (mi K C)))) && (decide (typeIn K (.ref (mi K C)) = some (.type "function")) && (He.eqO (findIn K (.ref C) d.fld) (some none) && (He.eqO (findIn K (.ref C) "__setattr__") (some (some (.builtin "object.__setattr__"))) &&
  (decide (subIn K (.ref C) (.type "ValueError") = some true) && (decide (mroIn K C (.ref C) = some true) && (oexB K C && xcellB file K C d.qual))))))
structure XdAll (P : Program) (K : Frag) (C : Addr) (d : XD) : Prop where
  xc : XcF P K C
  iC : findIn K (.ref C) "__init__" = some (some (.ref (mi K C)))
  tI : typeIn K (.ref (mi K C)) = some (.type "function")
  no : findIn K (.ref C) d.fld = some none
  fn : XFn P K C d
theorem xdB_ok {P : Program} {K : Frag} {C : Addr} {d : XD} (e : xdObs K C = d.val) (h : xdB P.main.file K C d = true) (a : XcAll K C) (thd : nsIn K cStatics "thirdparty.any" = some none) : XdAll P K C d := by
  obtain ⟨h1, h⟩ := He.ba h
  obtain ⟨h2, h⟩ := He.ba h
  obtain ⟨h3, h⟩ := He.ba h
  obtain ⟨h4, h⟩ := He.ba h
  obtain ⟨h5, h⟩ := He.ba h
  obtain ⟨h6, h⟩ := He.ba h
  obtain ⟨h7, h8⟩ := He.ba h
  obtain ⟨o1, o2⟩ := oexB_ok h7
  exact ⟨⟨⟨o1, He.eqO_ok h4, a.sub, a.ty, a.kp⟩, o2, of_decide_eq_true h5, of_decide_eq_true h6, thd⟩, He.eqO_ok h1, of_decide_eq_true h2, He.eqO_ok h3, xfn_ok e h8⟩
/-! ### written values -/
def optAll (f : Value → Option D) : List Value → Option (List D)
  | [] => some []
  | u :: us => match f u, optAll f us with
    | some d, some ds => some (d :: ds)
    | _, _ => none
/-- a written value as a tree -/
def cstD (K : Frag) : Nat → Value → Option D
  | _, .none => some .non
  | _, .bool b => some (.bl b)
  | _, .int i _ => some (.int i)
  | _, .str x _ => some (.str x)
  | n + 1, .ref a => (match K.lookup a with
    | some ⟨.type c, od, .seq its m, sl⟩ => if its.size ≤ sizeLine then (if c = "tuple" then (optAll (cstD K n) its.toList).map .tup else if c = "list" ∧ od = none then (optAll (cstD K n) its.toList).map .fls else none) else none
    | _ => none)
  | _, _ => none
theorem optAll_ok {K : Frag} {f : Value → Option D} (hf : ∀ u d, f u = some d → ∃ v, L2.RelV v u ∧ ∀ (G : Gc) Z H, G.K = K → Rf G Z H d v) : ∀ {us : List Value} {ds : List D}, optAll f us = some ds → ∃ vs, L2.Vals vs us ∧ ∀ (G : Gc) Z H, G.K = K → RfL G Z H ds vs
  | [], _, e => by cases e; exact ⟨[], .nil, fun _ _ _ _ => rfl⟩
  | u :: us, _, e => by
    unfold optAll at e
    cases e1 : f u with
    | none => rw [e1] at e; cases e
    | some d =>
      cases e2 : optAll f us with
      | none => rw [e1, e2] at e; cases e
      | some ds =>
        rw [e1, e2] at e
        cases e
        obtain ⟨v, r, h⟩ := hf u d e1
        obtain ⟨vs, rs, hs⟩ := optAll_ok hf e2
        exact ⟨v :: vs, .cons r rs, fun G Z H hK => ⟨v, vs, rfl, h G Z H hK, hs G Z H hK⟩⟩
theorem cstD_ok {K : Frag} : ∀ (n : Nat) (u : Value) (d : D), cstD K n u = some d → ∃ v, L2.RelV v u ∧ ∀ (G : Gc) Z H, G.K = K → Rf G Z H d v := by
  intro n
  induction n with
  | zero =>
    intro u d e
    cases u <;> first | (cases e; done) | skip
    · cases e; exact ⟨.non, rfl, fun _ _ _ _ => rfl⟩
    · cases e; exact ⟨.bl _, rfl, fun _ _ _ _ => rfl⟩
    · cases e; exact ⟨.int _, ⟨_, rfl⟩, fun _ _ _ _ => rfl⟩
    · cases e; exact ⟨.str _, ⟨_, rfl⟩, fun _ _ _ _ => rfl⟩
  | succ n ih =>
    intro u d e
    cases u <;> first | (cases e; done) | skip
    · cases e; exact ⟨.non, rfl, fun _ _ _ _ => rfl⟩
    · cases e; exact ⟨.bl _, rfl, fun _ _ _ _ => rfl⟩
    · cases e; exact ⟨.int _, ⟨_, rfl⟩, fun _ _ _ _ => rfl⟩
    · cases e; exact ⟨.str _, ⟨_, rfl⟩, fun _ _ _ _ => rfl⟩
    · rename_i a
      unfold cstD at e
      split at e
      · rename_i c od its m sl hl
        split at e
        · rename_i hz
          split at e
          · rename_i hc
            subst hc
            cases e1 : optAll (cstD K n) its.toList with
            | none => rw [e1] at e; cases e
            | some ds =>
              rw [e1] at e; cases e
              obtain ⟨vs, rs, hs⟩ := optAll_ok ih e1
              exact ⟨.ref a, rfl, fun G Z H hK => ⟨a, vs, rfl, .inr ⟨_, its, m, by rw [hK]; exact hl, rfl, rfl, hz, rs⟩, hs G Z H hK⟩⟩
          · split at e
            · rename_i hc
              obtain ⟨rfl, rfl⟩ := hc
              cases e1 : optAll (cstD K n) its.toList with
              | none => rw [e1] at e; cases e
              | some ds =>
                rw [e1] at e; cases e
                obtain ⟨vs, rs, hs⟩ := optAll_ok ih e1
                exact ⟨.ref a, rfl, fun G Z H hK => ⟨a, vs, rfl, .inr ⟨_, its, m, by rw [hK]; exact hl, rfl, rfl, rfl, hz, rs⟩, hs G Z H hK⟩⟩
            · cases e
        · cases e
      · cases e
def gloV (K : Frag) (x : Str) : Option Value := match nsIn K mainGlobals x with
  | some o => o
  | none => none
def cstO (K : Frag) (x : Str) : Option D := (gloV K x).bind (cstD K 6)
/-! ### written dicts -/
abbrev DiV : Type := Option (List (Option (Str × Int) × Option D))
def dicO (K : Frag) (a : Addr) : DiV := match K.lookup a with
  | some ⟨.type c, none, .dict es _, sl⟩ => (match decide (c = "dict") && (sl.isEmpty && !(a == sysModules)) with
    | true => some (es.toList.map fun e => (He.keyOf e, cstD K 6 e.val))
    | false => none)
  | _ => none
def dicVal (P : Params) (ks : List Str) (xs : List D) : DiV := some ((ks.zip xs).map fun p => (some (p.1, PyData.keyHash P p.1), some p.2))
def lookS : List Str → List D → Str → Option D
  | k :: ks, x :: xs, y => if k = y then some x else lookS ks xs y
  | _, _, _ => none
/-- a dict of the text's top, its keys texts -/
structure DicT (K : Frag) (w : World) (a : Addr) (ks : List Str) (xs : List D) : Prop where
  kd : ∃ es n, KDict K w a es n
  get : ∀ x d, lookS ks xs x = some d → ∃ u v, nsIn K a x = some (some u) ∧ L2.RelV v u ∧ ∀ (G : Gc) Z H, G.K = K → Rf G Z H d v
  no : ∀ x, lookS ks xs x = none → nsIn K a x = some none
theorem dic_key {e : DictEntry} {k : Str} {i : Int} (h : He.keyOf e = some (k, i)) : ∃ t, e.key = .str k t ∧ e.hash = i := by
  unfold He.keyOf at h
  split at h
  · rename_i x t q
    cases h
    exact ⟨t, q, rfl⟩
  · cases h
theorem dicT_of {K : Frag} {w : World} {a : Addr} {ks : List Str} {xs : List D} (hl : ks.length = xs.length) (h : dicO K a = dicVal w.params ks xs) : DicT K w a ks xs := by
  unfold dicO dicVal at h
  cases q : K.lookup a with
  | none => rw [q] at h; cases h
  | some o =>
    obtain ⟨oc, od, dt, osl⟩ := o
    rw [q] at h
    cases oc <;> first | (cases h; done) | skip
    rename_i c
    cases od <;> first | (cases h; done) | skip
    cases dt <;> first | (cases h; done) | skip
    rename_i es n
    simp only at h
    split at h
    · rename_i hb
      obtain ⟨h1, h2⟩ := He.ba hb
      obtain ⟨h3, h4⟩ := He.ba h2
      have ec : c = "dict" := of_decide_eq_true h1
      have es0 : osl = #[] := Array.isEmpty_iff.mp h3
      subst ec es0
      have e := Option.some.inj h
      have hk : es.toList.map He.keyOf = He.keysIn w.params ks := by
        have := congrArg (List.map Prod.fst) e
        rw [List.map_map, List.map_map] at this
        refine this.trans ?_
        unfold He.keysIn
        have z : ((ks.zip xs).map Prod.fst) = ks := List.map_fst_zip (by omega)
        conv => rhs; rw [← z]
        rw [List.map_map]
        rfl
      have hx : ∀ x, (∀ d, lookS ks xs x = some d → ∃ en, es.toList.find? (·.key.isStr x) = some en ∧ cstD K 6 en.val = some d) ∧ (lookS ks xs x = none → es.toList.find? (·.key.isStr x) = none ∧ es.toList.any (·.refKey) = false) := by
        intro x
        clear h hb hk
        clear q h1 h2 h3 h4
        generalize es.toList = l at e ⊢
        induction l generalizing ks xs with
        | nil =>
          cases ks with
          | nil => exact ⟨fun d z => (by unfold lookS at z; cases z), fun _ => ⟨rfl, rfl⟩⟩
          | cons k ks =>
            cases xs with
            | nil => simp at hl
            | cons y ys => cases e
        | cons en l ih =>
          cases ks with
          | nil => cases e
          | cons k ks =>
            cases xs with
            | nil => simp at hl
            | cons y ys =>
              rw [List.map_cons, List.zip_cons_cons, List.map_cons] at e
              obtain ⟨e1, e2⟩ := List.cons.inj e
              obtain ⟨e3, e4⟩ := Prod.mk.inj e1
              obtain ⟨t, ek, _⟩ := dic_key e3
              obtain ⟨i1, i2⟩ := ih (by simpa using hl) e2
              have eis : en.key.isStr x = decide (k = x) := by
                rw [ek]
                show (k == x) = decide (k = x)
                by_cases hh : k = x
                · subst hh; simp
                · simp [hh]
              refine ⟨fun d z => ?_, fun z => ?_⟩
              · unfold lookS at z
                rw [List.find?_cons, eis]
                by_cases hh : k = x
                · rw [if_pos hh] at z; cases z
                  simp only [hh, decide_true]
                  exact ⟨en, rfl, e4⟩
                · rw [if_neg hh] at z
                  simp only [hh, decide_false]
                  exact i1 d z
              · unfold lookS at z
                by_cases hh : k = x
                · rw [if_pos hh] at z; cases z
                · rw [if_neg hh] at z
                  obtain ⟨j1, j2⟩ := i2 z
                  refine ⟨by rw [List.find?_cons, eis]; simp only [hh, decide_false]; exact j1, ?_⟩
                  rw [List.any_cons, j2, Bool.or_false]
                  unfold DictEntry.refKey
                  rw [ek]
      refine ⟨⟨es, n, q, He.keysLit_of hk, by simpa using h4⟩, fun x d z => ?_, fun x z => ?_⟩
      · obtain ⟨en, f1, f2⟩ := (hx x).1 d z
        obtain ⟨v, r, hv⟩ := cstD_ok 6 en.val d f2
        exact ⟨en.val, v, by unfold PySem.W.nsIn; rw [q]; simp only [f1], r, hv⟩
      · obtain ⟨f1, f2⟩ := (hx x).2 z
        unfold PySem.W.nsIn
        rw [q]
        simp only [f1, f2]
        rfl
    · cases h
/-! ### the Hook -/
structure OwnD where
  c : Nat
  ms : List He.FnD
  fs : List Str
/-- the text's own words -/
structure Tx where
  file : Str
  names : List Str
  nx : Nat
  glo : List Str
  free : List Str
  fns : List He.FnD
  xs : List XD
  plain : List Nat
  plainE : List Nat
  isT : List (Tn × Tn × Bool)
  own : List OwnD
  csts : List (Str × D)
  dics : List (Nat × List Str × List D)
  lams : List Str
  exm : List (Nat × Nat × Bool)
def Tx.cl (T : Tx) (K : Frag) (n : Nat) : Addr := He.ga K (T.names.getD n Str.empty)
/-- what a running def's own frame adds -/
structure Lc where
  lam : Nat → Addr → Addr → Heap → Prop
  lq : Str
  T : List (Addr × Str)
def Lc.z : Lc := ⟨fun _ _ _ _ => False, Str.empty, []⟩
def Tx.gc (T : Tx) (K : Frag) (l : Lc) : Gc := ⟨K, T.cl K, l.lam, l.lq, l.T⟩
def exBase : List Value := [.type "Exception", .type "BaseException", .type "object"]
def OwnD.b (T : Tx) (K : Frag) (d : OwnD) : Bool := (He.Fa.cls (T.names.getD d.c Str.empty)).ok K && ((He.Fa.mkr (T.names.getD d.c Str.empty)).ok K && (d.fs.all (fun f => (He.Fa.noat (T.names.getD d.c Str.empty) f).ok K) && (d.ms.all (fun f => decide (f.at_ = (T.names.getD d.c Str.empty, some f.name)) && ((He.Fa.meth (T.names.getD d.c Str.empty) f.name).ok K && (He.Fa.code f.at_ f.qual).ok K)) &&
  (He.eqO (findIn K (.ref (T.cl K d.c)) "__class__") (some (some (.builtin "object.__class__"))) && decide (mroIn K (T.cl K d.c) (.type "object") = some true)))))
def Tx.b (T : Tx) (K : Frag) : Bool :=
  T.glo.all (fun x => (He.Fa.glo x).ok K) && (T.free.all (fun x => (He.Fa.free x).ok K) && (T.fns.all (fun d => (He.Fa.code d.at_ d.qual).ok K && keepIn K (.ref (He.fAd K d.at_))) && ((List.range T.nx).all (fun n => xcB K (T.cl K n)) && (spB K && (T.xs.all (fun d => xdB T.file K (T.cl K d.c) d) &&
  (T.plain.all (fun n => excIn K (T.cl K n) He.veBase "ValueError.__new__") && (T.isT.all (fun p => decide (kitOne K (tnV (T.gc K .z) p.1) (tnV (T.gc K .z) p.2.1) = some p.2.2)) && (He.eqO (nsIn K cStatics "thirdparty.any") (some none) && ((K.lookup sysModules).isSome &&
  (T.own.all (fun d => d.b T K) && (T.plainE.all (fun n => excIn K (T.cl K n) exBase "Exception.__new__") && T.exm.all (fun p => decide (PySem.W.exmOne K (.ref (T.cl K p.1)) (.ref (T.cl K p.2.1)) = some p.2.2)))))))))))))
abbrev AlB : Type := Bool × List He.FnV × List FnZ × List (Option D) × List DiV
def Tx.obs (T : Tx) (K : Frag) : AlB := (T.b K, (T.fns ++ T.own.flatMap (·.ms)).map (fun d => He.fnObs K d.at_), T.xs.map (fun d => xdObs K (T.cl K d.c)), T.csts.map (fun c => cstO K c.1), T.dics.map fun d => dicO K (T.cl K d.1))
def Tx.val (T : Tx) (w : World) : AlB := (true, (T.fns ++ T.own.flatMap (·.ms)).map He.FnD.val, T.xs.map XD.val, T.csts.map (fun c => some c.2), T.dics.map fun d => dicVal w.params d.2.1 d.2.2)
/-- the code object of a def of the top -/
def lamC (K : Frag) (x : Str) : Addr := match K.lookup (He.ga K x) with
  | some ⟨_, _, .func fd, _⟩ => (match fd.code with
    | .ref c => c
    | _ => 0)
  | _ => 0
def lamP (g : Addr → Option Obj) (c : Addr) : Addr := match g c with
  | some ⟨_, _, .fields vs, _⟩ => (match vs.getD 11 .none with
    | .ref P => P
    | _ => 0)
  | _ => 0
def lamB (g : Addr → Option Obj) (c : Addr) : Bool := (match g c with
  | some ⟨.type t, _, .fields vs, _⟩ => decide (t = "code") && ((match vs.getD 11 .none with
    | .ref _ => decide (11 < vs.size)
    | _ => false) && ((match vs.getD 18 .none with
    | .str _ _ => true
    | _ => false) && ((match vs.getD 7 .none with
    | .int _ _ => true
    | _ => false) && ((match vs.getD 9 .none with
    | .bool _ => true
    | _ => false) && ((match vs.getD 10 .none with
    | .int _ _ => true
    | _ => false) && !decide (c = lamP g c))))))
  | _ => false) && (match g (lamP g c) with
  | some o => He.emptyTab o
  | none => false)
def lamQ (K : Frag) (x : Str) : Bool := match K.lookup (He.ga K x) with
  | some ⟨_, _, .func fd, _⟩ => decide (fd.code = .ref (lamC K x))
  | _ => false
theorem lamB_ok {h : Heap} {c : Addr} (e : lamB h.get? c = true) : PySem.W.CodeHd h c (lamP h.get? c) ∧ h.get? (lamP h.get? c) = some { cls := .none, data := .fields #[] } := by
  unfold lamB at e
  obtain ⟨e1, e2⟩ := He.ba e
  refine ⟨?_, ?_⟩
  · split at e1
    · rename_i t od vs sl hc
      obtain ⟨a1, e1⟩ := He.ba e1
      obtain ⟨a2, e1⟩ := He.ba e1
      obtain ⟨a3, e1⟩ := He.ba e1
      obtain ⟨a4, e1⟩ := He.ba e1
      obtain ⟨a5, e1⟩ := He.ba e1
      obtain ⟨a6, a7⟩ := He.ba e1
      have et : t = "code" := of_decide_eq_true a1
      subst et
      have hne : c ≠ lamP h.get? c := by simpa using a7
      unfold lamP at hne ⊢
      rw [hc] at hne ⊢
      simp only at hne ⊢
      split at a2
      · rename_i P gd
        simp only [gd] at hne ⊢
        have hlt : 11 < vs.size := of_decide_eq_true a2
        have hP : vs[11]? = some (.ref P) := by
          rw [Array.getD_eq_getD_getElem?] at gd
          rw [Array.getElem?_eq_getElem hlt] at gd ⊢
          exact congrArg some gd
        split at a3
        · rename_i f tf hf
          split at a4
          · rename_i fl tg hfl
            split at a5
            · rename_i b hb
              split at a6
              · rename_i tx tt htx
                exact ⟨_, vs, f, tf, fl, tg, b, tx, tt, hc, rfl, rfl, hP, gd, hf, hfl, hb, htx, hne⟩
              · cases a6
            · cases a5
          · cases a4
        · cases a3
      · cases a2
    · cases e1
  · split at e2
    · rename_i o ho
      rw [ho, He.emptyTab_eq e2]
    · cases e2
def Tx.frag (g : Addr → Option Obj) : Frag := He.frT g (adB g)
abbrev AlT : Type := AlB × Bool
def Tx.obsG (T : Tx) (g : Addr → Option Obj) : AlT := (T.obs (Tx.frag g), T.lams.all fun x => lamQ (Tx.frag g) x && lamB g (lamC (Tx.frag g) x))
/-- what the tables say -/
def TabSays (h : Heap) (K : Frag) (x : Str) : Prop := ∃ P, (∃ oc od fd osl, K.lookup (He.ga K x) = some ⟨oc, od, .func fd, osl⟩ ∧ fd.code = .ref (lamC K x)) ∧ PySem.W.CodeHd h (lamC K x) P ∧ h.get? P = some { cls := .none, data := .fields #[] } ∧ K.lookup P = none
def Tx.hook (T : Tx) : PySem.W.Hook where
  α := AlT
  obs := fun s => T.obsG s.heap.get?
  val := fun w => (T.val w, true)
  says := fun w h => ∃ K : Frag, K.In h ∧ T.obs K = T.val w ∧ ∀ x ∈ T.lams, TabSays h K x
  of := fun w s e => ⟨_, He.frT_in, congrArg Prod.fst e, fun x hx => by
    have e2 : (T.lams.all fun x => lamQ (Tx.frag s.heap.get?) x && lamB s.heap.get? (lamC (Tx.frag s.heap.get?) x)) = true := congrArg Prod.snd e
    obtain ⟨h1, h2⟩ := He.ba (List.all_eq_true.mp e2 x hx)
    obtain ⟨c1, c2⟩ := lamB_ok h2
    refine ⟨_, ?_, c1, c2, ?_⟩
    · unfold lamQ at h1
      split at h1
      · rename_i oc od fd osl hl
        exact ⟨oc, od, fd, osl, hl, of_decide_eq_true h1⟩
      · cases h1
    · show (He.frT s.heap.get? (adB s.heap.get?)).lookup _ = none
      cases q : (He.frT s.heap.get? (adB s.heap.get?)).lookup (lamP s.heap.get? (lamC (Tx.frag s.heap.get?) x)) with
      | none => rfl
      | some o =>
        obtain ⟨q1, q2⟩ := He.frT_mem q
        rw [c2] at q1
        cases q1
        cases q2⟩
  keeps := fun _ _ _ ⟨K, hK, c, t⟩ k => ⟨K, PySem.W.Frag.In.keeps hK k, c, fun x hx => let ⟨P, a1, a2, a3, a4⟩ := t x hx; ⟨P, a1, a2.keeps k, k _ _ a3, a4⟩⟩
theorem Tx.obs_eq {T : Tx} {g : Addr → Option Obj} {s : Shared} (h : ∀ a, g a = s.heap.get? a) : T.obsG g = T.hook.obs s := by
  have e : g = s.heap.get? := funext h
  rw [e] <;> rfl
structure OwnOk (T : Tx) (K : Frag) (d : OwnD) : Prop where
  cls : Cls K (T.cl K d.c)
  mke : Mk K (T.cl K d.c) (He.ma K (T.cl K d.c) "__init__")
  no : ∀ f ∈ d.fs, NoAttr K (T.cl K d.c) f
  meth : ∀ f ∈ d.ms, Meth K (T.cl K d.c) f.name (He.ma K (T.cl K d.c) f.name) ∧ ∃ oc od osl kV doc pm an cdv ct, K.lookup (He.ma K (T.cl K d.c) f.name) = some ⟨oc, od, .func (PySem.W.fnOf f.name f.qual f.params f.body f.scope .none kV doc pm an cdv ct), osl⟩ ∧ codeIn K cdv f.qual = true
  kc : findIn K (.ref (T.cl K d.c)) "__class__" = some (some (.builtin "object.__class__"))
  ob : mroIn K (T.cl K d.c) (.type "object") = some true
/-- what the Hook says, told -/
structure Tx.Ok (T : Tx) (P : Program) (w : World) (K : Frag) : Prop where
  glo : ∀ x ∈ T.glo, (He.Fa.glo x).ok K = true
  free : ∀ x ∈ T.free, (He.Fa.free x).ok K = true
  fn : ∀ d ∈ T.fns, (∃ oc od osl kV doc pm an cdv ct, K.lookup (He.fAd K d.at_) = some ⟨oc, od, .func (PySem.W.fnOf d.name d.qual d.params d.body d.scope .none kV doc pm an cdv ct), osl⟩ ∧ codeIn K cdv d.qual = true) ∧ keepIn K (.ref (He.fAd K d.at_)) = true
  xc : ∀ n, n < T.nx → XcAll K (T.cl K n)
  xd : ∀ d ∈ T.xs, d.c < T.nx → XdAll P K (T.cl K d.c) d
  pl : ∀ n ∈ T.plain, excIn K (T.cl K n) He.veBase "ValueError.__new__" = true
  plE : ∀ n ∈ T.plainE, excIn K (T.cl K n) exBase "Exception.__new__" = true
  is : ∀ p ∈ T.isT, kitOne K (tnV (T.gc K .z) p.1) (tnV (T.gc K .z) p.2.1) = some p.2.2
  sp : spB K = true
  sy : (K.lookup sysModules).isSome = true
  own : ∀ d ∈ T.own, OwnOk T K d
  cst : ∀ c ∈ T.csts, cstO K c.1 = some c.2
  dic : ∀ d ∈ T.dics, d.2.1.length = d.2.2.length → DicT K w (T.cl K d.1) d.2.1 d.2.2
  exm : ∀ p ∈ T.exm, PySem.W.exmOne K (.ref (T.cl K p.1)) (.ref (T.cl K p.2.1)) = some p.2.2
theorem map_mem_eq {α β : Type} {f g : α → β} : ∀ {l : List α}, l.map f = l.map g → ∀ x ∈ l, f x = g x
  | [], _, _, h => nomatch h
  | a :: l, e, x, h => by
    rw [List.map_cons, List.map_cons] at e
    rcases List.mem_cons.mp h with rfl | h
    · exact (List.cons.inj e).1
    · exact map_mem_eq (List.cons.inj e).2 x h
theorem Tx.ok_of {T : Tx} {P : Program} {w : World} {K : Frag} (hf : T.file = P.main.file) (e : T.obs K = T.val w) : T.Ok P w K := by
  have e1 : T.b K = true := congrArg (fun z : AlB => z.1) e
  have e2 : (T.fns ++ T.own.flatMap (·.ms)).map (fun d => He.fnObs K d.at_) = (T.fns ++ T.own.flatMap (·.ms)).map He.FnD.val := congrArg (fun z : AlB => z.2.1) e
  have e3 : T.xs.map (fun d => xdObs K (T.cl K d.c)) = T.xs.map XD.val := congrArg (fun z : AlB => z.2.2.1) e
  have e4 : T.csts.map (fun c => cstO K c.1) = T.csts.map (fun c => some c.2) := congrArg (fun z : AlB => z.2.2.2.1) e
  have e5 : T.dics.map (fun d => dicO K (T.cl K d.1)) = T.dics.map (fun d => dicVal w.params d.2.1 d.2.2) := congrArg (fun z : AlB => z.2.2.2.2) e
  obtain ⟨b1, h⟩ := He.ba e1
  obtain ⟨b2, h⟩ := He.ba h
  obtain ⟨b3, h⟩ := He.ba h
  obtain ⟨b4, h⟩ := He.ba h
  obtain ⟨b5, h⟩ := He.ba h
  obtain ⟨b6, h⟩ := He.ba h
  obtain ⟨b7, h⟩ := He.ba h
  obtain ⟨b8, h⟩ := He.ba h
  obtain ⟨b9, h⟩ := He.ba h
  obtain ⟨b10, h⟩ := He.ba h
  obtain ⟨b11, h⟩ := He.ba h
  obtain ⟨b12, b13⟩ := He.ba h
  have xc : ∀ n, n < T.nx → XcAll K (T.cl K n) := fun n hn => xcB_ok (List.all_eq_true.mp b4 n (List.mem_range.mpr hn)) b5
  exact {
    glo := List.all_eq_true.mp b1
    free := List.all_eq_true.mp b2
    fn := fun d hd => by
      obtain ⟨c1, c2⟩ := He.ba (List.all_eq_true.mp b3 d hd)
      exact ⟨He.fn_ok (map_mem_eq e2 d (List.mem_append_left _ hd)) c1, c2⟩
    xc := xc
    xd := fun d hd hn => xdB_ok (map_mem_eq e3 d hd) (by rw [← hf]; exact List.all_eq_true.mp b6 d hd) (xc _ hn) (He.eqO_ok b9)
    pl := List.all_eq_true.mp b7
    plE := List.all_eq_true.mp b12
    is := fun p hp => of_decide_eq_true (List.all_eq_true.mp b8 p hp)
    sp := b5
    sy := b10
    own := fun d hd => by
      obtain ⟨c1, c⟩ := He.ba (List.all_eq_true.mp b11 d hd)
      obtain ⟨c2, c⟩ := He.ba c
      obtain ⟨c3, c⟩ := He.ba c
      obtain ⟨c4, c⟩ := He.ba c
      obtain ⟨c5, c6⟩ := He.ba c
      refine ⟨He.cls_ok c1, He.mkr_ok c2, fun f hf => He.noat_ok (List.all_eq_true.mp c3 f hf), fun f hf => ?_, He.eqO_ok c5, of_decide_eq_true c6⟩
      obtain ⟨f1, f2⟩ := He.ba (List.all_eq_true.mp c4 f hf)
      obtain ⟨f3, f4⟩ := He.ba f2
      have ea := of_decide_eq_true f1
      have := He.fn_ok (map_mem_eq e2 f (List.mem_append_right _ (List.mem_flatMap.mpr ⟨d, hd, hf⟩))) f4
      rw [ea] at this
      exact ⟨He.meth_ok f3, this⟩
    cst := fun c hc => map_mem_eq e4 c hc
    dic := fun d hd hl => dicT_of hl (map_mem_eq e5 d hd)
    exm := fun p hp => of_decide_eq_true (List.all_eq_true.mp b13 p hp) }
end PB
set_option maxRecDepth 100000
set_option maxHeartbeats 4000000
/-! PX13: bundles for the printed derivations. -/
namespace PB
open PySem PySem.Spec PySem.Calls L2
open PySem.W (Frag findIn typeIn keepIn excIn)
variable {G : Gc} {W : WX} {X : Cx} {I : List Nat}
theorem opOr {f : Value → Value → Sem Value} {r r' : R2} (h : OpR X f r) (h' : OpR X f r') : OpR X f (fun x y H Q => r x y H Q ∨ r' x y H Q) := fun pins s σ H x y v u Q J rx ry q => q.elim (h pins s σ H x y v u Q J rx ry) (h' pins s σ H x y v u Q J rx ry)
theorem ixOr {r r' : R2} (h : IxR X r) (h' : IxR X r') : IxR X (fun x y H Q => r x y H Q ∨ r' x y H Q) := h.or h'
/-! ### operators of several kinds -/
def fAdd : D → D → Option D := fun x y => (fI (fun i j => i + j) x y).orElse fun _ => (fAddL x y).orElse fun _ => (fAddT x y).orElse fun _ => fAddS x y
abbrev rAdd (K : Frag) : R2 := fun x y H Q => rI0 (fun i j => .int (i + j)) x y H Q ∨ (rCat x y H Q ∨ (rCatT K x y H Q ∨ ∃ i j, x = .str i ∧ y = .str j ∧ i.length + j.length ≤ sizeLine ∧ Q (.str (i ++ j)) H))
theorem op_addA : OpR X (binaryOp .Add) (rAdd X.K) := opOr op_add (opOr op_cat (opOr op_catT op_add_str))
theorem o_addA : Op2 G W (rAdd G.K) fAdd := .or o_I (.or o_addL (.or o_addT o_addS))
def fSub : D → D → Option D := fI fun i j => i - j
theorem o_subA : Op2 G W (rI0 fun i j => .int (i - j)) fSub := o_I
def fLt : D → D → Option D := fIB fun i j => decide (i < j)
def fLe : D → D → Option D := fIB fun i j => decide (i ≤ j)
def fGt : D → D → Option D := fIB fun i j => decide (j < i)
def fGe : D → D → Option D := fIB fun i j => decide (j ≤ i)
theorem o_ltA : Op2 G W (rI0 fun i j => .bl (decide (i < j))) fLt := o_IB
theorem o_leA : Op2 G W (rI0 fun i j => .bl (decide (i ≤ j))) fLe := o_IB
theorem o_gtA : Op2 G W (rI0 fun i j => .bl (decide (j < i))) fGt := o_IB
theorem o_geA : Op2 G W (rI0 fun i j => .bl (decide (j ≤ i))) fGe := o_IB
def fIx : D → D → Option D := fun x y => (fIxL x y).orElse fun _ => fIxT x y
theorem ix_A : IxR X (fun x y H Q => rIxL X.K x y H Q ∨ rIxT X.K x y H Q) := ixOr ix_list ix_tup
theorem o_ixA : Op2 G W (fun x y H Q => rIxL G.K x y H Q ∨ rIxT G.K x y H Q) fIx := .or o_ixL o_ixT
theorem tk0 : Takes X W0 := L2.takes0
/-! ### callees -/
abbrev fdOf (x : Str) (st : Stmt) (kV doc pm : Value) (an : Option Addr) (cdv ct : Value) : FuncData := PySem.W.fnOf x x (defArgs st) (defBody st) (defScope st) .none kV doc pm an cdv ct
structure Callee (P : Program) (w : World) (K : Frag) (mg : Str → Option Value) (base : Heap) (k : Nat) (x : Str) (ps : List Str) (st : Stmt) (G : Gc) (F : Env → FR) : Prop where
  ex : ∃ f kV doc pm an cdv ct, FnOk P w K mg base (L2.CX P w) k f (fdOf x st kV doc pm an cdv ct) ps (spF G F) ∧ mg x = some (.ref f) ∧ keepIn K (.ref f) = true ∧ Binds K (fdOf x st kV doc pm an cdv ct) ps []
section
variable {k j : Nat} {ps : List Str} {st : Stmt} {F : Env → FR} {x : Str} {p pos : Pos} {e : Expr} {es : List Expr} {ms : M (List Arg)}
theorem d_cal (tk : Takes X W) (C : Callee X.prog X.w X.K X.mg X.base k x ps st G F) (hr : Room j X.A) (hj : k ≤ j) (hg : Gl X x)
    (ha : PA X (e :: es) (liftA G W ms)) (hdb : (x == ("__debug__" : Str)) = false := by decide) (he : starEach (e :: es) X.env = (false, eval e X.env) :: starEach es X.env := by rfl) (hpl : (backTo pos (starEach es X.env)).any (·.1) = false := by rfl) :
    PE X (.Call (.Name x p) (e :: es) [] pos) (lift G W (mCall F ms)) := by
  obtain ⟨f, kV, doc, pm, an, cdv, ct, h1, h2, h3, h4⟩ := C.ex
  exact d_call tk h1 (hr.mono hj) hg h2 h3 h4 ha hdb he hpl
theorem o_cal (tk : Takes X W) (C : Callee X.prog X.w X.K X.mg X.base k x ps st G F) (hr : Room j X.A) (hj : k ≤ j) (hg : Gl X x)
    (ha : PA X (e :: es) (liftA G W ms)) (hdb : (x == ("__debug__" : Str)) = false := by decide) (he : starEach (e :: es) X.env = (false, eval e X.env) :: starEach es X.env := by rfl) (hpl : (backTo pos (starEach es X.env)).any (·.1) = false := by rfl) :
    PE X (.Call (.Name x p) (e :: es) [] pos) (liftO G W (mCallO F ms)) := by
  obtain ⟨f, kV, doc, pm, an, cdv, ct, h1, h2, h3, h4⟩ := C.ex
  exact o_call tk h1 (hr.mono hj) hg h2 h3 h4 ha hdb he hpl
end
/-- a def of the text that is called by name -/
theorem callee_of {P : Program} {w : World} {K : Frag} {mg : Str → Option Value} {base : Heap} {T : Tx} {N ps : List Str} {k : Nat} {x : Str} {st : Stmt} {mb : M Fl} {I : List Nat} {l : Lc} (h : T.Ok P w K) (hd : (⟨(x, none), x, x, defArgs st, defBody st, defScope st⟩ : He.FnD) ∈ T.fns) (hmg : mg x = some (.ref (He.ga K x)))
    (S : FnScope N ps (defScope st)) (hI : ∀ i ∈ I, i < ps.length)
    (hb : ∀ (kV doc pm : Value) (an : Option Addr) (cdv ct : Value) (us : List Value), us.length = ps.length → bindArgs (PySem.W.fnOf x x (defArgs st) (defBody st) (defScope st) .none kV doc pm an cdv ct) ⟨us, []⟩ = pure (ps.zip us))
    (hbody : ∀ (f : Addr) (cdv : Value) (A : Around) (outer : List PySem.Env) (s : Shared) (H : Hp) (E : XK), Room k (A.deeper (PyProof.Rows.envOfC x (defScope st) s.heap.objs.size f cdv)) →
      PSs (cxOf (L2.CX P w) P w K mg base N x (defScope st) f cdv A outer s H E) (defBody st) (liftS (T.gc K l) (fun c d _ H => E c d H) I mb)) :
    Callee P w K mg base (k + 1) x ps st (T.gc K l) (runF I ps.length N.length mb) := by
  obtain ⟨⟨oc, od, osl, kV, doc, pm, an, cdv, ct, lk, hcd⟩, kp⟩ := h.fn _ hd
  refine ⟨He.ga K x, kV, doc, pm, an, cdv, ct, fn_ok (G := T.gc K l) (x := x) (F := ⟨⟨oc, od, kV, doc, pm, an, cdv, ct, osl, rfl, lk, hcd⟩, kp⟩) S hI fun cdv A outer s H E hr => hbody _ cdv A outer s H E hr, hmg, kp, .all (hb kV doc pm an cdv ct)⟩
/-! ### exceptions that are made -/
structure XMk (P : Program) (w : World) (K : Frag) (mg : Str → Option Value) (base : Heap) (k : Nat) (x prm fld : Str) (C : Addr) : Prop where
  ex : ∃ fI fd, OexC K C ∧ findIn K (.ref C) "__init__" = some (some (.ref fI)) ∧ typeIn K (.ref fI) = some (.type "function") ∧ FnOk P w K mg base (L2.CX P w) k fI fd ["self", prm] (spInit K C fld) ∧ Binds K fd ["self", prm] [] ∧
    (∀ (a : Addr) (u : Value) (s' : Shared), K.In s'.heap → BindsTo s' fd ⟨[.ref a], [(prm, u)]⟩ ((["self", prm] : List Str).zip [.ref a, u])) ∧ mg x = some (.ref C)
section
variable {k j c : Nat} {x prm fld : Str} {p pos pos2 kpos : Pos} {e : Expr} {m : M D}
theorem d_mk (M1 : XMk X.prog X.w X.K X.mg X.base k x prm fld (G.cl c)) (hr : Room j X.A) (hj : k + 1 ≤ j) (hg : Gl X x) (he : PE X e (lift G W m))
    (hs : starEach [e] X.env = (false, eval e X.env) :: starEach [] X.env := by rfl) (hdb : (x == ("__debug__" : Str)) = false := by decide) : PE X (.Call (.Name x p) [e] [] pos) (lift G W (mX1 c fld m)) := by
  obtain ⟨fI, fd, h1, h2, h3, h4, h5, h6, h7⟩ := M1.ex
  exact d_x1 h1 h2 h3 h4 (hr.mono hj) passL h5 hg h7 he hs hdb
theorem d_mkk (M1 : XMk X.prog X.w X.K X.mg X.base k x prm fld (G.cl c)) (hr : Room j X.A) (hj : k + 1 ≤ j) (hg : Gl X x) (he : PE X e (lift G W m))
    (hall : (backToKw pos (keywordEach [⟨some prm, e, kpos⟩] X.env)).all (·.1.isSome) = true := by rfl) (hks : (backToKw pos (keywordEach [⟨some prm, e, kpos⟩] X.env)).filterMap (·.1) = [prm] := by rfl)
    (hpl : ((backTo pos (starEach [] X.env)).any (·.1) || (backToKw pos (keywordEach [⟨some prm, e, kpos⟩] X.env)).any (·.1.isNone)) = false := by rfl) (hdb : (x == ("__debug__" : Str)) = false := by decide) :
    PE X (.Call (.Name x p) [] [⟨some prm, e, kpos⟩] pos) (lift G W (mX1 c fld m)) := by
  obtain ⟨fI, fd, h1, h2, h3, h4, h5, h6, h7⟩ := M1.ex
  exact d_xk h1 h2 h3 h4 (hr.mono hj) passL h6 hg h7 he hall hks hpl hdb
theorem s_rz (hc : X.calm = true) (tk : Takes X W) (M1 : XMk X.prog X.w X.K X.mg X.base k x prm fld (G.cl c)) (hr : Room j X.A) (hj : k + 1 ≤ j) (hg : Gl X x) (he : PE X e (lift G W m))
    (hdb : (x == ("__debug__" : Str)) = false := by decide) (hs : starEach [e] X.env = (false, eval e X.env) :: starEach [] X.env := by rfl) : PS X (.Raise (some (.Call (.Name x p) [e] [] pos)) none pos2) (liftS G W I (sX1 c fld m)) := by
  obtain ⟨fI, fd, h1, h2, h3, h4, h5, h6, h7⟩ := M1.ex
  exact s_raise1 hc tk h1 h2 h3 h4 (hr.mono hj) passL h5 hg h7 he hdb hs
theorem d_mk0 {T : Tx} {P : Program} {w : World} {l : Lc} (h : T.Ok P w X.K) (hp : c ∈ T.plain) (hc : c < T.nx) (gC : X.mg x = some (.ref (T.cl X.K c))) (hg : Gl X x) (he : PE X e (lift (T.gc X.K l) W m))
    (hs : starEach [e] X.env = (false, eval e X.env) :: starEach [] X.env := by rfl) (hdb : (x == ("__debug__" : Str)) = false := by decide) : PE X (.Call (.Name x p) [e] [] pos) (lift (T.gc X.K l) W (mX0 c m)) :=
  d_x0 (G := T.gc X.K l) PySem.F.excBase_ValueError (h.pl c hp) gC (h.xc c hc).kp hg he hs hdb
end
theorem call_line {txt name : Str} {j : Nat} {o : Expr} {apos p3 pos : Pos} {env : PySem.Env} (hl : (apos.endLine == pos.line) = true) :
    eval (.Call (.Attribute o name apos) [.Constant (.str txt) j p3] [] pos) env = (do
      let ov ← attributeBase o name env (eval o env)
      standAt apos.atName
      let (f', first) ← holding [ov] (getMethod ov name (plainOf o env))
      callWith pos f' first (backTo pos (starEach [.Constant (.str txt) j p3] env)) []) := by
  have e1 : eval (.Call (.Attribute o name apos) [.Constant (.str txt) j p3] [] pos) env = (do
      let ov ← attributeBase o name env (eval o env)
      standAt apos.atName
      methodCall o name apos pos env ov 1 (backTo pos (starEach [.Constant (.str txt) j p3] env)) (backToKw pos (keywordEach [] env))) := by
    exact arm_eval_Call o name apos [.Constant (.str txt) j p3] [] pos env
  rw [e1]
  have e2 : ∀ ov, methodCall o name apos pos env ov 1 (backTo pos (starEach [.Constant (.str txt) j p3] env)) (backToKw pos (keywordEach [] env)) = (do
      let (f', first) ← holding [ov] (getMethod ov name (plainOf o env))
      callWith pos f' first (backTo pos (starEach [.Constant (.str txt) j p3] env)) (backToKw pos (keywordEach [] env))) := fun ov => mcall_line (by rfl) hl
  simp only [e2]
  rfl
/-- the __init__ of such a class keeps its promise -/
theorem xmk_of {P : Program} {w : World} {K : Frag} {mg : Str → Option Value} {base : Heap} {T : Tx} {d : XD} {x txt : Str} {ar : PySem.Arg} {j : Nat} {p0 p1 p2 p3 p4 p5 q0 q1 q2 q3 : Pos} (h : T.Ok P w K) (hd : d ∈ T.xs) (hn : d.c < T.nx) (hmg : mg x = some (.ref (T.cl K d.c)))
    (hbody : defBody d.st = xBody txt d.prm d.fld j p0 p1 p2 p3 p4 p5 q0 q1 q2 q3) (hsm : mg "super" = none) (htop : (P.main.scope.names.lookup ("super" : Str)).isSome = false)
    (S : NdefX.NScope ["self", d.prm, "__class__"] ["self", d.prm] ["__class__"] (defScope d.st)) (hks : (defScope d.st).names.lookup ("super" : Str) = some .globalImplicit)
    (hp : ((defArgs d.st).posonlyargs ++ (defArgs d.st).args).head? = some ar) (har : ar.arg = "self") (hne : ("self" : Str) ≠ d.prm) (hpd : (d.prm == ("__debug__" : Str)) = false) (hpc : (d.prm == ("__classdict__" : Str)) = false)
    (hline : (p2.endLine == p4.line) = true)
    (hin : ∀ (f cda cc L : Addr), interactive (PySem.W.envX d.qual (defScope d.st) L f (.ref cda) [("__class__", cc)]) = false)
    (hst : ∀ (f cda cc L : Addr), swapsWith (.Name d.prm q2) (some (.Attribute (.Name "self" q0) d.fld q1)) q3.line (PySem.W.envX d.qual (defScope d.st) L f (.ref cda) [("__class__", cc)]) = pure false)
    (hb : ∀ (kV doc pm : Value) (an : Option Addr) (cdv ct : Value) (cc : Addr) (us : List Value), us.length = 2 → bindArgs (PySem.W.ksFn "__init__" d.qual (defArgs d.st) (defBody d.st) (defScope d.st) .none kV doc pm an cdv ct cc) ⟨us, []⟩ = pure ((["self", d.prm] : List Str).zip us))
    (hbk : ∀ (kV doc pm : Value) (an : Option Addr) (cdv ct : Value) (cc : Addr) (a u : Value), bindArgs (PySem.W.ksFn "__init__" d.qual (defArgs d.st) (defBody d.st) (defScope d.st) .none kV doc pm an cdv ct cc) ⟨[a], [(d.prm, u)]⟩ = pure ((["self", d.prm] : List Str).zip [a, u])) :
    XMk P w K mg base 1 x d.prm d.fld (T.cl K d.c) := by
  have D := h.xd d hd hn
  obtain ⟨oc, od, kV, doc, pm, an, cda, cc, ct, osl, vs5, file, tf, cl5, clc, d5, dc, sl5, slc, lk, hcd, hcode, hvs, hfile, hcell⟩ := D.fn.ex
  have lk2 := lk
  rw [hbody] at lk2
  have F1 := xinit_fn (w := w) (mg := mg) (base := base) (k := 0) D.xc lk2 hcd hcode hvs hfile hcell D.no hsm htop S hks hp har hne hpd hpc (fun L => ⟨_, call_line hline⟩) (hin _ _ _) (hst _ _ _)
  rw [← hbody] at F1
  exact ⟨_, _, D.xc.oex, D.iC, D.tI, F1, .all fun us hl => hb kV doc pm an _ ct cc us hl, fun a u s' _ => .of_eq (hbk kV doc pm an _ ct cc (.ref a) u), hmg⟩
/-- name = [comprehension] on one line -/
theorem s_setLc {st : Stmt} {i : Nat} {own : List Nat} {wi : TI} {g : TG} {gb : D → Env → Option Env} {tt : TT} {mi : M (List D)} {mt : M Bool} {me : M D} (hi : I.contains i = false) (hs : Src G W wi mi) (hgt : TgtO G own g gb) (htt : TstOk G tt mt)
    (h : PS X st (tAsg (tLc wi g tt (lift G W0 me) own) (gName i))) : PS X st (liftS G W I (sAsgO i (mLc own gb mi mt me))) :=
  s_asgO hi (PS_imp h fun E σ H q => lc_run hs hgt htt q)
/-- which class has which field -/
def Tx.fok (T : Tx) (c : Nat) (n : Str) : Bool := T.xs.any fun d => d.c == c && (d.fld == n && decide (d.c < T.nx))
theorem Tx.Ok.fok {T : Tx} {P : Program} {w : World} {K : Frag} {l : Lc} (h : T.Ok P w K) {n : Str} : ∀ c, T.fok c n = true → XfC K ((T.gc K l).cl c) ∧ findIn K (.ref ((T.gc K l).cl c)) n = some none := fun c e => by
  obtain ⟨d, hd, e⟩ := List.any_eq_true.mp e
  obtain ⟨e1, e⟩ := He.ba e
  obtain ⟨e2, e3⟩ := He.ba e
  have e1 : d.c = c := by simpa using e1
  have e2 : d.fld = n := by simpa using e2
  subst e1 e2
  have hn := of_decide_eq_true e3
  exact ⟨(h.xc _ hn).xf, (h.xd d hd hn).no⟩
/-- which own class is there -/
def Tx.inB (T : Tx) (n : Nat) : Bool := T.own.any fun d => d.c == n
theorem Tx.Ok.clF {T : Tx} {P : Program} {w : World} {K : Frag} {is : Tn → Tn → Option Bool} {l : Lc} (h : T.Ok P w K) (hm : ∀ t c b, is t c = some b → (t, c, b) ∈ T.isT) : ClF (T.gc K l) is (fun n => decide (n < T.nx)) T.inB where
  kit := fun t c b e => by
    have q := h.is _ (hm t c b e)
    cases t <;> cases c <;> exact q
  exc := fun n e => (h.xc n (of_decide_eq_true e)).exc
  ins := fun n e => by
    obtain ⟨d, hd, e⟩ := List.any_eq_true.mp e
    have e : d.c = n := by simpa using e
    subst e
    exact ⟨(h.own d hd).cls, (h.own d hd).kc, (h.own d hd).ob⟩
  sp := He.eqO_ok (He.ba h.sp).1
  tk := of_decide_eq_true (He.ba h.sp).2
def exOk (n : Nat) (m : Nat) : Bool := decide (m < n)
/-- which field an own class has -/
def Tx.fin (T : Tx) (c : Nat) (n : Str) : Bool := T.own.any fun d => d.c == c && d.fs.contains n
theorem Tx.Ok.fin {T : Tx} {P : Program} {w : World} {K : Frag} {l : Lc} (h : T.Ok P w K) {n : Str} : ∀ c, T.fin c n = true → Cls K ((T.gc K l).cl c) ∧ NoAttr K ((T.gc K l).cl c) n := fun c e => by
  obtain ⟨d, hd, e⟩ := List.any_eq_true.mp e
  obtain ⟨e1, e2⟩ := He.ba e
  have e1 : d.c = c := by simpa using e1
  subst e1
  exact ⟨(h.own d hd).cls, (h.own d hd).no n (by simpa using e2)⟩
/-- which exception class is caught by an except clause of which -/
theorem Tx.Ok.exk {T : Tx} {P : Program} {w : World} {K : Frag} {l : Lc} {C : Nat} {is : Nat → Option Bool} (h : T.Ok P w K) (hm : ∀ n b, is n = some b → (n, C, b) ∈ T.exm) : ∀ n b, is n = some b → PySem.W.exmOne K (.ref ((T.gc K l).cl n)) (.ref (T.cl K C)) = some b := fun n b e => h.exm _ (hm n b e)
end PB
set_option maxRecDepth 100000
set_option maxHeartbeats 4000000
/-! PX14: looking at what a slot owns; parts of one assignment. -/
namespace PB
open PySem PySem.Spec PySem.Calls L2
open PySem.W (Frag)
variable {G : Gc} {W : WX} {X : Cx} {I : List Nat}
/-- an operator of values with a flat answer -/
def OpF (G : Gc) (r : R2) (f : D → D → Option D) : Prop := ∀ Z H v w d1 d2 d Q, Rf G Z H d1 v → Rf G Z H d2 w → f d1 d2 = some d → (∀ u, (∀ Z' H', Rf G Z' H' d u) → Q u H) → r v w H Q
theorem OpF.op2 {r : R2} {f : D → D → Option D} (h : OpF G r f) : Op2 G W r f := .flat h
theorem p_eq : OpF G (rEqD G.K) fEq := fun Z H v w d1 d2 d Q f1 f2 e q => by
  obtain ⟨p, p', e1, e2, s1, s2, rfl⟩ := fEqB_some e
  exact ⟨p, p', toP_dp f1 e1, toP_dp f2 e2, s1, s2, q _ fun _ _ => rfl⟩
theorem p_ne : OpF G (rNeD G.K) fNe := fun Z H v w d1 d2 d Q f1 f2 e q => by
  obtain ⟨p, p', e1, e2, s1, s2, rfl⟩ := fEqB_some e
  exact ⟨p, p', toP_dp f1 e1, toP_dp f2 e2, s1, s2, q _ fun _ _ => rfl⟩
/-- looking at a slot -/
def pkV (i : Nat) : M D := fun ρ => match ρ[i]? with
  | some (.fr d) => .ok d ρ
  | some (.ow d) => if isDrw d = true then .bad else .ok d ρ
  | some (.io d) => if isDrw d = true then .bad else .ok d ρ
  | _ => .bad
theorem pk_ok {Z : Addr → Prop} {O : Nat → List Addr} {ρ ρ' : Env} {σ : St} {H : Hp} {i : Nat} {d : D} (r : R G Z O ρ σ H) (e : pkV i ρ = .ok d ρ') : ρ' = ρ ∧ ∃ v, σ[i]? = some (some v) ∧ Rf G (fun a => Z a ∨ a ∈ O i) H d v := by
  unfold pkV at e
  cases e1 : ρ[i]? with
  | none => rw [e1] at e; cases e
  | some s =>
    rw [e1] at e
    cases s with
    | un => cases e
    | fr d' =>
      cases e
      obtain ⟨_, v, e2, h⟩ := r.sl i _ e1
      exact ⟨rfl, v, slot_some e2, h.keep (fun _ z => .inl z) fun _ _ _ e => .inl e⟩
    | ow d' =>
      simp only at e
      cases q : isDrw d' with
      | true => rw [q] at e; cases e
      | false =>
        rw [q] at e
        cases e
        obtain ⟨v, e2, h⟩ := r.sl i _ e1
        exact ⟨rfl, v, slot_some e2, h.freeze (isDrw_no q)⟩
    | io d' =>
      simp only at e
      cases q : isDrw d' with
      | true => rw [q] at e; cases e
      | false =>
        rw [q] at e
        cases e
        obtain ⟨v, e2, h⟩ := r.sl i _ e1
        exact ⟨rfl, v, slot_some e2, h.freeze (isDrw_no q)⟩
/-- x op e, x looked at behind e -/
def mPL (f : D → D → Option D) (i : Nat) (mb : M D) : M D := fun ρ => (pkV i ρ).bind fun _ ρ => (mb ρ).bind fun y ρ1 => (pkV i ρ1).bind fun x ρ2 => optR (f x y) ρ2
theorem pl_tOp {r : R2} {f : D → D → Option D} {i : Nat} {mb : M D} (hf : OpF G r f) {σ : St} {H : Hp} {Q : VK} (q : lift G W (mPL f i mb) σ H Q) : tOp r (tVar i) (lift G W mb) σ H Q := by
  obtain ⟨Z, O, ρ, rr, q⟩ := q
  unfold mPL at q
  cases e : pkV i ρ with
  | bad => rw [e] at q; exact q.elim
  | ex x ρ' => 
    exfalso
    unfold pkV at e
    split at e <;> first | (cases e; done) | (split at e <;> cases e)
  | ok d0 ρ0 =>
    obtain ⟨rfl, v, hv, _⟩ := pk_ok rr e
    rw [e] at q
    have q' : contG G W (repF G) ((mb ρ0).bind fun y ρ1 => (pkV i ρ1).bind fun x ρ2 => optR (f x y) ρ2) Z O σ H Q := q
    refine ⟨v, hv, Z, O, ρ0, rr, (contG.bind (rep := repF G) q').mono fun w H2 ⟨Z2, O2, ρ2, d2, x2, r2, f2, q2⟩ => ?_⟩
    cases e2 : pkV i ρ2 with
    | bad => rw [e2] at q2; exact q2.elim
    | ex x ρ' =>
      exfalso
      unfold pkV at e2
      split at e2 <;> first | (cases e2; done) | (split at e2 <;> cases e2)
    | ok d1 ρ3 =>
      obtain ⟨rfl, v2, hv2, f1⟩ := pk_ok r2 e2
      rw [e2] at q2
      rw [hv] at hv2
      cases hv2
      simp only [Res.bind] at q2
      cases e3 : f d1 d2 with
      | none => rw [e3] at q2; exact q2.elim
      | some d =>
        rw [e3] at q2
        exact hf _ H2 v w d1 d2 d Q f1 (f2.keep (fun _ z => .inl z) fun _ _ _ e => .inl e) e3 fun u hu => q2 u Z2 O2 H2 .refl r2 (hu _ _)
/-- e op x, x looked at -/
def mPR (f : D → D → Option D) (ma : M D) (i : Nat) : M D := fun ρ => (ma ρ).bind fun x ρ1 => (pkV i ρ1).bind fun y ρ2 => optR (f x y) ρ2
theorem pr_tOp {r : R2} {f : D → D → Option D} {i : Nat} {ma : M D} (hf : OpF G r f) {σ : St} {H : Hp} {Q : VK} (q : lift G W (mPR f ma i) σ H Q) : tOp r (lift G W ma) (tVar i) σ H Q := by
  refine liftG.mono (liftG.bind (rep := repF G) q) fun w H2 ⟨Z2, O2, ρ2, d2, r2, f2, q2⟩ => ?_
  cases e2 : pkV i ρ2 with
  | bad => rw [e2] at q2; exact q2.elim
  | ex x ρ' =>
    exfalso
    unfold pkV at e2
    split at e2 <;> first | (cases e2; done) | (split at e2 <;> cases e2)
  | ok d1 ρ3 =>
    obtain ⟨rfl, v2, hv2, f1⟩ := pk_ok r2 e2
    rw [e2] at q2
    simp only [Res.bind] at q2
    cases e3 : f d2 d1 with
    | none => rw [e3] at q2; exact q2.elim
    | some d =>
      rw [e3] at q2
      exact ⟨v2, hv2, hf _ H2 w v2 d2 d1 d Q (f2.keep (fun _ z => .inl z) fun _ _ _ e => .inl e) f1 e3 fun u hu => q2 u Z2 O2 H2 .refl r2 (hu _ _)⟩
/-- a comparison as a test, by any reading that does it -/
theorem t_op {a b : Expr} {op : CmpOp} {r : R2} {ta tb : TE} {m : M D} {pos : Pos} (ho : OpR X (compareOp op) r) (ha : PE X a ta) (hb : PE X b tb) (hm : behindInMarks op b = false) (himp : ∀ σ H Q, lift G W m σ H Q → tOp r ta tb σ H Q) (hbl : ∀ ρ d ρ', m ρ = .ok d ρ' → ∃ k, d = .bl k) :
    PT X (.Compare a [op] [b] pos) (liftB G W (mTru m)) := PT_imp (pt_cmpR ho ha hb hm) fun σ H Q q => by
  refine himp σ H _ ?_
  obtain ⟨Z, O, ρ, rr, q⟩ := q
  refine ⟨Z, O, ρ, rr, ?_⟩
  unfold mTru at q
  cases e : m ρ with
  | bad => rw [e] at q; exact q.elim
  | ex x ρ' => rw [e] at q; exact q
  | ok d ρ' =>
    obtain ⟨k, rfl⟩ := hbl ρ d ρ' e
    rw [e] at q
    intro v Z' O' H' y r2 f
    cases f
    exact ⟨k, rfl, q k Z' O' H' y r2 rfl⟩
theorem d_op {a b : Expr} {op : CmpOp} {r : R2} {ta tb : TE} {m : M D} {pos : Pos} (ho : OpR X (compareOp op) r) (ha : PE X a ta) (hb : PE X b tb) (hm : behindInMarks op b = false) (himp : ∀ σ H Q, lift G W m σ H Q → tOp r ta tb σ H Q) :
    PE X (.Compare a [op] [b] pos) (lift G W m) := PE_imp (pe_cmpR ho ha hb hm) himp
/-- len(x), x looked at -/
def mLenP (i : Nat) : M D := fun ρ => (pkV i ρ).bind fun d ρ => optR (fLen [d]) ρ
theorem d_lenP {x : Str} {e : Expr} {i : Nat} {p pos : Pos} (hg : Gl X x) (hm : X.mg x = none) (hv : bootBuiltins x = some (.builtin "len")) (he : PE X e (tVar i)) (hK : G.K = X.K) (hn : x ≠ "__name__" := by decide) (hdb : (x == ("__debug__" : Str)) = false := by decide)
    (hs : starEach [e] X.env = (false, eval e X.env) :: starEach [] X.env := by rfl) : PE X (.Call (.Name x p) [e] [] pos) (lift G W (mLenP i)) :=
  PE_imp (pe_callB call_len hg hm hv (pa_cons he pa_nil hs) hn hdb hs (by rfl)) fun σ H Q ⟨Z, O, ρ, rr, q⟩ => by
    unfold mLenP at q
    cases e : pkV i ρ with
    | bad => rw [e] at q; exact q.elim
    | ex x ρ' =>
      exfalso
      unfold pkV at e
      split at e <;> first | (cases e; done) | (split at e <;> cases e)
    | ok d ρ0 =>
      obtain ⟨rfl, v, hv, f⟩ := pk_ok rr e
      rw [e] at q
      simp only [Res.bind] at q
      cases e3 : fLen [d] with
      | none => rw [e3] at q; exact q.elim
      | some n =>
        rw [e3] at q
        refine ⟨v, hv, ?_⟩
        have key := n_len (G := G) (W := W)
        unfold fLen at e3
        have fin : ∀ k : Nat, n = .int k → Q (.int k) H := fun k ek => by subst ek; exact q _ Z O H .refl rr rfl
        split at e3
        · rename_i x0 hx
          cases hx
          split at e3
          · rename_i hz
            cases e3
            cases f
            exact ⟨_, _, rfl, ⟨by rw [← lim_eq]; exact hz, rfl⟩, fin _ rfl⟩
          · cases e3
        · rename_i xs hx
          cases hx
          cases e3
          obtain ⟨a, ws, rfl, g, rl⟩ := f
          exact ⟨_, ws.length, rfl, .inr ⟨ws, hK ▸ g.sq, rfl⟩, fin _ (by rw [rl.length])⟩
        · rename_i xs hx
          cases hx
          cases e3
          obtain ⟨a, ws, rfl, g, rl⟩ := f
          exact ⟨_, ws.length, rfl, .inl ⟨ws, hK ▸ g.sq, rfl⟩, fin _ (by rw [rl.length])⟩
        · rename_i xs hx
          cases hx
          cases e3
          obtain ⟨a, ws, rfl, g, rl⟩ := f
          exact ⟨_, ws.length, rfl, .inl ⟨ws, hK ▸ g.sq, rfl⟩, fin _ (by rw [rl.length])⟩
        · cases e3
end PB
set_option maxRecDepth 100000
set_option maxHeartbeats 4000000
/-! PX15: instances of the text's own classes: fields read and stored; bools by is. -/
namespace PB
open PySem PySem.Spec PySem.Calls L2
open PySem.W (Frag)
variable {G : Gc} {W : WX} {X : Cx} {I : List Nat}
/-- a field of an instance -/
def insF (fok : Nat → Str → Bool) (n : Str) : D → Option D
  | .ins c ns xs => if fok c n = true then (ns.zip xs).lookup n else none
  | _ => none
theorem d_fldI {e : Expr} {n : Str} {m : M D} {pos : Pos} {fok : Nat → Str → Bool} (hf : ∀ c, fok c n = true → Cls X.K (G.cl c) ∧ NoAttr X.K (G.cl c) n) (he : PE X e (lift G W m)) (hb : attributeBase e n X.env (eval e X.env) = eval e X.env := by rfl) :
    PE X (.Attribute e n pos) (lift G W (m1 (insF fok n) m)) := PE_imp (pe_fld he hb) fun σ H Q q => liftG.mono (liftG.bind (rep := repF G) q) fun v H1 ⟨Z1, O1, ρ1, d1, r1, f1, q1⟩ => by
  cases e1 : insF fok n d1 with
  | none => rw [e1] at q1; exact q1.elim
  | some d =>
    rw [e1] at q1
    cases d1 with
    | ins c ns xs =>
      have e2 : (if fok c n = true then (ns.zip xs).lookup n else none) = some d := e1
      split at e2
      · rename_i ok
        obtain ⟨a, dx, vs, rfl, z, g1, g2, l, rl⟩ := f1
        obtain ⟨w, e3, f3⟩ := zip_lookup rl e2
        exact ⟨a, G.cl c, dx, _, w, rfl, g1, (hf c ok).1, (hf c ok).2, e3, q1 _ Z1 O1 H1 .refl r1 f3⟩
      · cases e2
    | _ => cases e1
/-- self.n, self owned or lent -/
def mFldP (fok : Nat → Str → Bool) (n : Str) (i : Nat) : M D := fun ρ => match getO ρ i with
  | some d => optR (insF fok n d) ρ
  | none => .bad
theorem d_fldP {e : Expr} {n : Str} {i : Nat} {pos : Pos} {fok : Nat → Str → Bool} (hf : ∀ c, fok c n = true → Cls X.K (G.cl c) ∧ NoAttr X.K (G.cl c) n) (he : PE X e (tVar i)) (hb : attributeBase e n X.env (eval e X.env) = eval e X.env := by rfl) :
    PE X (.Attribute e n pos) (lift G W (mFldP fok n i)) := PE_imp (pe_fld he hb) fun σ H Q ⟨Z, O, ρ, r, q⟩ => by
  unfold mFldP at q
  cases g : getO ρ i with
  | none => rw [g] at q; exact q.elim
  | some d1 =>
    rw [g] at q
    simp only at q
    cases e1 : insF fok n d1 with
    | none => rw [e1] at q; exact q.elim
    | some d =>
      rw [e1] at q
      obtain ⟨v, hv, hown⟩ := r.getO g
      cases d1 with
      | ins c ns xs =>
        have e2 : (if fok c n = true then (ns.zip xs).lookup n else none) = some d := e1
        split at e2
        · rename_i ok
          obtain ⟨a, dx, vs, rfl, fp, g1, g2, l, rl⟩ := hown
          obtain ⟨w, e3, f3⟩ := zip_lookup rl e2
          exact ⟨_, hv, a, G.cl c, dx, _, w, rfl, g1, (hf c ok).1, (hf c ok).2, e3, q _ Z O H .refl r f3⟩
        · cases e2
      | _ => cases e1
/-- the names and values behind self.n = d -/
def putD (n : Str) (d : D) : List Str → List D → List Str × List D
  | g :: ns, x :: xs => if g = n then (g :: ns, d :: xs) else ((g :: (putD n d ns xs).1), (x :: (putD n d ns xs).2))
  | _, _ => ([n], [d])
theorem putD_rel {Z : Addr → Prop} {H : Hp} {n : Str} {d : D} {v : V} (f : Rf G Z H d v) : ∀ {ns : List Str} {xs : List D} {vs : List V}, ns.length = xs.length → RfL G Z H xs vs →
    ∃ ws, putF n v (ns.zip vs) = (putD n d ns xs).1.zip ws ∧ (putD n d ns xs).1.length = (putD n d ns xs).2.length ∧ RfL G Z H (putD n d ns xs).2 ws
  | [], [], _, _, h => by cases h; exact ⟨[v], rfl, rfl, RfL.one f⟩
  | g :: ns, x :: xs, _, l, ⟨w, r, e, h1, h2⟩ => by
    subst e
    unfold putD
    by_cases q : g = n
    · rw [if_pos q]
      refine ⟨v :: r, ?_, l, v, r, rfl, f, h2⟩
      rw [List.zip_cons_cons]
      unfold putF
      rw [if_pos q, List.zip_cons_cons]
    · rw [if_neg q]
      obtain ⟨ws, e1, e2, e3⟩ := putD_rel f (by simpa using l) h2
      refine ⟨w :: ws, ?_, by simp [e2], w, ws, rfl, h1, e3⟩
      rw [List.zip_cons_cons]
      unfold putF
      rw [if_neg q, e1, List.zip_cons_cons]
  | [], _ :: _, _, l, _ => by simp at l
  | _ :: _, [], _, l, _ => by simp at l
def sFldP (fok : Nat → Str → Bool) (n : Str) (i : Nat) (m : M D) : M Fl := fun ρ => (m ρ).bind fun d ρ1 => match getO ρ1 i with
  | some (.ins c ns xs) => if fok c n = true ∧ ns.length < 900 then .ok .nx (putO ρ1 i (.ins c (putD n d ns xs).1 (putD n d ns xs).2)) else .bad
  | _ => .bad
theorem s_fldP {o e : Expr} {n : Str} {i : Nat} {m : M D} {pos pos' : Pos} {fok : Nat → Str → Bool} (hf : ∀ c, fok c n = true → Cls X.K (G.cl c) ∧ NoAttr X.K (G.cl c) n) (ho : PE X o (tVar i)) (he : PE X e (lift G W m))
    (hs : swapsWith e (some (.Attribute o n pos')) pos.line X.env = pure false := by rfl) : PS X (.Assign [.Attribute o n pos'] e pos) (liftS G W I (sFldP fok n i m)) :=
  PS_imp (ps_fld ho he hs) fun E σ H q => liftG.mono (liftS.bind (rep := repF G) q) fun v H1 ⟨Z1, O1, ρ1, d1, r1, f1, q1⟩ => by
    cases g : getO ρ1 i with
    | none => rw [g] at q1; exact q1.elim
    | some d0 =>
      rw [g] at q1
      cases d0 <;> first | exact q1.elim | skip
      rename_i c ns xs
      simp only at q1
      split at q1
      · rename_i ok
        obtain ⟨w, hv, hown⟩ := r1.getO g
        have hown' := hown
        obtain ⟨a, dx, vs, rfl, fp, g1, g2, l, rl⟩ := hown
        have ha : a ∈ O1 i := by rw [fp]; simp
        have nd : dx ≠ a := ne_of_nodup2 (r1.nd i) fp
        obtain ⟨ws, e1, e2, e3⟩ := putD_rel (n := n) f1 l rl
        refine ⟨_, hv, a, G.cl c, dx, _, rfl, g1, (hf c ok.1).1, (hf c ok.1).2, by rw [List.length_zip]; omega, ?_⟩
        rw [e1]
        exact q1 Z1 O1 σ _ (r1.owt hown' ha) (fun _ _ => rfl) (r1.putO g hv ha ⟨a, dx, ws, rfl, fp, upd_same, by rw [upd_ne nd]; exact g2, e2, e3.write r1 ⟨i, ha⟩⟩)
      · exact q1.elim
/-! ### is, of bools -/
def fIsB (g : Bool → Bool) : D → D → Option D
  | .bl a, .bl b => some (.bl (g (decide (a = b))))
  | _, _ => none
theorem o_isB : Op2 G W rIsB (fIsB id) := .flat fun Z H v w d1 d2 d Q f1 f2 e q => by
  cases d1 <;> cases d2 <;> first | (cases e; done) | skip
  cases e; cases f1; cases f2
  exact ⟨_, _, rfl, rfl, q _ fun _ _ => rfl⟩
theorem o_notB : Op2 G W rNotB (fIsB not) := .flat fun Z H v w d1 d2 d Q f1 f2 e q => by
  cases d1 <;> cases d2 <;> first | (cases e; done) | skip
  cases e; cases f1; cases f2
  exact ⟨_, _, rfl, rfl, q _ fun _ _ => rfl⟩
theorem bl_isB {g : Bool → Bool} : ∀ x y d, fIsB g x y = some d → ∃ k, d = .bl k := fun x y d e => by
  cases x <;> cases y <;> first | (cases e; done) | (cases e; exact ⟨_, rfl⟩)
end PB
set_option maxRecDepth 100000
set_option maxHeartbeats 4000000
/-! PX16: try: .. except C: .. -/
namespace PB
open PySem PySem.Spec PySem.Calls L2
open PySem.W (Frag exmOne)
variable {G : Gc} {W : WX} {X : Cx} {I : List Nat}
/-- what an except clause does: is tells of which classes it takes -/
def sTry (is : Nat → Option Bool) (mb ms : M Fl) : M Fl := fun ρ => match mb ρ with
  | .ex x ρ' => (match x with
    | .exc c _ _ => (match is c with
      | some true => (match ms ρ' with
        | .ex _ _ => .bad
        | r => r)
      | some false => .ex x ρ'
      | none => .bad)
    | _ => .bad)
  | r => r
theorem s_try {x : Str} {c : Value} {body suite : List Stmt} {b₀ : Stmt} {np pos pos' : Pos} {is : Nat → Option Bool} {mb ms : M Fl} (hs : X.stack = X.env :: X.outer) (hf : X.env.frame = some X.env.locals) (hc : Names X x c) (tk : Takes X W)
    (hk : ∀ n b, is n = some b → exmOne X.K (.ref (G.cl n)) c = some b)
    (hb : ∀ (W : WX) (pn : List (Addr × Obj)) (xe : Value → Shared → Prop), Takes (X.tr pn xe) W → PassesOwn (model X.prog X.w) X.A X.env xe → PSs (X.tr pn xe) body (liftS G W I mb))
    (hsu : ∀ (a : Addr) (oe : Obj) (cls : Value) (d : Option Addr) (pn : List (Addr × Obj)), Zc cls d oe → (∃ vs, oe.data = .fields vs) → PSs (X.suite a ((a, oe) :: pn)) (b₀ :: suite) (liftS G W0 I ms)) :
    PS X (.Try body [.ExceptHandler (some (.Name x np)) none (b₀ :: suite) pos'] [] [] pos) (liftS G W I (sTry is mb ms)) :=
  PS_imp (ps_try_only (ts := fun _ _ _ => liftS G W0 I ms) (tb := fun W => liftS G W I mb) hs hf hc tk hb hsu) fun E σ H ⟨Z, O, ρ, r, q⟩ => by
    refine ⟨Z, O, ρ, r, ?_⟩
    unfold sTry at q
    cases e : mb ρ with
    | bad => rw [e] at q; exact q.elim
    | ok fl ρ' => rw [e] at q; exact q
    | ex y ρ' =>
      rw [e] at q
      simp only at q
      cases y <;> first | exact q.elim | skip
      rename_i n ns xs
      simp only at q
      cases e2 : is n with
      | none => rw [e2] at q; exact q.elim
      | some b =>
        rw [e2] at q
        intro cc dd Z' O' σ' H' y k rr xr
        obtain ⟨rfl, hx⟩ := xr
        refine ⟨b, hk n b e2, fun eb a ha => ?_, fun eb => ?_⟩
        · subst eb
          simp only at q
          refine ⟨Z', O', ρ', rr, ?_⟩
          cases e3 : ms ρ' with
          | bad => rw [e3] at q; exact q.elim
          | ex z ρ2 => rw [e3] at q; exact q.elim
          | ok fl ρ2 =>
            rw [e3] at q
            have q2 : contS G W I (.ok fl ρ2) Z' O' σ' H' E := contS.ext y k q
            exact q2
        · subst eb
          exact q _ dd Z' O' σ' H' y k rr ⟨rfl, hx⟩
end PB
set_option maxRecDepth 100000
set_option maxHeartbeats 4000000
/-! PX17: several parts of one assignment, some of them owned. -/
namespace PB
open PySem PySem.Spec PySem.Calls L2
variable {G : Gc} {W : WX} {X : Cx} {I : List Nat}
/-- parts: frozen, or owned at the places from t on -/
def LsP (G : Gc) (Z : Addr → Prop) (O : Nat → List Addr) (H : Hp) : Nat → List (Bool × D) → List V → Prop
  | _, [], vs => vs = []
  | t, (true, d) :: ds, vs => ∃ v r, vs = v :: r ∧ Own G Z H d v (O t) ∧ LsP G Z O H (t + 1) ds r
  | t, (false, d) :: ds, vs => ∃ v r, vs = v :: r ∧ Rf G Z H d v ∧ LsP G Z O H t ds r
abbrev repP (G : Gc) : Rep (List (Bool × D)) (List V) := fun Z O ρ _ H ds vs => LsP G Z O H ρ.length ds vs
theorem LsP.shift {Z : Addr → Prop} {O O' : Nat → List Addr} {H : Hp} : ∀ {ds : List (Bool × D)} {vs : List V} {s s' : Nat}, (∀ k, O' (s' + k) = O (s + k)) → LsP G Z O H s ds vs → LsP G Z O' H s' ds vs
  | [], _, _, _, _, h => h
  | (true, d) :: ds, _, s, s', e, ⟨v, r, q, h1, h2⟩ => ⟨v, r, q, by have := e 0; simp only [Nat.add_zero] at this; rw [this]; exact h1, h2.shift fun k => by
      have := e (1 + k)
      rw [← Nat.add_assoc, ← Nat.add_assoc] at this
      exact this⟩
  | (false, d) :: ds, _, s, s', e, ⟨v, r, q, h1, h2⟩ => ⟨v, r, q, h1, h2.shift e⟩
section
variable {Z : Addr → Prop} {H : Hp} {O : Nat → List Addr} {ρ : Env} {σ : St}
/-- what is behind the slots is nobody's from now on -/
theorem R.dropT (r : R G Z O ρ σ H) {t : Nat} (ht : ρ.length ≤ t) : R G Z (setO O t []) ρ σ H where
  len := r.len
  sl := fun j s q => by
    have hj : j ≠ t := fun e => by
      obtain ⟨hl, _⟩ := List.getElem?_eq_some_iff.mp q
      omega
    rw [setO_ne hj]
    exact r.sl j s q
  nd := fun j => by
    by_cases q : j = t
    · subst q; rw [setO_same]; exact List.nodup_nil
    · rw [setO_ne q]; exact r.nd j
  dj := fun j k a h1 h2 => by
    by_cases q : j = t
    · subst q; rw [setO_same] at h1; cases h1
    · by_cases q2 : k = t
      · subst q2; rw [setO_same] at h2; cases h2
      · rw [setO_ne q] at h1; rw [setO_ne q2] at h2; exact r.dj j k a h1 h2
  oz := fun j a h => by
    by_cases q : j = t
    · subst q; rw [setO_same] at h; cases h
    · rw [setO_ne q] at h; exact r.oz j a h
  od := fun j a h => by
    by_cases q : j = t
    · subst q; rw [setO_same] at h; cases h
    · rw [setO_ne q] at h; exact r.od j a h
  zd := r.zd
  tb := r.tb
def insO (O : Nat → List Addr) (t : Nat) (fp : List Addr) : Nat → List Addr := fun i => if i < t then O i else if i = t then fp else O (i - 1)
theorem insO_lt {t i : Nat} {fp : List Addr} (h : i < t) : insO O t fp i = O i := if_pos h
theorem insO_eq {t : Nat} {fp : List Addr} : insO O t fp t = fp := by unfold insO; rw [if_neg (Nat.lt_irrefl _), if_pos rfl]
theorem insO_gt {t i : Nat} {fp : List Addr} (h : t < i) : insO O t fp i = O (i - 1) := by unfold insO; rw [if_neg (by omega), if_neg (by omega)]
theorem insO_cases (t i : Nat) (fp : List Addr) : (i = t ∧ insO O t fp i = fp) ∨ (i ≠ t ∧ insO O t fp i = O (if i < t then i else i - 1)) := by
  by_cases h : i = t
  · exact .inl ⟨h, by rw [h]; exact insO_eq⟩
  · refine .inr ⟨h, ?_⟩
    by_cases h2 : i < t
    · rw [if_pos h2]; exact insO_lt h2
    · rw [if_neg h2]; exact insO_gt (by omega)
theorem R.ins (r : R G Z O ρ σ H) {t : Nat} {fp : List Addr} (ht : ρ.length ≤ t) (ap : Apart Z O H fp) : R G Z (insO O t fp) ρ σ H where
  len := r.len
  sl := fun j s q => by
    obtain ⟨hl, _⟩ := List.getElem?_eq_some_iff.mp q
    rw [insO_lt (by omega)]
    exact r.sl j s q
  nd := fun j => by
    rcases insO_cases (O := O) t j fp with ⟨_, e⟩ | ⟨_, e⟩
    · rw [e]; exact ap.nd
    · rw [e]; exact r.nd _
  dj := fun j k a h1 h2 => by
    rcases insO_cases (O := O) t j fp with ⟨q1, e⟩ | ⟨q1, e⟩
    · rcases insO_cases (O := O) t k fp with ⟨q2, e2⟩ | ⟨q2, e2⟩
      · rw [q1, q2]
      · rw [e] at h1; rw [e2] at h2; exact absurd ⟨_, h2⟩ (ap.o a h1)
    · rcases insO_cases (O := O) t k fp with ⟨q2, e2⟩ | ⟨q2, e2⟩
      · rw [e] at h1; rw [e2] at h2; exact absurd ⟨_, h1⟩ (ap.o a h2)
      · rw [e] at h1; rw [e2] at h2
        have := r.dj _ _ a h1 h2
        split at this <;> split at this <;> omega
  oz := fun j a h => by
    rcases insO_cases (O := O) t j fp with ⟨_, e⟩ | ⟨_, e⟩
    · rw [e] at h; exact ap.z a h
    · rw [e] at h; exact r.oz _ a h
  od := fun j a h => by
    rcases insO_cases (O := O) t j fp with ⟨_, e⟩ | ⟨_, e⟩
    · rw [e] at h; exact ap.h a h
    · rw [e] at h; exact r.od _ a h
  zd := r.zd
  tb := r.tb
end
def pNil : M (List (Bool × D)) := fun ρ => .ok [] ρ
def pV (m : M D) (ms : M (List (Bool × D))) : M (List (Bool × D)) := fun ρ => (m ρ).bind fun d ρ => (ms ρ).bind fun ds ρ => .ok ((false, d) :: ds) ρ
def pO (m : M D) (ms : M (List (Bool × D))) : M (List (Bool × D)) := fun ρ => (m ρ).bind fun d ρ => (ms ρ).bind fun ds ρ => .ok ((true, d) :: ds) ρ
abbrev liftP (G : Gc) (W : WX) (m : M (List (Bool × D))) : TA := liftG G W (repP G) m
theorem pp_nil : PA X [] (liftP G W pNil) := PA_imp pa_nil fun σ H Q ⟨Z, O, ρ, r, q⟩ => q _ Z O H .refl r rfl
theorem pp_v {e : Expr} {es : List Expr} {m : M D} {ms : M (List (Bool × D))} (h : PE X e (lift G W m)) (hs : PA X es (liftP G W ms)) (hst : starEach (e :: es) X.env = (false, eval e X.env) :: starEach es X.env := by rfl) : PA X (e :: es) (liftP G W (pV m ms)) :=
  PA_imp (pa_cons h hs hst) fun σ H Q q => by
    refine liftG.mono (liftG.bind (rep := repF G) q) fun v H1 ⟨Z1, O1, ρ1, d1, r1, f1, q1⟩ => ?_
    refine ⟨Z1, O1, ρ1, r1, (contG.bind (rep := repP G) q1).mono fun w H2 ⟨Z2, O2, ρ2, d2, x, r2, f2, q2⟩ => ?_⟩
    exact q2 _ Z2 O2 H2 .refl r2 ⟨v, w, rfl, r1.rf x f1, f2⟩
theorem pp_o {e : Expr} {es : List Expr} {m : M D} {ms : M (List (Bool × D))} (h : PE X e (liftO G W m)) (hs : PA X es (liftP G W ms)) (hst : starEach (e :: es) X.env = (false, eval e X.env) :: starEach es X.env := by rfl) : PA X (e :: es) (liftP G W (pO m ms)) :=
  PA_imp (pa_cons h hs hst) fun σ H Q q => by
    refine liftG.mono (liftG.bind (rep := repO G) q) fun v H1 ⟨Z1, O1, ρ1, d1, r1, own, q1⟩ => ?_
    have r1' := r1.dropT (Nat.le_refl ρ1.length)
    have xd : Ext Z1 O1 H1 Z1 (setO O1 ρ1.length []) H1 := .drop
    refine ⟨Z1, _, ρ1, r1', ?_⟩
    have noW : ∀ a ∈ O1 ρ1.length, ¬ Ow (setO O1 ρ1.length []) a := fun a ha ⟨j, z⟩ => by
      by_cases q : j = ρ1.length
      · rw [q, setO_same] at z; cases z
      · rw [setO_ne q] at z; exact q (r1.dj j _ a z ha)
    cases e2 : ms ρ1 with
    | bad => rw [e2] at q1; exact q1.elim
    | ex y ρ2 => rw [e2] at q1; exact fun c dd Z' O' H' y => q1 c dd Z' O' H' (xd.trans y)
    | ok ds ρ2 =>
      rw [e2] at q1
      intro ws Z2 O2 H2 x r2 f2
      have hl : ρ2.length = ρ1.length := by rw [r2.len, r1.len]
      have ap : Apart Z2 O2 H2 (O1 ρ1.length) := by
        refine ⟨r1.nd _, fun a ha z => ?_, fun a ha z => ?_, fun a ha => ?_⟩
        · rcases x.zn a z with z | z | z
          · exact r1.oz _ a ha z
          · exact noW a ha z
          · exact (r1.od _ a ha).ne z
        · rcases x.on a z with z | z
          · exact noW a ha z
          · exact (r1.od _ a ha).ne z
        · obtain ⟨o, e3, n⟩ := r1.od _ a ha
          exact (x.kp a o e3 (noW a ha)).pl ⟨o, rfl, n⟩
      have r3 := r2.ins (t := ρ2.length) (Nat.le_refl _) ap
      have own2 : Own G Z2 H2 d1 v (O1 ρ1.length) := own.keep x.zs (Kp.of_ext r1' x) fun a ha o e => (x.kp a o e (noW a ha)).no (r1.oz _ a ha) fun ps eo => (r1.od _ a ha).no (e.trans (congrArg some eo))
      refine q1 (v :: ws) Z2 _ H2 ?_ r3 ⟨v, ws, rfl, by rw [insO_eq]; exact own2, f2.shift fun k => by
        rw [insO_gt (by omega)]
        congr 1
        omega⟩
      have xt := xd.trans x
      refine ⟨xt.zs, xt.kp, xt.zn, fun a ⟨j, z⟩ => ?_, xt.dm⟩
      rcases insO_cases (O := O2) ρ2.length j (O1 ρ1.length) with ⟨_, e3⟩ | ⟨_, e3⟩
      · rw [e3] at z; exact .inl ⟨_, z⟩
      · rw [e3] at z; exact xt.on a ⟨_, z⟩
def slP : Bool × D → Sl
  | (true, d) => .ow d
  | (false, d) => .fr d
def setsE : List Nat → List (Bool × D) → Env → Env
  | i :: is, d :: ds, ρ => setsE is ds (ρ.set i (slP d))
  | _, _, ρ => ρ
def setsV : List Nat → List V → St → St
  | i :: is, v :: vs, σ => setsV is vs (σ.set i (some v))
  | _, _, σ => σ
theorem store_run : ∀ {is : List Nat} {ds : List (Bool × D)} {vs : List V} {Z : Addr → Prop} {O : Nat → List Addr} {ρ : Env} {σ : St} {H : Hp} {t : Nat}, (∀ i ∈ is, i < ρ.length) → is.length = ds.length → R G Z O ρ σ H → LsP G Z O H t ds vs → ρ.length ≤ t →
    ∃ O', Ext Z O H Z O' H ∧ R G Z O' (setsE is ds ρ) (setsV is vs σ) H
  | [], [], _, Z, O, ρ, σ, H, t, _, _, r, h, _ => by cases h; exact ⟨O, .refl, r⟩
  | i :: is, (true, d) :: ds, _, Z, O, ρ, σ, H, t, hi, l, r, ⟨v, w, e, h1, h2⟩, ht => by
    subst e
    have hi0 := hi i List.mem_cons_self
    have r1 := r.moveT ht h1 hi0
    obtain ⟨O', x, r2⟩ := store_run (is := is) (ds := ds) (vs := w) (t := t + 1) (by intro j hj; rw [List.length_set]; exact hi j (List.mem_cons_of_mem _ hj)) (by simpa using l) r1 (h2.shift fun k => by
      rw [setO_ne (by omega), setO_ne (by omega)]) (by rw [List.length_set]; omega)
    exact ⟨O', Ext.trans .moveT x, r2⟩
  | i :: is, (false, d) :: ds, _, Z, O, ρ, σ, H, t, hi, l, r, ⟨v, w, e, h1, h2⟩, ht => by
    subst e
    have hi0 := hi i List.mem_cons_self
    obtain ⟨O', x, r2⟩ := store_run (is := is) (ds := ds) (vs := w) (t := t) (by intro j hj; rw [List.length_set]; exact hi j (List.mem_cons_of_mem _ hj)) (by simpa using l) (r.setFr (i := i) h1) (h2.shift fun k => by
      rw [setO_ne (by omega)]) (by rw [List.length_set]; omega)
    exact ⟨O', Ext.trans .drop x, r2⟩
  | [], _ :: _, _, _, _, _, _, _, _, _, l, _, _, _ => by simp at l
  | _ :: _, [], _, _, _, _, _, _, _, _, l, _, _, _ => by simp at l
theorem LsP.length {Z : Addr → Prop} {O : Nat → List Addr} {H : Hp} : ∀ {ds : List (Bool × D)} {vs : List V} {t : Nat}, LsP G Z O H t ds vs → ds.length = vs.length
  | [], _, _, h => by cases h; rfl
  | (true, d) :: ds, _, _, ⟨v, r, q, _, h2⟩ => by rw [q, List.length_cons, List.length_cons, h2.length]
  | (false, d) :: ds, _, _, ⟨v, r, q, _, h2⟩ => by rw [q, List.length_cons, List.length_cons, h2.length]
theorem setsV_keep : ∀ {is : List Nat} {vs : List V} {σ : St}, (∀ i ∈ is, I.contains i = false) → ∀ j ∈ I, (setsV is vs σ)[j]? = σ[j]?
  | [], _, _, _, _, _ => rfl
  | _ :: _, [], _, _, _, _ => rfl
  | i :: is, v :: vs, σ, h, j, hj => (setsV_keep (fun k hk => h k (List.mem_cons_of_mem _ hk)) j hj).trans (keepI (h i List.mem_cons_self) j hj)
def sParP (is : List Nat) (ms : M (List (Bool × D))) : M Fl := fun ρ => (ms ρ).bind fun ds ρ => if is.length = ds.length ∧ (∀ i ∈ is, i < ρ.length) then .ok .nx (setsE is ds ρ) else .bad
theorem s_parP2 {st : Stmt} {i j : Nat} {ms : M (List (Bool × D))} (hi : I.contains i = false) (hj : I.contains j = false) (h : PS X st (tPar i j (liftP G W ms))) : PS X st (liftS G W I (sParP [i, j] ms)) :=
  PS_imp h fun E σ H q => liftG.mono (liftS.bind (rep := repP G) q) fun vs H1 ⟨Z1, O1, ρ1, ds, r1, f1, q1⟩ => by
    split at q1
    · rename_i ok
      obtain ⟨O', x, r2⟩ := store_run ok.2 ok.1 r1 f1 (Nat.le_refl _)
      have l := f1.length
      rw [← ok.1] at l
      match vs, l with
      | [v, w], _ => exact ⟨v, w, rfl, q1 Z1 O' _ H1 x (setsV_keep (is := [i, j]) (vs := [v, w]) (by intro k hk; rcases (by simpa using hk : k = i ∨ k = j) with rfl | rfl <;> assumption)) r2⟩
    · exact q1.elim
theorem s_parP3 {st : Stmt} {i j k : Nat} {ms : M (List (Bool × D))} (hi : I.contains i = false) (hj : I.contains j = false) (hk : I.contains k = false) (h : PS X st (tPar3 i j k (liftP G W ms))) : PS X st (liftS G W I (sParP [i, j, k] ms)) :=
  PS_imp h fun E σ H q => liftG.mono (liftS.bind (rep := repP G) q) fun vs H1 ⟨Z1, O1, ρ1, ds, r1, f1, q1⟩ => by
    split at q1
    · rename_i ok
      obtain ⟨O', x, r2⟩ := store_run ok.2 ok.1 r1 f1 (Nat.le_refl _)
      have l := f1.length
      rw [← ok.1] at l
      match vs, l with
      | [u, v, w], _ => exact ⟨u, v, w, rfl, q1 Z1 O' _ H1 x (setsV_keep (is := [i, j, k]) (vs := [u, v, w]) (by intro n hn; rcases (by simpa using hn : n = i ∨ n = j ∨ n = k) with rfl | rfl | rfl <;> assumption)) r2⟩
    · exact q1.elim
end PB
set_option maxRecDepth 100000
set_option maxHeartbeats 4000000
/-! PX18: all, any of a list of truths; what is not reached wants no reading. -/
namespace PB
open PySem PySem.Spec PySem.Calls L2
variable {G : Gc} {W : WX} {X : Cx} {I : List Nat}
/-! ### not reached -/
def mBad {α : Type} : M α := fun _ => .bad
theorem d_bad {e : Expr} : PE X e (lift G W mBad) := ⟨fun pins s σ H Q I q => by obtain ⟨Z, O, ρ, r, q⟩ := q; exact q.elim⟩
theorem o_bad {e : Expr} : PE X e (liftO G W mBad) := ⟨fun pins s σ H Q I q => by obtain ⟨Z, O, ρ, r, q⟩ := q; exact q.elim⟩
theorem s_bad {st : Stmt} : PS X st (liftS G W I mBad) := ⟨fun pins s σ H D J q => by obtain ⟨Z, O, ρ, r, q⟩ := q; exact q.elim⟩
theorem ss_bad {st : List Stmt} : PSs X st (liftS G W I mBad) := ⟨fun pins s σ H D J q => by obtain ⟨Z, O, ρ, r, q⟩ := q; exact q.elim⟩
/-! ### all, any -/
def blD : D → Option Bool
  | .bl b => some b
  | _ => none
def blsD : List D → Option (List Bool)
  | [] => some []
  | x :: xs => match blD x, blsD xs with
    | some b, some bs => some (b :: bs)
    | _, _ => none
theorem blsD_v {Z : Addr → Prop} {H : Hp} : ∀ {ds : List D} {vs : List V} {bs : List Bool}, RfL G Z H ds vs → blsD ds = some bs → vs = bs.map V.bl
  | [], _, _, h, e => by cases e; cases h; rfl
  | x :: xs, _, _, ⟨v, r, q, h1, h2⟩, e => by
    unfold blsD at e
    cases e1 : blD x with
    | none => rw [e1] at e; cases e
    | some b =>
      cases e2 : blsD xs with
      | none => rw [e1, e2] at e; cases e
      | some bs =>
        rw [e1, e2] at e; cases e
        rw [q, blsD_v h2 e2]
        cases x <;> first | (cases e1; done) | skip
        cases e1; cases h1; rfl
def fBls (g : List Bool → Bool) : List D → Option D
  | [.lst xs] => (blsD xs).map fun bs => .bl (g bs)
  | _ => none
theorem n_bls {g : List Bool → Bool} : OpN G W (fun vs H Q => ∃ (a : Addr) (bs : List Bool), vs = [V.ref a] ∧ SqL G.K H a (bs.map V.bl) ∧ Q (.bl (g bs)) H) (fBls g) := opN_flat fun Z H vs ds d Q f1 e q => by
  unfold fBls at e
  split at e
  · rename_i xs
    obtain ⟨v, rfl, a, ws, rfl, fz, rl⟩ := rfl1 f1
    cases e1 : blsD xs with
    | none => rw [e1] at e; cases e
    | some bs =>
      rw [e1] at e; cases e
      rw [blsD_v rl e1] at fz
      exact ⟨a, bs, rfl, fz.sq, q _ fun _ _ => rfl⟩
  · cases e
abbrev fAll : List D → Option D := fBls fun bs => bs.all id
abbrev fAny : List D → Option D := fBls fun bs => bs.any id
end PB
set_option maxRecDepth 100000
set_option maxHeartbeats 4000000
/-! PX19: tuple(..), list(..); the signs of a text walked. -/
namespace PB
open PySem PySem.Spec PySem.Calls L2
variable {G : Gc} {W : WX} {X : Cx} {I : List Nat}
def fTupOf : List D → Option D
  | [.lst xs] => some (.tup xs)
  | [.tup xs] => some (.tup xs)
  | _ => none
theorem n_tupOf : OpN G W (fun xs H Q => ∃ p ys, xs = [.ref p] ∧ ((SqL G.K H p ys ∧ ∀ l, H l = none → Q (.ref l) (upd H l (.tup ys))) ∨ (SqT G.K H p ys ∧ Q (.ref p) H))) fTupOf := fun Z O ρ σ H vs ds d Q rr f1 e q => by
  unfold fTupOf at e
  split at e
  · obtain ⟨v, rfl, a, ws, rfl, fz, rl⟩ := rfl1 f1
    cases e
    exact ⟨a, ws, rfl, .inl ⟨fz.sq, cont_tup rr rl q⟩⟩
  · obtain ⟨v, rfl, a, ws, rfl, fz, rl⟩ := rfl1 f1
    cases e
    exact ⟨a, ws, rfl, .inr ⟨fz.sq, q _ Z O H .refl rr ⟨a, ws, rfl, fz, rl⟩⟩⟩
  · cases e
def fLstOf : List D → Option D
  | [.lst xs] => some (.lst xs)
  | [.tup xs] => some (.lst xs)
  | _ => none
theorem n_lstOf : OpN G W (fun xs H Q => ∃ p ys, xs = [.ref p] ∧ (SqL G.K H p ys ∨ SqT G.K H p ys) ∧ ∀ l, H l = none → Q (.ref l) (upd H l (.lst ys))) fLstOf := fun Z O ρ σ H vs ds d Q rr f1 e q => by
  unfold fLstOf at e
  split at e
  · obtain ⟨v, rfl, a, ws, rfl, fz, rl⟩ := rfl1 f1
    cases e
    exact ⟨a, ws, rfl, .inl fz.sq, cont_lst rr rl q⟩
  · obtain ⟨v, rfl, a, ws, rfl, fz, rl⟩ := rfl1 f1
    cases e
    exact ⟨a, ws, rfl, .inr fz.sq, cont_lst rr rl q⟩
  · cases e
theorem no_lstOf : OpNO G W (fun xs H Q => ∃ p ys, xs = [.ref p] ∧ (SqL G.K H p ys ∨ SqT G.K H p ys) ∧ ∀ l, H l = none → Q (.ref l) (upd H l (.lst ys))) fLstOf := fun Z O ρ σ H vs ds d Q rr f1 e q => by
  unfold fLstOf at e
  split at e
  · obtain ⟨v, rfl, a, ws, rfl, fz, rl⟩ := rfl1 f1
    cases e
    exact ⟨a, ws, rfl, .inl fz.sq, contO_lst rr rl q⟩
  · obtain ⟨v, rfl, a, ws, rfl, fz, rl⟩ := rfl1 f1
    cases e
    exact ⟨a, ws, rfl, .inr fz.sq, contO_lst rr rl q⟩
  · cases e
/-! ### the signs of a text -/
def sgD (x : Str) : List D := x.cps.toList.map fun c => .str ⟨#[c]⟩
def asS : D → Option (List D)
  | .str x => some (sgD x)
  | _ => none
theorem wk_str {Z1 : Addr → Prop} {H1 : Hp} {x : Str} : Wk G Z1 H1 (Its x) (sgD x) where
  stop := fun Z H zs k => by
    show x.cps.size ≤ (sgD x).length
    unfold sgD
    rw [List.length_map, Array.length_toList]
    exact Nat.le_refl _
  go := fun Z H i zs k h => by
    unfold sgD at h
    rw [List.length_map, Array.length_toList] at h
    exact h
  yld := fun Z O ρ σ H i y v H' r zs k e q => by
    obtain ⟨rfl, c, ec, rfl⟩ := q
    unfold sgD at e
    rw [List.getElem?_map, Array.getElem?_toList, ec] at e
    cases e
    exact ⟨Z, .refl, r, rfl⟩
theorem src_str {m : M D} : Src G W (iStr (lift G W m)) (mItems asS m) := fun σ H Q q => by
  unfold mItems at q
  refine liftG.mono (liftG.bind (rep := repF G) q) fun v H1 ⟨Z1, O1, ρ1, d1, r1, f1, q1⟩ => ?_
  cases d1 <;> first | exact q1.elim | skip
  rename_i x
  exact ⟨x, f1, q1 _ Z1 O1 H1 .refl r1 wk_str⟩
end PB
set_option maxRecDepth 100000
set_option maxHeartbeats 4000000
/-! PX20: a dict asked, by data. -/
namespace PB
open PySem PySem.Spec PySem.Calls L2
variable {G : Gc} {W : WX} {X : Cx} {I : List Nat}
def keyD : D → Option Key
  | .str x => some (.inr x)
  | .int i => some (.inl i)
  | _ => none
def valD : List Key → List D → Key → Option D
  | k :: ks, x :: xs, y => if k = y then some x else valD ks xs y
  | _, _, _ => none
theorem keyD_v {Z : Addr → Prop} {H : Hp} {d : D} {v : V} {k : Key} (h : Rf G Z H d v) (e : keyD d = some k) : v = kV k := by
  cases d <;> first | (cases e; done) | skip
  · cases e; cases h; rfl
  · cases e; cases h; rfl
theorem valV_cons {k y : Key} {v : V} {l : List (Key × V)} : valV ((k, v) :: l) y = if k = y then some v else valV l y := by
  unfold valV
  rw [List.find?_cons]
  by_cases h : k = y
  · subst h; simp
  · simp [h]
theorem valD_some {Z : Addr → Prop} {H : Hp} {y : Key} : ∀ {ks : List Key} {xs : List D} {vs : List V} {d : D}, RfL G Z H xs vs → valD ks xs y = some d → ∃ v, valV (ks.zip vs) y = some v ∧ Rf G Z H d v
  | [], _, _, _, _, e => by unfold valD at e; cases e
  | _ :: _, [], _, _, _, e => by unfold valD at e; cases e
  | k :: ks, x :: xs, _, d, ⟨v, r, rfl, h1, h2⟩, e => by
    unfold valD at e
    rw [List.zip_cons_cons, valV_cons]
    by_cases h : k = y
    · rw [if_pos h] at e; cases e
      exact ⟨v, by rw [if_pos h], h1⟩
    · rw [if_neg h] at e
      rw [if_neg h]
      exact valD_some h2 e
theorem valD_isSome {Z : Addr → Prop} {H : Hp} {y : Key} : ∀ {ks : List Key} {xs : List D} {vs : List V}, RfL G Z H xs vs → (valV (ks.zip vs) y).isSome = (valD ks xs y).isSome
  | [], _, _, _ => by unfold valD; rfl
  | _ :: _, [], _, h => by cases h; unfold valD; rfl
  | k :: ks, x :: xs, _, ⟨v, r, rfl, h1, h2⟩ => by
    unfold valD
    rw [List.zip_cons_cons, valV_cons]
    by_cases h : k = y
    · rw [if_pos h, if_pos h]; rfl
    · rw [if_neg h, if_neg h]
      exact valD_isSome h2
def fDGet : D → D → Option D
  | .dct ks xs, y => (keyD y).bind fun k => valD ks xs k
  | _, _ => none
def fDIn (neg : Bool) : D → D → Option D
  | y, .dct ks xs => (keyD y).map fun k => .bl (if neg then !(valD ks xs k).isSome else (valD ks xs k).isSome)
  | _, _ => none
theorem d_dget {o i : Expr} {ma mb : M D} {pos : Pos} (hu : X.A.units + 1 < cLine) (ha : PE X o (lift G W ma)) (hb : PE X i (lift G W mb)) (hs : NoSl i) : PE X (.Subscript o i pos) (lift G W (bin2 fDGet ma mb)) :=
  PE_imp (pe_dget hu ha hb hs) fun σ H Q q => op2_tOp (r := fun x y H2 Q => ∃ a v, x = .ref a ∧ DGet H2 a y (some v) ∧ Q v H2) (f := fDGet) (ma := ma) (mb := mb) (fun Z O ρ σ H v w d1 d2 d Q rr f1 f2 e q => by
    cases d1 <;> first | (cases e; done) | skip
    rename_i ks xs
    obtain ⟨a, vs, rfl, g, l, rl⟩ := f1
    cases e1 : keyD d2 with
    | none => simp only [fDGet, e1] at e; cases e
    | some k =>
      simp only [fDGet, e1, Option.bind_some] at e
      obtain ⟨u, eu, fu⟩ := valD_some rl e
      exact ⟨a, u, rfl, .inl ⟨_, k, g.2, keyD_v f2 e1, eu.symm⟩, q _ Z O H .refl rr fu⟩) rfl rfl q
theorem o_dIn {neg : Bool} : Op2 G W (fun y x H2 Q => ∃ a o, x = .ref a ∧ DGet H2 a y o ∧ Q (.bl (if neg then !o.isSome else o.isSome)) H2) (fDIn neg) := .flat fun Z H v w d1 d2 d Q f1 f2 e q => by
  cases d2 <;> first | (cases d1 <;> cases e; done) | skip
  rename_i ks xs
  obtain ⟨a, vs, rfl, g, l, rl⟩ := f2
  cases e1 : keyD d1 with
  | none => simp only [fDIn, e1] at e; cases e
  | some k =>
    simp only [fDIn, e1, Option.map_some] at e
    cases e
    refine ⟨a, valV (ks.zip vs) k, rfl, .inl ⟨_, k, g.2, keyD_v f1 e1, rfl⟩, ?_⟩
    rw [valD_isSome rl]
    exact q _ fun _ _ => rfl
theorem bl_dIn {neg : Bool} : ∀ x y d, fDIn neg x y = some d → ∃ k, d = .bl k := fun x y d e => by
  cases y <;> first | (cases x <;> cases e; done) | skip
  rename_i ks xs
  cases e1 : keyD x with
  | none => simp only [fDIn, e1] at e; cases e
  | some k => simp only [fDIn, e1, Option.map_some] at e; cases e; exact ⟨_, rfl⟩
section
variable {i o : Expr} {ma mb : M D} {pos : Pos}
theorem d_dIn (hu : X.A.units + 1 < cLine) (ha : PE X i (lift G W ma)) (hb : PE X o (lift G W mb)) (hm : behindInMarks .In o = false) : PE X (.Compare i [.In] [o] pos) (lift G W (bin2 (fDIn false) ma mb)) :=
  PE_imp (pe_cmp (pc_din hu ha hb) hm) fun σ H Q q => op2_tOp (o_dIn (neg := false)) rfl rfl q
theorem d_dNin (hu : X.A.units + 1 < cLine) (ha : PE X i (lift G W ma)) (hb : PE X o (lift G W mb)) (hm : behindInMarks .NotIn o = false) : PE X (.Compare i [.NotIn] [o] pos) (lift G W (bin2 (fDIn true) ma mb)) :=
  PE_imp (pe_cmp (pc_dnotin hu ha hb) hm) fun σ H Q q => op2_tOp (o_dIn (neg := true)) rfl rfl q
def mGet2 (ma mb mc : M D) : M D := fun ρ => (ma ρ).bind fun x ρ => match x with
  | .dct ks xs => (mb ρ).bind fun y ρ => (mc ρ).bind fun z ρ => optR ((keyD y).map fun k => (valD ks xs k).getD z) ρ
  | _ => .bad
theorem d_dget2 {f : Expr} {mc : M D} {apos : Pos} (hu : X.A.units + 1 < cLine) (ha : PE X o (lift G W ma)) (hb : PE X i (lift G W mb)) (hc : PE X f (lift G W mc)) (m : M2 X o "get" apos i f pos) :
    PE X (.Call (.Attribute o "get" apos) [i, f] [] pos) (lift G W (mGet2 ma mb mc)) := PE_imp (pe_dget2 hu ha hb hc m) fun σ H Q q => by
  refine liftG.mono (liftG.bind (rep := repF G) q) fun v H1 ⟨Z1, O1, ρ1, d1, r1, f1, q1⟩ => ?_
  cases d1 <;> first | exact q1.elim | skip
  rename_i ks xs
  have f1' : Rf G Z1 H1 (.dct ks xs) v := f1
  obtain ⟨a, vs, rfl, g, l, rl⟩ := f1
  refine ⟨a, rfl, .inl ⟨_, g.2⟩, ⟨Z1, O1, ρ1, r1, (contG.bind (rep := repF G) q1).mono fun w H2 ⟨Z2, O2, ρ2, d2, x2, r2, f2, q2⟩ => ?_⟩⟩
  refine ⟨Z2, O2, ρ2, r2, (contG.bind (rep := repF G) q2).mono fun u H3 ⟨Z3, O3, ρ3, d3, x3, r3, f3, q3⟩ => ?_⟩
  obtain ⟨a', vs', ea, g3, l3, rl3⟩ := r2.rf x3 (r1.rf x2 f1')
  cases ea
  have f2' := r2.rf x3 f2
  cases e1 : keyD d2 with
  | none => rw [e1] at q3; exact q3.elim
  | some k =>
    rw [e1] at q3
    have q3 : cont G W (.ok ((valD ks xs k).getD d3) ρ3) Z3 O3 σ H3 Q := q3
    refine ⟨valV (ks.zip vs') k, .inl ⟨_, k, g3.2, keyD_v f2' e1, rfl⟩, ?_⟩
    cases e2 : valD ks xs k with
    | none =>
      have hn : valV (ks.zip vs') k = none := by
        have := valD_isSome (y := k) (ks := ks) rl3
        rw [e2] at this
        exact Option.not_isSome_iff_eq_none.mp (by rw [this]; simp)
      rw [hn]
      rw [e2] at q3
      exact q3 _ Z3 O3 H3 .refl r3 f3
    | some d =>
      obtain ⟨u', eu, fu⟩ := valD_some rl3 e2
      rw [eu]
      rw [e2] at q3
      exact q3 _ Z3 O3 H3 .refl r3 fu
end
end PB
set_option maxRecDepth 100000
set_option maxHeartbeats 4000000
/-! PX21: what comes may be locked for good: a dict that nobody changes any more can then be walked. -/
namespace PB
open PySem PySem.Spec PySem.Calls L2
variable {G : Gc} {W : WX} {X : Cx} {I : List Nat}
/-- .. as it is, or locked from now on -/
def tMayLock (t : TE) : TE := fun σ H Q => t σ H fun v H1 => Q v H1 ∨ ∃ a u, H1 a = some u ∧ Mut (some u) ∧ ∀ od, Q v (upd H1 a (.frz od u))
theorem pe_mayLock {e : Expr} {t : TE} (h : PE X e t) : PE X e (tMayLock t) := by
  refine ⟨fun pins s σ H Q I hw => ?_⟩
  refine thn (h.run pins s σ H _ I hw) fun v s1 ⟨x, H1, I1, r, q⟩ => ?_
  rcases q with q | ⟨a, u, hd, mu, q⟩
  · exact ⟨x, H1, I1, r, q⟩
  · obtain ⟨od, I2⟩ := I1.lock hd mu
    exact ⟨x, _, I2, r, q od⟩
end PB
set_option maxRecDepth 100000
set_option maxHeartbeats 4000000
/-! PX22: two readings of one expression, by the kinds of the data. -/
namespace PB
open PySem PySem.Spec PySem.Calls L2
variable {G : Gc} {W : WX} {X : Cx} {I : List Nat}
theorem PE_or {e : Expr} {t t' : TE} (h : PE X e t) (h' : PE X e t') : PE X e (fun σ H Q => t σ H Q ∨ t' σ H Q) := ⟨fun pins s σ H Q I q => q.elim (h.run pins s σ H Q I) (h'.run pins s σ H Q I)⟩
def orF (f g : D → D → Option D) : D → D → Option D := fun x y => (f x y).orElse fun _ => g x y
theorem bin2_or (f g : D → D → Option D) (ma mb : M D) (ρ : Env) : bin2 (orF f g) ma mb ρ = bin2 f ma mb ρ ∨ bin2 (orF f g) ma mb ρ = bin2 g ma mb ρ := by
  unfold bin2
  cases ma ρ with
  | bad => exact .inl rfl
  | ex x ρ1 => exact .inl rfl
  | ok x ρ1 =>
    show (mb ρ1).bind (fun y ρ => optR (orF f g x y) ρ) = (mb ρ1).bind (fun y ρ => optR (f x y) ρ) ∨ (mb ρ1).bind (fun y ρ => optR (orF f g x y) ρ) = (mb ρ1).bind (fun y ρ => optR (g x y) ρ)
    cases mb ρ1 with
    | bad => exact .inl rfl
    | ex y ρ2 => exact .inl rfl
    | ok y ρ2 =>
      show optR (orF f g x y) ρ2 = optR (f x y) ρ2 ∨ optR (orF f g x y) ρ2 = optR (g x y) ρ2
      unfold orF
      cases f x y with
      | some d => exact .inl rfl
      | none => exact .inr rfl
theorem d_orF {e : Expr} {f g : D → D → Option D} {ma mb : M D} (h : PE X e (lift G W (bin2 f ma mb))) (h' : PE X e (lift G W (bin2 g ma mb))) : PE X e (lift G W (bin2 (orF f g) ma mb)) :=
  PE_imp (PE_or h h') fun σ H Q ⟨Z, O, ρ, r, q⟩ => (bin2_or f g ma mb ρ).elim (fun e => .inl ⟨Z, O, ρ, r, by rw [← e]; exact q⟩) (fun e => .inr ⟨Z, O, ρ, r, by rw [← e]; exact q⟩)
theorem PT_or {e : Expr} {t t' : TT} (h : PT X e t) (h' : PT X e t') : PT X e (fun σ H Q => t σ H Q ∨ t' σ H Q) := ⟨fun pins s σ H Q I q => q.elim (h.run pins s σ H Q I) (h'.run pins s σ H Q I)⟩
theorem t_orF {e : Expr} {f g : D → D → Option D} {ma mb : M D} (h : PT X e (liftB G W (mTru (bin2 f ma mb)))) (h' : PT X e (liftB G W (mTru (bin2 g ma mb)))) : PT X e (liftB G W (mTru (bin2 (orF f g) ma mb))) :=
  PT_imp (PT_or h h') fun σ H Q ⟨Z, O, ρ, r, q⟩ => by
    refine (bin2_or f g ma mb ρ).elim (fun e => .inl ⟨Z, O, ρ, r, ?_⟩) (fun e => .inr ⟨Z, O, ρ, r, ?_⟩)
    · show contG G W repB ((bin2 f ma mb ρ).bind fun d ρ => optR (truD d) ρ) Z O σ H Q
      rw [← e]; exact q
    · show contG G W repB ((bin2 g ma mb ρ).bind fun d ρ => optR (truD d) ρ) Z O σ H Q
      rw [← e]; exact q
/-- two lists of items for one thing walked -/
theorem PI_or {tg e : Expr} {wi wi' : TI} (h : PI X tg e wi) (h' : PI X tg e wi') : PI X tg e (fun σ H R => wi σ H R ∨ wi' σ H R) := ⟨fun pins s σ H R I q => q.elim (h.run pins s σ H R I) (h'.run pins s σ H R I)⟩
def orL (f g : D → Option (List D)) : D → Option (List D) := fun x => (f x).orElse fun _ => g x
theorem src_or {m : M D} {f g : D → Option (List D)} {wi wi' : TI} (h : Src G W wi (mItems f m)) (h' : Src G W wi' (mItems g m)) : Src G W (fun σ H R => wi σ H R ∨ wi' σ H R) (mItems (orL f g) m) := fun σ H Q ⟨Z, O, ρ, r, q⟩ => by
  have key : mItems (orL f g) m ρ = mItems f m ρ ∨ mItems (orL f g) m ρ = mItems g m ρ := by
    unfold mItems
    cases m ρ with
    | bad => exact .inl rfl
    | ex x ρ1 => exact .inl rfl
    | ok x ρ1 =>
      show optR (orL f g x) ρ1 = optR (f x) ρ1 ∨ optR (orL f g x) ρ1 = optR (g x) ρ1
      unfold orL
      cases f x with
      | some d => exact .inl rfl
      | none => exact .inr rfl
  exact key.elim (fun e => .inl (h σ H Q ⟨Z, O, ρ, r, by rw [← e]; exact q⟩)) (fun e => .inr (h' σ H Q ⟨Z, O, ρ, r, by rw [← e]; exact q⟩))
end PB
set_option maxRecDepth 100000
set_option maxHeartbeats 4000000
/-! PX23: slices of lists and tuples, by data. -/
namespace PB
open PySem PySem.Spec PySem.Calls L2
variable {G : Gc} {W : WX} {X : Cx} {I : List Nat}
theorem RfL.dropN {Z : Addr → Prop} {H : Hp} : ∀ (n : Nat) {ds : List D} {vs : List V}, RfL G Z H ds vs → RfL G Z H (ds.drop n) (vs.drop n)
  | 0, _, _, h => h
  | _ + 1, [], _, h => by cases h; exact rfl
  | n + 1, _ :: _, _, ⟨_, _, rfl, _, h2⟩ => RfL.dropN n h2
theorem RfL.takeN {Z : Addr → Prop} {H : Hp} : ∀ (n : Nat) {ds : List D} {vs : List V}, RfL G Z H ds vs → RfL G Z H (ds.take n) (vs.take n)
  | 0, ds, vs, h => by rw [List.take_zero, List.take_zero]; exact rfl
  | _ + 1, [], _, h => by cases h; exact rfl
  | n + 1, _ :: _, _, ⟨v, r, rfl, h1, h2⟩ => ⟨v, r.take n, rfl, h1, RfL.takeN n h2⟩
def cutL (xs : List D) (lo hi : Option Int) : List D := (xs.drop (HT.sIx xs.length 0 lo)).take (HT.sIx xs.length xs.length hi - HT.sIx xs.length 0 lo)
theorem cutL_v {Z : Addr → Prop} {H : Hp} {ds : List D} {vs : List V} {lo hi : Option Int} (h : RfL G Z H ds vs) : RfL G Z H (cutL ds lo hi) (cutV vs lo hi) := by
  unfold cutL cutV
  rw [h.length]
  exact (h.dropN _).takeN _
abbrev repI : Rep (Option Int) (Option Int) := fun _ _ _ _ _ a b => a = b
abbrev liftI (G : Gc) (W : WX) (m : M (Option Int)) : TO := liftG G W repI m
def mNoP : M (Option Int) := fun ρ => .ok none ρ
def mPart (m : M D) : M (Option Int) := fun ρ => (m ρ).bind fun d ρ => match d with
  | .int i => .ok (some i) ρ
  | _ => .bad
theorem o_none : PO X none (liftI G W mNoP) := ⟨fun pins s σ H Q J q => po_none.run pins s σ H Q J (by
  obtain ⟨Z, O, ρ, r, q⟩ := q
  exact q none Z O H .refl r rfl)⟩
theorem o_some {e : Expr} {m : M D} (h : PE X e (lift G W m)) : PO X (some e) (liftI G W (mPart m)) := ⟨fun pins s σ H Q J q => (po_some h).run pins s σ H Q J (liftG.mono (liftG.bind (rep := repF G) q) fun v H1 ⟨Z1, O1, ρ1, d1, r1, f1, q1⟩ => by
  cases d1 <;> first | exact q1.elim | skip
  rename_i i
  exact ⟨i, f1, q1 _ Z1 O1 H1 .refl r1 rfl⟩)⟩
def cutD : D → Option Int → Option Int → Option D
  | .lst xs, lo, hi => some (.lst (cutL xs lo hi))
  | .tup xs, lo, hi => if HT.sIx xs.length 0 lo = 0 ∧ HT.sIx xs.length xs.length hi = xs.length then some (.tup xs) else some (.tup (cutL xs lo hi))
  | _, _, _ => none
def mSl (mx : M D) (ml mh : M (Option Int)) : M D := fun ρ => (mx ρ).bind fun x ρ => (ml ρ).bind fun l ρ => (mh ρ).bind fun u ρ => optR (cutD x l u) ρ
theorem cut_run {Z : Addr → Prop} {O : Nat → List Addr} {ρ : Env} {σ : St} {H : Hp} {Q : VK} {v : V} {lo hi : Option Int} (r : R G Z O ρ σ H) : ∀ {d : D}, Rf G Z H d v → cont G W (optR (cutD d lo hi) ρ) Z O σ H Q → rSlL G.K v lo hi H Q ∨ rSlA G.K v lo hi H Q
  | .lst xs, ⟨a, vs, e, fz, rl⟩, q => by subst e; exact .inl ⟨a, vs, rfl, fz.sq, cont_lst r (cutL_v rl) q⟩
  | .tup xs, ⟨a, vs, e, fz, rl⟩, q => by
    subst e
    refine .inr ⟨a, vs, rfl, fz.sq, fun hw => ?_, fun hw p hp => ?_⟩
    · rw [← rl.length] at hw
      rw [show cutD (.tup xs) lo hi = some (.tup xs) from if_pos hw] at q
      exact q _ Z O H .refl r ⟨a, vs, rfl, fz, rl⟩
    · rw [← rl.length] at hw
      rw [show cutD (.tup xs) lo hi = some (.tup (cutL xs lo hi)) from if_neg hw] at q
      exact cont_tup r (cutL_v rl) q p hp
  | .non, _, q | .bl _, _, q | .int _, _, q | .str _, _, q | .ty _, _, q | .at _, _, q | .fls _, _, q | .dct _ _, _, q | .ins _ _ _, _, q | .exc _ _ _, _, q | .drw _ _ _ _, _, q | .lam _, _, q => q.elim
theorem d_slice {e : Expr} {lo hi : Option Expr} {mx : M D} {ml mh : M (Option Int)} {pos p2 : Pos} (hK : G.K = X.K) (he : PE X e (lift G W mx)) (hl : PO X lo (liftI G W ml)) (hu : PO X hi (liftI G W mh)) :
    PE X (.Subscript e (.Slice lo hi none p2) pos) (lift G W (mSl mx ml mh)) := PE_imp (pe_slice (SlR.or sl_list sl_tupA) he hl hu) fun σ H Q q => by
  refine liftG.mono (liftG.bind (rep := repF G) q) fun v H1 ⟨Z1, O1, ρ1, d1, r1, f1, q1⟩ => ?_
  refine ⟨Z1, O1, ρ1, r1, (contG.bind (rep := repI) q1).mono fun l H2 ⟨Z2, O2, ρ2, l2, x2, r2, f2, q2⟩ => ?_⟩
  refine ⟨Z2, O2, ρ2, r2, (contG.bind (rep := repI) q2).mono fun u H3 ⟨Z3, O3, ρ3, u3, x3, r3, f3, q3⟩ => ?_⟩
  have f4 : Rf G Z3 H3 d1 v := r2.rf x3 (r1.rf x2 f1)
  have e2 : l2 = l := f2
  have e3 : u3 = u := f3
  subst e2 e3
  rw [← hK]
  exact cut_run r3 f4 q3
end PB
set_option maxRecDepth 100000
set_option maxHeartbeats 4000000
/-! PX24: len of a dict, too. -/
namespace PB
open PySem PySem.Spec PyProof.Rows PySem.Calls L2
variable {G : Gc} {W : WX} {X : Cx} {I : List Nat}
theorem call_lenRd : CallR X (.builtin "len") (fun xs H Q => ∃ a kvs, xs = [V.ref a] ∧ Rd H a (.dK kvs) ∧ Q (.int kvs.length) H) := by
  intro pins s σ H xs us Q I r h
  obtain ⟨a, kvs, rfl, ha, q⟩ := h
  obtain ⟨u, rfl, ru⟩ := vals1 r
  cases ru
  exact d_len I ha fun t s' I' => ⟨.int kvs.length, H, I', ⟨t, rfl⟩, q⟩
def fLenD : List D → Option D
  | [.dct _ xs] => some (.int xs.length)
  | _ => none
theorem n_lenD : OpN G W (fun xs H Q => ∃ a kvs, xs = [V.ref a] ∧ Rd H a (.dK kvs) ∧ Q (.int kvs.length) H) fLenD := opN_flat fun Z H vs ds d Q f1 e q => by
  unfold fLenD at e
  split at e
  · rename_i ks xs
    obtain ⟨v, rfl, a, ws, rfl, g, l, rl⟩ := rfl1 f1
    cases e
    refine ⟨a, _, rfl, g.2, ?_⟩
    rw [List.length_zip, l, ← rl.length, Nat.min_self]
    exact q _ fun _ _ => rfl
  · cases e
def fLenA : List D → Option D := fun ds => (fLen ds).orElse fun _ => fLenD ds
theorem call_lenA : CallR X (.builtin "len") (fun xs H Q => (∃ x n, xs = [x] ∧ LenV X.K x H n ∧ Q (.int n) H) ∨ ∃ a kvs, xs = [V.ref a] ∧ Rd H a (.dK kvs) ∧ Q (.int kvs.length) H) := callR_or call_len call_lenRd
theorem n_lenA : OpN G W (fun xs H Q => (∃ x n, xs = [x] ∧ LenV G.K x H n ∧ Q (.int n) H) ∨ ∃ a kvs, xs = [V.ref a] ∧ Rd H a (.dK kvs) ∧ Q (.int kvs.length) H) fLenA := .or n_len n_lenD
end PB
set_option maxRecDepth 100000
set_option maxHeartbeats 4000000
/-! PX25: try: .. except C as n: .., the exception kept as a value. -/
namespace PB
open PySem PySem.Spec PySem.Calls PyProof.Rows L2
open PySem.W (Frag exmOne)
section
variable {X : Cx} {pins : List (Addr × Obj)} {σ : L2.St} {H : Hp} {s : Shared}
theorem inv_toSuite (J : L2.Inv X pins σ H s) (a : Addr) : L2.Inv (X.suite a (X.pn ++ pins)) [] σ H s :=
  ⟨J.ok.suite _ _, J.os, J.bare, J.base, J.loc, J.cell, J.free, J.freeC, fun p hp => J.pin p (by rw [List.append_nil] at hp; exact hp), J.hok, J.len⟩
theorem inv_ofSuite {a : Addr} {pn' : List (Addr × Obj)} (J : L2.Inv (X.suite a (X.pn ++ pins)) pn' σ H s) (ok : X.Ok) : L2.Inv X pins σ H s :=
  ⟨ok, J.os, J.bare, J.base, J.loc, J.cell, J.free, J.freeC, fun p hp => J.pin p (List.mem_append_left _ hp), J.hok, J.len⟩
end
/-- the clause's wish: the exception is an object from now on -/
def wAsV (K : Frag) (c : Value) (i : Nat) (ts : Addr → Value → Option Addr → TS) (Wout : WX) (D : Ends) : WX := fun cls d σ H =>
  ∃ b, exmOne K cls c = some b ∧ (b = true → ∀ a, H a = none → ts a cls d { nx := fun σ' H' => D.nx (σ'.set i none) H', rt := D.rt, bk := fun σ' H' => D.bk (σ'.set i none) H', ct := fun σ' H' => D.ct (σ'.set i none) H' } (σ.set i (some (.ref a))) (upd H a (ExcO cls d a))) ∧
    (b = false → Wout cls d σ H)
section
variable {X : Cx} {x n : Str} {c : Value} {i : Nat} {body suite : List Stmt} {b₀ : Stmt} {np pos pos' : Pos} {tb : WX → TS} {ts : Addr → Value → Option Addr → TS} {Wout : WX}
theorem ps_tryV (hs : X.stack = X.env :: X.outer) (hf : X.env.frame = some X.env.locals) (hN : X.N.Nodup) (hi : X.N[i]? = some n) (hln : X.env.kindOf n = some .local) (hc : Names X x c) (tk : Takes X Wout)
    (hb : ∀ (W : WX) (pn : List (Addr × Obj)) (xe : Value → Shared → Prop), Takes (X.tr pn xe) W → PassesOwn (model X.prog X.w) X.A X.env xe → PSs (X.tr pn xe) body (tb W))
    (hsu : ∀ (a : Addr) (cls : Value) (d : Option Addr) (pn : List (Addr × Obj)), PSs (X.suite a pn) (b₀ :: suite) (ts a cls d)) :
    PS X (.Try body [.ExceptHandler (some (.Name x np)) (some n) (b₀ :: suite) pos'] [] [] pos) (fun D σ H => tb (wAsV X.K c i ts Wout D) D σ H) := by
  refine ⟨fun pins s σ H D I h => wpAny_Try_except ?_⟩
  have okX := I.ok
  have frs_ : X.A.frames = some (X.env :: X.outer) := okX.frames.trans (by rw [hs])
  have locN : Loc X.env.scope n := .inl hln
  let xe' : Value → Shared → Prop := fun e s₁ => wpAny (model X.prog X.w) X.A (noteFrame e X.env) (fun _ s₂ => wpAny (model X.prog X.w) X.A (setFlight e none) (fun _ s₃ => wpAny (model X.prog X.w) X.A (handleBy e X.env [.ExceptHandler (some (.Name x np)) (some n) (b₀ :: suite) pos']) (SP X pins D) X.xe s₃) X.xe s₂) X.xe s₁
  have catch_ : Takes (X.tr (X.pn ++ pins) xe') (wAsV X.K c i ts Wout D) := by
    intro u s' xx
    obtain ⟨a, B, sI, pins', σ', H', cls, d, rfl, J0, nb, up, sky, na, os, ag, b, hb1, hyes, hno⟩ := xx
    have J : L2.Inv X pins σ' H' sI := J0.ofTry okX
    have sky1 : Sky B (X.env :: X.outer) a (Zc cls d) X.env.locals s'.heap := by rw [← hs]; exact sky
    refine Sky.land Zc.steady frs_ hf sky1 fun g3 fl3 up3 => ?_
    have J3 : L2.Inv X pins σ' H' { s' with heap := g3 } := J.landed nb fl3.1 (up.trans up3) os ag
    obtain ⟨oe3, vs3, he3, hz3, hd3⟩ := fl3.there
    have noF : ∀ {h : Heap} {o : Obj} {vs : Array Value}, h.FunFrames B (X.env :: X.outer) → h.get? a = some o → o.data = .fields vs → a ∉ frs (X.env :: X.outer) := fun {h o vs} ff e dd hm => by
      obtain ⟨_, o2, e2, hnf⟩ := ff.mem hm
      rw [e] at e2; cases e2
      exact hnf _ dd
    have nfr := noF fl3.2.2.1 he3 hd3
    have nLoc : a ≠ X.env.locals := fun z => nfr (List.mem_filterMap.mpr ⟨X.env, List.mem_cons_self, by rw [hf, z]⟩)
    have nFs : a ∉ X.fs := fun hm => by
      obtain ⟨e, he, q⟩ := List.mem_filterMap.mp hm
      exact nfr (List.mem_filterMap.mpr ⟨e, List.mem_cons_of_mem _ he, q⟩)
    have nsI : sI.heap.get? a = none := by
      cases q : sI.heap.get? a with
      | none => rfl
      | some o =>
        have z := nb a o q (by rw [hs]; exact nfr)
        rw [fl3.2.1] at z; cases z
    -- the object is told from now on
    have told : ∀ (h4 : Heap) (oe : Obj) (vs : Array Value), B.StaysIn h4 → s'.heap.UpToSlots h4 → h4.get? a = some oe → Zc cls d oe → oe.data = .fields vs → L2.Inv X pins σ' (upd H' a (ExcO cls d a)) { s' with heap := h4 } := by
      intro h4 oe vs st4 up4 he hz hd
      obtain ⟨G, g1, g2⟩ := restrict h4 fun b => decide (b ≠ a)
      have gk : ∀ b o, b ≠ a → h4.get? b = some o → G.get? b = some o := fun b o hb e => by rw [g1 b (decide_eq_true hb)]; exact e
      have ga : G.get? a = none := g2 a (decide_eq_false fun z => z rfl)
      have gs : ∀ b o, G.get? b = some o → h4.get? b = some o := fun b o e => by
        by_cases hb : b = a
        · rw [hb, ga] at e; cases e
        · rw [g1 b (decide_eq_true hb)] at e; exact e
      have stG : B.StaysIn G := fun b o e => gk b o (fun z => by rw [z, fl3.2.1] at e; cases e) (st4 b o e)
      have upG : sI.heap.UpToSlots G := fun b o e nf => by
        obtain ⟨sl, q⟩ := (up.trans up4) b o e nf
        exact ⟨sl, gk b _ (fun z => by rw [z, nsI] at e; cases e) q⟩
      have JG : L2.Inv X pins σ' H' { s' with heap := G } := J.landed (s' := { s' with heap := G }) nb stG upG os ag
      exact Inv.laidN (s := { s' with heap := G }) (h' := h4) (t' := s'.toks) JG gs ga na (excO_ok he hz.1 hz.2 hd)
    have S3 := J3.suite he3 hd3 na nLoc nFs
    refine wpAny_handleBy_cons (codeAny_handlers_test ?_) (by intro q; cases q)
    have lookT : PySem.W.Looks (model X.prog X.w) g3 (typeOf (.ref a)) cls := fun A Q E s k q => wpAny_typeOf_ref (k _ _ he3) (by rw [hz3.1]; exact q)
    have lookM := PySem.W.exm_one (M := model X.prog X.w) (J3.kIn) lookT hb1
    have tst : ∀ {Q : Value → Shared → Prop} {E : Value → Shared → Prop}, Q c { s' with heap := g3 } → wpAny (model X.prog X.w) (X.A.mark (some (.ref a))) (eval (.Name x np) X.env) Q E { s' with heap := g3 } := fun {Q E} q => by
      obtain ⟨hg, hdbg, hm | ⟨hm, hv, hnn⟩⟩ := hc
      · exact ld_glob (X := X.suite a ((a, oe3) :: (X.pn ++ pins))) S3 hg hm q hdbg
      · exact ld_blt (X := X.suite a ((a, oe3) :: (X.pn ++ pins))) S3 hg hm hv q hnn hdbg
    refine tst (lookM.here ?_)
    cases b with
    | true =>
      refine codeAny_handlers_suite_as (HandSPX.lands_againZ fl3 fun g4 fl4 up4 => ?_)
      obtain ⟨oe4, vs4, he4, hz4, hd4⟩ := fl4.there
      have J4 := told g4 oe4 vs4 fl4.1 (up3.trans up4) he4 hz4 hd4
      have S4 := inv_toSuite J4 a
      refine store_ok (X := X.suite a (X.pn ++ pins)) (v := .ref a) S4 hN hi locN rfl (fun s5 S5 => ?_) (.inr hln)
      refine wpAny_mono ((hsu a cls d (X.pn ++ pins)).run [] s5 _ _ _ S5 (hyes rfl a na)) (fun f s6 hsp => ?_) (fun _ _ z => False.elim z)
      have fin : ∀ {σ6 : L2.St} {H6 : Hp} {Q : Shared → Prop}, L2.Inv (X.suite a (X.pn ++ pins)) [] σ6 H6 s6 → (∀ s7, L2.Inv X pins (σ6.set i none) H6 s7 → Q s7) →
          wpAny (model X.prog X.w) X.A (do bindName X.env n .none; unbindBehindTheSuite X.env n pos') (fun _ s7 => Q s7) X.xe s6 := fun {σ6 H6 Q} S6 hq => gone_ok (inv_ofSuite S6 okX) hN hi hln hq
      cases f with
      | next => exact let ⟨σ6, H6, S6, q6⟩ := hsp; fin S6 fun s7 J7 => ⟨_, _, J7, q6⟩
      | brk => exact let ⟨σ6, H6, S6, q6⟩ := hsp; fin S6 fun s7 J7 => ⟨_, _, J7, q6⟩
      | cont => exact let ⟨σ6, H6, S6, q6⟩ := hsp; fin S6 fun s7 J7 => ⟨_, _, J7, q6⟩
      | ret u => exact let ⟨v6, σ6, H6, S6, r6, q6⟩ := hsp; fin S6 fun s7 J7 => ⟨_, _, _, J7, r6, q6⟩
    | false =>
      refine wpAny_handleBy_nil ?_
      obtain ⟨k1, k2, k3, oe, vs, T, oT, ts', he, hz, hd, h1, hr⟩ := id fl3
      have goOn : wpAny (model X.prog X.w) X.A (setFlight (.ref a) X.env.frame) (fun _ s4 => wpAny (model X.prog X.w) X.A (throw (.ref a) : Sem Flow) (SP X pins D) X.xe s4) X.xe { s' with heap := g3 } := by
        rw [hf]
        exact HandSPX.setFlight_upZ fl3 fun g4 hh4 up4 => wpAny_throw (tk _ _ ⟨a, B, sI, pins, σ', H', cls, d, rfl, J, nb, (up.trans up3).trans up4, .inr (.inr (by rw [hs]; exact hh4)), na, os, ag, hno rfl⟩)
      unfold PySem.passOn
      refine wpAny_bind (wpAny_field he hd h1 ?_)
      rw [if_neg (show ¬ ((Value.ref T == Value.none) = true) from by simp)]
      first
        | exact wpAny_bind (wpAny_pure (wpAny_bind goOn))
        | exact wpAny_bind goOn
  refine wpAny_mono ((hb (wAsV X.K c i ts Wout D) (X.pn ++ pins) xe' catch_ PassesOwn.looking).run [] s σ H D (I.toTry _) h) (fun f s1 hsp => ?_) (fun e s1 he => he)
  cases f with
  | next => exact let ⟨σ1, H1, J1, q⟩ := hsp; wpAny_execs_nil ⟨σ1, H1, J1.ofTry okX, q⟩
  | brk => exact let ⟨σ1, H1, J1, q⟩ := hsp; ⟨σ1, H1, J1.ofTry okX, q⟩
  | cont => exact let ⟨σ1, H1, J1, q⟩ := hsp; ⟨σ1, H1, J1.ofTry okX, q⟩
  | ret u => exact let ⟨v, σ1, H1, J1, r, q⟩ := hsp; ⟨v, σ1, H1, J1.ofTry okX, r, q⟩
end
end PB
set_option maxRecDepth 100000
set_option maxHeartbeats 4000000
/-! PX26: lambdas without parameters as values; what calls one and catches. -/
namespace PB
open PySem PySem.Spec PySem.Calls PyProof.Rows L2
open PySem.W (Frag exmOne kla_obj kla_fn)
/-- a lambda: its parameters, its body, its scope -/
abbrev LamD := Arguments × Expr × Scope
abbrev lamPhi (env : PySem.Env) (params : Arguments) (body : Expr) (scope : Scope) (c f : Addr) : Heap → Prop := fun h => ∃ pm ctv, h.get? f = some (kla_obj "<lambda>" (env.qual ++ "<lambda>") params body scope (cloFrom env.cells scope.names []) pm c ctv)
def lamFn (env : PySem.Env) (ls : List LamD) (k : Nat) (c f : Addr) : Heap → Prop := match ls[k]? with
  | some (params, body, scope) => lamPhi env params body scope c f
  | none => fun _ => False
section
variable {G : Gc} {Z : Addr → Prop} {O : Nat → List Addr} {ρ : Env} {σ : L2.St} {H H1 : Hp} {f c : Addr}
/-- two new facts: a function object and its code -/
theorem lam_R {φ : Heap → Prop} {q : Str} (r : R G Z O ρ σ H) (nf : H f = none) (e1 : H1 f = some (.ext φ)) (e2 : H1 c = some (LamX.CodeO c q)) (hz : Z c ∨ H c = none) (kp : ∀ b o, H b = some o → (∀ ps, o ≠ .tbl ps) → H1 b = some o)
    (kt : ∀ b ps, H b = some (.tbl ps) → ∃ ps', H1 b = some (.tbl ps')) (tb : TbZ G.T (fun a => Z a ∨ a = f ∨ a = c) H1) : R G (fun a => Z a ∨ a = f ∨ a = c) O ρ σ H1 ∧ Ext Z O H (fun a => Z a ∨ a = f ∨ a = c) O H1 := by
  refine ⟨{ len := r.len, sl := fun i s e => ?_, nd := r.nd, dj := r.dj, oz := fun i a h z => ?_, od := fun i a h => ?_, zd := fun a z => ?_, tb := tb }, ⟨fun _ z => .inl z, fun a o e _ => ?_, fun a z => ?_, fun _ h => .inl h, fun a e => ?_⟩⟩
  · refine (r.sl i s e).keep (fun _ z => .inl z) (fun a o z e => .inl (kp a o e fun ps eo => (r.zd a z).no (e.trans (congrArg some eo)))) fun a ha o e => kp a o e fun ps eo => (r.od i a ha).no (e.trans (congrArg some eo))
  · rcases z with z | rfl | rfl
    · exact r.oz i a h z
    · exact (r.od i _ h).ne nf
    · exact hz.elim (r.oz i _ h) fun n => (r.od i _ h).ne n
  · obtain ⟨o, e, n, m⟩ := r.od i a h
    exact ⟨o, kp a o e n, n, m⟩
  · rcases z with z | rfl | rfl
    · obtain ⟨o, e, n⟩ := r.zd a z
      exact ⟨o, kp a o e n, n⟩
    · rw [e1]; exact .of
    · exact ⟨_, e2, fun ps z => LamX.codeO_ne ps z⟩
  · cases o with
    | tbl ps => exact let ⟨ps', e'⟩ := kt a ps e; .inr (.inr ⟨ps, ps', rfl, e'⟩)
    | _ => exact .inl (kp a _ e (by intro _ z; cases z))
  · rcases z with z | rfl | rfl
    · exact .inl z
    · exact .inr (.inr nf)
    · exact hz.elim .inl fun n => .inr (.inr n)
  · cases q : H a with
    | none => rfl
    | some o =>
      cases o with
      | tbl ps => obtain ⟨ps', e'⟩ := kt a ps q; rw [e] at e'; cases e'
      | _ => have := kp a _ q (by intro _ z; cases z); rw [e] at this; cases this
end
section
variable {G : Gc} {W : WX} {X : Cx}
/-- a lambda is made -/
theorem d_lam {ls : List LamD} {k : Nat} {params : Arguments} {body : Expr} {scope : Scope} {pos : Pos} {cd P : Addr} (hG : G.lam = lamFn X.env ls) (hq : G.lq = X.env.qual ++ "<lambda>") (hk : ls[k]? = some (params, body, scope)) (TB : LamX.TabB X.base X.mg cd P)
    (hcode : X.env.code = .ref cd) (mT : (P, G.lq) ∈ G.T) (uT : ∀ p ∈ G.T, p.1 = P → p.2 = G.lq) (hdef : defaultsOf params X.env = ([], [])) (L : LamX.LamS X.env.scope scope) : PE X (.Lambda params body scope pos) (lift G W (rdC (.lam k))) := by
  refine ⟨fun pins s σ H Q I ⟨Z, O, ρ, r, q⟩ => ?_⟩
  have hfree := L.has I.ok
  obtain ⟨ps, hP, hts, ham⟩ := r.tb.1 _ mT
  have hP : H P = some (.tbl ps) := hP
  have bmP : s.heap.BuiltinsAt X.mg P := TB.bm.keeps I.bk
  have gP : s.heap.get? P = some { cls := .none, data := .fields ps } := I.hok P _ hP
  have lamEq : ∀ {a b : Addr}, G.lam k a b = lamPhi X.env params body scope a b := fun {a b} => by rw [hG]; unfold lamFn; rw [hk]
  refine PySem.W.kla_eval hdef ?_
  cases hc : codeAmong pos ps.toList with
  | none =>
    refine PySem.W.kla_makeFunction (mg := X.mg) (c := cd) (P := P) (ps := ps) (closure_ok hfree) I.ok.glob (I.mod.glob.keeps I.bk) hcode (TB.code.keeps I.bk) gP hts hc TB.gP bmP fun c1 ctv g tk hx hge hlt hrec htb => ?_
    obtain ⟨c2, oc, vs, t, e2, hoc, hd, hv⟩ := hrec
    cases e2
    have hsz : s.heap.objs.size ≤ g.objs.size := Nat.le_trans hge (Nat.le_of_lt hlt)
    have nC : H c1 = none := I.hok.fresh hge
    have nF : H g.objs.size = none := I.hok.fresh hsz
    have I1 := LamX.inv_table (t' := tk) (more := #[rawInt pos.line, rawInt pos.col, .ref c1]) (h' := g) I hP hx htb hge ⟨oc, vs, t, hoc, hd, hv⟩
    have I2 := Inv.laid (t' := tk) (a := g.objs.size) (o := .ext (G.lam k c1 g.objs.size)) (h' := g.push (kla_obj "<lambda>" (X.env.qual ++ "<lambda>") params body scope (cloFrom X.env.cells scope.names []) ((X.mg "__name__").getD .none) c1 ctv)) I1
      (fun b u e => Heap.get?_push_of_some _ e) (Nat.le_refl _) (by
        rw [lamEq]
        exact ⟨⟨_, _, Heap.get?_push_size _ rfl⟩, ⟨_, Heap.get?_push_size _ rfl⟩, fun h1 h2 ⟨pm, ct, e⟩ kk => ⟨pm, ct, kk _ e⟩⟩)
    have n1 : g.objs.size ≠ c1 := Nat.ne_of_gt hlt
    have n2 : g.objs.size ≠ P := Nat.ne_of_gt (Nat.lt_of_lt_of_le (Heap.lt_size gP) hsz)
    have nCP : P ≠ c1 := ne_of_none hP nC
    generalize hH : upd (upd (upd H P (.tbl (ps ++ #[rawInt pos.line, rawInt pos.col, .ref c1]))) c1 (LamX.CodeO c1 (X.env.qual ++ "<lambda>"))) g.objs.size (.ext (G.lam k c1 g.objs.size)) = H1 at I2
    have kp : ∀ b o, H b = some o → (∀ ps, o ≠ .tbl ps) → H1 b = some o := fun b o e n => by
      rw [← hH, upd_ne (ne_of_none e nF), upd_ne (ne_of_none e nC), upd_ne (fun z => n ps (Option.some.inj (e.symm.trans (by rw [z]; exact hP))))]
      exact e
    have atP : H1 P = some (.tbl (ps ++ #[rawInt pos.line, rawInt pos.col, .ref c1])) := by rw [← hH, upd_ne (Ne.symm n2), upd_ne nCP, upd_same]
    have atC : H1 c1 = some (LamX.CodeO c1 G.lq) := by rw [← hH, upd_ne (Ne.symm n1), upd_same, hq]
    have atF : H1 g.objs.size = some (.ext (G.lam k c1 g.objs.size)) := by rw [← hH, upd_same]
    have other : ∀ b, b ≠ P → H b ≠ none → H1 b = H b := fun b h1 h2 => by
      rw [← hH, upd_ne (fun z => h2 (by rw [z]; exact nF)), upd_ne (fun z => h2 (by rw [z]; exact nC)), upd_ne h1]
    have eL : (ps ++ #[rawInt pos.line, rawInt pos.col, .ref c1]).toList = ps.toList ++ [rawInt pos.line, rawInt pos.col, .ref c1] := by simp
    have tb : TbZ G.T (fun a => Z a ∨ a = g.objs.size ∨ a = c1) H1 := by
      refine ⟨fun p hp => ?_, fun p hp ps' e pos' cv hcv => ?_⟩
      · by_cases hb : p.1 = P
        · rw [uT p hp hb, hb]
          refine ⟨_, atP, by rw [eL]; exact PySem.TriplesOk_snoc _ _ _ _ hts, fun p' cv hcv => ?_⟩
          rw [eL] at hcv
          rcases LamX.among_app _ hts hcv with z | z
          · obtain ⟨c0, a1, a2⟩ := ham p' cv z
            exact ⟨c0, a1, kp _ _ a2 LamX.codeO_ne⟩
          · exact ⟨c1, z, atC⟩
        · obtain ⟨ps', a1, a2, a3⟩ := r.tb.1 p hp
          refine ⟨ps', by rw [other _ hb (by rw [a1]; simp)]; exact a1, a2, fun p' cv hcv => ?_⟩
          obtain ⟨c0, b1, b2⟩ := a3 p' cv hcv
          exact ⟨c0, b1, kp _ _ b2 LamX.codeO_ne⟩
      · by_cases hb : p.1 = P
        · rw [hb, atP] at e
          cases e
          rw [eL] at hcv
          rcases LamX.among_app _ hts hcv with z | z
          · obtain ⟨c0, a1, a2⟩ := r.tb.2 p hp ps (by rw [hb]; exact hP) pos' cv z
            exact ⟨c0, a1, .inl a2⟩
          · exact ⟨c1, z, .inr (.inr rfl)⟩
        · obtain ⟨ps0, a1, _, _⟩ := r.tb.1 p hp
          rw [other _ hb (by rw [a1]; simp)] at e
          obtain ⟨c0, a1, a2⟩ := r.tb.2 p hp ps' e pos' cv hcv
          exact ⟨c0, a1, .inl a2⟩
    obtain ⟨r1, x1⟩ := lam_R r nF atF atC (.inr nC) kp (fun b ps' e => by
      by_cases hb : b = P
      · exact ⟨_, by rw [hb]; exact atP⟩
      · exact ⟨ps', by rw [other _ hb (by rw [e]; simp)]; exact e⟩) tb
    exact ⟨.ref g.objs.size, H1, I2, rfl, q _ _ _ _ x1 r1 ⟨g.objs.size, c1, rfl, ⟨.inr (.inl rfl), .inr (.inr rfl)⟩, atF, atC⟩⟩
  | some cv =>
    obtain ⟨c1, e, hco⟩ := ham pos cv hc
    subst e
    obtain ⟨_, ec, zc⟩ := r.tb.2 _ mT ps hP pos _ hc
    cases ec
    refine PySem.W.kla_makeFunctionHit (mg := X.mg) (c := cd) (P := P) (ps := ps) (closure_ok hfree) I.ok.glob (I.mod.glob.keeps I.bk) hcode (TB.code.keeps I.bk) gP hts hc bmP fun ctv g tk hx hsz => ?_
    have nF : H g.objs.size = none := I.hok.fresh hsz
    have I2 := Inv.laid (t' := tk) (a := g.objs.size) (o := .ext (G.lam k c1 g.objs.size)) (h' := g.push (kla_obj "<lambda>" (X.env.qual ++ "<lambda>") params body scope (cloFrom X.env.cells scope.names []) ((X.mg "__name__").getD .none) c1 ctv)) I
      (fun b u e => Heap.get?_push_of_some _ (hx b u e)) hsz (by
        rw [lamEq]
        exact ⟨⟨_, _, Heap.get?_push_size _ rfl⟩, ⟨_, Heap.get?_push_size _ rfl⟩, fun h1 h2 ⟨pm, ct, e⟩ kk => ⟨pm, ct, kk _ e⟩⟩)
    have kp : ∀ b o, H b = some o → upd H g.objs.size (.ext (G.lam k c1 g.objs.size)) b = some o := fun b o e => upd_keep nF b o e
    obtain ⟨r1, x1⟩ := lam_R r nF upd_same (kp _ _ hco) (.inl zc) (fun b o e _ => kp b o e) (fun b ps' e => ⟨ps', kp b _ e⟩) (r.tb.grow (fun _ z => .inl z) kp)
    exact ⟨.ref g.objs.size, _, I2, rfl, q _ _ _ _ x1 r1 ⟨g.objs.size, c1, rfl, ⟨.inr (.inl rfl), .inr (.inr rfl)⟩, upd_same, kp _ _ hco⟩⟩
/-- work(), in the def that got a lambda of X: what it lets out is wished of by that def's slots -/
theorem pe_actV {CXg : CXT} {Eg : XK} {Ng : List Str} {qg : Str} {sg : Scope} {g f c' : Addr} {cdg : Value} {params : Arguments} {body : Expr} {scope : Scope} {k i : Nat} {a : Str} {pn : List (Addr × Obj)} {xe : Value → Shared → Prop} {W : WX} {tb : XK → TE} {p1 p2 : Pos}
    {pins : List (Addr × Obj)} {σ : L2.St} {H : Hp} {s : Shared} (I : L2.Inv X pins σ H s) (L : LamX.LamS X.env.scope scope)
    (hbind : ∀ (q : Str) (cl : List (Str × Addr)) (pm cv ctv : Value), bindArgs (kla_fn "<lambda>" q params body scope cl pm cv ctv) ⟨[], []⟩ = pure [])
    (tk : Takes ((cxOf CXg X.prog X.w X.K X.mg X.base Ng qg sg g cdg X.A X.stack s H Eg).tr pn xe) W) (hr : Room (k + 1) (X.A.deeper (envOfC qg sg s.heap.objs.size g cdg)))
    (hbody : ∀ (A : Around) (outer : List PySem.Env) (s : Shared) (H : Hp) (E : XK), Room k (A.deeper (LamX.lamEnv X scope s.heap.objs.size f c')) → PE (LamX.lamCx X A outer s H E scope f c') body (tb E))
    (hN : Ng[i]? = some a) (hv : Vis sg a) (hd : (a == ("__debug__" : Str)) = false := by decide) (hcd : (a == ("__classdict__" : Str)) = false := by decide) :
    PE ((cxOf CXg X.prog X.w X.K X.mg X.base Ng qg sg g cdg X.A X.stack s H Eg).tr pn xe) (.Call (.Name a p1) [] [] p2)
      (fun σZ HZ Q => σZ[i]? = some (some (.ref f)) ∧ HZ f = some (.ext (lamPhi X.env params body scope c' f)) ∧ HZ c' = some (LamX.CodeO c' (X.env.qual ++ "<lambda>")) ∧ tb (WE W σZ) σ HZ Q) := by
  refine ⟨fun pinsZ sZ σZ HZ Q IZ ⟨h1, h2, h3, h4⟩ => ?_⟩
  refine wpAny_Call_Name_kw (thn ((pe_var (pos := p1) (i := i) hN hv hd hcd).run pinsZ sZ σZ HZ (fun v HV => v = .ref f ∧ HV = HZ) IZ ⟨.ref f, h1, rfl, rfl⟩) fun u s1 ⟨v, HV, J, rv, ev, eH⟩ => ?_)
  subst ev
  subst eH
  cases (show u = Value.ref f from rv)
  obtain ⟨⟨pm, ctv, of1⟩, _, _⟩ := J.hok f _ h2
  obtain ⟨⟨oc, vs, t, hoc, hdc, hvc⟩, _, _⟩ := J.hok c' _ h3
  refine PySem.W.callWith_F0 ⟨_, _, _, _, of1⟩ ?_
  have un : Un (frs X.stack) [] H HV s.heap s1.heap := J.base
  have body_runs : codeAny (model X.prog X.w) (X.A.deeper (envOfC qg sg s.heap.objs.size g cdg)) (.call (.ref f) ⟨[], []⟩) (CR (L2.CX X.prog X.w) (envOfC qg sg s.heap.objs.size g cdg :: X.stack) X.prog X.w HV s1 Q (WE W σZ)) s1 := by
    refine PySem.W.kla_callFunE hr.depth of1 rfl L.co L.gen rfl ⟨c', oc, vs, t, rfl, hoc, hdc, hvc⟩ ?_
    rw [hbind]
    refine wpAny_pure (wpAny_newFunctionEnv (fun y hy => (L.own y hy).2) (fun y hy => absurd hy (by simp)) (fun h₁ hns hsb => ⟨J.nolimit.fresh _ hsb, ?_⟩) L.kind)
    show codeAny _ _ (.expr body (LamX.lamEnv X scope s1.heap.objs.size f c')) _ _
    have ext1 : ∀ b o, s1.heap.get? b = some o → h₁.get? b = some o := fun b o e => hsb.extBut b o (Nat.ne_of_lt (Heap.lt_size e)) (Heap.get?_push_of_some _ e)
    have J2 : L2.Inv (LamX.lamCx X (X.A.deeper (envOfC qg sg s.heap.objs.size g cdg)) (envOfC qg sg s.heap.objs.size g cdg :: X.stack) s1 HV (WE W σZ) scope f c') [] σ HV { s1 with heap := h₁, toks := s1.toks + ([] : List (Str × Value)).length } :=
      LamX.lam_start2 I L J.env0 hr.hd un hns ext1
    refine PySem.W.kla_codeExpr (wpAny_mono ((hbody _ _ s1 HV _ (hr.deeper _)).run [] _ _ HV Q J2 h4) (fun v s' hq => ?_) fun e s' hq => hq)
    exact let ⟨w2, H2, J3, rv2, q2⟩ := hq; ⟨w2, H2, J3.os, J3.bare, J3.base, J3.hok, rv2, q2⟩
  refine wpAny_call (codeAny_mono body_runs fun r s' hq => ?_)
  cases r with
  | error e => exact passAt tk σZ pinsZ HV s1 e s' J hq
  | ok fl =>
    cases fl with
    | ret u => exact J.after hq
    | next => exact False.elim hq
    | brk => exact False.elim hq
    | cont => exact False.elim hq
end
end PB
set_option maxRecDepth 100000
set_option maxHeartbeats 4000000
/-! PX27: the def that calls what it got and hands back the error that it caught. -/
namespace PB
open PySem PySem.Spec PySem.Calls PyProof.Rows L2
open PySem.W (Frag exmOne kla_fn keepIn codeIn)
variable {G : Gc} {W : WX} {X : Cx}
def mCaught (is : Nat → Option Bool) (bodies : Nat → M D) (m : M D) : M D := fun ρ => (m ρ).bind fun d ρ1 => match d with
  | .lam k => (match bodies k ρ1 with
    | .ok _ ρ2 => .ok .non ρ2
    | .ex x ρ2 => (match x with
      | .exc n ns xs => if is n = some true then .ok (.exc n ns xs) ρ2 else .bad
      | _ => .bad)
    | .bad => .bad)
  | _ => .bad
abbrev bCaught (c w e P : Str) (ja : Nat) (pa pb pc pd pe pf pg ph pi pj pk pl pm pn : Pos) : List Stmt :=
  [.Assign [.Name c pa] (.Constant .none ja pb) pc, .Try [.Expr (.Call (.Name w pd) [] [] pe) pf] [.ExceptHandler (some (.Name P pg)) (some e) [.Assign [.Name c ph] (.Name e pi) pj] pk] [] [] pl, .Return (some (.Name c pm)) pn]
theorem d_caught {x c w e P : Str} {ja : Nat} {pa pb pc pd pe pf pg ph pi pj pk pl pm pn p pos : Pos} {arg : Expr} {m : M D} {is : Nat → Option Bool} {ls : List LamD} {bodies : Nat → M D} {k : Nat} {g CP : Addr} {params : Arguments} {sg : Scope} {dV kV doc pmv cdv ct oc : Value} {an od : Option Addr} {osl : Array (Option Value)}
    (lk : X.K.lookup g = some ⟨oc, od, .func (PySem.W.fnOf x x params (bCaught c w e P ja pa pb pc pd pe pf pg ph pi pj pk pl pm pn) sg dV kV doc pmv an cdv ct), osl⟩) (hcg : codeIn X.K cdv x = true) (hkp : keepIn X.K (.ref g) = true) (hm : X.mg x = some (.ref g)) (hg : Gl X x)
    (hb : Binds X.K (PySem.W.fnOf x x params (bCaught c w e P ja pa pb pc pd pe pf pg ph pi pj pk pl pm pn) sg dV kV doc pmv an cdv ct) [w] []) (Sg : FnScope [w, c, e] [w] sg) (hc : sg.names.lookup c = some .local) (he : sg.names.lookup e = some .local) (hw : Vis sg w)
    (hP : sg.names.lookup P = some .globalImplicit) (hPm : X.mg P = some (.ref CP)) (hPd : (P == ("__debug__" : Str)) = false) (hwd : (w == ("__debug__" : Str)) = false) (hwc : (w == ("__classdict__" : Str)) = false) (hed : (e == ("__debug__" : Str)) = false) (hec : (e == ("__classdict__" : Str)) = false) (hcd : (c == ("__debug__" : Str)) = false) (hcc : (c == ("__classdict__" : Str)) = false)
    (hk : ∀ n b, is n = some b → exmOne X.K (.ref (G.cl n)) (.ref CP) = some b) (hG : G.lam = lamFn X.env ls) (hq : G.lq = X.env.qual ++ "<lambda>") (hr : Room (k + 2) X.A)
    (hbodies : ∀ n params body scope, ls[n]? = some (params, body, scope) → LamX.LamS X.env.scope scope ∧ (∀ (q : Str) (cl : List (Str × Addr)) (pm cv ctv : Value), bindArgs (kla_fn "<lambda>" q params body scope cl pm cv ctv) ⟨[], []⟩ = pure []) ∧
      ∀ (A : Around) (outer : List PySem.Env) (s : Shared) (H : Hp) (E : XK) (f c' : Addr), Room k (A.deeper (LamX.lamEnv X scope s.heap.objs.size f c')) → PE (LamX.lamCx X A outer s H E scope f c') body (lift G (fun c d _ H => E c d H) (bodies n)))
    (ha : PE X arg (lift G W m)) (hdb : (x == ("__debug__" : Str)) = false := by decide) (hs : starEach [arg] X.env = (false, eval arg X.env) :: starEach [] X.env := by rfl) :
    PE X (.Call (.Name x p) [arg] [] pos) (lift G W (mCaught is bodies m)) := by
  refine ⟨fun pins s σ H Q I q => ?_⟩
  refine wpAny_Call_Name_kw (ld_glob I hg hm ?_ hdb)
  refine PySem.W.callWith_K (h₀ := X.base) I.ok.mod.kin hkp ?_ hs (by rfl)
  rw [hs]
  show wpAny _ _ (spliced ((false, eval arg X.env) :: backTo pos (starEach [] X.env))) _ _ s
  refine Calls.spliced_cons (thn (ha.run pins s σ H _ I (liftG.bind (rep := repF G) q)) fun u s1 ⟨v, H1, I1, rv, Z1, O1, ρ1, d1, r1, f1, q1⟩ => Calls.spliced_nil ⟨I1.kIn, ?_⟩)
  cases d1 <;> first | exact q1.elim | skip
  rename_i n
  obtain ⟨f, c', rfl, ⟨zf, zc⟩, hf, hco⟩ := f1
  cases (show u = Value.ref f from rv)
  cases hls : ls[n]? with
  | none =>
    obtain ⟨z, _, _⟩ := I1.hok f _ hf
    rw [hG] at z
    unfold lamFn at z
    rw [hls] at z
    exact z.elim
  | some l =>
    obtain ⟨lp, lb, lsc⟩ := l
    obtain ⟨L, hbind, hbody⟩ := hbodies n lp lb lsc hls
    have hf' : H1 f = some (.ext (lamPhi X.env lp lb lsc c' f)) := by
      rw [hf, hG]
      unfold lamFn
      rw [hls]
    have hco' : H1 c' = some (LamX.CodeO c' (X.env.qual ++ "<lambda>")) := by rw [hco, hq]
    have rc : codeAny (model X.prog X.w) X.A (.call (.ref g) ⟨[.ref f], []⟩) (CR C8.CX0 X.stack X.prog X.w H1 s1 Q C8.E0) s1 := by
      refine LamX.run_ofS (N := [w, c, e]) (ps := [w]) (us := [.ref f]) (vs := [.ref f]) lk hcg Sg hr I1.env0 (by
        have := hb s1 [.ref f] I1.kIn rfl
        rw [List.append_nil] at this
        exact this) (.cons rfl .nil) rfl fun hr' => ?_
      refine ⟨_, pss_cons (ps_set (i := 1) Sg.nd rfl (.inl hc) pe_non) (pss_cons (ps_tryV (i := 2) (c := .ref CP) (Wout := fun _ _ _ _ => False) rfl rfl Sg.nd rfl he ⟨hP, hPd, .inl hPm⟩ L2.takes0
        (fun W' pn' xe tk _ => pss_one (ps_expr (pe_actV (i := 0) I1 L hbind tk hr' (fun A outer s H E hr2 => hbody A outer s H E f c' hr2) rfl hw hwd hwc)))
        (fun a cls d pn' => pss_one (ps_set (i := 1) Sg.nd rfl (.inl hc) (pe_var (i := 2) rfl (.inl he) hed hec)))) (pss_one (ps_ret (pe_var (i := 1) rfl (.inl hc) hcd hcc)))), ?_⟩
      refine ⟨rfl, hf', hco', ?_⟩
      refine ⟨Z1, O1, ρ1, r1, ?_⟩
      have q1 : contG G W (repF G) (match bodies n ρ1 with
        | .ok _ ρ2 => .ok .non ρ2
        | .ex x ρ2 => (match x with
          | .exc n ns xs => if is n = some true then .ok (.exc n ns xs) ρ2 else .bad
          | _ => .bad)
        | .bad => .bad) Z1 O1 σ H1 Q := q1
      cases eb : bodies n ρ1 with
      | bad => rw [eb] at q1; exact q1.elim
      | ok y ρ2 =>
        rw [eb] at q1
        intro v' Z2 O2 H2 x2 r2 _
        exact ⟨.non, rfl, q1 .non Z2 O2 H2 x2 r2 rfl⟩
      | ex y ρ2 =>
        rw [eb] at q1
        cases y <;> first | exact q1.elim | skip
        rename_i cn ns xs
        simp only at q1
        split at q1
        · rename_i hyes
          intro cc dd Z2 O2 H2 x2 r2 xr
          obtain ⟨rfl, vs, xd, hl, rl⟩ := xr
          refine ⟨true, hk _ _ hyes, fun _ a hn => ?_, fun z => nomatch z⟩
          have r3 := r2.new (o := ExcO (.ref (G.cl cn)) dd a) hn
          refine ⟨_, rfl, _, rfl, q1 (.ref a) _ O2 _ (x2.trans (.new hn)) r3 ⟨a, dd, vs, rfl, .inr rfl, upd_same, ?_, hl, rl.keep (fun _ z => .inl z) fun b o _ e => .inl (upd_keep hn b o e)⟩⟩
          exact xd.keep (fun _ z => .inl z) fun b o _ e => upd_keep hn b _ e
        · exact q1.elim
    refine wpAny_call (codeAny_mono rc fun r s2 hq => ?_)
    cases r with
    | error er => exact (show False from hq).elim
    | ok fl =>
      cases fl with
      | ret uu => exact I1.after hq
      | next => exact False.elim hq
      | brk => exact False.elim hq
      | cont => exact False.elim hq
end PB
set_option maxRecDepth 100000
set_option maxHeartbeats 4000000
/-! PX28: own classes: methods, instances that are made, fields. -/
namespace PB
open PySem PySem.Spec PySem.Calls PyProof.Rows L2
open PySem.W (Frag keepIn)
variable {G : Gc} {W : WX} {X : Cx} {I : List Nat}
/-! ### the machine's rules, exceptions let out at the slots of the call -/
section
variable {k : Nat} {f C : Addr} {fd : FuncData} {ps : List Str} {sp : Sp} {x m : Str} {p pos apos : Pos} {e o : Expr} {es : List Expr} {ta : TE} {t : TA}
theorem pe_methV {pl : Sem Bool} (he : PE X o ta) (c : Cls X.K C) (hm : Meth X.K C m f) (F : FnOk X.prog X.w X.K X.mg X.base (L2.CX X.prog X.w) k f fd ps sp) (hr : Room k X.A) (hb : Binds X.K fd ps []) (tk : Takes X W) (ha : PA X (e :: es) t)
    (hst : starEach (e :: es) X.env = (false, eval e X.env) :: starEach es X.env := by rfl) (hpl : (backTo pos (starEach es X.env)).any (·.1) = false := by rfl)
    (ht : eval (.Call (.Attribute o m apos) (e :: es) [] pos) X.env = (do
      let ov ← eval o X.env
      standAt apos.atName
      let (g, first) ← holding [ov] (getMethod ov m pl)
      callWith pos g first (backTo pos (starEach (e :: es) X.env)) (backToKw pos (keywordEach [] X.env))) := by rfl) :
    PE X (.Call (.Attribute o m apos) (e :: es) [] pos) (fun σ H Q => ta σ H fun x H1 => ∃ a dx fs, x = .ref a ∧ H1 a = some (.ins C dx fs) ∧ fs.lookup m = none ∧ t σ H1 fun vs H2 => sp (x :: vs) H2 Q (WE W σ)) := by
  refine ⟨fun pins s σ H Q J h => PySem.W.methodCall_KW (pl := pl) (thn (he.run pins s σ H _ J h) fun u s1 ⟨x, H1, J1, rx, a, dx, fs, ex, ea, l, q⟩ => ?_) ht⟩
  subst ex
  cases (show u = Value.ref a from rx)
  refine getmeth_ok J1 ea c hm l (PySem.W.callWith_K (first := [.ref a]) (h₀ := X.base) J.ok.mod.kin hm.kp (thn (ha.run pos pins s1 σ H1 _ J1 q) fun us s2 ⟨vs, H2, J2, r, q2⟩ => ⟨J2.kIn, ?_⟩) hst hpl)
  exact run_fnS (us := .ref a :: us) (vs := .ref a :: vs) (E := WE W) F hr hb (passAt tk σ) J2 (.cons rfl r) q2
theorem pe_methV0 {pl : Sem Bool} (he : PE X o ta) (c : Cls X.K C) (hm : Meth X.K C m f) (F : FnOk X.prog X.w X.K X.mg X.base (L2.CX X.prog X.w) k f fd ps sp) (hr : Room k X.A) (hb : Binds X.K fd ps []) (tk : Takes X W)
    (ht : eval (.Call (.Attribute o m apos) [] [] pos) X.env = (do
      let ov ← eval o X.env
      standAt apos.atName
      let (g, first) ← holding [ov] (getMethod ov m pl)
      callWith pos g first (backTo pos (starEach [] X.env)) (backToKw pos (keywordEach [] X.env))) := by rfl) :
    PE X (.Call (.Attribute o m apos) [] [] pos) (fun σ H Q => ta σ H fun x H1 => ∃ a dx fs, x = .ref a ∧ H1 a = some (.ins C dx fs) ∧ fs.lookup m = none ∧ tNil σ H1 fun vs H2 => sp (x :: vs) H2 Q (WE W σ)) := by
  refine ⟨fun pins s σ H Q J h => PySem.W.methodCall_KW (pl := pl) (thn (he.run pins s σ H _ J h) fun u s1 ⟨x, H1, J1, rx, a, dx, fs, ex, ea, l, q⟩ => ?_) ht⟩
  subst ex
  cases (show u = Value.ref a from rx)
  exact getmeth_ok J1 ea c hm l (PySem.W.callWith_K0 (first := [.ref a]) J1.kIn hm.kp (run_fnS (us := [.ref a]) (vs := [.ref a]) (E := WE W) F hr hb (passAt tk σ) J1 (.cons rfl .nil) q))
/-- C(..): the instance, then its __init__ -/
def tMakeV (C : Addr) (sp : Sp) (W : WX) (t : TA) : TE := fun σ H Q => t σ H fun vs H1 => ∀ x dx, H1 x = none → H1 dx = none → dx ≠ x →
  sp (.ref x :: vs) (upd (upd H1 dx (.own x)) x (.ins C dx [])) (fun v H2 => v = .non ∧ Q (.ref x) H2) (WE W σ)
theorem run_makeV {pins : List (Addr × Obj)} {σ : L2.St} {H : Hp} {s : Shared} {Q : VK} {us : List Value} {vs : List V} (M : Mk X.K C f) (F : FnOk X.prog X.w X.K X.mg X.base (L2.CX X.prog X.w) k f fd ps sp) (hr : Room (k + 1) X.A) (hb : Binds X.K fd ps []) (tk : Takes X W) (J : L2.Inv X pins σ H s) (r : Vals vs us)
    (h : ∀ x dx, H x = none → H dx = none → dx ≠ x → sp (.ref x :: vs) (upd (upd H dx (.own x)) x (.ins C dx [])) (fun v H2 => v = .non ∧ Q (.ref x) H2) (WE W σ)) : wpAny (model X.prog X.w) X.A (call (.ref C) us) (EP X pins σ Q) X.xe s := by
  have hq := h (s.heap.objs.size + 1) s.heap.objs.size (J.hok.fresh (Nat.le_succ _)) (J.hok.fresh (Nat.le_refl _)) (Nat.ne_of_lt (Nat.lt_succ_self _))
  have J2 := Inv.made (C := C) J
  have r2 : Vals (V.ref (s.heap.objs.size + 1) :: vs) (Value.ref (s.heap.objs.size + 1) :: us) := .cons rfl r
  have bnd := hb _ (Value.ref (s.heap.objs.size + 1) :: us) J2.kIn (by rw [List.append_nil, ← r2.length]; exact F.len _ _ _ _ hq)
  rw [List.append_nil] at bnd
  refine wpAny_call (make_map (f := f) J.kIn M.makes M.init (beq_iff_eq.mp M.fn) (codeAny_mono (F.run _ X.stack _ _ ⟨Value.ref (s.heap.objs.size + 1) :: us, []⟩ (Value.ref (s.heap.objs.size + 1) :: us) _ _ (WE W σ) (hr.make C us []) (J2.env0.make C us []) bnd r2 hq) fun r s' hq' => ?_))
  cases r with
  | error e => exact passAt tk σ pins _ _ e s' J2 hq'
  | ok fl =>
    cases fl with
    | ret u =>
      obtain ⟨v, H', J3, rv, ev, q3⟩ := J2.after hq'
      subst ev
      exact ⟨rv, ⟨V.ref (s.heap.objs.size + 1), H', J3, rfl, q3⟩⟩
    | next => exact False.elim hq'
    | brk => exact False.elim hq'
    | cont => exact False.elim hq'
theorem pe_makeV (M : Mk X.K C f) (F : FnOk X.prog X.w X.K X.mg X.base (L2.CX X.prog X.w) k f fd ps sp) (hr : Room (k + 1) X.A) (hg : Gl X x) (hm : X.mg x = some (.ref C)) (hb : Binds X.K fd ps []) (tk : Takes X W)
    (ha : PA X (e :: es) t) (hdb : (x == ("__debug__" : Str)) = false := by decide) (he : starEach (e :: es) X.env = (false, eval e X.env) :: starEach es X.env := by rfl) (hpl : (backTo pos (starEach es X.env)).any (·.1) = false := by rfl) :
    PE X (.Call (.Name x p) (e :: es) [] pos) (tMakeV C sp W t) :=
  ⟨fun pins s σ H Q J h => wpAny_Call_Name_kw (ld_glob J hg hm (PySem.W.callWith_K (h₀ := X.base) J.ok.mod.kin M.kp (thn (ha.run pos pins s σ H _ J h) fun us s1 ⟨vs, H1, J1, r, q⟩ => ⟨J1.kIn, run_makeV M F hr hb tk J1 r q⟩) he hpl) hdb)⟩
theorem pe_makeV0 (M : Mk X.K C f) (F : FnOk X.prog X.w X.K X.mg X.base (L2.CX X.prog X.w) k f fd ps sp) (hr : Room (k + 1) X.A) (hg : Gl X x) (hm : X.mg x = some (.ref C)) (hb : Binds X.K fd ps []) (tk : Takes X W)
    (hdb : (x == ("__debug__" : Str)) = false := by decide) : PE X (.Call (.Name x p) [] [] pos) (tMakeV C sp W tNil) :=
  ⟨fun pins s σ H Q J h => wpAny_Call_Name_kw (ld_glob J hg hm (PySem.W.callWith_K0 J.kIn M.kp (run_makeV (us := []) M F hr hb tk J .nil h)) hdb)⟩
end
/-! ### one more slot behind the slots -/
section
variable {Z Z' : Addr → Prop} {H H' : Hp} {O O1 : Nat → List Addr} {ρ ρ' : Env} {σ : L2.St}
theorem R.push {d : D} {v : V} (r : R G Z O ρ σ H) (h : Own G Z H d v (O ρ.length)) : R G Z O (ρ ++ [.ow d]) (σ ++ [some v]) H where
  len := by rw [List.length_append, List.length_append, r.len]; rfl
  sl := fun i s e => by
    by_cases hi : i < ρ.length
    · rw [List.getElem?_append_left hi] at e
      rw [List.getElem?_append_left (by rw [← r.len]; exact hi)]
      exact r.sl i s e
    · rw [List.getElem?_append_right (Nat.le_of_not_lt hi)] at e
      by_cases hi2 : i = ρ.length
      · subst hi2
        rw [Nat.sub_self] at e
        cases e
        rw [List.getElem?_append_right (by rw [← r.len]; exact Nat.le_refl _), ← r.len, Nat.sub_self]
        exact ⟨v, rfl, h⟩
      · rw [List.getElem?_eq_none (by simp only [List.length_cons, List.length_nil]; omega)] at e; cases e
  nd := r.nd
  dj := r.dj
  oz := r.oz
  od := r.od
  zd := r.zd
  tb := r.tb
theorem R.pop {w : Option V} (r : R G Z O ρ (σ ++ [w]) H) : R G Z O ρ.dropLast σ H where
  len := by
    have := r.len
    rw [List.length_append] at this
    simp only [List.length_cons, List.length_nil] at this
    rw [List.length_dropLast]; omega
  sl := fun i s e => by
    have hi := (List.getElem?_eq_some_iff.mp e).1
    rw [List.length_dropLast] at hi
    have hl := r.len
    rw [List.length_append] at hl
    simp only [List.length_cons, List.length_nil] at hl
    have e2 : ρ[i]? = some s := by
      rw [List.dropLast_eq_take, List.getElem?_take, if_pos hi] at e
      exact e
    have := r.sl i s e2
    rw [List.getElem?_append_left (by omega)] at this
    exact this
  nd := r.nd
  dj := r.dj
  oz := r.oz
  od := r.od
  zd := r.zd
  tb := r.tb
end
/-- a wish that looks at the slots ahead of one more -/
def W1 (W : WX) (σ : L2.St) : WX := fun c d _ H => W c d σ H
/-- behind one more slot -/
def popR (r : Res D) : Res D := match r with
  | .ok d ρ => .ok d ρ.dropLast
  | .ex x ρ => .ex x ρ.dropLast
  | .bad => .bad
theorem contG.pop {rd : Res D} {Z : Addr → Prop} {O : Nat → List Addr} {σ : L2.St} {H : Hp} {Q : VK} {w : Option V} (q : contG G W (repF G) (popR rd) Z O σ H Q) : contG G (W1 W σ) (repF G) rd Z O (σ ++ [w]) H Q := by
  cases rd with
  | bad => exact q.elim
  | ok d ρ => exact fun v Z' O' H' x r f => q v Z' O' H' x r.pop f
  | ex y ρ => exact fun c dd Z' O' H' x r f => q c dd Z' O' H' x r.pop f
/-- the instance that was made stands behind the slots -/
def madeR (r : Res D) : Res D := match r with
  | .ok .non ρ => (match ρ.getLast? with
    | some (.ow d) => .ok d ρ.dropLast
    | _ => .bad)
  | .ex x ρ => .ex x ρ.dropLast
  | _ => .bad
def insOf (c : Nat) (m : Str) : D → Bool
  | .ins c' ns _ => c' == c && !ns.contains m
  | _ => false
theorem look_none {m : Str} : ∀ {ns : List Str} {vs : List V}, ns.contains m = false → (ns.zip vs).lookup m = none
  | [], _, _ => rfl
  | _ :: _, [], _ => rfl
  | n :: ns, v :: vs, h => by
    rw [List.contains_cons, Bool.or_eq_false_iff] at h
    rw [List.zip_cons_cons, List.lookup_cons, h.1]
    exact look_none h.2
/-- .. and what a class's method keeps -/
structure MethF (P : Program) (w : World) (K : Frag) (mg : Str → Option Value) (base : Heap) (k : Nat) (C : Addr) (m : Str) (ps : List Str) (G : Gc) (F : Env → FR) : Prop where
  ex : ∃ f fd, Cls K C ∧ Meth K C m f ∧ FnOk P w K mg base (L2.CX P w) k f fd ps (spF G F) ∧ Binds K fd ps []
structure MakeF (P : Program) (w : World) (K : Frag) (mg : Str → Option Value) (base : Heap) (k : Nat) (x : Str) (C : Addr) (ps : List Str) (G : Gc) (F : Env → FR) : Prop where
  ex : ∃ f fd, Mk K C f ∧ FnOk P w K mg base (L2.CX P w) k f fd ps (spF G F) ∧ Binds K fd ps [] ∧ mg x = some (.ref C)
section
variable {k j c : Nat} {m : Str} {ps : List Str} {F : Env → FR} {pos apos p : Pos} {o e : Expr} {es : List Expr} {x : Str}
/-- what stands in slot i, as an argument -/
def aSV (i : Nat) (ms : M (List Arg)) : M (List Arg) := fun ρ => match ρ[i]? with
  | some (.fr d) => (ms ρ).bind fun as ρ => .ok (.v d :: as) ρ
  | some (.ow _) => (ms ρ).bind fun as ρ => .ok (.s i :: as) ρ
  | some (.io _) => (ms ρ).bind fun as ρ => .ok (.s i :: as) ρ
  | _ => .bad
theorem asv_run {i : Nat} {ms : M (List Arg)} {Z : Addr → Prop} {O : Nat → List Addr} {ρ : Env} {σ : L2.St} {H : Hp} {Q : List V → Hp → Prop} (r : R G Z O ρ σ H) (q : contG G W (repA G) (aSV i ms ρ) Z O σ H Q) :
    ∃ v, σ[i]? = some (some v) ∧ liftA G W ms σ H fun vs H2 => Q (v :: vs) H2 := by
  unfold aSV at q
  cases e1 : ρ[i]? with
  | none => rw [e1] at q; exact q.elim
  | some s =>
    rw [e1] at q
    cases s with
    | un => exact q.elim
    | fr d =>
      obtain ⟨_, v, e2, hf⟩ := r.sl i _ e1
      refine ⟨v, slot_some e2, Z, O, ρ, r, (contG.bind (rep := repA G) q).mono fun w H2 ⟨Z2, O2, ρ2, d2, x, r2, f2, q2⟩ => ?_⟩
      exact q2 _ Z2 O2 H2 .refl r2 (.cons (r.rf x hf) f2)
    | ow d =>
      obtain ⟨v, e2, _⟩ := r.sl i _ e1
      refine ⟨v, slot_some e2, Z, O, ρ, r, (contG.bind (rep := repA G) q).mono fun w H2 ⟨Z2, O2, ρ2, d2, x, r2, f2, q2⟩ => ?_⟩
      exact q2 _ Z2 O2 H2 .refl r2 (.cons (slot_some e2) f2)
    | io d =>
      obtain ⟨v, e2, _⟩ := r.sl i _ e1
      refine ⟨v, slot_some e2, Z, O, ρ, r, (contG.bind (rep := repA G) q).mono fun w H2 ⟨Z2, O2, ρ2, d2, x, r2, f2, q2⟩ => ?_⟩
      exact q2 _ Z2 O2 H2 .refl r2 (.cons (slot_some e2) f2)
theorem aa_sv {i : Nat} {ms : M (List Arg)} (h : PE X e (tVar i)) (hs : PA X es (liftA G W ms)) (hst : starEach (e :: es) X.env = (false, eval e X.env) :: starEach es X.env := by rfl) : PA X (e :: es) (liftA G W (aSV i ms)) :=
  PA_imp (pa_cons h hs hst) fun σ H Q ⟨Z, O, ρ, r, q⟩ => asv_run r q
/-- the datum in slot i, owned or not -/
def slD (ρ : Env) (i : Nat) : Option D := match ρ[i]? with
  | some (.fr d) => some d
  | some (.ow d) => some d
  | some (.io d) => some d
  | _ => none
theorem slD_ins {Z : Addr → Prop} {O : Nat → List Addr} {ρ : Env} {σ : L2.St} {H : Hp} {i : Nat} {d : D} (r : R G Z O ρ σ H) (e : slD ρ i = some d) (h : insOf c m d = true) : ∃ a dx fs, σ[i]? = some (some (.ref a)) ∧ H a = some (.ins (G.cl c) dx fs) ∧ fs.lookup m = none := by
  have fin : ∀ c' ns xs, d = .ins c' ns xs → c' = c ∧ ns.contains m = false := fun c' ns xs ed => by
    subst ed
    unfold insOf at h
    rw [Bool.and_eq_true] at h
    exact ⟨by simpa using h.1, by simpa using h.2⟩
  unfold slD at e
  cases e1 : ρ[i]? with
  | none => rw [e1] at e; cases e
  | some s =>
    rw [e1] at e
    cases s with
    | un => cases e
    | fr d' =>
      cases e
      cases d <;> first | (cases h; done) | skip
      obtain ⟨_, v, e2, a, dx, vs, rfl, _, h1, _, _, _⟩ := r.sl i _ e1
      obtain ⟨rfl, hn⟩ := fin _ _ _ rfl
      exact ⟨a, dx, _, slot_some e2, h1, look_none hn⟩
    | ow d' =>
      cases e
      cases d <;> first | (cases h; done) | skip
      obtain ⟨v, e2, a, dx, vs, rfl, _, h1, _, _, _⟩ := r.sl i _ e1
      obtain ⟨rfl, hn⟩ := fin _ _ _ rfl
      exact ⟨a, dx, _, slot_some e2, h1, look_none hn⟩
    | io d' =>
      cases e
      cases d <;> first | (cases h; done) | skip
      obtain ⟨v, e2, a, dx, vs, rfl, _, h1, _, _, _⟩ := r.sl i _ e1
      obtain ⟨rfl, hn⟩ := fin _ _ _ rfl
      exact ⟨a, dx, _, slot_some e2, h1, look_none hn⟩
/-- x.m(..), x a slot -/
def mMethS (c : Nat) (m : Str) (F : Env → FR) (i : Nat) (ms : M (List Arg)) : M D := fun ρ => match slD ρ i with
  | some d => if insOf c m d = true then (aSV i ms ρ).bind fun as ρ => callR F as ρ else .bad
  | none => .bad
def mMethSO (c : Nat) (m : Str) (F : Env → FR) (i : Nat) (ms : M (List Arg)) : M D := fun ρ => match slD ρ i with
  | some d => if insOf c m d = true then (aSV i ms ρ).bind fun as ρ => callO F as ρ else .bad
  | none => .bad
theorem meth_run {i : Nat} {ms : M (List Arg)} {σ : L2.St} {H : Hp} {Q : VK} (q : lift G W (mMethS c m F i ms) σ H Q) :
    tVar i σ H fun x H1 => ∃ a dx fs, x = .ref a ∧ H1 a = some (.ins (G.cl c) dx fs) ∧ fs.lookup m = none ∧ liftA G W ms σ H1 fun vs H2 => spF G F (x :: vs) H2 Q (WE W σ) := by
  obtain ⟨Z, O, ρ, r, q⟩ := q
  unfold mMethS at q
  cases e : slD ρ i with
  | none => rw [e] at q; exact q.elim
  | some d =>
    rw [e] at q
    simp only at q
    split at q
    · rename_i h
      obtain ⟨a, dx, fs, e1, e2, e3⟩ := slD_ins r e h
      obtain ⟨v, ev, q2⟩ := asv_run r ((contG.bind (rep := repA G) q).mono (Q' := fun vs H2 => spF G F vs H2 Q (WE W σ)) fun vs H2 ⟨Z2, O2, ρ2, as, _, r2, f2, q2⟩ => call_cont r2 f2 q2)
      rw [e1] at ev; cases ev
      exact ⟨.ref a, e1, a, dx, fs, rfl, e2, e3, q2⟩
    · exact q.elim
theorem methO_run {i : Nat} {ms : M (List Arg)} {σ : L2.St} {H : Hp} {Q : VK} (q : liftO G W (mMethSO c m F i ms) σ H Q) :
    tVar i σ H fun x H1 => ∃ a dx fs, x = .ref a ∧ H1 a = some (.ins (G.cl c) dx fs) ∧ fs.lookup m = none ∧ liftA G W ms σ H1 fun vs H2 => spF G F (x :: vs) H2 Q (WE W σ) := by
  obtain ⟨Z, O, ρ, r, q⟩ := q
  unfold mMethSO at q
  cases e : slD ρ i with
  | none => rw [e] at q; exact q.elim
  | some d =>
    rw [e] at q
    simp only at q
    split at q
    · rename_i h
      obtain ⟨a, dx, fs, e1, e2, e3⟩ := slD_ins r e h
      obtain ⟨v, ev, q2⟩ := asv_run r ((contG.bind (rep := repA G) q).mono (Q' := fun vs H2 => spF G F vs H2 Q (WE W σ)) fun vs H2 ⟨Z2, O2, ρ2, as, _, r2, f2, q2⟩ => callO_cont r2 f2 q2)
      rw [e1] at ev; cases ev
      exact ⟨.ref a, e1, a, dx, fs, rfl, e2, e3, q2⟩
    · exact q.elim
section
variable {pl : Sem Bool}
theorem d_methS {i : Nat} {ms : M (List Arg)} (tk : Takes X W) (C : MethF X.prog X.w X.K X.mg X.base k (G.cl c) m ps G F) (hr : Room j X.A) (hj : k ≤ j) (he : PE X o (tVar i)) (ha : PA X (e :: es) (liftA G W ms))
    (hst : starEach (e :: es) X.env = (false, eval e X.env) :: starEach es X.env := by rfl) (hpl : (backTo pos (starEach es X.env)).any (·.1) = false := by rfl)
    (ht : eval (.Call (.Attribute o m apos) (e :: es) [] pos) X.env = (do
      let ov ← eval o X.env
      standAt apos.atName
      let (g, first) ← holding [ov] (getMethod ov m pl)
      callWith pos g first (backTo pos (starEach (e :: es) X.env)) (backToKw pos (keywordEach [] X.env))) := by rfl) : PE X (.Call (.Attribute o m apos) (e :: es) [] pos) (lift G W (mMethS c m F i ms)) := by
  obtain ⟨f, fd, h1, h2, h3, h4⟩ := C.ex
  exact PE_imp (pe_methV (pl := pl) he h1 h2 h3 (hr.mono hj) h4 tk ha hst hpl ht) fun σ H Q q => meth_run q
theorem d_methS0 {i : Nat} (tk : Takes X W) (C : MethF X.prog X.w X.K X.mg X.base k (G.cl c) m ps G F) (hr : Room j X.A) (hj : k ≤ j) (he : PE X o (tVar i))
    (ht : eval (.Call (.Attribute o m apos) [] [] pos) X.env = (do
      let ov ← eval o X.env
      standAt apos.atName
      let (g, first) ← holding [ov] (getMethod ov m pl)
      callWith pos g first (backTo pos (starEach [] X.env)) (backToKw pos (keywordEach [] X.env))) := by rfl) : PE X (.Call (.Attribute o m apos) [] [] pos) (lift G W (mMethS c m F i aNil)) := by
  obtain ⟨f, fd, h1, h2, h3, h4⟩ := C.ex
  refine PE_imp (pe_methV0 (pl := pl) he h1 h2 h3 (hr.mono hj) h4 tk ht) fun σ H Q q => ?_
  obtain ⟨v, hv, a, dx, fs, ex, e2, e3, Z, O, ρ, r, q2⟩ := meth_run q
  exact ⟨v, hv, a, dx, fs, ex, e2, e3, q2 [] Z O H .refl r .nil⟩
theorem o_methS {i : Nat} {ms : M (List Arg)} (tk : Takes X W) (C : MethF X.prog X.w X.K X.mg X.base k (G.cl c) m ps G F) (hr : Room j X.A) (hj : k ≤ j) (he : PE X o (tVar i)) (ha : PA X (e :: es) (liftA G W ms))
    (hst : starEach (e :: es) X.env = (false, eval e X.env) :: starEach es X.env := by rfl) (hpl : (backTo pos (starEach es X.env)).any (·.1) = false := by rfl)
    (ht : eval (.Call (.Attribute o m apos) (e :: es) [] pos) X.env = (do
      let ov ← eval o X.env
      standAt apos.atName
      let (g, first) ← holding [ov] (getMethod ov m pl)
      callWith pos g first (backTo pos (starEach (e :: es) X.env)) (backToKw pos (keywordEach [] X.env))) := by rfl) : PE X (.Call (.Attribute o m apos) (e :: es) [] pos) (liftO G W (mMethSO c m F i ms)) := by
  obtain ⟨f, fd, h1, h2, h3, h4⟩ := C.ex
  exact PE_imp (pe_methV (pl := pl) he h1 h2 h3 (hr.mono hj) h4 tk ha hst hpl ht) fun σ H Q q => methO_run q
end
end
end PB
set_option maxRecDepth 100000
set_option maxHeartbeats 4000000
/-! PX29: instances made, methods of what is made or frozen, fields, op=. -/
namespace PB
open PySem PySem.Spec PySem.Calls L2
open PySem.W (Frag keepIn findIn)
variable {G : Gc} {W : WX} {X : Cx} {I : List Nat}
/-! ### C(..) -/
def mMakeO (c : Nat) (F : Env → FR) (ms : M (List D)) : M D := fun ρ => (ms ρ).bind fun ds ρ => madeR (callR F (.s ρ.length :: ds.map .v) (ρ ++ [.ow (.ins c [] [])]))
theorem contG.made {rd : Res D} {Z : Addr → Prop} {O O' : Nat → List Addr} {σ : L2.St} {H H2 : Hp} {Q : VK} {x : Addr} (x0 : Ext Z O H Z O' H2) (q : contG G W (repO G) (madeR rd) Z O σ H Q) : contG G (W1 W σ) (repF G) rd Z O' (σ ++ [some (.ref x)]) H2 (fun v H3 => v = .non ∧ Q (.ref x) H3) := by
  cases rd with
  | bad => exact q.elim
  | ex y ρ => exact fun c dd Z' O'' H' y r f => q c dd Z' O'' H' (x0.trans y) r.pop f
  | ok d ρ =>
    cases d <;> first | exact q.elim | skip
    unfold madeR at q
    cases e : ρ.getLast? with
    | none => simp only [e] at q; exact q.elim
    | some s =>
      simp only [e] at q
      cases s <;> first | exact q.elim | skip
      rename_i d
      intro v Z' O'' H' y r f
      refine ⟨f, q (.ref x) Z' O'' H' (x0.trans y) r.pop ?_⟩
      have hl := r.len
      rw [List.length_append] at hl
      simp only [List.length_cons, List.length_nil] at hl
      rw [List.getLast?_eq_getElem?] at e
      have e2 : ρ[σ.length]? = some (.ow d) := by rw [← e]; congr 1; omega
      obtain ⟨v2, e3, own⟩ := r.sl _ _ e2
      rw [List.getElem?_append_right (Nat.le_refl _), Nat.sub_self] at e3
      cases e3
      show Own G Z' H' d (.ref x) (O'' ρ.dropLast.length)
      rw [List.length_dropLast, hl]
      exact own
theorem RAs.of_l {Z : Addr → Prop} {σ : L2.St} {H : Hp} : ∀ {ds : List D} {vs : List V}, RfL G Z H ds vs → RAs G Z σ H (ds.map .v) vs
  | [], _, h => by cases h; exact .nil
  | _ :: _, _, ⟨v, r, e, h1, h2⟩ => by subst e; exact .cons h1 (RAs.of_l h2)
theorem make_run {c : Nat} {F : Env → FR} {ms : M (List D)} {σ : L2.St} {H : Hp} {Q : VK} (q : liftO G W (mMakeO c F ms) σ H Q) : tMakeV (G.cl c) (spF G F) W (liftL G W ms) σ H Q := by
  refine liftG.mono (liftG.bind (rep := repL G) q) fun vs H1 ⟨Z1, O1, ρ1, ds, r1, f1, q1⟩ => fun x dx hx hdx ne => ?_
  have hx2 : upd H1 dx (.own x) x = none := by rw [upd_ne (Ne.symm ne)]; exact hx
  have r2 := (r1.newO (o := .own x) hdx).newO (o := .ins (G.cl c) dx []) hx2
  have no : ∀ a, H1 a = none → ¬ Ow O1 a := fun a ha ⟨i, h⟩ => (r1.od i a h).ne ha
  have nz : ∀ a, H1 a = none → ¬ Z1 a := fun a ha z => (r1.zd a z).ne ha
  have ap : Apart Z1 O1 (upd (upd H1 dx (.own x)) x (.ins (G.cl c) dx [])) [x, dx] := by
    refine ⟨by simpa using Ne.symm ne, fun a ha => ?_, fun a ha => ?_, fun a ha => ?_⟩
    · rcases (by simpa using ha : a = x ∨ a = dx) with rfl | rfl
      · exact nz _ hx
      · exact nz _ hdx
    · rcases (by simpa using ha : a = x ∨ a = dx) with rfl | rfl
      · exact no _ hx
      · exact no _ hdx
    · rcases (by simpa using ha : a = x ∨ a = dx) with rfl | rfl
      · rw [upd_same]; exact .of
      · rw [upd_ne ne, upd_same]; exact .of
  have r3 := r2.giveT (t := ρ1.length) (Nat.le_refl _) ap
  have x3 : Ext Z1 O1 H1 Z1 (setO O1 ρ1.length [x, dx]) (upd (upd H1 dx (.own x)) x (.ins (G.cl c) dx [])) := by
    have xx : Ext Z1 O1 H1 Z1 O1 (upd (upd H1 dx (.own x)) x (.ins (G.cl c) dx [])) := Ext.trans (.newO hdx) (.newO hx2)
    refine ⟨xx.zs, xx.kp, xx.zn, fun a h => ?_, xx.dm⟩
    rcases ow_setO h with h | h
    · rcases (by simpa using h : a = x ∨ a = dx) with rfl | rfl
      · exact .inr hx
      · exact .inr hdx
    · exact .inl h
  have own : Own G Z1 (upd (upd H1 dx (.own x)) x (.ins (G.cl c) dx [])) (.ins c [] []) (.ref x) (setO O1 ρ1.length [x, dx] ρ1.length) := by
    rw [setO_same]
    exact ⟨x, dx, [], rfl, rfl, upd_same, by rw [upd_ne ne, upd_same], rfl, rfl⟩
  have r4 := r3.push own
  have hl := r1.len
  refine call_cont (W := W1 W σ) r4 (.cons (by
    show (σ ++ [some (V.ref x)])[ρ1.length]? = some (some (.ref x))
    rw [hl, List.getElem?_append_right (Nat.le_refl _), Nat.sub_self]; rfl) (RAs.of_l (f1.keep (fun _ z => z) fun a o z e => .inl ?_))) (contG.made x3 q1)
  rw [upd_keep hx2 a o (upd_keep hdx a o e)]
section
variable {k j c : Nat} {m x : Str} {ps : List Str} {F : Env → FR} {pos apos p : Pos} {o e : Expr} {es : List Expr}
theorem o_make {ms : M (List D)} (tk : Takes X W) (C : MakeF X.prog X.w X.K X.mg X.base k x (G.cl c) ps G F) (hr : Room j X.A) (hj : k + 1 ≤ j) (hg : Gl X x) (ha : PA X (e :: es) (liftL G W ms)) (hdb : (x == ("__debug__" : Str)) = false := by decide)
    (he : starEach (e :: es) X.env = (false, eval e X.env) :: starEach es X.env := by rfl) (hpl : (backTo pos (starEach es X.env)).any (·.1) = false := by rfl) : PE X (.Call (.Name x p) (e :: es) [] pos) (liftO G W (mMakeO c F ms)) := by
  obtain ⟨f, fd, h1, h2, h3, h4⟩ := C.ex
  exact PE_imp (pe_makeV h1 h2 (hr.mono hj) hg h4 h3 tk ha hdb he hpl) fun σ H Q q => make_run q
theorem o_make0 (tk : Takes X W) (C : MakeF X.prog X.w X.K X.mg X.base k x (G.cl c) ps G F) (hr : Room j X.A) (hj : k + 1 ≤ j) (hg : Gl X x) (hdb : (x == ("__debug__" : Str)) = false := by decide) : PE X (.Call (.Name x p) [] [] pos) (liftO G W (mMakeO c F mNil)) := by
  obtain ⟨f, fd, h1, h2, h3, h4⟩ := C.ex
  refine PE_imp (pe_makeV0 h1 h2 (hr.mono hj) hg h4 h3 tk hdb) fun σ H Q q => ?_
  obtain ⟨Z, O, ρ, r, q2⟩ := make_run q
  exact q2 [] Z O H .refl r rfl
/-! ### methods of what is owned behind the slots, of what is frozen -/
/-- what was behind the slots is so again -/
theorem keepT {Z1 Z2 : Addr → Prop} {O1 O2 : Nat → List Addr} {H1 H2 : Hp} {ρ1 ρ2 : Env} {σ : L2.St} {d : D} {v : V} (r1 : R G Z1 O1 ρ1 σ H1) (own : Own G Z1 H1 d v (O1 ρ1.length)) (x : Ext Z1 (setO O1 ρ1.length []) H1 Z2 O2 H2) (r2 : R G Z2 O2 ρ2 σ H2) :
    R G Z2 (setO O2 ρ2.length (O1 ρ1.length)) ρ2 σ H2 ∧ Ext Z1 O1 H1 Z2 (setO O2 ρ2.length (O1 ρ1.length)) H2 ∧ Own G Z2 H2 d v (setO O2 ρ2.length (O1 ρ1.length) ρ2.length) := by
  have r1' := r1.dropT (Nat.le_refl ρ1.length)
  have noW : ∀ a ∈ O1 ρ1.length, ¬ Ow (setO O1 ρ1.length []) a := fun a ha ⟨j, z⟩ => by
    by_cases q : j = ρ1.length
    · rw [q, setO_same] at z; cases z
    · rw [setO_ne q] at z; exact q (r1.dj j _ a z ha)
  have ap : Apart Z2 O2 H2 (O1 ρ1.length) := by
    refine ⟨r1.nd _, fun a ha z => ?_, fun a ha z => ?_, fun a ha => ?_⟩
    · rcases x.zn a z with z | z | z
      · exact r1.oz _ a ha z
      · exact noW a ha z
      · exact (r1.od _ a ha).ne z
    · rcases x.on a z with z | z
      · exact noW a ha z
      · exact (r1.od _ a ha).ne z
    · obtain ⟨o, e3, n⟩ := r1.od _ a ha
      exact (x.kp a o e3 (noW a ha)).pl ⟨o, rfl, n⟩
  have own2 : Own G Z2 H2 d v (O1 ρ1.length) := own.keep x.zs (Kp.of_ext r1' x) fun a ha o e => (x.kp a o e (noW a ha)).no (r1.oz _ a ha) fun ps eo => (r1.od _ a ha).no (e.trans (congrArg some eo))
  refine ⟨r2.giveT (Nat.le_refl _) ap, ?_, by rw [setO_same]; exact own2⟩
  have xt := Ext.trans (.drop (i := ρ1.length)) x
  refine ⟨xt.zs, xt.kp, xt.zn, fun a h => ?_, xt.dm⟩
  rcases ow_setO h with h | h
  · exact .inl ⟨_, h⟩
  · exact xt.on a h
def mMethT (c : Nat) (m : Str) (F : Env → FR) (mo : M D) (ms : M (List D)) : M D := fun ρ => (mo ρ).bind fun d ρ1 => if insOf c m d = true then (ms ρ1).bind fun ds ρ2 => popR (callR F (.s ρ2.length :: ds.map .v) (ρ2 ++ [.ow d])) else .bad
theorem own_ins {Z : Addr → Prop} {H : Hp} {d : D} {v : V} {fp : List Addr} (h : Own G Z H d v fp) (i : insOf c m d = true) : ∃ a dx fs, v = .ref a ∧ H a = some (.ins (G.cl c) dx fs) ∧ fs.lookup m = none := by
  cases d <;> first | (cases i; done) | skip
  rename_i c' ns xs
  unfold insOf at i
  rw [Bool.and_eq_true] at i
  obtain ⟨a, dx, vs, rfl, _, h1, _, _, _⟩ := h
  have e : c' = c := by simpa using i.1
  subst e
  exact ⟨a, dx, _, rfl, h1, look_none (by simpa using i.2)⟩
theorem rf_ins {Z : Addr → Prop} {H : Hp} {d : D} {v : V} (h : Rf G Z H d v) (i : insOf c m d = true) : ∃ a dx fs, v = .ref a ∧ H a = some (.ins (G.cl c) dx fs) ∧ fs.lookup m = none := by
  cases d <;> first | (cases i; done) | skip
  rename_i c' ns xs
  unfold insOf at i
  rw [Bool.and_eq_true] at i
  obtain ⟨a, dx, vs, rfl, _, h1, _, _, _⟩ := h
  have e : c' = c := by simpa using i.1
  subst e
  exact ⟨a, dx, _, rfl, h1, look_none (by simpa using i.2)⟩
theorem methT_run {mo : M D} {ms : M (List D)} {σ : L2.St} {H : Hp} {Q : VK} (q : lift G W (mMethT c m F mo ms) σ H Q) :
    liftO G W mo σ H fun x H1 => ∃ a dx fs, x = .ref a ∧ H1 a = some (.ins (G.cl c) dx fs) ∧ fs.lookup m = none ∧ liftL G W ms σ H1 fun vs H2 => spF G F (x :: vs) H2 Q (WE W σ) := by
  refine liftG.mono (liftG.bind (rep := repO G) q) fun v H1 ⟨Z1, O1, ρ1, d, r1, own, q1⟩ => ?_
  split at q1
  · rename_i i
    obtain ⟨a, dx, fs, rfl, e2, e3⟩ := own_ins own i
    refine ⟨a, dx, fs, rfl, e2, e3, Z1, setO O1 ρ1.length [], ρ1, r1.dropT (Nat.le_refl _), ?_⟩
    have xd : Ext Z1 O1 H1 Z1 (setO O1 ρ1.length []) H1 := .drop
    cases e : ms ρ1 with
    | bad => rw [e] at q1; exact q1.elim
    | ex y ρ2 => rw [e] at q1; exact fun c dd Z' O' H' y => q1 c dd Z' O' H' (xd.trans y)
    | ok ds ρ2 =>
      rw [e] at q1
      intro vs Z2 O2 H2 x2 r2 f2
      obtain ⟨r3, x3, own3⟩ := keepT r1 own x2 r2
      have hl := r2.len
      refine call_cont (W := W1 W σ) (r3.push own3) (.cons (by
        show (σ ++ [some (V.ref a)])[ρ2.length]? = some (some (.ref a))
        rw [hl, List.getElem?_append_right (Nat.le_refl _), Nat.sub_self]; rfl) (RAs.of_l f2)) (contG.pop (q1.ext x3))
  · exact q1.elim
section
variable {pl : Sem Bool}
theorem d_methT {mo : M D} {ms : M (List D)} (tk : Takes X W) (C : MethF X.prog X.w X.K X.mg X.base k (G.cl c) m ps G F) (hr : Room j X.A) (hj : k ≤ j) (he : PE X o (liftO G W mo)) (ha : PA X (e :: es) (liftL G W ms))
    (hst : starEach (e :: es) X.env = (false, eval e X.env) :: starEach es X.env := by rfl) (hpl : (backTo pos (starEach es X.env)).any (·.1) = false := by rfl)
    (ht : eval (.Call (.Attribute o m apos) (e :: es) [] pos) X.env = (do
      let ov ← eval o X.env
      standAt apos.atName
      let (g, first) ← holding [ov] (getMethod ov m pl)
      callWith pos g first (backTo pos (starEach (e :: es) X.env)) (backToKw pos (keywordEach [] X.env))) := by rfl) : PE X (.Call (.Attribute o m apos) (e :: es) [] pos) (lift G W (mMethT c m F mo ms)) := by
  obtain ⟨f, fd, h1, h2, h3, h4⟩ := C.ex
  exact PE_imp (pe_methV (pl := pl) he h1 h2 h3 (hr.mono hj) h4 tk ha hst hpl ht) fun σ H Q q => methT_run q
def mMethF (c : Nat) (m : Str) (F : Env → FR) (mo : M D) (ms : M (List Arg)) : M D := fun ρ => (mo ρ).bind fun d ρ => if insOf c m d = true then (ms ρ).bind fun as ρ => callR F (.v d :: as) ρ else .bad
theorem methF_run {mo : M D} {ms : M (List Arg)} {σ : L2.St} {H : Hp} {Q : VK} (q : lift G W (mMethF c m F mo ms) σ H Q) :
    lift G W mo σ H fun x H1 => ∃ a dx fs, x = .ref a ∧ H1 a = some (.ins (G.cl c) dx fs) ∧ fs.lookup m = none ∧ liftA G W ms σ H1 fun vs H2 => spF G F (x :: vs) H2 Q (WE W σ) := by
  refine liftG.mono (liftG.bind (rep := repF G) q) fun v H1 ⟨Z1, O1, ρ1, d, r1, f1, q1⟩ => ?_
  split at q1
  · rename_i i
    obtain ⟨a, dx, fs, rfl, e2, e3⟩ := rf_ins f1 i
    exact ⟨a, dx, fs, rfl, e2, e3, Z1, O1, ρ1, r1, (contG.bind (rep := repA G) q1).mono fun vs H2 ⟨Z2, O2, ρ2, as, x2, r2, f2, q2⟩ => call_cont r2 (.cons (show repA1 G Z2 σ H2 (.v d) _ from r1.rf x2 f1) f2) q2⟩
  · exact q1.elim
theorem d_methF {mo : M D} {ms : M (List Arg)} (tk : Takes X W) (C : MethF X.prog X.w X.K X.mg X.base k (G.cl c) m ps G F) (hr : Room j X.A) (hj : k ≤ j) (he : PE X o (lift G W mo)) (ha : PA X (e :: es) (liftA G W ms))
    (hst : starEach (e :: es) X.env = (false, eval e X.env) :: starEach es X.env := by rfl) (hpl : (backTo pos (starEach es X.env)).any (·.1) = false := by rfl)
    (ht : eval (.Call (.Attribute o m apos) (e :: es) [] pos) X.env = (do
      let ov ← eval o X.env
      standAt apos.atName
      let (g, first) ← holding [ov] (getMethod ov m pl)
      callWith pos g first (backTo pos (starEach (e :: es) X.env)) (backToKw pos (keywordEach [] X.env))) := by rfl) : PE X (.Call (.Attribute o m apos) (e :: es) [] pos) (lift G W (mMethF c m F mo ms)) := by
  obtain ⟨f, fd, h1, h2, h3, h4⟩ := C.ex
  exact PE_imp (pe_methV (pl := pl) he h1 h2 h3 (hr.mono hj) h4 tk ha hst hpl ht) fun σ H Q q => methF_run q
end
end
/-! ### fields -/
/-- e.n of an instance or of an exception -/
def fldD (fi fx : Nat → Str → Bool) (n : Str) (d : D) : Option D := (insF fi n d).orElse fun _ => xfD fx n d
theorem m1_or (f g : D → Option D) (m : M D) (ρ : Env) : m1 (fun d => (f d).orElse fun _ => g d) m ρ = m1 f m ρ ∨ m1 (fun d => (f d).orElse fun _ => g d) m ρ = m1 g m ρ := by
  unfold m1
  cases m ρ with
  | bad => exact .inl rfl
  | ex x ρ1 => exact .inl rfl
  | ok x ρ1 =>
    show optR ((f x).orElse fun _ => g x) ρ1 = optR (f x) ρ1 ∨ optR ((f x).orElse fun _ => g x) ρ1 = optR (g x) ρ1
    cases f x with
    | some d => exact .inl rfl
    | none => exact .inr rfl
theorem d_fld {e : Expr} {n : Str} {m : M D} {pos : Pos} {fi fx : Nat → Str → Bool} (hi : ∀ c, fi c n = true → Cls X.K (G.cl c) ∧ NoAttr X.K (G.cl c) n) (hx : ∀ c, fx c n = true → XfC X.K (G.cl c) ∧ findIn X.K (.ref (G.cl c)) n = some none)
    (he : PE X e (lift G W m)) (hb : attributeBase e n X.env (eval e X.env) = eval e X.env := by rfl) : PE X (.Attribute e n pos) (lift G W (m1 (fldD fi fx n) m)) :=
  PE_imp (PE_or (d_fldI hi he hb) (d_xf hx he hb)) fun σ H Q ⟨Z, O, ρ, r, q⟩ => (m1_or (insF fi n) (xfD fx n) m ρ).elim (fun e => .inl ⟨Z, O, ρ, r, by rw [← e]; exact q⟩) (fun e => .inr ⟨Z, O, ρ, r, by rw [← e]; exact q⟩)
/-- x.n, x a slot, owned or not -/
def mFldA (fi : Nat → Str → Bool) (n : Str) (i : Nat) : M D := fun ρ => match slD ρ i with
  | some d => optR (insF fi n d) ρ
  | none => .bad
theorem d_fldA {e : Expr} {n : Str} {i : Nat} {pos : Pos} {fi : Nat → Str → Bool} (hf : ∀ c, fi c n = true → Cls X.K (G.cl c) ∧ NoAttr X.K (G.cl c) n) (he : PE X e (tVar i)) (hb : attributeBase e n X.env (eval e X.env) = eval e X.env := by rfl) :
    PE X (.Attribute e n pos) (lift G W (mFldA fi n i)) := PE_imp (PE_or (d_fldP (W := W) hf he hb) (d_fldI (W := W) hf (d_var he) hb)) fun σ H Q ⟨Z, O, ρ, r, q⟩ => by
  unfold mFldA slD at q
  cases e1 : ρ[i]? with
  | none => rw [e1] at q; exact q.elim
  | some s =>
    rw [e1] at q
    cases s with
    | un => exact q.elim
    | fr d =>
      refine .inr ⟨Z, O, ρ, r, ?_⟩
      unfold m1 rdV
      rw [e1]
      exact q
    | ow d =>
      refine .inl ⟨Z, O, ρ, r, ?_⟩
      unfold mFldP PB.getO
      rw [e1]
      exact q
    | io d =>
      refine .inl ⟨Z, O, ρ, r, ?_⟩
      unfold mFldP PB.getO
      rw [e1]
      exact q
/-- x.n op= e -/
def sameC : D → Nat → Bool
  | .ins c _ _, c' => c == c'
  | _, _ => false
def sFldAugP (fok : Nat → Str → Bool) (f : D → D → Option D) (n : Str) (i : Nat) (m : M D) : M Fl := fun ρ => match getO ρ i with
  | some d0 => (match insF fok n d0 with
    | some x => (m ρ).bind fun y ρ1 => (match f x y with
      | some z => (match getO ρ1 i with
        | some (.ins c ns xs) => if sameC d0 c = true ∧ fok c n = true ∧ ns.length < 900 then .ok .nx (putO ρ1 i (.ins c (putD n z ns xs).1 (putD n z ns xs).2)) else .bad
        | _ => .bad)
      | none => .bad)
    | none => .bad)
  | none => .bad
theorem s_fldAugP {o e : Expr} {n : Str} {i : Nat} {op : Operator} {rd : V → V → Hp → VK → Prop} {f : D → D → Option D} {m : M D} {pos pos' : Pos} {fok : Nat → Str → Bool} (hop : InOp X op rd) (hfo : OpF G rd f) (hf : ∀ c, fok c n = true → Cls X.K (G.cl c) ∧ NoAttr X.K (G.cl c) n)
    (ho : PE X o (tVar i)) (he : PE X e (lift G W m)) : PS X (.AugAssign (.Attribute o n pos') op e pos) (liftS G W I (sFldAugP fok f n i m)) :=
  PS_imp (ps_fldaug ho he hop) fun E σ H ⟨Z, O, ρ, r, q⟩ => by
    unfold sFldAugP at q
    cases g : getO ρ i with
    | none => rw [g] at q; exact q.elim
    | some d0 =>
      rw [g] at q
      simp only at q
      cases e1 : insF fok n d0 with
      | none => rw [e1] at q; exact q.elim
      | some x =>
        rw [e1] at q
        simp only at q
        obtain ⟨v, hv, hown⟩ := r.getO g
        cases d0 <;> first | (cases e1; done) | skip
        rename_i c0 ns0 xs0
        have e2 : (if fok c0 n = true then (ns0.zip xs0).lookup n else none) = some x := e1
        split at e2
        · rename_i ok0
          obtain ⟨a, dx, vs, rfl, fp, g1, g2, l, rl⟩ := hown
          obtain ⟨w, e3, f3⟩ := zip_lookup rl e2
          refine ⟨_, hv, a, G.cl c0, dx, _, w, rfl, g1, (hf c0 ok0).1, (hf c0 ok0).2, e3, Z, O, ρ, r, (contS.bind (rep := repF G) q).mono fun u H1 ⟨Z1, O1, ρ1, y, x1, r1, f1, q1⟩ => ?_⟩
          cases e4 : f x y with
          | none => rw [e4] at q1; exact q1.elim
          | some z =>
            rw [e4] at q1
            simp only at q1
            refine hfo Z1 H1 w u x y z _ (r.rf x1 f3) f1 e4 fun zv hz => ?_
            cases g5 : getO ρ1 i with
            | none => rw [g5] at q1; exact q1.elim
            | some d5 =>
              rw [g5] at q1
              cases d5 <;> first | exact q1.elim | skip
              rename_i c ns xs
              simp only at q1
              split at q1
              · rename_i ok
                obtain ⟨w2, hv2, hown2⟩ := r1.getO g5
                have hown2' := hown2
                obtain ⟨a2, dx2, vs2, rfl, fp2, g12, g22, l2, rl2⟩ := hown2
                rw [hv] at hv2
                cases hv2
                have ha : a ∈ O1 i := by rw [fp2]; simp
                have nd : dx2 ≠ a := ne_of_nodup2 (r1.nd i) fp2
                obtain ⟨ws, p1, p2, p3⟩ := putD_rel (n := n) (hz Z1 H1) l2 rl2
                have ec : c0 = c := by simpa [sameC] using ok.1
                subst ec
                refine ⟨dx2, _, g12, by rw [List.length_zip]; omega, ?_⟩
                rw [p1]
                exact q1 Z1 O1 σ _ (r1.owt hown2' ha) (fun _ _ => rfl) (r1.putO g5 hv ha ⟨a, dx2, ws, rfl, fp2, upd_same, by rw [upd_ne nd]; exact g22, p2, p3.write r1 ⟨i, ha⟩⟩)
              · exact q1.elim
        · cases e2
end PB
set_option maxRecDepth 100000
set_option maxHeartbeats 4000000
/-! PX30: stars, dicts of pairs, items, sorted. -/
namespace PB
open PySem PySem.Spec PySem.Calls L2
open PySem.W (Frag)
variable {G : Gc} {W : WX} {X : Cx} {I : List Nat}
/-! ### stars -/
def asSeq : D → Option (List D)
  | .lst xs => some xs
  | .fls xs => some xs
  | .tup xs => some xs
  | _ => none
theorem asSeq_v {Z : Addr → Prop} {H : Hp} {d : D} {v : V} {xs : List D} (h : Rf G Z H d v) (e : asSeq d = some xs) : ∃ a vs, v = .ref a ∧ (SqT G.K H a vs ∨ SqL G.K H a vs) ∧ RfL G Z H xs vs := by
  cases d <;> first | (cases e; done) | skip
  all_goals
    cases e
    obtain ⟨a, vs, rfl, g, rl⟩ := h
    first
      | exact ⟨a, vs, rfl, .inl g.sq, rl⟩
      | exact ⟨a, vs, rfl, .inr g.sq, rl⟩
def mStar (m : M D) (ms : M (List D)) : M (List D) := fun ρ => (m ρ).bind fun d ρ => match asSeq d with
  | some xs => (ms ρ).bind fun ys ρ => .ok (xs ++ ys) ρ
  | none => .bad
theorem a_star {e : Expr} {es : List Expr} {m : M D} {ms : M (List D)} {p : Pos} (hK : G.K = X.K) (h : PE X e (lift G W m)) (hs : PA X es (liftL G W ms)) (hst : starEach (.Starred e p :: es) X.env = (true, eval e X.env) :: starEach es X.env := by rfl) :
    PA X (.Starred e p :: es) (liftL G W (mStar m ms)) := PA_imp (StX.pa_star h hs hst) fun σ H Q q => by
  refine liftG.mono (liftG.bind (rep := repF G) q) fun v H1 ⟨Z1, O1, ρ1, d1, r1, f1, q1⟩ => ?_
  cases e1 : asSeq d1 with
  | none => rw [e1] at q1; exact q1.elim
  | some xs =>
    rw [e1] at q1
    obtain ⟨a, vs, rfl, g, rl⟩ := asSeq_v f1 e1
    refine ⟨a, vs, rfl, hK ▸ g, Z1, O1, ρ1, r1, (contG.bind (rep := repL G) q1).mono fun w H2 ⟨Z2, O2, ρ2, d2, x, r2, f2, q2⟩ => ?_⟩
    exact q2 _ Z2 O2 H2 .refl r2 ((r1.rfL x rl).append f2)
/-! ### *d.items(), list(d.items()) -/
section
variable {pins : List (Addr × Obj)} {σ : L2.St} {H : Hp} {s : Shared}
theorem tups_laid {g : Heap} {tk : Nat} {kvs : List (Key × V)} {us : List (Key × Value)} {as : List Addr} (J : L2.Inv X pins σ H s) (kv : KV kvs us) (hk : ∀ b o, s.heap.get? b = some o → g.get? b = some o) (hl : as.length = us.length) (hG : PySem.W.KdxG (mixKind X.prog X.w) us s.heap.objs.size g as) :
    ∃ H' : Hp, (∀ b o, H b = some o → H' b = some o) ∧ (∀ t ∈ as, H t = none) ∧ Paired (fun (t : Addr) (q : Key × V) => H' t = some (.tup [kV q.1, q.2])) as kvs ∧ L2.Inv X pins σ H' { s with heap := g, toks := tk } := by
  have lk : kvs.length = us.length := Paired.length kv
  have nd : as.Nodup := List.Pairwise.imp (fun {a b} (h : a < b) => Nat.ne_of_lt h) hG.rise
  have new : ∀ t ∈ as, H t = none := fun t ht => J.hok.fresh (Nat.le_of_lt (hG.above t ht))
  have atP := LiI.putT_at as kvs H (by omega) nd
  have off : ∀ b, b ∉ as → LiI.putT H as kvs b = H b := fun b h1 => LiI.putT_off as kvs _ h1
  have kp : ∀ b u, H b = some u → LiI.putT H as kvs b = some u := fun b u e => by rw [off b fun z => by rw [new b z] at e; cases e]; exact e
  refine ⟨LiI.putT H as kvs, kp, new, atP, J.call' (ch := []) rfl ⟨fun b o q _ _ _ => hk b o q, fun b o q _ _ _ => ⟨o.slots, hk b o q⟩, fun b o q n _ => ?_, fun b o q _ => ⟨o, hk b o q⟩, fun b xs q => kp b _ q, fun b o u q => kp b _ q, fun b ps q => ⟨#[], by rw [kp b _ q]; simp⟩⟩ (fun b u q => ?_) J.bare fun b z => by simp at z⟩
  · rw [off b fun z => absurd (Heap.lt_size q) (Nat.not_lt.mpr (Nat.le_of_lt (hG.above b z)))]
    exact n
  · by_cases hb : b ∈ as
    · obtain ⟨j, pk, e1, e2, e3⟩ := LiI.paired_ix atP hb
      rw [e3] at q
      cases q
      obtain ⟨key, k, x, f1, f2, f3⟩ := hG.pairs j b e1
      obtain ⟨qv, g1, g2, g3⟩ := LiI.paired_get kv e2
      rw [f1] at g1
      cases g1
      exact ⟨by show 2 ≤ sizeLine; decide, [key, x], .cons (by rw [g2]; exact relV_key (show keyIs k key = true from f2)) (.cons g3 .nil), ⟨_, f3, rfl, _, rfl⟩⟩
    · rw [off b hb] at q
      exact (J.hok b u q).stay (fun d v _ y => hk d v y) (fun d y => kp d _ y) fun d xs y => kp d _ y
theorem rd_ok {P : Program} {w : World} {h : Heap} {a : Addr} {u : HO} (hok : HOk P w H h) (r : Rd H a u) : ObjOk P w H h a u := r.elim (fun e => hok a _ e) fun ⟨o, e⟩ => (hok a _ e).2
end
/-- the pairs of a dict, each a new tuple -/
def rItR (x : V) (H : Hp) (Q : List V → Hp → Prop) : Prop := ∃ (d : Addr) (kvs : List (Key × V)), x = .ref d ∧ Rd H d (.dK kvs) ∧
  ∀ (H' : Hp) (ts : List Addr), (∀ b o, H b = some o → H' b = some o) → (∀ t ∈ ts, H t = none) → Paired (fun (t : Addr) (q : Key × V) => H' t = some (.tup [kV q.1, q.2])) ts kvs → Q (ts.map V.ref) H'
def tStarI (te : TE) (t : TA) : TA := fun σ H Q => te σ H fun x H1 => rItR x H1 fun us H2 => t σ H2 fun ys H3 => Q (us ++ ys) H3
theorem vals_refs' : ∀ as : List Addr, Vals (as.map V.ref) (as.map Value.ref)
  | [] => .nil
  | _ :: as => .cons rfl (vals_refs' as)
theorem pa_starI {e : Expr} {es : List Expr} {te : TE} {t : TA} {apos cpos p : Pos} (hc : X.calm = true) (he : PE X e te) (hr : PA X es t) (hbase : attributeBase e "items" X.env (eval e X.env) = eval e X.env := by rfl) (hline : (apos.endLine == cpos.line) = true := by rfl)
    (hst : starEach (.Starred (.Call (.Attribute e "items" apos) [] [] cpos) p :: es) X.env = (true, eval (.Call (.Attribute e "items" apos) [] [] cpos) X.env) :: starEach es X.env := by rfl) : PA X (.Starred (.Call (.Attribute e "items" apos) [] [] cpos) p :: es) (tStarI te t) := by
  refine ⟨fun pos pins s σ H Q J hq => PySem.W.items_star ?_ hst⟩
  refine wpAny_Call_method (T := "dict") (id := "dict.items") hbase rfl hline F.plainAttrs_dict F.slot_dict_items F.type_dict_items (thn (he.run pins s σ H _ J hq) fun u s1 ⟨x, H1, J1, rx, d, kvs, ex, hd, q⟩ => ?_)
  subst ex
  cases (show u = Value.ref d from rx)
  obtain ⟨hz, hs0, us, kv, hdo⟩ : ObjOk X.prog X.w H1 s1.heap d (.dK kvs) := rd_ok J1.hok hd
  obtain ⟨ep, hat⟩ := hdo.dictAt
  have lk : kvs.length = us.length := Paired.length kv
  have J2 : L2.Inv X pins σ H1 { s1 with heap := s1.heap.push { cls := .type "dict_items", data := .fields #[.ref d] } } := J1.kept (t' := s1.toks) fun b ob q => Heap.get?_push_of_some _ q
  refine ⟨hdo.typeIs, hdo.mapOf.noDict, ?_⟩
  show wpAny _ _ (callWith cpos (.builtin "dict.items") [.ref d] [] []) _ X.xe s1
  refine method_meetsIn F.slot_dict_items F.entry_dict_items rfl (PySem.evalArgs_none ⟨rfl, hdo.typeIs, F.args_dict_items_1 _, _, meets_dict_items (mixKind X.prog X.w) d hs0, ⟨us, hdo⟩, ?_⟩)
  have hv : (s1.heap.push { cls := .type "dict_items", data := .fields #[.ref d] }).IsItemsView s1.heap.objs.size d := ⟨_, Heap.get?_push_size _ rfl, rfl, rfl⟩
  have hT : ({ s1 with heap := s1.heap.push { cls := .type "dict_items", data := .fields #[.ref d] } } : Shared).TypeIs (.ref s1.heap.objs.size) "dict_items" := ⟨_, Heap.get?_push_size _ rfl, rfl⟩
  unfold PySem.W.StarOf notIterableAtAll
  refine wpAny_bind (wpAny_specialOf hT PySem.F.slot_dict_items_iter.lookup (wpAny_pure ⟨rfl, ?_⟩))
  refine PySem.W.kdx_collect (knd := mixKind X.prog X.w) (kvs := us) (ep := ep) (J1.ok.hd hc) hv (hat.push _) (by omega) fun g tk as hk hl hG => ?_
  obtain ⟨H', k1, k2, k3, J3⟩ := tups_laid (tk := tk) J2 kv hk hl hG
  exact thn (hr.run pos pins _ σ H' _ J3 (q H' as k1 k2 k3)) fun ws s3 ⟨vs, H3, J4, r3, q3⟩ => ⟨as.map V.ref ++ vs, H3, J4, (vals_refs' as).append r3, q3⟩
theorem R.growT {Z : Addr → Prop} {O : Nat → List Addr} {ρ : Env} {σ : L2.St} {H H' : Hp} {ts : List Addr} {kvs : List (Key × V)} (r : R G Z O ρ σ H) (k1 : ∀ b o, H b = some o → H' b = some o) (k2 : ∀ t ∈ ts, H t = none) (k3 : Paired (fun (t : Addr) (q : Key × V) => H' t = some (.tup [kV q.1, q.2])) ts kvs) :
    R G (fun a => Z a ∨ a ∈ ts) O ρ σ H' ∧ Ext Z O H (fun a => Z a ∨ a ∈ ts) O H' := by
  refine ⟨r.grow (fun _ z => .inl z) k1 (fun i a h z => z.elim (r.oz i a h) fun z => (r.od i a h).ne (k2 a z)) fun a z => z.elim (fun z => ?_) fun z => ?_, fun _ z => .inl z, fun a o e _ => .inl (k1 a o e), fun a z => z.elim .inl fun z => .inr (.inr (k2 a z)), fun _ h => .inl h, fun a e => ?_⟩
  · obtain ⟨o, e, n⟩ := r.zd a z
    exact ⟨o, k1 a o e, n⟩
  · obtain ⟨j, y, e1, e2, e3⟩ := LiI.paired_ix k3 z
    rw [e3]; exact .of
  · cases q : H a with
    | none => rfl
    | some o => rw [k1 a o q] at e; cases e
/-- the pairs -/
def pairsD : List Key → List D → List D
  | .inl i :: ks, x :: xs => .tup [.int i, x] :: pairsD ks xs
  | .inr t :: ks, x :: xs => .tup [.str t, x] :: pairsD ks xs
  | _, _ => []
theorem pairsD_v {Z Z' : Addr → Prop} {H H' : Hp} : ∀ {ks : List Key} {xs : List D} {vs : List V} {ts : List Addr}, ks.length = xs.length → RfL G Z H xs vs → (∀ a, Z a → Z' a) → Kp Z H H' → (∀ t ∈ ts, Z' t) → Paired (fun (t : Addr) (q : Key × V) => H' t = some (.tup [kV q.1, q.2])) ts (ks.zip vs) →
    RfL G Z' H' (pairsD ks xs) (ts.map V.ref)
  | [], [], _, ts, _, h, _, _, _, p => by cases h; cases p; exact rfl
  | [], _ :: _, _, _, l, _, _, _, _, _ => by simp at l
  | _ :: _, [], _, _, l, _, _, _, _, _ => by simp at l
  | k :: ks, x :: xs, _, ts, l, ⟨v, r, rfl, h1, h2⟩, zs, kp, zt, p => by
    rw [List.zip_cons_cons] at p
    cases p with
    | cons e p =>
      rename_i t ts
      have rest := pairsD_v (ks := ks) (by simpa using l) h2 zs kp (fun t ht => zt t (List.mem_cons_of_mem _ ht)) p
      have ht := zt t List.mem_cons_self
      cases k with
      | inl i => exact ⟨.ref t, _, rfl, ⟨t, [.int i, v], rfl, .inl ⟨ht, e⟩, _, _, rfl, rfl, RfL.one (h1.keep zs kp)⟩, rest⟩
      | inr i => exact ⟨.ref t, _, rfl, ⟨t, [.str i, v], rfl, .inl ⟨ht, e⟩, _, _, rfl, rfl, RfL.one (h1.keep zs kp)⟩, rest⟩
def mStarI (m : M D) (ms : M (List D)) : M (List D) := fun ρ => (m ρ).bind fun d ρ => match d with
  | .dct ks xs => (ms ρ).bind fun ys ρ => .ok (pairsD ks xs ++ ys) ρ
  | _ => .bad
theorem a_starI {e : Expr} {es : List Expr} {m : M D} {ms : M (List D)} {apos cpos p : Pos} (hc : X.calm = true) (h : PE X e (lift G W m)) (hs : PA X es (liftL G W ms)) (hbase : attributeBase e "items" X.env (eval e X.env) = eval e X.env := by rfl) (hline : (apos.endLine == cpos.line) = true := by rfl)
    (hst : starEach (.Starred (.Call (.Attribute e "items" apos) [] [] cpos) p :: es) X.env = (true, eval (.Call (.Attribute e "items" apos) [] [] cpos) X.env) :: starEach es X.env := by rfl) : PA X (.Starred (.Call (.Attribute e "items" apos) [] [] cpos) p :: es) (liftL G W (mStarI m ms)) :=
  PA_imp (pa_starI hc h hs hbase hline hst) fun σ H Q q => liftG.mono (liftG.bind (rep := repF G) q) fun v H1 ⟨Z1, O1, ρ1, d1, r1, f1, q1⟩ => by
    cases d1 <;> first | exact q1.elim | skip
    rename_i ks xs
    obtain ⟨a, vs, rfl, g, l, rl⟩ := f1
    refine ⟨a, _, rfl, g.2, fun H' ts k1 k2 k3 => ?_⟩
    obtain ⟨r2, x2⟩ := r1.growT k1 k2 k3
    have fp := pairsD_v l rl (Z' := fun a => Z1 a ∨ a ∈ ts) (fun _ z => .inl z) (Kp.of fun a o _ e => k1 a o e) (fun t ht => .inr ht) k3
    refine ⟨_, O1, ρ1, r2, (contG.bind (rep := repL G) (q1.ext x2)).mono fun w H3 ⟨Z3, O3, ρ3, d3, x3, r3, f3, q3⟩ => ?_⟩
    exact q3 _ Z3 O3 H3 .refl r3 ((r2.rfL x3 fp).append f3)
end PB
set_option maxRecDepth 100000
set_option maxHeartbeats 4000000
/-! PX31: dict(pairs), dicts stored into, sorted, dicts walked. -/
namespace PB
open PySem PySem.Spec PySem.Calls PyProof.Rows L2
open PySem.W (Frag)
variable {G : Gc} {W : WX} {X : Cx} {I : List Nat}
/-! ### keys and data, pair by pair -/
def KvR (G : Gc) (Z : Addr → Prop) (H : Hp) : List (Key × D) → List (Key × V) → Prop
  | [], kvs => kvs = []
  | p :: ps, kvs => ∃ v r, kvs = (p.1, v) :: r ∧ Rf G Z H p.2 v ∧ KvR G Z H ps r
section
variable {Z Z' : Addr → Prop} {H H' : Hp}
theorem KvR.zip : ∀ {ks : List Key} {xs : List D} {vs : List V}, ks.length = xs.length → RfL G Z H xs vs → KvR G Z H (ks.zip xs) (ks.zip vs)
  | [], [], _, _, h => by cases h; exact rfl
  | [], _ :: _, _, l, _ => by simp at l
  | _ :: _, [], _, l, _ => by simp at l
  | k :: ks, x :: xs, _, l, ⟨v, r, rfl, h1, h2⟩ => ⟨v, ks.zip r, rfl, h1, KvR.zip (by simpa using l) h2⟩
theorem KvR.unzip : ∀ {ps : List (Key × D)} {kvs : List (Key × V)}, KvR G Z H ps kvs → ∃ vs, kvs = (ps.map (·.1)).zip vs ∧ RfL G Z H (ps.map (·.2)) vs
  | [], _, h => by cases h; exact ⟨[], rfl, rfl⟩
  | p :: ps, _, ⟨v, r, e, h1, h2⟩ => by
    obtain ⟨vs, e2, h3⟩ := KvR.unzip h2
    subst e e2
    exact ⟨v :: vs, rfl, v, vs, rfl, h1, h3⟩
theorem KvR.keep (zs : ∀ a, Z a → Z' a) (k : Kp Z H H') : ∀ {ps : List (Key × D)} {kvs : List (Key × V)}, KvR G Z H ps kvs → KvR G Z' H' ps kvs
  | [], _, h => h
  | _ :: _, _, ⟨v, r, e, h1, h2⟩ => ⟨v, r, e, h1.keep zs k, KvR.keep zs k h2⟩
theorem KvR.append : ∀ {ps qs : List (Key × D)} {kvs lvs : List (Key × V)}, KvR G Z H ps kvs → KvR G Z H qs lvs → KvR G Z H (ps ++ qs) (kvs ++ lvs)
  | [], _, _, _, h, k => by cases h; exact k
  | _ :: _, _, _, _, ⟨v, r, e, h1, h2⟩, k => ⟨v, r ++ _, by rw [e]; rfl, h1, h2.append k⟩
theorem KvR.any {k : Key} : ∀ {ps : List (Key × D)} {kvs : List (Key × V)}, KvR G Z H ps kvs → (kvs.any fun kv => decide (kv.1 = k)) = ps.any fun kv => decide (kv.1 = k)
  | [], _, h => by cases h; rfl
  | _ :: _, _, ⟨v, r, e, h1, h2⟩ => by subst e; rw [List.any_cons, List.any_cons, KvR.any h2]
theorem KvR.len : ∀ {ps : List (Key × D)} {kvs : List (Key × V)}, KvR G Z H ps kvs → kvs.length = ps.length
  | [], _, h => by cases h; rfl
  | _ :: _, _, ⟨v, r, e, h1, h2⟩ => by subst e; simp [KvR.len h2]
def putKD (ps : List (Key × D)) (k : Key) (d : D) : List (Key × D) := if (ps.any fun kv => decide (kv.1 = k)) = true then ps.map (fun kv => if kv.1 = k then (kv.1, d) else kv) else ps ++ [(k, d)]
theorem KvR.setAll {k : Key} {d : D} {v : V} (f : Rf G Z H d v) : ∀ {ps : List (Key × D)} {kvs : List (Key × V)}, KvR G Z H ps kvs → KvR G Z H (ps.map fun kv => if kv.1 = k then (kv.1, d) else kv) (kvs.map fun kv => if kv.1 = k then (kv.1, v) else kv)
  | [], _, h => by cases h; exact rfl
  | p :: ps, _, ⟨w, r, e, h1, h2⟩ => by
    subst e
    rw [List.map_cons, List.map_cons]
    by_cases q : p.1 = k
    · rw [if_pos q, if_pos q]; exact ⟨v, _, rfl, f, KvR.setAll f h2⟩
    · rw [if_neg q, if_neg q]; exact ⟨w, _, rfl, h1, KvR.setAll f h2⟩
theorem KvR.put {k : Key} {d : D} {v : V} {ps : List (Key × D)} {kvs : List (Key × V)} (h : KvR G Z H ps kvs) (f : Rf G Z H d v) : KvR G Z H (putKD ps k d) (putK kvs k v) := by
  unfold putKD putK
  rw [KvR.any h]
  by_cases q : (ps.any fun kv => decide (kv.1 = k)) = true
  · rw [if_pos q, if_pos q]; exact KvR.setAll f h
  · rw [if_neg q, if_neg q]; exact h.append ⟨v, [], rfl, f, rfl⟩
def mergeKD (ps more : List (Key × D)) : List (Key × D) := more.foldl (fun acc kv => putKD acc kv.1 kv.2) ps
theorem KvR.merge : ∀ {more ps : List (Key × D)} {mvs kvs : List (Key × V)}, KvR G Z H more mvs → KvR G Z H ps kvs → KvR G Z H (mergeKD ps more) (mergeK kvs mvs)
  | [], _, _, _, h, k => by cases h; exact k
  | p :: more, ps, _, kvs, ⟨v, r, e, h1, h2⟩, k => by
    subst e
    show KvR G Z H (mergeKD (putKD ps p.1 p.2) more) (mergeK (putK kvs p.1 v) r)
    exact KvR.merge h2 (k.put h1)
def dropKD (ps : List (Key × D)) (k : Key) : List (Key × D) := ps.filter fun kv => decide (kv.1 ≠ k)
theorem KvR.drop {k : Key} : ∀ {ps : List (Key × D)} {kvs : List (Key × V)}, KvR G Z H ps kvs → KvR G Z H (dropKD ps k) (dropK kvs k)
  | [], _, h => by cases h; exact rfl
  | p :: ps, _, ⟨w, r, e, h1, h2⟩ => by
    subst e
    unfold dropKD dropK
    rw [List.filter_cons, List.filter_cons]
    by_cases q : p.1 = k
    · simp only [q, ne_eq, not_true_eq_false, decide_false, Bool.false_eq_true, if_false]
      exact KvR.drop h2
    · simp only [q, ne_eq, not_false_eq_true, decide_true, if_true]
      exact ⟨w, _, rfl, h1, KvR.drop h2⟩
end
/-- the dict of these pairs -/
def dctOf (ps : List (Key × D)) : D := .dct (ps.map (·.1)) (ps.map (·.2))
theorem dctOf_own {Z : Addr → Prop} {H : Hp} {a : Addr} {ps : List (Key × D)} {kvs : List (Key × V)} (h : KvR G Z H ps kvs) (e : H a = some (.dK kvs)) : Own G Z H (dctOf ps) (.ref a) [a] := by
  obtain ⟨vs, rfl, rl⟩ := KvR.unzip h
  exact ⟨a, vs, rfl, rfl, e, by rw [List.length_map, List.length_map], rl⟩
theorem dctOf_rf {Z : Addr → Prop} {H : Hp} {a : Addr} {ps : List (Key × D)} {kvs : List (Key × V)} (h : KvR G Z H ps kvs) (z : Z a) (e : H a = some (.dK kvs)) : Rf G Z H (dctOf ps) (.ref a) := by
  obtain ⟨vs, rfl, rl⟩ := KvR.unzip h
  exact ⟨a, vs, rfl, ⟨z, .inl e⟩, by rw [List.length_map, List.length_map], rl⟩
theorem cont_dct {Z : Addr → Prop} {O : Nat → List Addr} {ρ : Env} {σ : L2.St} {H : Hp} {Q : VK} {ps : List (Key × D)} {kvs : List (Key × V)} (r : R G Z O ρ σ H) (f : KvR G Z H ps kvs) (q : cont G W (.ok (dctOf ps) ρ) Z O σ H Q) (p : Addr) (hp : H p = none) : Q (.ref p) (upd H p (.dK kvs)) :=
  q _ _ _ _ (.new hp) (r.new hp) (dctOf_rf (f.keep (fun _ z => .inl z) (Kp.of fun a o _ e => upd_keep hp a o e)) (.inr rfl) upd_same)
theorem contO_dct {Z : Addr → Prop} {O : Nat → List Addr} {ρ : Env} {σ : L2.St} {H : Hp} {Q : VK} {ps : List (Key × D)} {kvs : List (Key × V)} (r : R G Z O ρ σ H) (f : KvR G Z H ps kvs) (q : contG G W (repO G) (.ok (dctOf ps) ρ) Z O σ H Q) (p : Addr) (hp : H p = none) : Q (.ref p) (upd H p (.dK kvs)) :=
  q _ Z _ _ (.newT (t := ρ.length) hp) (r.newT (Nat.le_refl _) hp) (by
    show Own G Z _ (dctOf ps) (.ref p) (setO O ρ.length [p] ρ.length)
    rw [setO_same]
    exact dctOf_own (f.keep (fun _ z => z) (Kp.of fun a o _ e => upd_keep hp a o e)) upd_same)
/-! ### dict(pairs) -/
def pairD : D → Option (Key × D)
  | .tup [k, d] => (keyD k).map fun y => (y, d)
  | _ => none
def pairsDk : List D → Option (List (Key × D))
  | [] => some []
  | x :: xs => match pairD x, pairsDk xs with
    | some p, some ps => some (p :: ps)
    | _, _ => none
theorem pairsDk_v {Z : Addr → Prop} {H : Hp} : ∀ {xs : List D} {vs : List V} {ps : List (Key × D)}, RfL G Z H xs vs → pairsDk xs = some ps → ∃ (as : List Addr) (kvs : List (Key × V)), vs = as.map V.ref ∧ Paired (fun p kv => SqT G.K H p [kV kv.1, kv.2]) as kvs ∧ KvR G Z H ps kvs
  | [], _, _, h, e => by cases e; cases h; exact ⟨[], [], rfl, .nil, rfl⟩
  | x :: xs, _, _, ⟨v, r, rfl, h1, h2⟩, e => by
    unfold pairsDk at e
    cases e1 : pairD x with
    | none => rw [e1] at e; cases e
    | some p =>
      cases e2 : pairsDk xs with
      | none => rw [e1, e2] at e; cases e
      | some ps =>
        rw [e1, e2] at e
        cases e
        obtain ⟨as, kvs, rfl, pp, kr⟩ := pairsDk_v h2 e2
        unfold pairD at e1
        split at e1
        · rename_i kd d
          cases e3 : keyD kd with
          | none => rw [e3] at e1; cases e1
          | some y =>
            rw [e3] at e1
            cases e1
            obtain ⟨a, vs, rfl, g, rl⟩ := h1
            obtain ⟨v1, v2, rfl, f1, f2⟩ := rfl2 rl
            have := keyD_v f1 e3
            subst this
            exact ⟨a :: as, (y, v2) :: kvs, rfl, .cons g.sq pp, v2, kvs, rfl, f2, kr⟩
        · cases e1
def fDict : List D → Option D
  | [.lst xs] => (pairsDk xs).map fun ps => dctOf (mergeKD [] ps)
  | _ => none
abbrev rDict (K : Frag) : List V → Hp → VK → Prop := fun xs H Q => ∃ (a : Addr) (ps : List Addr) (kvs : List (Key × V)), xs = [.ref a] ∧ SqL K H a (ps.map V.ref) ∧ Paired (fun p kv => SqT K H p [kV kv.1, kv.2]) ps kvs ∧ ∀ p, H p = none → Q (.ref p) (upd H p (.dK (mergeK [] kvs)))
theorem dict_run {Z : Addr → Prop} {H : Hp} {ds : List D} {vs : List V} {d : D} {Q : VK} (f1 : RfL G Z H ds vs) (e : fDict ds = some d) (q : ∀ ps kvs, d = dctOf (mergeKD [] ps) → KvR G Z H (mergeKD [] ps) (mergeK [] kvs) → ∀ p, H p = none → Q (.ref p) (upd H p (.dK (mergeK [] kvs)))) : rDict G.K vs H Q := by
  unfold fDict at e
  split at e
  · rename_i xs
    obtain ⟨v, rfl, a, ws, rfl, fz, rl⟩ := rfl1 f1
    cases e1 : pairsDk xs with
    | none => rw [e1] at e; cases e
    | some ps =>
      rw [e1] at e
      cases e
      obtain ⟨as, kvs, rfl, pp, kr⟩ := pairsDk_v rl e1
      exact ⟨a, as, kvs, rfl, fz.sq, pp, q ps kvs rfl (KvR.merge kr rfl)⟩
  · cases e
theorem n_dict : OpN G W (rDict G.K) fDict := fun Z O ρ σ H vs ds d Q rr f1 e q => dict_run f1 e fun ps kvs ed kr p hp => by subst ed; exact cont_dct rr kr q p hp
theorem no_dict : OpNO G W (rDict G.K) fDict := fun Z O ρ σ H vs ds d Q rr f1 e q => dict_run f1 e fun ps kvs ed kr p hp => by subst ed; exact contO_dct rr kr q p hp
/-! ### d[k] = v, d owned -/
def sDput (i : Nat) (mk mv : M D) : M Fl := fun ρ => (mv ρ).bind fun v ρ1 => match getO ρ1 i with
  | some (.dct _ _) => (mk ρ1).bind fun k ρ2 => (match getO ρ2 i, keyD k with
    | some (.dct ks xs), some y => if ks.length < lim then .ok .nx (putO ρ2 i (dctOf (putKD (ks.zip xs) y v))) else .bad
    | _, _ => .bad)
  | _ => .bad
theorem s_dput {o k e : Expr} {i : Nat} {mk mv : M D} {pos pos' : Pos} (hu : X.A.units + 1 < cLine) (ho : PE X o (tVar i)) (hk : PE X k (lift G W mk)) (he : PE X e (lift G W mv)) (hs : swapsWith e (some (.Subscript o k pos')) pos.line X.env = pure false := by rfl) :
    PS X (.Assign [.Subscript o k pos'] e pos) (liftS G W I (sDput i mk mv)) := PS_imp (ps_dput hu ho hk he hs) fun E σ H q => by
  refine liftG.mono (liftS.bind (rep := repF G) q) fun v H1 ⟨Z1, O1, ρ1, d1, r1, f1, q1⟩ => ?_
  cases g1 : getO ρ1 i with
  | none => rw [g1] at q1; exact q1.elim
  | some dd =>
    rw [g1] at q1
    cases dd <;> first | exact q1.elim | skip
    obtain ⟨w, hw, _⟩ := r1.getO g1
    refine ⟨w, hw, Z1, O1, ρ1, r1, (contS.bind (rep := repF G) q1).mono fun y H2 ⟨Z2, O2, ρ2, d2, x2, r2, f2, q2⟩ => ?_⟩
    cases g2 : getO ρ2 i with
    | none => rw [g2] at q2; exact q2.elim
    | some de =>
      rw [g2] at q2
      cases de <;> first | exact q2.elim | skip
      rename_i ks xs
      cases e3 : keyD d2 with
      | none => rw [e3] at q2; exact q2.elim
      | some key =>
        rw [e3] at q2
        simp only at q2
        split at q2
        · rename_i hl
          obtain ⟨w2, hw2, hown⟩ := r2.getO g2
          have hown' := hown
          obtain ⟨a, vs, rfl, fp, ha, l, rl⟩ := hown
          rw [hw] at hw2
          cases hw2
          have hz : (ks.zip vs).length = ks.length := by rw [List.length_zip, l, ← rl.length, Nat.min_self]
          have hm : a ∈ O2 i := by rw [fp]; simp
          refine ⟨a, _, rfl, by rw [keyD_v f2 e3]; exact DPut.k ha (by rw [hz, ← lim_eq]; exact hl), ?_⟩
          have kr := (KvR.zip l rl).put (k := key) (r1.rf x2 f1)
          refine q2 Z2 O2 σ _ (r2.owt hown' hm) (fun _ _ => rfl) (r2.putO g2 hw hm ?_)
          rw [fp]
          exact dctOf_own (kr.keep (fun _ z => z) fun b o z e => by rw [upd_ne fun (q : b = a) => r2.oz i a hm (q ▸ z)]; exact .inl e) upd_same
        · exact q2.elim
/-! ### sorted -/
def insS (x : Str) : List Str → List Str
  | [] => [x]
  | y :: ys => if ltCps y.cps.toList x.cps.toList = true then y :: insS x ys else x :: y :: ys
def sortS : List Str → List Str
  | [] => []
  | x :: xs => insS x (sortS xs)
theorem insS_perm (x : Str) : ∀ ys, (insS x ys).Perm (x :: ys)
  | [] => .refl _
  | y :: ys => by
    unfold insS
    split
    · exact ((insS_perm x ys).cons y).trans (.swap x y ys)
    · exact .refl _
theorem sortS_perm : ∀ xs, (sortS xs).Perm xs
  | [] => .refl _
  | x :: xs => (insS_perm x _).trans ((sortS_perm xs).cons x)
def leS (a b : Str) : Prop := ltCps b.cps.toList a.cps.toList = false
theorem lt_irr : ∀ a : List Nat, ltCps a a = false
  | [] => rfl
  | a :: r => by unfold ltCps; simp [lt_irr r]
theorem lt_asym : ∀ a b : List Nat, ltCps a b = true → ltCps b a = false
  | [], [], h => by cases h
  | [], _ :: _, _ => rfl
  | _ :: _, [], h => by cases h
  | a :: r, b :: t, h => by
    unfold ltCps at h ⊢
    simp only [Bool.or_eq_true, decide_eq_true_eq, Bool.and_eq_true, beq_iff_eq] at h
    rcases h with h | ⟨rfl, h⟩
    · simp only [Bool.or_eq_false_iff, decide_eq_false_iff_not, Bool.and_eq_false_imp, beq_iff_eq]
      exact ⟨by omega, fun e => by omega⟩
    · simp [lt_asym r t h]
theorem lt_anti : ∀ a b : List Nat, ltCps a b = false → ltCps b a = false → a = b
  | [], [], _, _ => rfl
  | [], _ :: _, h, _ => by cases h
  | _ :: _, [], _, h => by cases h
  | a :: r, b :: t, h, k => by
    unfold ltCps at h k
    simp only [Bool.or_eq_false_iff, decide_eq_false_iff_not, Bool.and_eq_false_imp, beq_iff_eq] at h k
    have e : a = b := by omega
    subst e
    rw [lt_anti r t (h.2 rfl) (k.2 rfl)]
theorem lt_trans' : ∀ a b c : List Nat, ltCps a b = false → ltCps b c = false → ltCps a c = false
  | [], [], c, h, k => k
  | [], _ :: _, _, h, _ => by cases h
  | a :: r, [], [], h, k => rfl
  | _ :: _, [], _ :: _, _, k => by cases k
  | a :: r, b :: t, [], h, k => rfl
  | a :: r, b :: t, c :: u, h, k => by
    unfold ltCps at h k ⊢
    simp only [Bool.or_eq_false_iff, decide_eq_false_iff_not, Bool.and_eq_false_imp, beq_iff_eq] at h k ⊢
    refine ⟨by omega, fun e => ?_⟩
    have e1 : a = b := by omega
    have e2 : b = c := by omega
    exact lt_trans' r t u (h.2 e1) (k.2 e2)
theorem leS_trans {a b c : Str} (h : leS a b) (k : leS b c) : leS a c := lt_trans' _ _ _ k h
theorem leS_anti {a b : Str} (h : leS a b) (k : leS b a) : a = b := by
  have := lt_anti _ _ k h
  obtain ⟨⟨l⟩⟩ := a
  obtain ⟨⟨m⟩⟩ := b
  simp only at this
  rw [this]
theorem insS_sorted (x : Str) : ∀ ys : List Str, ys.Pairwise leS → (insS x ys).Pairwise leS
  | [], _ => List.pairwise_singleton _ _
  | y :: ys, h => by
    obtain ⟨h1, h2⟩ := List.pairwise_cons.mp h
    unfold insS
    split
    · rename_i q
      refine List.pairwise_cons.mpr ⟨fun z hz => ?_, insS_sorted x ys h2⟩
      rcases List.mem_cons.mp ((insS_perm x ys).mem_iff.mp hz) with rfl | hz
      · exact lt_asym _ _ q
      · exact h1 z hz
    · rename_i q
      have q : leS x y := by unfold leS; simpa using q
      exact List.pairwise_cons.mpr ⟨fun z hz => (List.mem_cons.mp hz).elim (fun e => e ▸ q) fun hz => leS_trans q (h1 z hz), h⟩
theorem sortS_sorted : ∀ xs : List Str, (sortS xs).Pairwise leS
  | [] => List.Pairwise.nil
  | x :: xs => insS_sorted x _ (sortS_sorted xs)
theorem sorted_eq {α : Type} {le : α → α → Prop} (anti : ∀ a b, le a b → le b a → a = b) : ∀ {xs ys : List α}, xs.Perm ys → xs.Pairwise le → ys.Pairwise le → xs = ys
  | [], ys, p, _, _ => (List.Perm.nil_eq p)
  | x :: xs, [], p, _, _ => by have := p.length_eq; simp at this
  | x :: xs, y :: ys, p, h, k => by
    obtain ⟨h1, h2⟩ := List.pairwise_cons.mp h
    obtain ⟨k1, k2⟩ := List.pairwise_cons.mp k
    have e : x = y := by
      rcases List.mem_cons.mp (p.mem_iff.mp (List.mem_cons_self)) with e | hx
      · exact e
      · rcases List.mem_cons.mp (p.mem_iff.mpr (List.mem_cons_self (a := y))) with e | hy
        · exact e.symm
        · exact anti _ _ (h1 y hy) (k1 x hx)
    subst e
    rw [sorted_eq anti (List.Perm.cons_inv p) h2 k2]
theorem rising_pw : ∀ (l : List Str) (p : Str), risingS p l = true → (p :: l).Pairwise leS
  | [], p, _ => List.pairwise_singleton _ _
  | x :: r, p, h => by
    unfold risingS at h
    rw [Bool.and_eq_true, Bool.not_eq_true'] at h
    have ih := rising_pw r x h.2
    exact List.pairwise_cons.mpr ⟨fun z hz => (List.mem_cons.mp hz).elim (fun e => e ▸ h.1) fun hz => leS_trans h.1 ((List.pairwise_cons.mp ih).1 z hz), ih⟩
theorem sortS_of {ys xs : List Str} (p : ys.Perm xs) (h : sortedS ys = true) : ys = sortS xs := by
  refine sorted_eq (le := leS) (fun _ _ => leS_anti) (p.trans (sortS_perm xs).symm) ?_ (sortS_sorted xs)
  cases ys with
  | nil => exact List.Pairwise.nil
  | cons y ys => exact rising_pw ys y h
def insI (x : Int) : List Int → List Int
  | [] => [x]
  | y :: ys => if y < x then y :: insI x ys else x :: y :: ys
def sortI : List Int → List Int
  | [] => []
  | x :: xs => insI x (sortI xs)
theorem insI_perm (x : Int) : ∀ ys, (insI x ys).Perm (x :: ys)
  | [] => .refl _
  | y :: ys => by
    unfold insI
    split
    · exact ((insI_perm x ys).cons y).trans (.swap x y ys)
    · exact .refl _
theorem sortI_perm : ∀ xs, (sortI xs).Perm xs
  | [] => .refl _
  | x :: xs => (insI_perm x _).trans ((sortI_perm xs).cons x)
theorem insI_sorted (x : Int) : ∀ ys : List Int, ys.Pairwise (· ≤ ·) → (insI x ys).Pairwise (· ≤ ·)
  | [], _ => List.pairwise_singleton _ _
  | y :: ys, h => by
    obtain ⟨h1, h2⟩ := List.pairwise_cons.mp h
    unfold insI
    split
    · rename_i q
      refine List.pairwise_cons.mpr ⟨fun z hz => ?_, insI_sorted x ys h2⟩
      rcases List.mem_cons.mp ((insI_perm x ys).mem_iff.mp hz) with rfl | hz
      · omega
      · exact h1 z hz
    · rename_i q
      exact List.pairwise_cons.mpr ⟨fun z hz => (List.mem_cons.mp hz).elim (fun e => by omega) fun hz => by have := h1 z hz; omega, h⟩
theorem sortI_sorted : ∀ xs : List Int, (sortI xs).Pairwise (· ≤ ·)
  | [] => List.Pairwise.nil
  | x :: xs => insI_sorted x _ (sortI_sorted xs)
theorem sortI_of {ys xs : List Int} (p : ys.Perm xs) (h : ys.Pairwise (· ≤ ·)) : ys = sortI xs := sorted_eq (le := (· ≤ ·)) (fun _ _ => Int.le_antisymm) (p.trans (sortI_perm xs).symm) h (sortI_sorted xs)
def strsD : List D → Option (List Str)
  | [] => some []
  | .str x :: xs => (strsD xs).map (x :: ·)
  | _ => none
theorem strsD_v {Z : Addr → Prop} {H : Hp} : ∀ {xs : List D} {vs : List V} {a : List Str}, RfL G Z H xs vs → strsD xs = some a → vs = a.map V.str
  | [], _, _, h, e => by cases h; cases e; rfl
  | .str i :: xs, _, _, ⟨v, w, q, h1, h2⟩, e => by
    unfold strsD at e
    cases e1 : strsD xs with
    | none => rw [e1] at e; cases e
    | some b => rw [e1] at e; cases e; cases h1; rw [q, strsD_v h2 e1]; rfl
  | .non :: _, _, _, _, e | .bl _ :: _, _, _, _, e | .int _ :: _, _, _, _, e | .ty _ :: _, _, _, _, e | .at _ :: _, _, _, _, e | .tup _ :: _, _, _, _, e | .lst _ :: _, _, _, _, e | .fls _ :: _, _, _, _, e | .dct _ _ :: _, _, _, _, e
  | .ins _ _ _ :: _, _, _, _, e | .exc _ _ _ :: _, _, _, _, e | .drw _ _ _ _ :: _, _, _, _, e | .lam _ :: _, _, _, _, e => by cases e
theorem strs_rf {Z : Addr → Prop} {H : Hp} : ∀ a : List Str, RfL G Z H (a.map D.str) (a.map V.str)
  | [] => rfl
  | _ :: a => ⟨_, _, rfl, rfl, strs_rf a⟩
theorem ints_rf {Z : Addr → Prop} {H : Hp} : ∀ a : List Int, RfL G Z H (a.map D.int) (a.map V.int)
  | [] => rfl
  | _ :: a => ⟨_, _, rfl, rfl, ints_rf a⟩
def keysS : List Key → Option (List Str)
  | [] => some []
  | .inr x :: ks => (keysS ks).map (x :: ·)
  | _ => none
theorem keysS_v : ∀ {ks : List Key} {a : List Str}, keysS ks = some a → ks = a.map Sum.inr
  | [], _, e => by cases e; rfl
  | .inr x :: ks, _, e => by
    unfold keysS at e
    cases e1 : keysS ks with
    | none => rw [e1] at e; cases e
    | some b => rw [e1] at e; cases e; rw [keysS_v e1]; rfl
  | .inl _ :: _, _, e => by cases e
def fSortedL : List D → Option D
  | [.lst xs] => match strsD xs with
    | some a => if a.length < 64 then some (.lst ((sortS a).map D.str)) else none
    | none => match intsD xs with
      | some a => if a.length < 64 then some (.lst ((sortI a).map D.int)) else none
      | none => none
  | _ => none
def fSortedD : List D → Option D
  | [.dct ks _] => (keysS ks).bind fun a => if a.length < 64 then some (.lst ((sortS a).map D.str)) else none
  | _ => none
def fSorted (ds : List D) : Option D := (fSortedL ds).orElse fun _ => fSortedD ds
abbrev rSortedL (K : Frag) : List V → Hp → VK → Prop := fun vs H Q => rSortedS K vs H Q ∨ L2.rSorted K vs H Q
abbrev rSortedDk : List V → Hp → VK → Prop := fun xs H Q => ∃ (a : Addr) (kvs : List (Key × V)) (ks : List Str), xs = [.ref a] ∧ Rd H a (.dK kvs) ∧ kvs.map (·.1) = ks.map Sum.inr ∧ ks.length < 64 ∧ ∀ ys p, ys.Perm ks → sortedS ys = true → H p = none → Q (.ref p) (upd H p (.lst (ys.map V.str)))
theorem sortedL_run {Z : Addr → Prop} {H : Hp} {ds : List D} {vs : List V} {d : D} {Q : VK} (f1 : RfL G Z H ds vs) (e : fSortedL ds = some d) (q : ∀ xs ws, d = .lst xs → (∀ Z H, RfL G Z H xs ws) → ∀ p, H p = none → Q (.ref p) (upd H p (.lst ws))) : rSortedL G.K vs H Q := by
  unfold fSortedL at e
  split at e
  · rename_i xs
    obtain ⟨v, rfl, a, ws, rfl, fz, rl⟩ := rfl1 f1
    cases e1 : strsD xs with
    | some b =>
      rw [e1] at e
      simp only at e
      split at e
      · rename_i h
        cases e
        have ew := strsD_v rl e1
        subst ew
        exact .inl ⟨a, b, rfl, fz.sq, h, fun ys p pm so hp => by rw [sortS_of pm so]; exact q _ _ rfl (fun _ _ => strs_rf _) p hp⟩
      · cases e
    | none =>
      rw [e1] at e
      simp only at e
      cases e2 : intsD xs with
      | none => rw [e2] at e; cases e
      | some b =>
        rw [e2] at e
        simp only at e
        split at e
        · rename_i h
          cases e
          have ew := intsD_v rl e2
          subst ew
          exact .inr ⟨a, b, rfl, fz.sq, h, fun ys p pm so hp => by rw [sortI_of pm so]; exact q _ _ rfl (fun _ _ => ints_rf _) p hp⟩
        · cases e
  · cases e
theorem sortedD_run {Z : Addr → Prop} {H : Hp} {ds : List D} {vs : List V} {d : D} {Q : VK} (f1 : RfL G Z H ds vs) (e : fSortedD ds = some d) (q : ∀ xs ws, d = .lst xs → (∀ Z H, RfL G Z H xs ws) → ∀ p, H p = none → Q (.ref p) (upd H p (.lst ws))) : rSortedDk vs H Q := by
  unfold fSortedD at e
  split at e
  · rename_i ks xs
    obtain ⟨v, rfl, a, ws, rfl, g, l, rl⟩ := rfl1 f1
    cases e1 : keysS ks with
    | none => rw [e1] at e; cases e
    | some b =>
      rw [e1] at e
      simp only [Option.bind_some] at e
      split at e
      · rename_i h
        cases e
        refine ⟨a, _, b, rfl, g.2, ?_, h, fun ys p pm so hp => by rw [sortS_of pm so]; exact q _ _ rfl (fun _ _ => strs_rf _) p hp⟩
        rw [← keysS_v e1]
        exact List.map_fst_zip (by rw [l, rl.length]; exact Nat.le_refl _)
      · cases e
  · cases e
theorem n_sortedL : OpN G W (rSortedL G.K) fSortedL := fun Z O ρ σ H vs ds d Q rr f1 e q => sortedL_run f1 e fun xs ws ed rl p hp => by subst ed; exact cont_lst rr (rl _ _) q p hp
theorem n_sortedD : OpN G W rSortedDk fSortedD := fun Z O ρ σ H vs ds d Q rr f1 e q => sortedD_run f1 e fun xs ws ed rl p hp => by subst ed; exact cont_lst rr (rl _ _) q p hp
theorem n_sorted : OpN G W (fun vs H Q => rSortedL G.K vs H Q ∨ rSortedDk vs H Q) fSorted := .or n_sortedL n_sortedD
theorem call_sorted (hc : X.calm = true) : CallR X (.builtin "sorted") (fun vs H Q => rSortedL X.K vs H Q ∨ rSortedDk vs H Q) := callR_or (callR_or cr_sortedS cr_sorted) (call_sortedD hc)
end PB
set_option maxRecDepth 100000
set_option maxHeartbeats 4000000
/-! PX32: dicts walked, locked from then on; what is walked by the kind of the data. -/
namespace PB
open PySem PySem.Spec PySem.Calls L2
open PySem.W (Frag)
variable {G : Gc} {W : WX} {X : Cx} {I : List Nat}
section
variable {Z : Addr → Prop} {O : Nat → List Addr} {ρ : Env} {σ : L2.St} {H : Hp}
theorem R.lock {a : Addr} {kvs : List (Key × V)} {od : Obj} (r : R G Z O ρ σ H) (z : Z a) (e : H a = some (.dK kvs)) : R G Z O ρ σ (upd H a (.frz od (.dK kvs))) ∧ Ext Z O H Z O (upd H a (.frz od (.dK kvs))) := by
  have kp : ∀ b o, H b = some o → Kpt o (upd H a (.frz od (.dK kvs)) b) := fun b o q => by
    by_cases hb : b = a
    · subst hb
      rw [e] at q; cases q
      exact .inr ⟨od, kvs, rfl, upd_same⟩
    · exact .inl (by rw [upd_ne hb]; exact q)
  refine ⟨{ len := r.len, sl := fun i s q => ?_, nd := r.nd, dj := r.dj, oz := r.oz, od := fun i b h => ?_, zd := fun b h => ?_, tb := tabs_at r.tb (by rw [e]; exact .of) }, fun _ z => z, fun b o q n => ?_, fun _ z => .inl z, fun _ h => .inl h, fun b q => ?_⟩
  · exact (r.sl i s q).keep (fun _ z => z) (fun b o _ q => kp b o q) fun b hb o q => by rw [upd_ne fun (h : b = a) => r.oz i b hb (h ▸ z)]; exact q
  · rw [upd_ne fun (q : b = a) => r.oz i b h (q ▸ z)]; exact r.od i b h
  · by_cases hb : b = a
    · rw [hb, upd_same]; exact .of
    · rw [upd_ne hb]; exact r.zd b h
  · by_cases hb : b = a
    · subst hb
      rw [e] at q; cases q
      exact .inr (.inl ⟨z, od, kvs, rfl, upd_same⟩)
    · exact .inl (by rw [upd_ne hb]; exact q)
  · by_cases hb : b = a
    · rw [hb, upd_same] at q; cases q
    · rw [upd_ne hb] at q; exact q
end
def keyDt : Key → D
  | .inl i => .int i
  | .inr x => .str x
theorem keyDt_v {Z : Addr → Prop} {H : Hp} : ∀ k : Key, Rf G Z H (keyDt k) (kV k)
  | .inl _ => rfl
  | .inr _ => rfl
def asDk : D → Option (List D)
  | .dct ks _ => some (ks.map keyDt)
  | _ => none
def asDi : D → Option (List D)
  | .dct ks xs => some (pairsD ks xs)
  | _ => none
def asDv : D → Option (List D)
  | .dct _ xs => some xs
  | _ => none
theorem pairsD_length : ∀ {ks : List Key} {xs : List D}, ks.length = xs.length → (pairsD ks xs).length = ks.length
  | [], [], _ => rfl
  | [], _ :: _, l => by simp at l
  | _ :: _, [], l => by simp at l
  | .inl _ :: ks, _ :: xs, l => by unfold pairsD; rw [List.length_cons, pairsD_length (by simpa using l), List.length_cons]
  | .inr _ :: ks, _ :: xs, l => by unfold pairsD; rw [List.length_cons, pairsD_length (by simpa using l), List.length_cons]
theorem pairsD_get : ∀ {ks : List Key} {xs : List D} {i : Nat} {y : D}, (pairsD ks xs)[i]? = some y → ∃ k x, ks[i]? = some k ∧ xs[i]? = some x ∧ y = .tup [keyDt k, x]
  | [], _, _, _, e => by unfold pairsD at e; simp at e
  | _ :: _, [], _, _, e => by unfold pairsD at e; simp at e
  | .inl k :: ks, x :: xs, 0, y, e => by unfold pairsD at e; simp at e; exact ⟨_, _, rfl, rfl, e.symm⟩
  | .inr k :: ks, x :: xs, 0, y, e => by unfold pairsD at e; simp at e; exact ⟨_, _, rfl, rfl, e.symm⟩
  | .inl k :: ks, x :: xs, i + 1, y, e => by
    unfold pairsD at e
    obtain ⟨k', x', h1, h2, h3⟩ := pairsD_get (ks := ks) (xs := xs) (i := i) (y := y) (by simpa using e)
    exact ⟨k', x', by simpa using h1, by simpa using h2, h3⟩
  | .inr k :: ks, x :: xs, i + 1, y, e => by
    unfold pairsD at e
    obtain ⟨k', x', h1, h2, h3⟩ := pairsD_get (ks := ks) (xs := xs) (i := i) (y := y) (by simpa using e)
    exact ⟨k', x', by simpa using h1, by simpa using h2, h3⟩
theorem zip_get {ks : List Key} {vs : List V} {i : Nat} {k : Key} {v : V} (h1 : ks[i]? = some k) (h2 : vs[i]? = some v) : (ks.zip vs)[i]? = some (k, v) := by
  rw [List.getElem?_zip_eq_some]; exact ⟨h1, h2⟩
section
variable {Z1 : Addr → Prop} {H1 : Hp} {a : Addr} {o : Obj} {ks : List Key} {xs : List D} {vs : List V}
theorem wk_keys (z : Z1 a) (e : H1 a = some (.frz o (.dK (ks.zip vs)))) (l : ks.length = xs.length) (rl : RfL G Z1 H1 xs vs) : Wk G Z1 H1 (Itk a o (ks.zip vs)) (ks.map keyDt) := by
  have hl : (ks.zip vs).length = ks.length := by rw [List.length_zip, l, ← rl.length, Nat.min_self]
  exact {
    stop := fun Z H zs k => ⟨k.eq z e, by rw [hl, List.length_map]; exact Nat.le_refl _⟩
    go := fun Z H i zs k h => ⟨k.eq z e, by rw [hl]; rw [List.length_map] at h; exact h⟩
    yld := fun Z O ρ σ H i x v H' r zs k q y => by
      obtain ⟨rfl, key, w, e1, rfl⟩ := y
      rw [List.getElem?_zip_eq_some] at e1
      rw [List.getElem?_map, e1.1] at q
      cases q
      exact ⟨Z, .refl, r, keyDt_v key⟩ }
theorem wk_vals (z : Z1 a) (e : H1 a = some (.frz o (.dK (ks.zip vs)))) (l : ks.length = xs.length) (rl : RfL G Z1 H1 xs vs) : Wk G Z1 H1 (Itd a o (ks.zip vs)) xs := by
  have hl : (ks.zip vs).length = xs.length := by rw [List.length_zip, l, ← rl.length, Nat.min_self]
  exact {
    stop := fun Z H zs k => ⟨k.eq z e, by rw [hl]; exact Nat.le_refl _⟩
    go := fun Z H i zs k h => ⟨k.eq z e, by rw [hl]; exact h⟩
    yld := fun Z O ρ σ H i x v H' r zs k q y => by
      obtain ⟨rfl, key, e1⟩ := y
      rw [List.getElem?_zip_eq_some] at e1
      obtain ⟨w, ew, fw⟩ := rl.get q
      rw [e1.2] at ew; cases ew
      exact ⟨Z, .refl, r, fw.keep zs k⟩ }
theorem wk_items (z : Z1 a) (e : H1 a = some (.frz o (.dK (ks.zip vs)))) (l : ks.length = xs.length) (rl : RfL G Z1 H1 xs vs) : Wk G Z1 H1 (Iti a o (ks.zip vs)) (pairsD ks xs) := by
  have hl : (ks.zip vs).length = (pairsD ks xs).length := by rw [pairsD_length l, List.length_zip, l, ← rl.length, Nat.min_self]
  exact {
    stop := fun Z H zs k => ⟨k.eq z e, by rw [hl]; exact Nat.le_refl _⟩
    go := fun Z H i zs k h => ⟨k.eq z e, by rw [hl]; exact h⟩
    yld := fun Z O ρ σ H i x v H' r zs k q y => by
      obtain ⟨T, key, w, e1, rfl, hT, rfl⟩ := y
      rw [List.getElem?_zip_eq_some] at e1
      obtain ⟨key', x', g1, g2, rfl⟩ := pairsD_get q
      rw [e1.1] at g1; cases g1
      obtain ⟨w', ew, fw⟩ := rl.get g2
      rw [e1.2] at ew; cases ew
      refine ⟨addZ Z T, .new hT, r.new hT, T, [kV key, w], rfl, .inl ⟨.inr rfl, upd_same⟩, _, _, rfl, keyDt_v key, RfL.one ?_⟩
      exact fw.keep (fun a q => .inl (zs a q)) fun b o q e => (k b o q e).elim (fun e => .inl (upd_keep hT _ _ e)) fun ⟨od, kvs, eo, e⟩ => .inr ⟨od, kvs, eo, upd_keep hT _ _ e⟩ }
end
/-- a frozen dict, locked -/
theorem lock_run {m : M D} {f : D → Option (List D)} {σ : L2.St} {H : Hp} {Q : It → Hp → Prop} (hf : ∀ d ys, f d = some ys → ∃ ks xs, d = .dct ks xs)
    (J : Addr → Obj → List (Key × V) → It) (hw : ∀ {Z1 : Addr → Prop} {H1 : Hp} {a : Addr} {o : Obj} {ks : List Key} {xs : List D} {vs : List V} {ys : List D}, f (.dct ks xs) = some ys → Z1 a → H1 a = some (.frz o (.dK (ks.zip vs))) → ks.length = xs.length → RfL G Z1 H1 xs vs → Wk G Z1 H1 (J a o (ks.zip vs)) ys)
    (q : liftG G W (repW G) (mItems f m) σ H Q) : tMayLock (lift G W m) σ H fun x H1 => ∃ d o kvs, x = .ref d ∧ H1 d = some (.frz o (.dK kvs)) ∧ Q (J d o kvs) H1 := by
  unfold mItems at q
  refine liftG.mono (liftG.bind (rep := repF G) q) fun v H1 ⟨Z1, O1, ρ1, d1, r1, f1, q1⟩ => ?_
  cases e : f d1 with
  | none => rw [e] at q1; exact q1.elim
  | some ys =>
    rw [e] at q1
    obtain ⟨ks, xs, rfl⟩ := hf _ _ e
    obtain ⟨a, vs, rfl, ⟨z, rd⟩, l, rl⟩ := f1
    rcases rd with e1 | ⟨o, e1⟩
    · refine .inr ⟨a, _, e1, trivial, fun od => ?_⟩
      obtain ⟨r2, x2⟩ := r1.lock (od := od) z e1
      exact ⟨a, od, _, rfl, upd_same, q1 _ Z1 O1 _ x2 r2 (hw e z upd_same l (r1.rfL x2 rl))⟩
    · exact .inl ⟨a, o, _, rfl, e1, q1 _ Z1 O1 H1 .refl r1 (hw e z e1 l rl)⟩
theorem src_keys {m : M D} : Src G W (iKeys (tMayLock (lift G W m))) (mItems asDk m) := fun σ H Q q => by
  refine (fun (h : tMayLock (lift G W m) σ H _) => liftG.mono h ?_) (lock_run (fun d ys e => by cases d <;> first | (cases e; done) | exact ⟨_, _, rfl⟩) Itk (fun e z e1 l rl => by cases e; exact wk_keys z e1 l rl) q)
  intro v H1 h
  rcases h with ⟨d, o, kvs, rfl, e, h⟩ | ⟨a, u, e, mu, h⟩
  · exact .inl ⟨d, o, rfl, .inl ⟨kvs, e, h⟩⟩
  · exact .inr ⟨a, u, e, mu, fun od => let ⟨d, o, kvs, e1, e2, h2⟩ := h od; ⟨d, o, e1, .inl ⟨kvs, e2, h2⟩⟩⟩
theorem src_items {m : M D} : Src G W (iItems (tMayLock (lift G W m))) (mItems asDi m) := fun σ H Q q => lock_run (fun d ys e => by cases d <;> first | (cases e; done) | exact ⟨_, _, rfl⟩) Iti (fun e z e1 l rl => by cases e; exact wk_items z e1 l rl) q
theorem src_vals {m : M D} : Src G W (iVals (tMayLock (lift G W m))) (mItems asDv m) := fun σ H Q q => lock_run (fun d ys e => by cases d <;> first | (cases e; done) | exact ⟨_, _, rfl⟩) Itd (fun e z e1 l rl => by cases e; exact wk_vals z e1 l rl) q
/-- for x in e: a list, a tuple, a dict, a text -/
def asAll : D → Option (List D) := orL asL (orL asT (orL asDk asS))
abbrev iAll (K : Frag) (t : TE) : TI := fun σ H R => iList K t σ H R ∨ (iTup K t σ H R ∨ (iKeys (tMayLock t) σ H R ∨ iStr t σ H R))
theorem src_all {m : M D} : Src G W (iAll G.K (lift G W m)) (mItems asAll m) := src_or src_list (src_or src_tup (src_or src_keys src_str))
theorem pi_all {tg e : Expr} {m : M D} (hK : G.K = X.K) (he : PE X e (lift G W m)) : PI X tg e (iAll G.K (lift G W m)) := by
  rw [hK]
  exact PI_or (pi_list he) (PI_or (pi_tup he) (PI_or (pi_keys (pe_mayLock he)) (pi_str he)))
end PB
set_option maxRecDepth 100000
set_option maxHeartbeats 4000000
/-! PX33: calls with keywords, list(d.items()), products of texts, tuples, lists; op= of names. -/
namespace PB
open PySem PySem.Spec PySem.Calls L2
open PySem.W (Frag keepIn)
variable {G : Gc} {W : WX} {X : Cx} {I : List Nat}
/-! ### keywords -/
def pickL {α : Type} (idx : List Nat) (l : List α) : List α := idx.filterMap (l[·]?)
theorem RAs.pick {Z : Addr → Prop} {σ : L2.St} {H : Hp} {as : List Arg} {vs : List V} (h : RAs G Z σ H as vs) : ∀ idx : List Nat, RAs G Z σ H (pickL idx as) (pickL idx vs)
  | [] => .nil
  | i :: idx => by
    have ih := RAs.pick h idx
    unfold pickL at ih ⊢
    rw [List.filterMap_cons, List.filterMap_cons]
    cases e : as[i]? with
    | none =>
      rw [List.getElem?_eq_none (by rw [← h.length]; exact List.getElem?_eq_none_iff.mp e)]
      exact ih
    | some a =>
      obtain ⟨v, e2, r⟩ := h.get e
      rw [e2]
      exact .cons r ih
theorem vals_get' : ∀ {vs : List V} {us : List Value} {i : Nat} {v : V}, Vals vs us → vs[i]? = some v → ∃ u, us[i]? = some u ∧ RelV v u
  | _, _, 0, _, .cons h _, e => by simp at e; subst e; exact ⟨_, rfl, h⟩
  | _, _, i + 1, _, .cons _ h, e => by
    obtain ⟨u, e1, e2⟩ := vals_get' (i := i) h (by simpa using e)
    exact ⟨u, by simpa using e1, e2⟩
theorem vals_pick {vs : List V} {us : List Value} (h : Vals vs us) : ∀ idx : List Nat, Vals (pickL idx vs) (pickL idx us)
  | [] => .nil
  | i :: idx => by
    have ih := vals_pick h idx
    unfold pickL at ih ⊢
    rw [List.filterMap_cons, List.filterMap_cons]
    cases e : vs[i]? with
    | none =>
      rw [List.getElem?_eq_none (by rw [← h.length]; exact List.getElem?_eq_none_iff.mp e)]
      exact ih
    | some v =>
      obtain ⟨u, e2, r⟩ := vals_get' h e
      rw [e2]
      exact .cons r ih
theorem RAs.keep {Z Z' : Addr → Prop} {H H' : Hp} {σ : L2.St} {as : List Arg} {vs : List V} (zs : ∀ a, Z a → Z' a) (k : Kp Z H H') (h : RAs G Z σ H as vs) : RAs G Z' σ H' as vs := by
  induction h with
  | nil => exact .nil
  | cons h1 _ ih => exact .cons (h1.keep zs k) ih
theorem RAs.append {Z : Addr → Prop} {H : Hp} {σ : L2.St} {as bs : List Arg} {vs ws : List V} (h : RAs G Z σ H as vs) (k : RAs G Z σ H bs ws) : RAs G Z σ H (as ++ bs) (vs ++ ws) := by
  induction h with
  | nil => exact k
  | cons h1 _ ih => exact .cons h1 ih
theorem PK_imp {kws : List Keyword} {t t' : TA} (h : PK X kws t) (w : ∀ σ H Q, t' σ H Q → t σ H Q) : PK X kws t' := ⟨fun pos pins s σ H Q J q => h.run pos pins s σ H Q J (w _ _ _ q)⟩
theorem kk_nil : PK X [] (liftA G W aNil) := PK_imp pk_nil fun σ H Q ⟨Z, O, ρ, r, q⟩ => q _ Z O H .refl r .nil
theorem kk_v {e : Expr} {kws : List Keyword} {nm : Option Str} {kpos : Pos} {m : M D} {ms : M (List Arg)} (h : PE X e (lift G W m)) (hs : PK X kws (liftA G W ms)) : PK X (⟨nm, e, kpos⟩ :: kws) (liftA G W (aV m ms)) :=
  PK_imp (pk_cons h hs) fun σ H Q q => by
    refine liftG.mono (liftG.bind (rep := repF G) q) fun v H1 ⟨Z1, O1, ρ1, d1, r1, f1, q1⟩ => ?_
    refine ⟨Z1, O1, ρ1, r1, (contG.bind (rep := repA G) q1).mono fun w H2 ⟨Z2, O2, ρ2, d2, x, r2, f2, q2⟩ => ?_⟩
    exact q2 _ Z2 O2 H2 .refl r2 (.cons (show repA1 G Z2 σ H2 (.v d1) v from r1.rf x f1) f2)
theorem kk_sv {e : Expr} {kws : List Keyword} {nm : Option Str} {kpos : Pos} {i : Nat} {ms : M (List Arg)} (h : PE X e (tVar i)) (hs : PK X kws (liftA G W ms)) : PK X (⟨nm, e, kpos⟩ :: kws) (liftA G W (aSV i ms)) :=
  PK_imp (pk_cons h hs) fun σ H Q ⟨Z, O, ρ, r, q⟩ => asv_run r q
def mCallK (idx : List Nat) (F : Env → FR) (ms mk : M (List Arg)) : M D := fun ρ => (ms ρ).bind fun as ρ => (mk ρ).bind fun bs ρ => if as.length + bs.length = idx.length then callR F (pickL idx (as ++ bs)) ρ else .bad
/-- how f binds such arguments: n ahead, then those named ks -/
def KwB (x : Str) (st : Stmt) (ps ks : List Str) (n : Nat) (idx : List Nat) : Prop := ∀ (kV doc pm : Value) (an : Option Addr) (cdv ct : Value) (us ws : List Value), us.length = n → ws.length = ks.length → bindArgs (fdOf x st kV doc pm an cdv ct) ⟨us, ks.zip ws⟩ = pure (ps.zip (pickL idx (us ++ ws)))
section
variable {k j n : Nat} {ps ks : List Str} {st : Stmt} {F : Env → FR} {x : Str} {p pos : Pos} {e : Expr} {es : List Expr} {kws : List Keyword} {ms mk : M (List Arg)} {idx : List Nat}
theorem callK_run {pins : List (Addr × Obj)} {σ : L2.St} {H : Hp} {s : Shared} {Q : VK} {us ws : List Value} {vs zs : List V} {f : Addr} {kV doc pm : Value} {an : Option Addr} {cdv ct : Value} (tk : Takes X W) (hF : FnOk X.prog X.w X.K X.mg X.base (L2.CX X.prog X.w) k f (fdOf x st kV doc pm an cdv ct) ps (spF G F)) (hr : Room k X.A) (hb : KwB x st ps ks n idx)
    (J : L2.Inv X pins σ H s) (r : Vals vs us) (rz : Vals zs ws) (l1 : vs.length = n) (l2 : zs.length = ks.length) (h : spF G F (pickL idx (vs ++ zs)) H Q (WE W σ)) : wpAny (model X.prog X.w) X.A (call (.ref f) us (ks.zip ws)) (EP X pins σ Q) X.xe s := by
  have r2 : Vals (pickL idx (vs ++ zs)) (pickL idx (us ++ ws)) := vals_pick (r.append rz) idx
  refine wpAny_call (codeAny_mono (hF.run X.A X.stack s H ⟨us, ks.zip ws⟩ (pickL idx (us ++ ws)) (pickL idx (vs ++ zs)) Q (WE W σ) hr J.env0 (.of_eq (hb kV doc pm an cdv ct us ws (r.length.symm.trans l1) (rz.length.symm.trans l2))) r2 h) fun r s' hq => ?_)
  cases r with
  | error e => exact passAt tk σ pins H s e s' J hq
  | ok fl =>
    cases fl with
    | ret u => exact J.after hq
    | next => exact False.elim hq
    | brk => exact False.elim hq
    | cont => exact False.elim hq
theorem liftA_len {ms : M (List Arg)} {σ : L2.St} {H : Hp} {Q : List V → Hp → Prop} (q : liftA G W ms σ H Q) : liftA G W ms σ H Q := q
/-- f(k = v, ..) -/
theorem d_calK0 (tk : Takes X W) (C : Callee X.prog X.w X.K X.mg X.base k x ps st G F) (hr : Room j X.A) (hj : k ≤ j) (hg : Gl X x) (hb : KwB x st ps ks 0 idx) (hl : idx.length = ks.length) (hkw : PK X kws (liftA G W mk)) (hdb : (x == ("__debug__" : Str)) = false := by decide)
    (hall : (backToKw pos (keywordEach kws X.env)).all (·.1.isSome) = true := by rfl) (hks : (backToKw pos (keywordEach kws X.env)).filterMap (·.1) = ks := by rfl)
    (hpl : ((backTo pos (starEach [] X.env)).any (·.1) || (backToKw pos (keywordEach kws X.env)).any (·.1.isNone)) = false := by rfl) : PE X (.Call (.Name x p) [] kws pos) (lift G W (mCallK idx F aNil mk)) := by
  obtain ⟨f, kV, doc, pm, an, cdv, ct, h1, h2, h3, h4⟩ := C.ex
  refine ⟨fun pins s σ H Q J q => wpAny_Call_Name_kw (ld_glob J hg h2 (PySem.W.callWith_KW0 (h₀ := X.base) J.ok.mod.kin h3 hall ?_ hpl) hdb)⟩
  have q : lift G W (fun ρ => (mk ρ).bind fun bs ρ => if 0 + bs.length = idx.length then callR F (pickL idx ([] ++ bs)) ρ else .bad) σ H Q := q
  refine thn (hkw.run pos pins s σ H _ J (liftG.bind (rep := repA G) q)) fun ws s2 ⟨zs, H2, J2, rz, Z2, O2, ρ2, bs, r2, f2, q2⟩ => ⟨J2.kIn, ?_⟩
  rw [hks]
  split at q2
  · rename_i el
    refine callK_run (us := []) (vs := []) tk h1 (hr.mono hj) hb J2 .nil rz rfl (by rw [← f2.length]; omega) ?_
    exact call_cont r2 (f2.pick idx) q2
  · exact q2.elim
/-- f(e, .., k = v, ..) -/
theorem d_calK (tk : Takes X W) (C : Callee X.prog X.w X.K X.mg X.base k x ps st G F) (hr : Room j X.A) (hj : k ≤ j) (hg : Gl X x) (hb : KwB x st ps ks n idx) (hl : idx.length = n + ks.length) (ha : PA X (e :: es) (liftA G W ms)) (hkw : PK X kws (liftA G W mk)) (hn : ∀ ρ as ρ', ms ρ = .ok as ρ' → as.length = n) (hdb : (x == ("__debug__" : Str)) = false := by decide)
    (hall : (backToKw pos (keywordEach kws X.env)).all (·.1.isSome) = true := by rfl) (hks : (backToKw pos (keywordEach kws X.env)).filterMap (·.1) = ks := by rfl) (he : starEach (e :: es) X.env = (false, eval e X.env) :: starEach es X.env := by rfl)
    (hpl : ((backTo pos (starEach (e :: es) X.env)).any (·.1) || (backToKw pos (keywordEach kws X.env)).any (·.1.isNone)) = false := by rfl) : PE X (.Call (.Name x p) (e :: es) kws pos) (lift G W (mCallK idx F ms mk)) := by
  obtain ⟨f, kV, doc, pm, an, cdv, ct, h1, h2, h3, h4⟩ := C.ex
  refine ⟨fun pins s σ H Q J ⟨Z, O, ρ, r, q⟩ => wpAny_Call_Name_kw (ld_glob J hg h2 (PySem.W.callWith_KW (h₀ := X.base) J.ok.mod.kin h3 hall ?_ hpl he) hdb)⟩
  unfold mCallK at q
  cases e0 : ms ρ with
  | bad => rw [e0] at q; exact q.elim
  | ex y ρ1 => 
    rw [e0] at q
    exact thn (ha.run pos pins s σ H (fun _ _ => False) J ⟨Z, O, ρ, r, by rw [e0]; exact q⟩) fun us s1 ⟨vs, H1, J1, r1, z⟩ => z.elim
  | ok as ρ1 =>
    have hl1 := hn ρ as ρ1 e0
    rw [e0] at q
    refine thn (ha.run pos pins s σ H (fun vs H1 => ∃ Z1 O1, Ext Z O H Z1 O1 H1 ∧ R G Z1 O1 ρ1 σ H1 ∧ RAs G Z1 σ H1 as vs) J ⟨Z, O, ρ, r, by rw [e0]; exact fun v Z1 O1 H1 x r f => ⟨Z1, O1, x, r, f⟩⟩) fun us s1 ⟨vs, H1, J1, ru, Z1, O1, x1, r1, f1⟩ => ?_
    have q1 : contG G W (repF G) ((mk ρ1).bind fun bs ρ => if as.length + bs.length = idx.length then callR F (pickL idx (as ++ bs)) ρ else .bad) Z1 O1 σ H1 Q := contG.ext x1 q
    refine thn (hkw.run pos pins s1 σ H1 _ J1 ⟨Z1, O1, ρ1, r1, contG.bind (rep := repA G) q1⟩) fun ws s2 ⟨zs, H2, J2, rz, Z2, O2, ρ2, bs, x2, r2, f2, q2⟩ => ⟨J2.kIn, ?_⟩
    rw [hks]
    split at q2
    · rename_i el
      refine callK_run tk h1 (hr.mono hj) hb J2 ru rz (by rw [← f1.length]; exact hl1) (by rw [← f2.length]; omega) ?_
      exact call_cont r2 (((f1.keep x2.zs (Kp.of_ext r1 x2)).append f2).pick idx) q2
    · exact q2.elim
end
/-! ### list(d.items()) -/
section
variable {e : Expr} {te : TE} {apos cpos p pos : Pos}
theorem pe_lstI (hc : X.calm = true) (he : PE X e te) (hg : Gl X "list") (hm : X.mg "list" = none) (hv : bootBuiltins "list" = some (.type "list")) (hbase : attributeBase e "items" X.env (eval e X.env) = eval e X.env := by rfl) (hline : (apos.endLine == cpos.line) = true := by rfl)
    (hs : starEach [.Call (.Attribute e "items" apos) [] [] cpos] X.env = (false, eval (.Call (.Attribute e "items" apos) [] [] cpos) X.env) :: starEach [] X.env := by rfl) :
    PE X (.Call (.Name "list" p) [.Call (.Attribute e "items" apos) [] [] cpos] [] pos) (fun σ H Q => te σ H fun x H1 => ∃ (d : Addr) (kvs : List (Key × V)), x = .ref d ∧ Rd H1 d (.dK kvs) ∧
      ∀ (H' : Hp) (q : Addr) (ts : List Addr), (∀ b o, H1 b = some o → H' b = some o) → H1 q = none → (∀ t ∈ ts, H1 t = none) → H' q = some (.lst (ts.map V.ref)) → Paired (fun (t : Addr) (q : Key × V) => H' t = some (.tup [kV q.1, q.2])) ts kvs → Q (.ref q) H') := by
  refine ⟨fun pins s σ H Q J hq => wpAny_Call_Name_kw (ld_blt J hg hm hv (PyProof.Rows.callWith_type1 ?_ hs rfl))⟩
  rw [hs]
  show wpAny _ _ (spliced ((false, eval (.Call (.Attribute e "items" apos) [] [] cpos) X.env) :: backTo pos (starEach [] X.env))) _ _ s
  refine Calls.spliced_cons (wpAny_Call_method (T := "dict") (id := "dict.items") hbase rfl hline F.plainAttrs_dict F.slot_dict_items F.type_dict_items (thn (he.run pins s σ H _ J hq) fun u s1 ⟨x, H1, J1, rx, d, kvs, ex, hd, q⟩ => ?_))
  subst ex
  cases (show u = Value.ref d from rx)
  obtain ⟨hz, hs0, us, kv, hdo⟩ : ObjOk X.prog X.w H1 s1.heap d (.dK kvs) := rd_ok J1.hok hd
  obtain ⟨ep, hat⟩ := hdo.dictAt
  have lk : kvs.length = us.length := Paired.length kv
  have J2 : L2.Inv X pins σ H1 { s1 with heap := s1.heap.push { cls := .type "dict_items", data := .fields #[.ref d] } } := J1.kept (t' := s1.toks) fun b ob q => Heap.get?_push_of_some _ q
  refine ⟨hdo.typeIs, hdo.mapOf.noDict, ?_⟩
  show wpAny _ _ (callWith cpos (.builtin "dict.items") [.ref d] [] []) _ X.xe s1
  refine method_meetsIn F.slot_dict_items F.entry_dict_items rfl (PySem.evalArgs_none ⟨rfl, hdo.typeIs, F.args_dict_items_1 _, _, meets_dict_items (mixKind X.prog X.w) d hs0, ⟨us, hdo⟩, ?_⟩)
  refine Calls.spliced_nil (PySem.W.kdx_call (knd := mixKind X.prog X.w) (kvs := us) (ep := ep) (J1.ok.hd hc) ⟨_, Heap.get?_push_size _ rfl, rfl, rfl⟩ (hat.push _) (by omega) fun g tk acc c as hk hS hl hG hacc => ?_)
  obtain ⟨H', k1, k2, k3, k4, k5, k6, J3⟩ := LiI.items_laid (tk := tk) J2 hz kv hk hS hl hG hacc
  exact ⟨.ref _, H', J3, rfl, q H' _ as k1 k2 k3 k5 k6⟩
theorem d_lstI {m : M D} (hc : X.calm = true) (he : PE X e (lift G W m)) (hg : Gl X "list") (hm : X.mg "list" = none) (hv : bootBuiltins "list" = some (.type "list")) (hbase : attributeBase e "items" X.env (eval e X.env) = eval e X.env := by rfl) (hline : (apos.endLine == cpos.line) = true := by rfl)
    (hs : starEach [.Call (.Attribute e "items" apos) [] [] cpos] X.env = (false, eval (.Call (.Attribute e "items" apos) [] [] cpos) X.env) :: starEach [] X.env := by rfl) :
    PE X (.Call (.Name "list" p) [.Call (.Attribute e "items" apos) [] [] cpos] [] pos) (lift G W fun ρ => (mItems asDi m ρ).bind fun xs ρ => .ok (.lst xs) ρ) := PE_imp (pe_lstI hc he hg hm hv hbase hline hs) fun σ H Q ⟨Z, O, ρ, r, q⟩ => by
  have q : lift G W (fun ρ => (m ρ).bind fun d ρ => (optR (asDi d) ρ).bind fun xs ρ => .ok (.lst xs) ρ) σ H Q := ⟨Z, O, ρ, r, by
    have q2 : contG G W (repF G) (((m ρ).bind fun d ρ => optR (asDi d) ρ).bind fun xs ρ => .ok (.lst xs) ρ) Z O σ H Q := q
    rw [bind_bind] at q2
    exact q2⟩
  refine liftG.mono (liftG.bind (rep := repF G) q) fun v H1 ⟨Z1, O1, ρ1, d1, r1, f1, q1⟩ => ?_
  cases d1 <;> first | exact q1.elim | skip
  rename_i ks xs
  obtain ⟨a, vs, rfl, g, l, rl⟩ := f1
  refine ⟨a, _, rfl, g.2, fun H' q ts k1 kq k2 k3 k4 => ?_⟩
  have r2 : R G (fun a => Z1 a ∨ a ∈ q :: ts) O1 ρ1 σ H' := r1.grow (fun _ z => .inl z) k1 (fun i a h z => z.elim (r1.oz i a h) fun z => (r1.od i a h).ne ((List.mem_cons.mp z).elim (fun e => e ▸ kq) (k2 a))) fun a z => z.elim (fun z => let ⟨o, e, n⟩ := r1.zd a z; ⟨o, k1 a o e, n⟩) fun z => (List.mem_cons.mp z).elim (fun e => by rw [e, k3]; exact .of) fun z => by
    obtain ⟨j, y, e1, e2, e3⟩ := LiI.paired_ix k4 z
    rw [e3]; exact .of
  have x2 : Ext Z1 O1 H1 (fun a => Z1 a ∨ a ∈ q :: ts) O1 H' := ⟨fun _ z => .inl z, fun a o e _ => .inl (k1 a o e), fun a z => z.elim .inl fun z => .inr (.inr ((List.mem_cons.mp z).elim (fun e => e ▸ kq) (k2 a))), fun _ h => .inl h, fun a e => by
    cases q : H1 a with
    | none => rfl
    | some o => rw [k1 a o q] at e; cases e⟩
  exact q1 _ _ _ _ x2 r2 ⟨q, ts.map V.ref, rfl, ⟨.inr List.mem_cons_self, k3⟩, pairsD_v l rl (fun _ z => .inl z) (Kp.of fun a o _ e => k1 a o e) (fun t ht => .inr (List.mem_cons_of_mem _ ht)) k4⟩
end
/-! ### products -/
instance mulOkDec (x : Str) (n : Int) : Decidable (MulOk x n) := by unfold MulOk; infer_instance
def fMulS : D → D → Option D
  | .str x, .int n => if MulOk x n then some (.str (Txt.mul x n)) else none
  | _, _ => none
theorem op_mulS : OpR X (binaryOp .Mult) (fun x y H Q => ∃ a n, x = .str a ∧ y = .int n ∧ MulOk a n ∧ Q (.str (Txt.mul a n)) H) := by
  rintro pins s σ H x y v u Q J rx ry ⟨a, n, rfl, rfl, ok, q⟩
  obtain ⟨t, rfl⟩ := (show ∃ t, v = Value.str a t from rx)
  obtain ⟨t', rfl⟩ := (show ∃ t, u = Value.int n t from ry)
  exact PySem.SB.mul ok fun t2 k => ⟨.str (Txt.mul a n), H, J.tok k, ⟨_, rfl⟩, q⟩
theorem o_mulS : Op2 G W (fun x y H Q => ∃ a n, x = .str a ∧ y = .int n ∧ MulOk a n ∧ Q (.str (Txt.mul a n)) H) fMulS := .flat fun Z H v w d1 d2 d Q f1 f2 e q => by
  cases d1 <;> cases d2 <;> first | (cases e; done) | skip
  rename_i x n
  unfold fMulS at e
  simp only at e
  split at e
  · rename_i ok
    cases e; cases f1; cases f2
    exact ⟨_, _, rfl, rfl, ok, q _ fun _ _ => rfl⟩
  · cases e
theorem RfL.rep {Z : Addr → Prop} {H : Hp} {xs : List D} {vs : List V} (h : RfL G Z H xs vs) : ∀ n : Nat, RfL G Z H (List.replicate n xs).flatten (List.replicate n vs).flatten
  | 0 => rfl
  | n + 1 => by
    rw [List.replicate_succ, List.replicate_succ, List.flatten_cons, List.flatten_cons]
    exact h.append (RfL.rep h n)
def fMulT : D → D → Option D
  | .tup xs, .int n => if xs ≠ [] ∧ 2 ≤ n ∧ n ≤ 1000 ∧ xs.length ≤ 1000 then some (.tup (List.replicate n.toNat xs).flatten) else none
  | _, _ => none
theorem o_mulT : Op2 G W (rRepT G.K) fMulT := fun Z O ρ σ H v w d1 d2 d Q rr f1 f2 e q => by
  cases d1 <;> cases d2 <;> first | (cases e; done) | skip
  rename_i xs n
  unfold fMulT at e
  simp only at e
  split at e
  · rename_i ok
    cases e
    obtain ⟨a, vs, rfl, g, rl⟩ := f1
    refine ⟨a, n, vs, rfl, f2, g.sq, fun z => ok.1 ?_, ok.2.1, ok.2.2.1, by rw [← rl.length]; exact ok.2.2.2, cont_tup rr (rl.rep _) q⟩
    subst z
    exact List.eq_nil_of_length_eq_zero rl.length
  · cases e
def fMulL : D → D → Option D
  | .lst xs, .int n => if -(2 ^ 63) ≤ n ∧ n < 2 ^ 63 ∧ xs.length * n.toNat ≤ lim then some (.lst (List.replicate n.toNat xs).flatten) else none
  | _, _ => none
theorem o_mulL : Op2 G W L2.rRep fMulL := fun Z O ρ σ H v w d1 d2 d Q rr f1 f2 e q => by
  cases d1 <;> cases d2 <;> first | (cases e; done) | skip
  rename_i xs n
  unfold fMulL at e
  simp only at e
  split at e
  · rename_i ok
    cases e
    obtain ⟨a, vs, rfl, g, rl⟩ := f1
    exact ⟨a, n, vs, rfl, f2, g.2, ok.1, ok.2.1, by rw [← lim_eq, ← rl.length]; exact ok.2.2, cont_lst rr (rl.rep _) q⟩
  · cases e
def fMul : D → D → Option D := fun x y => (fMulI x y).orElse fun _ => (fMulL x y).orElse fun _ => (fMulT x y).orElse fun _ => fMulS x y
abbrev rMul (K : Frag) : R2 := fun x y H Q => rI CMul (fun i j => .int (i * j)) x y H Q ∨ (L2.rRep x y H Q ∨ (rRepT K x y H Q ∨ ∃ a n, x = .str a ∧ y = .int n ∧ MulOk a n ∧ Q (.str (Txt.mul a n)) H))
theorem op_mulA : OpR X (binaryOp .Mult) (rMul X.K) := opOr op_mul (opOr op_rep (opOr op_repT op_mulS))
theorem o_mulA : Op2 G W (rMul G.K) fMul := .or o_mulI (.or o_mulL (.or o_mulT o_mulS))
/-! ### name op= e -/
def sAug (f : D → D → Option D) (i : Nat) (m : M D) : M Fl := fun ρ => match ρ[i]? with
  | some (.fr x) => (m ρ).bind fun y ρ1 => match f x y with
    | some z => .ok .nx (ρ1.set i (.fr z))
    | none => .bad
  | _ => .bad
theorem s_aug {st : Stmt} {i : Nat} {ti : TIp} {f : D → D → Option D} {m : M D} (hi : I.contains i = false) (hf : OpF G ti f) (h : PS X st (tAug i (lift G W m) ti)) : PS X st (liftS G W I (sAug f i m)) :=
  PS_imp h fun E σ H ⟨Z, O, ρ, r, q⟩ => by
    unfold sAug at q
    cases e : ρ[i]? with
    | none => rw [e] at q; exact q.elim
    | some s =>
      rw [e] at q
      cases s <;> first | exact q.elim | skip
      rename_i x
      obtain ⟨_, v, hv, fx⟩ := r.sl i _ e
      refine ⟨v, slot_some hv, Z, O, ρ, r, (contS.bind (rep := repF G) q).mono fun u H1 ⟨Z1, O1, ρ1, y, x1, r1, f1, q1⟩ => ?_⟩
      cases e2 : f x y with
      | none => rw [e2] at q1; exact q1.elim
      | some z =>
        rw [e2] at q1
        exact hf Z1 H1 v u x y z _ (r.rf x1 fx) f1 e2 fun zv hz => q1 Z1 _ _ H1 .drop (keepI hi) (r1.setFr (hz Z1 H1))
theorem p_add : OpF G L2.rAdd (fI fun i j => i + j) := fun Z H v w d1 d2 d Q f1 f2 e q => by
  cases d1 <;> cases d2 <;> first | (cases e; done) | skip
  cases e; cases f1; cases f2
  exact ⟨_, _, rfl, rfl, q _ fun _ _ => rfl⟩
theorem p_sub : OpF G L2.rSub (fI fun i j => i - j) := fun Z H v w d1 d2 d Q f1 f2 e q => by
  cases d1 <;> cases d2 <;> first | (cases e; done) | skip
  cases e; cases f1; cases f2
  exact ⟨_, _, rfl, rfl, q _ fun _ _ => rfl⟩
end PB
set_option maxRecDepth 100000
set_option maxHeartbeats 4000000
/-! PX34: the law's def run by the caller, tables of code objects told. -/
namespace PB
open PySem PySem.Spec PySem.Calls PyProof.Rows L2
/-- nothing is told but frozen lists and such tables -/
def OnlyT (cs : List (Addr × Addr)) (H : Hp) : Prop := ∀ b, H b = none ∨ (H b = some (.tbl #[]) ∧ b ∈ cs.map (·.2)) ∨ ∃ o xs, H b = some (.frz o (.lst xs))
theorem law_callT {P : Program} {w : World} {K : PySem.W.Frag} {mg mb : Str → Option Value} {CX : CXT} {fa a : Addr} {cs : List (Addr × Addr)} {sp : Sp} {s₁ : Shared} {vs : List Value} {ns : List Int}
    (KX : K.In s₁.heap) (hns : s₁.heap.Ns mainGlobals mg) (hb : s₁.heap.Ns builtinsNs mb) (hbb : ∀ x : Str, x ≠ "__name__" → mb x = bootBuiltins x) (hlim : s₁.heap.NoLimit) (hg : s₁.gens = #[])
    (hT : ∀ p ∈ cs, s₁.heap.get? p.2 = some { cls := .none, data := .fields #[] }) (nT : ∀ p ∈ cs, K.lookup p.2 = none) (cT : ∀ p ∈ cs, PySem.W.CodeHd s₁.heap p.1 p.2)
    (hbm : ∃ (bm : Addr) (ob : Obj), mg "__builtins__" = some (.ref bm) ∧ bm ≠ builtinsNs ∧ s₁.heap.get? bm = some ob ∧ ob.cls = .type "module" ∧ ob.dict = some builtinsNs ∧ ob.data = .plain)
    (ha : s₁.heap.get? a = some { cls := .type "list", data := .seq vs.toArray }) (hi : IntsAre vs ns) (hl : ns.length ≤ sizeLine)
    (F : ∀ base : Heap, K.In base → base.Ns mainGlobals mg → (∀ p ∈ cs, LamX.TabB base mg p.1 p.2) → RunA P w K mg base CX fa sp)
    (hsp : ∀ H : Hp, OnlyT cs H → (∀ p ∈ cs, H p.2 = some (.tbl #[])) → SqL K H a (ns.map V.int) → sp [.ref a] H (fun v _ => v = .bl true) fun _ _ _ => False)
    (hCX : ∀ H e s', CX [] H s₁ (fun _ _ _ => False) e s' → False) :
    codeAny (model P w) callerA (.call (.ref fa) ⟨[.ref a], []⟩) (fun r s' => r = .ok (.ret (.bool true)) ∧ OldK s₁.heap s'.heap ∧ s'.os = s₁.os ∧ AllBare s'.gens) s₁ := by
  have rv := vals_ints hi
  have lenV := hi.length
  have tabAt : ∀ b : Addr, b ∈ cs.map (·.2) → s₁.heap.get? b = some { cls := .none, data := .fields #[] } := fun b hb => by
    obtain ⟨p, hp, rfl⟩ := List.mem_map.mp hb
    exact hT p hp
  have inT : ∀ p ∈ cs, p.2 ∈ cs.map (·.2) := fun p hp => List.mem_map.mpr ⟨p, hp, rfl⟩
  have aN : a ∉ cs.map (·.2) := fun z => by
    have q := tabAt a z
    rw [ha] at q
    cases q
  have main : ∀ H : Hp, OnlyT cs H → (∀ p ∈ cs, H p.2 = some (.tbl #[])) → SqL K H a (ns.map V.int) → HOk P w H s₁.heap → (∀ b, H b ≠ none → b = a ∨ b ∈ cs.map (·.2)) → (H a ≠ none → K.lookup a = none) →
      codeAny (model P w) callerA (.call (.ref fa) ⟨[.ref a], []⟩) (fun r s' => r = .ok (.ret (.bool true)) ∧ OldK s₁.heap s'.heap ∧ s'.os = s₁.os ∧ AllBare s'.gens) s₁ := by
    intro H hO hH hS hok hA hK
    have bs : ∀ {b : Addr} {o : Obj}, s₁.heap.get? b = some o → H b = none → (hidT s₁.heap H).get? b = some o := fun e n => hidT_get e n
    have free : ∀ {b : Addr} {o : Obj}, s₁.heap.get? b = some o → (∀ vs n, o.data ≠ .seq vs n) → o.data ≠ .fields #[] → H b = none := fun {b o} e h1 h2 => by
      cases q : H b with
      | none => rfl
      | some u =>
        rcases hA b (by rw [q]; simp) with e' | e'
        · rw [e', ha] at e; cases e; exact (h1 _ _ rfl).elim
        · rw [tabAt b e'] at e; cases e; exact (h2 rfl).elim
    have nd : ∀ {b : Addr} {o : Obj} {es : Array DictEntry} {ep : Nat}, s₁.heap.get? b = some o → o.data = .dict es ep → H b = none := fun {b o es ep} e d => free e (fun vs n z => by rw [d] at z; cases z) fun z => by rw [d] at z; cases z
    have nsK : ∀ {b : Addr} {m : Str → Option Value}, s₁.heap.Ns b m → (hidT s₁.heap H).Ns b m := fun {b m} ⟨o, es, ep, e, d, r⟩ => ⟨o, es, ep, bs e (nd e d), d, r⟩
    have kb : K.In (hidT s₁.heap H) := fun b o e => bs (KX b o e) (by
      cases q : H b with
      | none => rfl
      | some u =>
        rcases hA b (by rw [q]; simp) with e' | e'
        · subst e'
          rw [hK (by rw [q]; simp)] at e; cases e
        · obtain ⟨p, hp, rfl⟩ := List.mem_map.mp e'
          rw [nT p hp] at e; cases e)
    have md : Mod K mg (hidT s₁.heap H) := ⟨kb, nsK hns, ⟨mb, nsK hb, hbb⟩, let ⟨mc, h1, h2⟩ := hlim; ⟨mc, nsK h1, h2⟩⟩
    have tabs : ∀ p ∈ cs, LamX.TabB (hidT s₁.heap H) mg p.1 p.2 := fun p hp => by
      have hTp := hT p hp
      have notG : ∀ {b : Addr} {o : Obj}, s₁.heap.get? b = some o → o.data ≠ .fields #[] → b ≠ p.2 := fun {b o} e n z => by
        rw [z, hTp] at e; cases e; exact n rfl
      obtain ⟨og, esg, epg, eg, hdg, _⟩ := id hns
      refine ⟨?_, ?_, notG eg (by rw [hdg]; intro z; cases z)⟩
      · obtain ⟨o, us, file, tf, flags, tg, inF, text, tt, e1, r1, r2, r3, r⟩ := cT p hp
        exact ⟨o, us, file, tf, flags, tg, inF, text, tt, bs e1 (free e1 (fun vs n z => by rw [r2] at z; cases z) fun z => by rw [r2] at z; cases z; simp at r3), r1, r2, r3, r⟩
      · obtain ⟨bm, ob, b1, b2, b3, b4, b5, b6⟩ := hbm
        refine ⟨bm, ob, b1, b2, fun q => ?_, notG b3 (by rw [b6]; intro z; cases z), bs b3 (free b3 (fun vs n z => by rw [b6] at z; cases z) fun z => by rw [b6] at z; cases z), b4, b5, b6⟩
        rw [q, eg] at b3
        cases b3
        rw [hdg] at b6
        cases b6
    have e0 : Env0 P w K mg (hidT s₁.heap H) callerA [] s₁ H := ⟨rfl, md, fun b o e => of_hidT e, Nat.le_of_eq (hidT_size _ _), trivial, fun b hb => absurd (show b ∈ ([] : List Addr) from hb) (by simp), hok, .of_eq hg⟩
    refine codeAny_mono (F _ kb (nsK hns) tabs s₁ H a _ _ e0 (hsp H hO hH hS)) fun r s' h => ?_
    cases r with
    | error e => exact (hCX H e s' h).elim
    | ok fl =>
      cases fl with
      | ret u =>
        obtain ⟨v, H', os, bare, un, hok', r', q⟩ := h
        have q' : v = .bl true := q
        subst q'
        cases (show u = Value.bool true from r')
        have stays : ∀ b o, b ∉ cs.map (·.2) → s₁.heap.get? b = some o → s'.heap.get? b = some o := fun b o nb e => by
          cases q : H b with
          | none => exact un.keep b o e q (fun z => absurd (show b ∈ ([] : List Addr) from z) (by simp)) (by simp)
          | some u =>
            rcases hO b with z | ⟨_, z⟩ | ⟨ob, xs, z⟩
            · rw [q] at z; cases z
            · exact absurd z nb
            · obtain ⟨e1, _⟩ := hok b _ z
              obtain ⟨e2, _⟩ := hok' b _ (un.frzs b ob _ z)
              rw [e] at e1; cases e1
              exact e2
        have grow : ∀ b, b ∈ cs.map (·.2) → ∃ p ∈ cs, p.2 = b ∧ ∃ more : Array Value, s'.heap.get? b = some { cls := .none, data := .fields more } := fun b hb => by
          obtain ⟨p, hp, ep⟩ := List.mem_map.mp hb
          obtain ⟨more, z⟩ := un.tbls p.2 #[] (hH p hp)
          exact ⟨p, hp, ep, _, by rw [← ep]; exact hok' p.2 _ z⟩
        refine ⟨rfl, ⟨fun b o e => ?_, fun b o e => ?_⟩, os, bare⟩
        · by_cases hb : b ∈ cs.map (·.2)
          · obtain ⟨p, hp, ep, more, hm⟩ := grow b hb
            subst ep
            rw [hT p hp] at e; cases e
            exact .inr (.inl ⟨((cT p hp).tab (hT p hp)).isCodeTable, rfl, #[], more, rfl, by rw [Array.empty_append]; exact hm⟩)
          · exact .inl (stays b o hb e)
        · by_cases hb : b ∈ cs.map (·.2)
          · obtain ⟨p, hp, ep, more, hm⟩ := grow b hb
            exact ⟨_, hm⟩
          · exact ⟨o, stays b o hb e⟩
      | next => exact False.elim h
      | brk => exact False.elim h
      | cont => exact False.elim h
  -- the tables, and the script if it is not written
  let tb : Hp := fun b => if b ∈ cs.map (·.2) then some (.tbl #[]) else none
  have tbIn : ∀ p ∈ cs, tb p.2 = some (.tbl #[]) := fun p hp => if_pos (inT p hp)
  have tbC : ∀ b, (tb b = none ∧ b ∉ cs.map (·.2)) ∨ (tb b = some (.tbl #[]) ∧ b ∈ cs.map (·.2)) := fun b => by
    by_cases hb : b ∈ cs.map (·.2)
    · exact .inr ⟨if_pos hb, hb⟩
    · exact .inl ⟨if_neg hb, hb⟩
  have tbOk : HOk P w tb s₁.heap := fun b u z => by
    rcases tbC b with ⟨e, _⟩ | ⟨e, hb⟩
    · rw [e] at z; cases z
    · rw [e] at z; cases z; exact tabAt b hb
  cases hk : K.lookup a with
  | some o =>
    have e := KX a o hk
    rw [ha] at e
    cases e
    refine main tb (fun b => (tbC b).elim (fun h => .inl h.1) fun h => .inr (.inl h)) tbIn (.inr ⟨_, vs.toArray, _, hk, rfl, rfl, rfl, by rw [List.size_toArray, lenV]; exact hl, by simpa using rv⟩) tbOk (fun b z => (tbC b).elim (fun h => absurd h.1 z) fun h => .inr h.2) fun z => ?_
    rcases tbC a with ⟨e, _⟩ | ⟨_, h⟩
    · exact absurd e z
    · exact absurd h aN
  | none =>
    have ea : tb a = none := (tbC a).elim (fun h => h.1) fun h => absurd h.2 aN
    have sc : ∀ b, upd tb a (.frz { cls := .type "list", data := .seq vs.toArray } (.lst (ns.map V.int))) b = (if b = a then some (.frz { cls := .type "list", data := .seq vs.toArray } (.lst (ns.map V.int))) else tb b) := fun b => by
      by_cases hb : b = a
      · rw [hb, upd_same, if_pos rfl]
      · rw [upd_ne hb, if_neg hb]
    refine main (upd tb a (.frz { cls := .type "list", data := .seq vs.toArray } (.lst (ns.map V.int)))) (fun b => ?_) (fun p hp => ?_) (.inl (.inr ⟨_, upd_same⟩)) (fun b u z => ?_) (fun b z => ?_) fun _ => hk
    · rw [sc]
      by_cases hb : b = a
      · rw [if_pos hb]; exact .inr (.inr ⟨_, _, rfl⟩)
      · rw [if_neg hb]; exact (tbC b).elim (fun h => .inl h.1) fun h => .inr (.inl h)
    · rw [upd_ne fun z => aN (by rw [← z]; exact inT p hp)]; exact tbIn p hp
    · by_cases hb : b = a
      · subst hb
        rw [upd_same] at z; cases z
        exact ⟨ha, by rw [List.length_map]; exact hl, vs, _, rv, ha⟩
      · rw [upd_ne hb] at z
        exact (tbOk b u z).stay (fun _ _ _ q => q) (fun c q => by rw [upd_ne (ne_of_none q ea)]; exact q) fun c xs q => by rw [upd_ne (ne_of_none q ea)]; exact q
    · by_cases hb : b = a
      · exact .inl hb
      · rw [upd_ne hb] at z
        exact (tbC b).elim (fun h => absurd h.1 z) fun h => .inr h.2
/-- a law: what the Hook says gives its run -/
theorem walk_T {l : PySem.W.OpenLaw} {n : Nat} {q : Program} {loose : List Str} {XP : (Str → Option Value) → Heap → Prop} {YP : World → Heap → Prop} {d : DefRec} {CX : World → CXT} (hn : l.most = some n) (hn2 : n ≤ sizeLine) (hdf : d.params.defaults = [])
    (F : ∀ (w : World) (mg : Str → Option Value) (fa : Addr) (h : Heap), YP w h → h.Ns mainGlobals mg → mg d.name = some (.ref fa) → ∃ (K : PySem.W.Frag) (cs : List (Addr × Addr)) (sp : Sp), K.In h ∧
      (∀ p ∈ cs, h.get? p.2 = some { cls := .none, data := .fields #[] }) ∧ (∀ p ∈ cs, K.lookup p.2 = none) ∧ (∀ p ∈ cs, PySem.W.CodeHd h p.1 p.2) ∧
      (∀ (H : Hp) (a : Addr) (ns : List Int), ns.length ≤ n → (∀ z ∈ ns, Builtin.Int.intBits z ≤ 1048576) → OnlyT cs H → (∀ p ∈ cs, H p.2 = some (.tbl #[])) → SqL K H a (ns.map V.int) → sp [.ref a] H (fun v _ => v = .bl true) fun _ _ _ => False) ∧
      ∀ base : Heap, K.In base → base.Ns mainGlobals mg → (∀ p ∈ cs, LamX.TabB base mg p.1 p.2) → RunA l.prog w K mg base (CX w) fa sp)
    (hCX : ∀ (w : World) (H : Hp) (s : Shared) (e : Value) (s' : Shared), CX w [] H s (fun _ _ _ => False) e s' → False) :
    PySem.W.WalkO q loose XP YP l.row.toRowW d [] (fun f vs => PySem.call f vs) := by
  refine Att.attach_callB hn hdf fun w s₀ s₁ mg mb fa o pm cd doc a vs ns G Y ho hd hcd hmg hobj hints hlen hbits hg => ?_
  obtain ⟨K, cs, sp, KX, hT, nT, cT, hsp, hF⟩ := F w mg fa _ Y G.T.g hmg
  exact law_callT KX G.T.g G.T.b G.T.builtins G.T.nolimit hg hT nT cT G.T.bmain hobj hints (Nat.le_trans hlen hn2) hF (fun H hO hH hS => hsp H a ns hlen hbits hO hH hS) fun H e s' => hCX w H s₁ e s'
end PB
set_option maxRecDepth 100000
set_option maxHeartbeats 4000000
/-! PX35: written values and dicts as expressions; what a class of the text gives. -/
namespace PB
open PySem PySem.Spec PySem.Calls PyProof.Rows L2
open PySem.W (Frag nsIn keepIn)
variable {G : Gc} {W : WX} {X : Cx} {I : List Nat}
/-! ### written values -/
def CstAt (K : Frag) (mg : Str → Option Value) (x : Str) (d : D) : Prop := ∃ u v, mg x = some u ∧ L2.RelV v u ∧ ∀ (G : Gc) Z H, G.K = K → Rf G Z H d v
theorem cstAt_of {K : Frag} {mg : Str → Option Value} {h : Heap} {x : Str} {d : D} (KX : K.In h) (hns : h.Ns mainGlobals mg) (e : cstO K x = some d) : CstAt K mg x d := by
  unfold cstO gloV at e
  cases q : nsIn K mainGlobals x with
  | none => rw [q] at e; cases e
  | some o =>
    rw [q] at e
    cases o with
    | none => cases e
    | some u =>
      obtain ⟨v, r, hv⟩ := cstD_ok 6 u d e
      exact ⟨u, v, PySem.W.mg_of KX hns q, r, hv⟩
theorem d_cst {x : Str} {d : D} {p : Pos} (hK : G.K = X.K) (hg : Gl X x) (h : CstAt X.K X.mg x d) (hd : (x == ("__debug__" : Str)) = false := by decide) : PE X (.Name x p) (lift G W (rdC d)) := by
  obtain ⟨u, v, h1, h2, h3⟩ := h
  exact d_const (pe_glob hg h1 h2 hd) fun Z H => h3 G Z H hK
/-! ### written dicts -/
section
variable {o e f : Expr} {apos cpos pos : Pos} {td ty tx : TE} {n : Nat} {ks : List Str} {xs : List D}
theorem pe_kget2 {d : Addr} (D : ∃ es n, KDict X.K X.w d es n) (ho : PE X o td) (he : PE X e ty) (hf : PE X f tx) (m : M2 X o "get" apos e f cpos) : PE X (.Call (.Attribute o "get" apos) [e, f] [] cpos) (fun σ H Q => td σ H fun x H1 => x = .ref d ∧ ty σ H1 fun y H2 => tx σ H2 fun z H3 =>
    ∃ k, y = .str k ∧ ((∃ u v, nsIn X.K d k = some (some u) ∧ RelV v u ∧ Q v H3) ∨ (nsIn X.K d k = some none ∧ Q z H3))) := by
  obtain ⟨es, n, D⟩ := D
  refine ⟨fun pins s σ H Q J h => ?_⟩
  refine wpAny_Call_method m.base m.few m.line PySem.F.plainAttrs_dict PySem.F.slot_dict_get PySem.F.type_dict_get (thn (ho.run pins s σ H _ J h) fun u s1 ⟨x, H1, J1, rx, ex, q1⟩ => ?_)
  subst ex
  cases (show u = Value.ref d from rx)
  have hm : ∀ {s : Shared} {H : Hp}, L2.Inv X pins σ H s → s.heap.MapOf (strKind X.prog X.w) d (fun k => findBy Value.isStrOf es k) := fun J => PySem.W.mapOf_K (prog := X.prog) J.kIn D.at_ D.lit
  refine ⟨(hm J1).typeIs, (hm J1).noDict, ?_⟩
  rw [m.trees]
  refine Calls.callWith_builtin rfl (Calls.evalArgs_plain (Calls.spliced_cons (thn (he.run pins s1 σ H1 _ J1 q1) fun iv s2 ⟨y, H2, J2, ry, q2⟩ =>
    Calls.spliced_cons (thn (hf.run pins s2 σ H2 _ J2 q2) fun fv s3 ⟨z, H3, J3, rz, k, ey, q3⟩ => Calls.spliced_nil ?_))))
  subst ey
  obtain ⟨t, rfl⟩ := (show ∃ t, iv = Value.str k t from ry)
  refine call_meetsIn PySem.F.slot_dict_get (hm J3).typeIs PySem.F.entry_dict_get (PySem.F.args_dict_get_3 _ _ _) (meets_dict_get_default (strKind X.prog X.w) d (strKind_is X.prog X.w k t) D.low fv) ⟨_, hm J3, ?_⟩
  rcases q3 with ⟨u, v, e1, rv, q3⟩ | ⟨e1, q3⟩
  · rw [PySem.W.find_K D.at_ e1]
    exact ⟨v, H3, J3.tok _, rv, q3⟩
  · rw [PySem.W.find_K D.at_ e1]
    exact ⟨z, H3, J3.tok _, rz, q3⟩
def mKget (n : Nat) (ks : List Str) (xs : List D) (mo me mf : M D) : M D := fun ρ => (mo ρ).bind fun d ρ => match d with
  | .at n' => if n' = n then (me ρ).bind fun y ρ => (mf ρ).bind fun z ρ => (match y with
    | .str k => .ok ((lookS ks xs k).getD z) ρ
    | _ => .bad) else .bad
  | _ => .bad
theorem d_kget2 {mo me mf : M D} (hK : G.K = X.K) (D : DicT X.K X.w (G.cl n) ks xs) (ho : PE X o (lift G W mo)) (he : PE X e (lift G W me)) (hf : PE X f (lift G W mf)) (m : M2 X o "get" apos e f cpos) : PE X (.Call (.Attribute o "get" apos) [e, f] [] cpos) (lift G W (mKget n ks xs mo me mf)) :=
  PE_imp (pe_kget2 D.kd ho he hf m) fun σ H Q q => liftG.mono (liftG.bind (rep := repF G) q) fun v H1 ⟨Z1, O1, ρ1, d1, r1, f1, q1⟩ => by
    cases d1 <;> first | exact q1.elim | skip
    rename_i n'
    simp only at q1
    split at q1
    · rename_i en
      subst en
      refine ⟨f1, Z1, O1, ρ1, r1, (contG.bind (rep := repF G) q1).mono fun y H2 ⟨Z2, O2, ρ2, d2, x2, r2, f2, q2⟩ => ?_⟩
      refine ⟨Z2, O2, ρ2, r2, (contG.bind (rep := repF G) q2).mono fun z H3 ⟨Z3, O3, ρ3, d3, x3, r3, f3, q3⟩ => ?_⟩
      cases d2 with
      | str k =>
        refine ⟨k, f2, ?_⟩
        simp only at q3
        cases e1 : lookS ks xs k with
        | none => rw [e1] at q3; exact .inr ⟨D.no k e1, q3 z Z3 O3 H3 .refl r3 f3⟩
        | some d =>
          rw [e1] at q3
          obtain ⟨u, v', g1, g2, g3⟩ := D.get k d e1
          exact .inl ⟨u, v', g1, g2, q3 v' Z3 O3 H3 .refl r3 (g3 G Z3 H3 hK)⟩
      | _ => exact q3.elim
    · exact q1.elim
/-- D[k] -/
def fKix (n : Nat) (ks : List Str) (xs : List D) : D → D → Option D
  | .at n', .str k => if n' = n then lookS ks xs k else none
  | _, _ => none
theorem o_kix (D : DicT G.K X.w (G.cl n) ks xs) : Op2 G W (rIxD G.K X.w) (fKix n ks xs) := fun Z O ρ σ H v w d1 d2 d Q rr f1 f2 e q => by
  cases d1 <;> cases d2 <;> first | (cases e; done) | skip
  rename_i n' k
  unfold fKix at e
  simp only at e
  split at e
  · rename_i en
    subst en
    obtain ⟨u, v', g1, g2, g3⟩ := D.get k d e
    obtain ⟨es, m, kd⟩ := D.kd
    exact ⟨_, k, v', f1, f2, ⟨es, m, u, kd.at_, kd.lit, g1, g2⟩, q v' Z O H .refl rr (g3 G Z H rfl)⟩
  · cases e
/-- k in D -/
def fKin (g : Bool → Bool) (n : Nat) (ks : List Str) (xs : List D) : D → D → Option D
  | .str k, .at n' => if n' = n then some (.bl (g (lookS ks xs k).isSome)) else none
  | _, _ => none
abbrev rKin (g : Bool → Bool) (K : Frag) (d : Addr) : R2 := fun x y H Q => ∃ (z : Str) (r : Option Value), x = .str z ∧ y = .ref d ∧ nsIn K d z = some r ∧ Q (.bl (g r.isSome)) H
theorem o_kin {g : Bool → Bool} {w : World} (D : DicT G.K w (G.cl n) ks xs) : Op2 G W (rKin g G.K (G.cl n)) (fKin g n ks xs) := .flat fun Z H v w d1 d2 d Q f1 f2 e q => by
  cases d1 <;> cases d2 <;> first | (cases e; done) | skip
  rename_i k n'
  unfold fKin at e
  simp only at e
  split at e
  · rename_i en
    subst en
    cases e
    cases e1 : lookS ks xs k with
    | none => exact ⟨k, none, f1, f2, D.no k e1, by rw [e1] at q; exact q _ fun _ _ => rfl⟩
    | some d =>
      obtain ⟨u, v', g1, _, _⟩ := D.get k d e1
      exact ⟨k, some u, f1, f2, g1, by rw [e1] at q; exact q _ fun _ _ => rfl⟩
  · cases e
theorem bl_kin {g : Bool → Bool} : ∀ x y d, fKin g n ks xs x y = some d → ∃ k, d = .bl k := fun x y d e => by
  cases x <;> cases y <;> first | (cases e; done) | skip
  unfold fKin at e
  simp only at e
  split at e
  · cases e; exact ⟨_, rfl⟩
  · cases e
theorem op_kin {d : Addr} (D : ∃ es n, KDict X.K X.w d es n) : OpR X (compareOp .In) (rKin id X.K d) := by obtain ⟨es, n, D⟩ := D; exact op_in_kd D
theorem op_kNin {d : Addr} (D : ∃ es n, KDict X.K X.w d es n) : OpR X (compareOp .NotIn) (rKin not X.K d) := by obtain ⟨es, n, D⟩ := D; exact op_notIn_kd D
end
/-! ### a class of the text -/
theorem meth_of {P : Program} {w : World} {K : Frag} {mg : Str → Option Value} {base : Heap} {T : Tx} {d : OwnD} {N ps : List Str} {k : Nat} {x q : Str} {st : Stmt} {mb : M Fl} {I : List Nat} {l : Lc} (h : T.Ok P w K) (hd : d ∈ T.own) (hf : (⟨(T.names.getD d.c Str.empty, some x), x, q, defArgs st, defBody st, defScope st⟩ : He.FnD) ∈ d.ms)
    (S : FnScope N ps (defScope st)) (hI : ∀ i ∈ I, i < ps.length)
    (hb : ∀ (kV doc pm : Value) (an : Option Addr) (cdv ct : Value) (us : List Value), us.length = ps.length → bindArgs (PySem.W.fnOf x q (defArgs st) (defBody st) (defScope st) .none kV doc pm an cdv ct) ⟨us, []⟩ = pure (ps.zip us))
    (hbody : ∀ (f : Addr) (cdv : Value) (A : Around) (outer : List PySem.Env) (s : Shared) (H : Hp) (E : XK), Room k (A.deeper (PyProof.Rows.envOfC q (defScope st) s.heap.objs.size f cdv)) →
      PSs (cxOf (L2.CX P w) P w K mg base N q (defScope st) f cdv A outer s H E) (defBody st) (liftS (T.gc K l) (fun c d _ H => E c d H) I mb)) :
    MethF P w K mg base (k + 1) ((T.gc K l).cl d.c) x ps (T.gc K l) (runF I ps.length N.length mb) := by
  have D := h.own d hd
  obtain ⟨m1, oc, od, osl, kV, doc, pm, an, cdv, ct, lk, hcd⟩ := D.meth _ hf
  exact ⟨_, _, D.cls, m1, fn_ok (G := T.gc K l) (x := x) (F := ⟨⟨oc, od, kV, doc, pm, an, cdv, ct, osl, rfl, lk, hcd⟩, m1.kp⟩) S hI fun cdv A outer s H E hr => hbody _ cdv A outer s H E hr, .all (hb kV doc pm an cdv ct)⟩
theorem make_of {P : Program} {w : World} {K : Frag} {mg : Str → Option Value} {base : Heap} {T : Tx} {d : OwnD} {k : Nat} {x : Str} {ps : List Str} {l : Lc} {F : Env → FR} (h : T.Ok P w K) (hd : d ∈ T.own) (M : MethF P w K mg base k ((T.gc K l).cl d.c) "__init__" ps (T.gc K l) F) (hmg : mg x = some (.ref (T.cl K d.c))) :
    MakeF P w K mg base k x ((T.gc K l).cl d.c) ps (T.gc K l) F := by
  obtain ⟨f, fd, h1, h2, h3, h4⟩ := M.ex
  have D := h.own d hd
  have e : f = He.ma K (T.cl K d.c) "__init__" := by
    have q := h2.at_.symm.trans D.mke.init
    cases q
    rfl
  subst e
  exact ⟨_, fd, D.mke, h3, h4, hmg⟩
/-! ### x in y, x[y] by the data -/
section
variable {a b : Expr} {ma mb : M D} {pos : Pos}
abbrev fInA : D → D → Option D := orF (fInB false) (orF (fInS id) (fDIn false))
abbrev fNinA : D → D → Option D := orF (fInB true) (orF (fInS not) (fDIn true))
theorem d_inA (hK : G.K = X.K) (hu : X.A.units + 1 < cLine) (ha : PE X a (lift G W ma)) (hb : PE X b (lift G W mb)) (hm : behindInMarks .In b = false) : PE X (.Compare a [.In] [b] pos) (lift G W (bin2 fInA ma mb)) :=
  d_orF (d_cmp (by rw [hK]; exact op_in_seq) o_inB ha hb hm) (d_orF (d_cmp op_in_sign o_inS ha hb hm) (d_dIn hu ha hb hm))
theorem bl_orF {f g : D → D → Option D} (h : ∀ x y d, f x y = some d → ∃ k, d = .bl k) (h' : ∀ x y d, g x y = some d → ∃ k, d = .bl k) : ∀ x y d, orF f g x y = some d → ∃ k, d = .bl k := fun x y d e => by
  have e : (f x y).orElse (fun _ => g x y) = some d := e
  cases q : f x y with
  | some z => rw [q] at e; cases e; exact h _ _ _ q
  | none => rw [q] at e; exact h' _ _ _ e
end
end PB
set_option maxRecDepth 100000
set_option maxHeartbeats 4000000
/-! PX36: small rules that the printed texts use. -/
namespace PB
open PySem PySem.Spec PySem.Calls PyProof.Rows L2
open PySem.W (Frag nsIn keepIn)
variable {G : Gc} {W : WX} {X : Cx} {I : List Nat}
/-- raise C("..."), C an error without an __init__ of its own -/
theorem s_rz0 {c : Nat} {x : Str} {e : Expr} {m : M D} {p pos pos2 : Pos} {T : Tx} {P : Program} {w : World} {l : Lc} (hc : X.calm = true) (tk : Takes X W) (h : T.Ok P w X.K) (hp : c ∈ T.plain) (hn : c < T.nx) (gC : X.mg x = some (.ref (T.cl X.K c))) (hg : Gl X x) (he : PE X e (lift (T.gc X.K l) W m))
    (hs : starEach [e] X.env = (false, eval e X.env) :: starEach [] X.env := by rfl) (hdb : (x == ("__debug__" : Str)) = false := by decide) : PS X (.Raise (some (.Call (.Name x p) [e] [] pos)) none pos2) (liftS (T.gc X.K l) W I (sX0 c m)) :=
  s_raise0 (G := T.gc X.K l) hc tk PySem.F.excBase_ValueError (h.pl c hp) gC (h.xc c hn).kp (raises_own (h.xc c hn).sub (h.xc c hn).ty) hg he hs hdb
/-! ### tests of what is in a dict, a list, a text -/
theorem bin2_bl {f : D → D → Option D} {ma mb : M D} (hf : ∀ x y d, f x y = some d → ∃ k, d = .bl k) : ∀ ρ d ρ', bin2 f ma mb ρ = .ok d ρ' → ∃ k, d = .bl k := fun ρ d ρ' e => by
  unfold bin2 at e
  cases e1 : ma ρ with
  | bad => rw [e1] at e; cases e
  | ex x ρ1 => rw [e1] at e; cases e
  | ok x ρ1 =>
    rw [e1] at e
    have e : (mb ρ1).bind (fun y ρ => optR (f x y) ρ) = .ok d ρ' := e
    cases e2 : mb ρ1 with
    | bad => rw [e2] at e; cases e
    | ex x ρ1 => rw [e2] at e; cases e
    | ok y ρ2 =>
      rw [e2] at e
      have e : optR (f x y) ρ2 = .ok d ρ' := e
      cases e3 : f x y with
      | none => rw [e3] at e; cases e
      | some z =>
        rw [e3] at e
        cases e
        exact hf _ _ _ e3
theorem mPL_bl {f : D → D → Option D} {i : Nat} {mb : M D} (hf : ∀ x y d, f x y = some d → ∃ k, d = .bl k) : ∀ ρ d ρ', mPL f i mb ρ = .ok d ρ' → ∃ k, d = .bl k := fun ρ d ρ' e => by
  unfold mPL at e
  cases e1 : pkV i ρ with
  | bad => rw [e1] at e; cases e
  | ex x ρ1 => rw [e1] at e; cases e
  | ok x ρ1 =>
    rw [e1] at e
    have e : (mb ρ1).bind (fun y ρ1 => (pkV i ρ1).bind fun x ρ2 => optR (f x y) ρ2) = .ok d ρ' := e
    cases e2 : mb ρ1 with
    | bad => rw [e2] at e; cases e
    | ex x ρ1 => rw [e2] at e; cases e
    | ok y ρ2 =>
      rw [e2] at e
      have e : (pkV i ρ2).bind (fun x ρ2 => optR (f x y) ρ2) = .ok d ρ' := e
      cases e3 : pkV i ρ2 with
      | bad => rw [e3] at e; cases e
      | ex x ρ1 => rw [e3] at e; cases e
      | ok z ρ3 =>
        rw [e3] at e
        have e : optR (f z y) ρ3 = .ok d ρ' := e
        cases e4 : f z y with
        | none => rw [e4] at e; cases e
        | some z =>
          rw [e4] at e
          cases e
          exact hf _ _ _ e4
theorem aLen_nil : ∀ ρ as ρ', aNil ρ = .ok as ρ' → as.length = 0 := fun ρ as ρ' e => by
  cases e
  rfl
theorem t_pc {a b : Expr} {op : CmpOp} {t : TE} {m : M D} {pos : Pos} (hp : PC X op a b t) (hm : behindInMarks op b = false) (himp : ∀ σ H Q, lift G W m σ H Q → t σ H Q) (hbl : ∀ ρ d ρ', m ρ = .ok d ρ' → ∃ k, d = .bl k) :
    PT X (.Compare a [op] [b] pos) (liftB G W (mTru m)) := PT_imp (pt_cmp hp hm) fun σ H Q q => by
  refine himp σ H _ ?_
  obtain ⟨Z, O, ρ, rr, q⟩ := q
  refine ⟨Z, O, ρ, rr, ?_⟩
  unfold mTru at q
  cases e : m ρ with
  | bad => rw [e] at q; exact q.elim
  | ex x ρ' => rw [e] at q; exact q
  | ok d ρ' =>
    obtain ⟨k, rfl⟩ := hbl ρ d ρ' e
    rw [e] at q
    intro v Z' O' H' y r2 f
    cases f
    exact ⟨k, rfl, q k Z' O' H' y r2 rfl⟩
section
variable {a b : Expr} {ma mb : M D} {pos : Pos}
theorem t_dIn (hu : X.A.units + 1 < cLine) (ha : PE X a (lift G W ma)) (hb : PE X b (lift G W mb)) (hm : behindInMarks .In b = false) : PT X (.Compare a [.In] [b] pos) (liftB G W (mTru (bin2 (fDIn false) ma mb))) :=
  t_pc (pc_din hu ha hb) hm (fun σ H Q q => op2_tOp (o_dIn (neg := false)) rfl rfl q) (bin2_bl bl_dIn)
theorem t_dNin (hu : X.A.units + 1 < cLine) (ha : PE X a (lift G W ma)) (hb : PE X b (lift G W mb)) (hm : behindInMarks .NotIn b = false) : PT X (.Compare a [.NotIn] [b] pos) (liftB G W (mTru (bin2 (fDIn true) ma mb))) :=
  t_pc (pc_dnotin hu ha hb) hm (fun σ H Q q => op2_tOp (o_dIn (neg := true)) rfl rfl q) (bin2_bl bl_dIn)
theorem o_notInS : Op2 G W (fun x y H Q => ∃ (c : Nat) (z : Str), x = .str ⟨#[c]⟩ ∧ y = .str z ∧ Q (.bl (!decide (c ∈ z.cps.toList))) H) (fInS not) := .flat fun Z H v w d1 d2 d Q f1 f2 e q => by
  cases d1 <;> cases d2 <;> first | (cases e; done) | skip
  rename_i x y
  obtain ⟨⟨l⟩⟩ := x
  match l, e, f1 with
  | [], e, _ => cases e
  | [c], e, f1 => cases e; cases f1; cases f2; exact ⟨c, y, rfl, rfl, q _ fun _ _ => rfl⟩
  | _ :: _ :: _, e, _ => cases e
theorem t_inA (hK : G.K = X.K) (hu : X.A.units + 1 < cLine) (ha : PE X a (lift G W ma)) (hb : PE X b (lift G W mb)) (hm : behindInMarks .In b = false) : PT X (.Compare a [.In] [b] pos) (liftB G W (mTru (bin2 fInA ma mb))) :=
  t_orF (t_cmp (by rw [hK]; exact op_in_seq) o_inB bl_inB ha hb hm) (t_orF (t_cmp op_in_sign o_inS bl_inS ha hb hm) (t_dIn hu ha hb hm))
theorem t_ninA (hK : G.K = X.K) (hu : X.A.units + 1 < cLine) (ha : PE X a (lift G W ma)) (hb : PE X b (lift G W mb)) (hm : behindInMarks .NotIn b = false) : PT X (.Compare a [.NotIn] [b] pos) (liftB G W (mTru (bin2 fNinA ma mb))) :=
  t_orF (t_cmp (by rw [hK]; exact op_notIn_seq) o_inB bl_inB ha hb hm) (t_orF (t_cmp op_notIn_sign o_notInS bl_inS ha hb hm) (t_dNin hu ha hb hm))
theorem d_ninA (hK : G.K = X.K) (hu : X.A.units + 1 < cLine) (ha : PE X a (lift G W ma)) (hb : PE X b (lift G W mb)) (hm : behindInMarks .NotIn b = false) : PE X (.Compare a [.NotIn] [b] pos) (lift G W (bin2 fNinA ma mb)) :=
  d_orF (d_cmp (by rw [hK]; exact op_notIn_seq) o_inB ha hb hm) (d_orF (d_cmp op_notIn_sign o_notInS ha hb hm) (d_dNin hu ha hb hm))
/-- a[b], a list, a tuple or a dict -/
abbrev fIxA : D → D → Option D := orF fIx fDGet
theorem d_ixA (hK : G.K = X.K) (hu : X.A.units + 1 < cLine) (ha : PE X a (lift G W ma)) (hb : PE X b (lift G W mb)) (hs : PlainIx b) (hs2 : NoSl b) : PE X (.Subscript a b pos) (lift G W (bin2 fIxA ma mb)) :=
  d_orF (d_ix (by rw [hK]; exact ix_A) o_ixA ha hb hs) (d_dget hu ha hb hs2)
end
/-- 'a' * 9 as a key -/
theorem pe_keyMul {x : Str} {n : Int} {j1 j2 : Nat} {p1 p2 pos : Pos} (ok : MulOk x n) : PE X (.BinOp (.Constant (.str x) j1 p1) .Mult (.Constant (.int n) j2 p2) pos) (tC (.str (Txt.mul x n))) :=
  PE_imp (pe_op op_mulS pe_str pe_int) fun σ H Q q => by
    unfold tOp tC
    exact ⟨x, n, rfl, rfl, ok, q⟩
end PB
set_option maxRecDepth 100000
set_option maxHeartbeats 4000000
/-! PX37: enumerate(a tuple). -/
namespace PB
open PySem PySem.Spec PySem.Calls PyProof.Rows L2
open PySem.W (Frag)
theorem meets_enum1 {v : Value} {o : Obj} {Hh : Heap → Prop} (B : Begins v o Hh) : Meets (Builtin.«enumerate.__new__» ⟨[.type "enumerate", v], []⟩) (fun _ R s => Hh s.heap ∧ R (.ok (.ret (.ref (s.heap.push o).objs.size)))
    { s with heap := (s.heap.push o).push { cls := .type "enumerate", data := .fields #[.none, .bool false, .ref s.heap.objs.size, rawInt 0, .none, .none] } }) := .of_wp fun prog w A R s ⟨h1, h⟩ => by
  obtain ⟨hp, g, d, tk, os⟩ := s
  have hsub := sub_enumerate
  have step : ∀ {A' : Around} {E : Value → Shared → Prop} {Q : Value → Shared → Prop}, Q (.ref hp.objs.size) ⟨hp.push o, g, d, tk, os⟩ → wpAny (model prog w) A' (pyIter v) Q E ⟨hp, g, d, tk, os⟩ := fun q => B.iter prog w _ _ ⟨hp, g, d, tk, os⟩ _ h1 q
  wp_walk using step
  refine wpAny_stack_any fun st => wpAny_pure ?_
  split
  · rename_i c _ _ _ _ _
    cases (c == Value.type "enumerate") <;> (wp_walk using step; exact ⟨_, rfl, h⟩)
  · wp_walk using step
    exact ⟨_, rfl, h⟩
theorem call_enum1 {prog : Program} {w : World} {A : Around} {E : Value → Shared → Prop} {s : Shared} {v : Value} {o : Obj} {Hh : Heap → Prop} {Q : Value → Shared → Prop} (B : Begins v o Hh) (h1 : Hh s.heap)
    (h : ∀ h', IsEnum h' (s.heap.objs.size + 1) s.heap.objs.size 0 .none → h'.get? s.heap.objs.size = some o → (∀ b u, s.heap.get? b = some u → h'.get? b = some u) → Q (.ref (s.heap.objs.size + 1)) { s with heap := h' }) : wpAny (model prog w) A (call (.type "enumerate") [v]) Q E s := by
  refine callType_new F.called_enumerate (by decide) (F.typeCall_enumerate_1 _) (F.newCall_enumerate_1 _) (fun obj => F.args_object_init_2 obj _) F.entry_enumerate_new (meets_enum1 B) ⟨h1, ?_⟩
  have hz : (s.heap.push o).objs.size = s.heap.objs.size + 1 := Heap.size_push ..
  rw [hz]
  have he : IsEnum ((s.heap.push o).push { cls := .type "enumerate", data := .fields #[.none, .bool false, .ref s.heap.objs.size, rawInt 0, .none, .none] }) (s.heap.objs.size + 1) s.heap.objs.size 0 .none := by
    have q := Heap.get?_push_size (s.heap.push o) (o := { cls := .type "enumerate", data := .fields #[.none, .bool false, .ref s.heap.objs.size, rawInt 0, .none, .none] }) rfl
    rw [hz] at q
    exact q
  exact ⟨⟨_, he, rfl⟩, h _ he (Heap.get?_push_of_some _ (Heap.get?_push_size _ B.free)) fun b u x => Heap.get?_push_of_some _ (Heap.get?_push_of_some _ x)⟩
theorem enumT_end {prog : Program} {w : World} {A : Around} {E : Value → Shared → Prop} {s : Shared} {e it t : Addr} {i : Nat} {k : Int} {items : Array Value} {old : Value} {Q : Option Value → Shared → Prop} (hh : A.in1.handled = none) (he : IsEnum s.heap e it k old) (hit : s.heap.IsTupleIter it t i) (ht : s.heap.IsTuple t items) (hx : items[i]? = none)
    (hQ : ∀ h', Heap.ExtBut it s.heap h' → Q none { s with heap := h' }) : wpAny (model prog w) A (pyNext (.ref e)) Q E s :=
  wpAny_pyNext_enum_endD (fp := [it, t]) (n := i) (P := fun _ _ => True) (St := fun j h => j = i ∧ h.IsTupleIter it t i ∧ h.IsTuple t items) {
    live := fun _ _ st => let ⟨o, ho, _⟩ := st.2.1; ⟨o, ho⟩
    frame := fun _ _ _ st hk => ⟨st.1, st.2.1.at fun o e => hk it List.mem_cons_self o e, st.2.2.at fun o e => hk t (List.mem_cons_of_mem _ List.mem_cons_self) o e⟩
    item := fun j s Q E hj st _ => absurd st.1 (Nat.ne_of_lt hj)
    done := fun s Q E st hE => wpAny_nextOf_tuple_end hh st.2.1 st.2.2 hx hE } he ⟨rfl, hit, ht⟩ hQ
/-- the tuple at a, each item in a new pair -/
def ItET (K : Frag) (a : Addr) : It :=
  ⟨fun i H => ∃ (xs : List V) (x : V), SqT K H a xs ∧ xs[i]? = some x, fun i H v H' => ∃ T x, v = .ref T ∧ H T = none ∧ H' = upd H T (.tup [.int (i : Nat), x]) ∧ ∀ xs, SqT K H a xs → xs[i]? = some x, fun i H => ∃ xs : List V, SqT K H a xs ∧ xs.length ≤ i⟩
theorem turn_enumT {P : Program} {w : World} {K : Frag} {elts : List Expr} {kk : Nat} {tpos : Pos} (a e it : Addr) : Turn P w K (.Tuple elts kk tpos) (ItET K a) [e, it] e (fun i h => (∃ old, IsEnum h e it ((i : Nat) : Int) old) ∧ h.IsTupleIter it a i ∧ e ≠ it) where
  mem := List.mem_cons_self
  obj := fun i h ⟨⟨old, he⟩, ⟨o, ho, hc, hd⟩, _⟩ b hb => by
    rcases (by simpa using hb : b = e ∨ b = it) with z | z
    · rw [z]; exact ⟨_, he, fun v q => nomatch q⟩
    · rw [z]; exact ⟨o, ho, fun v q => by rw [hd] at q; cases q⟩
  keep := fun i h h' ⟨⟨old, he⟩, hi, hne⟩ k => ⟨⟨old, k e List.mem_cons_self _ he⟩, hi.at fun o q => k it (List.mem_cons_of_mem _ List.mem_cons_self) o q, hne⟩
  item := by
    intro X hP hw hK hc i pins s σ H E I hf ⟨⟨old, he⟩, hit, hne⟩ ⟨xs, x, hq, hx⟩
    subst hP hw hK
    obtain ⟨its, rv, p, hz⟩ := I.tuple hq
    have pT : s.heap.IsTuple a its.toArray := p
    obtain ⟨u, hu, ru⟩ := rv.get hx
    have hel : e < s.heap.objs.size := Heap.lt_size he
    have hil : it < s.heap.objs.size := by obtain ⟨_, q, _⟩ := hit; exact Heap.lt_size q
    have eT : ∀ {b : Addr} {o1 o2 : Obj}, s.heap.get? b = some o1 → s.heap.get? b = some o2 → o1 = o2 := fun e1 e2 => Option.some.inj (e1.symm.trans e2)
    have hai : a ≠ it := fun z => by
      obtain ⟨o1, g1, _, _, d1⟩ := pT
      obtain ⟨o2, g2, _, d2⟩ := hit
      rw [z] at g1
      have := eT g1 g2
      subst this
      rw [d2] at d1
      cases d1
    have hae : a ≠ e := fun z => by
      obtain ⟨o1, g1, _, _, d1⟩ := pT
      rw [z] at g1
      have := eT g1 he
      subst this
      cases d1
    have hlt : i < its.toArray.size := by
      rw [List.size_toArray]
      exact (List.getElem?_eq_some_iff.mp hu).1
    refine wpAny_pyNext_enum_itemC (Draws.tuple (A := X.A.in1) (I.ok.hd hc) it a hai its.toArray) he ⟨hit, pT⟩ hlt hne (by intro z; rcases (by simpa using z : e = it ∨ e = a) with q | q; exact hne q; exact hae q.symm) fun y h' tk hy ho hst' hT hsz hk => ?_
    have ey : y = u := by
      have q : its.toArray[i]? = some u := by simpa using hu
      exact Option.some.inj (hy.symm.trans q)
    subst ey
    refine ⟨_, rfl, wpAny_letOwnedTupleGo_enum (s := { s with heap := h', toks := tk + 1 }) ho fun h'' he' sb => ?_⟩
    have hT2 : h''.get? s.heap.objs.size = some { cls := .type "tuple", data := .seq #[.int i tk, y] } := (sb.2 _ (Nat.ne_of_gt hel)).trans hT
    have new : ObjOk X.prog X.w (upd H s.heap.objs.size (.tup [.int (i : Nat), x])) h'' s.heap.objs.size (.tup [.int (i : Nat), x]) := ⟨by show 2 ≤ sizeLine; decide, [.int i tk, y], .cons ⟨_, rfl⟩ (.cons ru .nil), ⟨_, hT2, rfl, _, rfl⟩⟩
    have I1 : L2.Inv X pins σ (upd H s.heap.objs.size (.tup [.int (i : Nat), x])) { s with heap := h'', toks := tk + 1 } :=
      I.turnedNew (ch := [e, it]) (fun b ob hb q => (sb.2 b (fun z => hb (by simp [z]))).trans (hk b ob (fun z => hb (by simp [z])) (fun z => hb (by simp [z])) q)) hf (Nat.le_refl _) new
    refine ⟨.ref s.heap.objs.size, _, I1, rfl, ⟨_, x, rfl, I.hok.fresh (Nat.le_refl _), rfl, fun ys hy => by rw [I.tuple_inj hy hq]; exact hx⟩, ⟨⟨y, ?_⟩, hst'.1.at fun o q => (sb.2 it (Ne.symm hne)).trans q, hne⟩, fun b hb => ?_⟩
    · rw [show ((i + 1 : Nat) : Int) = (i : Int) + 1 by omega]
      exact he'
    · have hb' : b < s.heap.objs.size := by
        rcases (by simpa using hb : b = e ∨ b = it) with z | z
        · rw [z]; exact hel
        · rw [z]; exact hil
      rw [upd_ne (Nat.ne_of_lt hb')]
      exact (hf b hb).1
  done := by
    intro X hP hw hK hc i pins s σ H E I hf ⟨⟨old, he⟩, hit, hne⟩ ⟨xs, hq, hx⟩
    subst hP hw hK
    obtain ⟨its, rv, p, hz⟩ := I.tuple hq
    have pT : s.heap.IsTuple a its.toArray := p
    obtain ⟨f0, f1, f2, f3, f4, f5⟩ := hf it (by simp)
    have hl := rv.length
    refine enumT_end (I.ok.hd hc) he hit pT (by simp; omega) fun h' eb => ⟨rfl, I.turned (t' := s.toks) (fun b o hb q => eb b o hb q) f0 f1 f3 f4 f5⟩
  self := fun A i s Q E ⟨⟨_, he⟩, _⟩ h => wpAny_pyIter_enum he h
def iEnumT (K : Frag) (ta : TA) : TI := fun σ H R => ta σ H fun vs H1 => ∃ a xs, vs = [.ref a] ∧ SqT K H1 a xs ∧ R (ItET K a) H1
theorem pi_enumT {X : Cx} {e : Expr} {ta : TA} {p pos tpos : Pos} {elts : List Expr} {kk : Nat} (hg : Gl X "enumerate") (hm : X.mg "enumerate" = none) (ha : PA X [e] ta) (hs : starEach [e] X.env = [(false, eval e X.env)] := by rfl) : PI X (.Tuple elts kk tpos) (.Call (.Name "enumerate" p) [e] [] pos) (iEnumT X.K ta) := by
  refine ⟨fun pins s σ H R I h => Call_ (ld_blt I hg hm boot_enumerate (PyProof.Rows.callWith_type1 (thn (ha.run pos pins s σ H _ I h) fun us s1 ⟨vs, H1, I1, r1, a, xs, ex, hq, q⟩ => ?_) hs rfl))⟩
  subst ex
  cases r1 with
  | cons r rr =>
    cases rr
    cases r
    obtain ⟨its, rv, p', hz⟩ := I1.tuple hq
    refine call_enum1 (begins_tuple a its.toArray) (show s1.heap.IsTuple a its.toArray from p') fun h' he hit hk => wpAny_pyIter_enum he ?_
    have I2 : L2.Inv X pins σ H1 { s1 with heap := h' } := I1.kept (t' := s1.toks) hk
    refine ⟨s1.heap.objs.size + 1, [s1.heap.objs.size + 1, s1.heap.objs.size], _, _, H1, rfl, I2, turn_enumT a (s1.heap.objs.size + 1) s1.heap.objs.size, ⟨⟨.none, he⟩, ⟨_, hit, rfl, rfl⟩, Nat.succ_ne_self _⟩, fun b hb => ?_, q⟩
    have hle : s1.heap.objs.size ≤ b := by
      rcases (by simpa using hb : b = s1.heap.objs.size + 1 ∨ b = s1.heap.objs.size) with z | z
      · rw [z]; exact Nat.le_add_right _ _
      · rw [z]; exact Nat.le_refl _
    exact I1.fpOk hle (I1.hok.fresh hle)
variable {G : Gc} {W : WX} {X : Cx} {I : List Nat}
def asEnT : List D → Option (List D)
  | [.tup xs] => some (enD 0 xs)
  | _ => none
theorem wk_enumT {Z1 : Addr → Prop} {H1 : Hp} {xs : List D} {vs : List V} {a : Addr} (hsq : ∀ (Z : Addr → Prop) H, (∀ a, Z1 a → Z a) → Kp Z1 H1 H → SqT G.K H a vs) (rl : RfL G Z1 H1 xs vs) : Wk G Z1 H1 (ItET G.K a) (enD 0 xs) where
  stop := fun Z H zs k => ⟨vs, hsq Z H zs k, by rw [enD_length, rl.length]; exact Nat.le_refl _⟩
  go := fun Z H i zs k h => ⟨vs, vs[i]'(by rw [enD_length, rl.length] at h; exact h), hsq Z H zs k, List.getElem?_eq_getElem _⟩
  yld := fun Z O ρ σ H i x v H' r zs k e ⟨T, z, ev, hT, eH, hy⟩ => by
    subst ev eH
    obtain ⟨d, e1, rfl⟩ := enD_get xs 0 i x e
    obtain ⟨w, ew, fw⟩ := rl.get e1
    have ez : w = z := Option.some.inj (ew.symm.trans (hy vs (hsq Z H zs k)))
    subst ez
    exact ⟨addZ Z T, .new hT, r.new hT, T, [.int ((i : Nat) : Int), w], rfl, .inl ⟨.inr rfl, upd_same⟩, _, _, rfl, by rw [Nat.zero_add]; exact rfl, RfL.one (fw.keep (fun a q => .inl (zs a q)) fun b o q e => (k b o q e).elim (fun e => .inl (upd_keep hT _ _ e)) fun ⟨od, kvs, eo, e⟩ => .inr ⟨od, kvs, eo, upd_keep hT _ _ e⟩)⟩
theorem src_enumT {m : M (List D)} : Src G W (iEnumT G.K (liftL G W m)) (mItemsL asEnT m) := fun σ H Q q => by
  unfold mItemsL at q
  refine liftG.mono (liftG.bind (rep := repL G) q) fun v H1 ⟨Z1, O1, ρ1, d1, r1, f1, q1⟩ => ?_
  cases e : asEnT d1 with
  | none => rw [e] at q1; exact q1.elim
  | some xs =>
    rw [e] at q1
    unfold asEnT at e
    split at e
    · cases e
      obtain ⟨w, rfl, a, vs, rfl, g1, rl⟩ := rfl1 f1
      exact ⟨a, vs, rfl, g1.sq, q1 _ Z1 O1 H1 .refl r1 (wk_enumT (fun Z H zs k => g1.elim (fun z => .inl (.inl (k.eq z.1 z.2))) .inr) rl)⟩
    · cases e
/-- enumerate of a list or a tuple -/
def orLL (f g : List D → Option (List D)) : List D → Option (List D) := fun x => (f x).orElse fun _ => g x
abbrev asEnA : List D → Option (List D) := orLL asEn asEnT
theorem srcL_or {m : M (List D)} {f g : List D → Option (List D)} {wi wi' : TI} (h : Src G W wi (mItemsL f m)) (h' : Src G W wi' (mItemsL g m)) : Src G W (fun σ H R => wi σ H R ∨ wi' σ H R) (mItemsL (orLL f g) m) := fun σ H Q ⟨Z, O, ρ, r, q⟩ => by
  have key : mItemsL (orLL f g) m ρ = mItemsL f m ρ ∨ mItemsL (orLL f g) m ρ = mItemsL g m ρ := by
    unfold mItemsL
    cases m ρ with
    | bad => exact .inl rfl
    | ex x ρ1 => exact .inl rfl
    | ok x ρ1 =>
      show optR ((f x).orElse fun _ => g x) ρ1 = optR (f x) ρ1 ∨ optR ((f x).orElse fun _ => g x) ρ1 = optR (g x) ρ1
      cases f x with
      | some d => exact .inl rfl
      | none => exact .inr rfl
  exact key.elim (fun e => .inl (h σ H Q ⟨Z, O, ρ, r, by rw [← e]; exact q⟩)) fun e => .inr (h' σ H Q ⟨Z, O, ρ, r, by rw [← e]; exact q⟩)
theorem src_enumA {m : M (List D)} : Src G W (fun σ H R => iEnum G.K (liftL G W m) σ H R ∨ iEnumT G.K (liftL G W m) σ H R) (mItemsL asEnA m) := srcL_or src_enum src_enumT
theorem pi_enumA {e : Expr} {m : M (List D)} {p pos tpos : Pos} {elts : List Expr} {kk : Nat} (hK : G.K = X.K) (hg : Gl X "enumerate") (hm : X.mg "enumerate" = none) (ha : PA X [e] (liftL G W m)) (hs : starEach [e] X.env = [(false, eval e X.env)] := by rfl) :
    PI X (.Tuple elts kk tpos) (.Call (.Name "enumerate" p) [e] [] pos) (fun σ H R => iEnum G.K (liftL G W m) σ H R ∨ iEnumT G.K (liftL G W m) σ H R) := by
  rw [hK]
  exact PI_or (pi_enum hg hm ha hs) (pi_enumT hg hm ha hs)
end PB
set_option maxRecDepth 100000
set_option maxHeartbeats 4000000
/-! PX38: sum of a list of ints, repr of scalars. -/
namespace PB
open PySem PySem.Spec PySem.Calls PyProof.Rows L2
open PySem.W (Frag)
variable {G : Gc} {W : WX} {X : Cx} {I : List Nat}
theorem intsD_rl {Z : Addr → Prop} {H : Hp} : ∀ {ds : List D} {vs : List V} {ns : List Int}, RfL G Z H ds vs → intsD ds = some ns → vs = ns.map V.int
  | [], _, _, h, e => by cases h; cases e; rfl
  | x :: xs, _, ns, ⟨v, r, ev, h1, h2⟩, e => by
    subst ev
    unfold intsD at e
    cases x <;> first | (cases e; done) | skip
    rename_i i
    cases e2 : intsD xs with
    | none => simp only [e2] at e; cases e
    | some ms =>
      simp only [e2] at e
      cases e
      cases h1
      rw [List.map_cons, intsD_rl h2 e2]
def fSum : List D → Option D
  | [.lst xs] => (intsD xs).map fun ns => .int ns.sum
  | _ => none
theorem n_sum : OpN G W (rSum G.K) fSum := opN_flat fun Z H vs ds d Q f1 e q => by
  unfold fSum at e
  split at e
  · rename_i xs
    obtain ⟨v, rfl, h⟩ := rfl1 f1
    obtain ⟨a, ws, rfl, g, rl⟩ := h
    cases e1 : intsD xs with
    | none => rw [e1] at e; cases e
    | some ns =>
      rw [e1] at e
      cases e
      have ew := intsD_rl rl e1
      subst ew
      exact ⟨a, ns, rfl, g.sq, q _ fun _ _ => rfl⟩
  · cases e
/-! ### repr of scalars -/
theorem call_repS : CallR X (.builtin "repr") (fun xs H Q => ∃ x, xs = [.str x] ∧ (reprText x).length ≤ sizeLine ∧ Q (.str (reprText x)) H) := by
  rintro pins s σ H xs us Q J r ⟨x, rfl, hz, q⟩
  obtain ⟨u, rfl, t, rfl⟩ := vals1 r
  exact PySem.P.repr_of_str (hsz := hz) ⟨.str _, H, J.tok _, ⟨_, rfl⟩, q⟩
def fRepS : List D → Option D
  | [.str x] => if (reprText x).length ≤ lim then some (.str (reprText x)) else none
  | _ => none
theorem n_repS : OpN G W (fun xs H Q => ∃ x, xs = [.str x] ∧ (reprText x).length ≤ sizeLine ∧ Q (.str (reprText x)) H) fRepS := opN_flat fun Z H vs ds d Q f1 e q => by
  unfold fRepS at e
  split at e
  · obtain ⟨v, rfl, h⟩ := rfl1 f1
    cases h
    split at e
    · rename_i hz
      cases e
      exact ⟨_, rfl, by rw [PySem.sizeLine_eq]; exact hz, q _ fun _ _ => rfl⟩
    · cases e
  · cases e
def fRepI : List D → Option D
  | [.int i] => if i.natAbs.log2 < 1920 then some (.str (toString i)) else none
  | _ => none
theorem n_repI : OpN G W (fun xs H Q => ∃ i, xs = [V.int i] ∧ i.natAbs.log2 < 1920 ∧ Q (.str (toString i)) H) fRepI := opN_flat fun Z H vs ds d Q f1 e q => by
  unfold fRepI at e
  split at e
  · obtain ⟨v, rfl, h⟩ := rfl1 f1
    cases h
    split at e
    · rename_i hz
      cases e
      exact ⟨_, rfl, hz, q _ fun _ _ => rfl⟩
    · cases e
  · cases e
def fRepA : List D → Option D := fun x => (fRep x).orElse fun _ => (fRepS x).orElse fun _ => fRepI x
theorem n_repA : OpN G W (fun xs H Q => rRep G xs H Q ∨ (∃ x, xs = [.str x] ∧ (reprText x).length ≤ sizeLine ∧ Q (.str (reprText x)) H) ∨ ∃ i, xs = [V.int i] ∧ i.natAbs.log2 < 1920 ∧ Q (.str (toString i)) H) fRepA := .or n_rep (.or n_repS n_repI)
theorem call_repA (hK : G.K = X.K) (hg : X.A.guards = some []) (hu : X.A.units + 64 < cLine) (hsy : (X.K.lookup sysModules).isSome = true) : CallR X (.builtin "repr") (fun xs H Q => rRep G xs H Q ∨ (∃ x, xs = [.str x] ∧ (reprText x).length ≤ sizeLine ∧ Q (.str (reprText x)) H) ∨ ∃ i, xs = [V.int i] ∧ i.natAbs.log2 < 1920 ∧ Q (.str (toString i)) H) :=
  callR_or (call_rep hK hg hu hsy) (callR_or call_repS SkE.call_repr_int)
end PB
set_option maxRecDepth 100000
set_option maxHeartbeats 4000000
/-! PX39: an item of an owned list, looked at. -/
namespace PB
open PySem PySem.Spec PySem.Calls PyProof.Rows L2
open PySem.W (Frag)
variable {G : Gc} {W : WX} {X : Cx} {I : List Nat}
/-- x[e], x an owned slot, looked at behind e -/
def mIxO (i : Nat) (m : M D) : M D := fun ρ => match getO ρ i with
  | some (.lst _) => (m ρ).bind fun y ρ1 => (match getO ρ1 i, y with
    | some (.lst xs), .int k => optR (atI xs k) ρ1
    | _, _ => .bad)
  | _ => .bad
theorem d_ixO {a b : Expr} {i : Nat} {m : M D} {pos : Pos} (hK : G.K = X.K) (ha : PE X a (tVar i)) (hb : PE X b (lift G W m)) (hs : PlainIx b) : PE X (.Subscript a b pos) (lift G W (mIxO i m)) := PE_imp (pe_ix ix_list ha hb hs) fun σ H Q ⟨Z, O, ρ, r, q⟩ => by
  unfold mIxO at q
  cases e1 : getO ρ i with
  | none => rw [e1] at q; exact q.elim
  | some d0 =>
    rw [e1] at q
    cases d0 <;> first | exact q.elim | skip
    obtain ⟨v, hv, hown⟩ := r.getO e1
    refine ⟨v, hv, Z, O, ρ, r, (contG.bind (rep := repF G) q).mono fun u H2 ⟨Z2, O2, ρ2, y, x2, r2, f2, q2⟩ => ?_⟩
    cases e2 : getO ρ2 i with
    | none => rw [e2] at q2; exact q2.elim
    | some d2 =>
      rw [e2] at q2
      cases d2 <;> first | exact q2.elim | skip
      rename_i xs
      cases y <;> first | exact q2.elim | skip
      rename_i k
      obtain ⟨v2, hv2, hown2⟩ := r2.getO e2
      rw [hv] at hv2
      cases hv2
      obtain ⟨p, vs, rfl, fp, g, rl⟩ := hown2
      simp only at q2
      cases e3 : atI xs k with
      | none => rw [e3] at q2; exact q2.elim
      | some d =>
        rw [e3] at q2
        obtain ⟨x, e4, f4⟩ := rl.at e3
        exact ⟨p, vs, k, x, rfl, f2, .inl (.inl g), e4, q2 x Z2 O2 H2 .refl r2 f4⟩
/-- x[e], x a slot, owned or not -/
def mIxP (i : Nat) (m : M D) : M D := fun ρ => match ρ[i]? with
  | some (.fr _) => bin2 fIxA (rdV i) m ρ
  | _ => mIxO i m ρ
theorem d_ixP {a b : Expr} {i : Nat} {m : M D} {pos : Pos} (hK : G.K = X.K) (hu : X.A.units + 1 < cLine) (ha : PE X a (tVar i)) (hb : PE X b (lift G W m)) (hs : PlainIx b) (hs2 : NoSl b) : PE X (.Subscript a b pos) (lift G W (mIxP i m)) :=
  PE_imp (PE_or (d_ixO (W := W) hK ha hb hs) (d_ixA (W := W) hK hu (d_var ha) hb hs hs2)) fun σ H Q ⟨Z, O, ρ, r, q⟩ => by
    unfold mIxP at q
    split at q
    · exact .inr ⟨Z, O, ρ, r, q⟩
    · exact .inl ⟨Z, O, ρ, r, q⟩
end PB
set_option maxRecDepth 100000
set_option maxHeartbeats 4000000
/-! PX40: () + t. -/
namespace PB
open PySem PySem.Spec PySem.Calls PyProof.Rows L2
open PySem.W (Frag)
variable {G : Gc} {W : WX} {X : Cx} {I : List Nat}
def fAddE : D → D → Option D
  | .tup [], .tup y => if y.length ≤ lim then some (.tup y) else none
  | _, _ => none
theorem o_addE : Op2 G W (rCatA G.K) fAddE := fun Z O ρ σ H v w d1 d2 d Q rr f1 f2 e q => by
  cases d1 with
  | tup xs =>
    cases xs with
    | cons x xs => cases d2 <;> cases e
    | nil =>
      cases d2 with
      | tup ys =>
        by_cases h : ys.length ≤ lim
        · simp only [fAddE, if_pos h] at e
          cases e
          obtain ⟨a, vs, rfl, g1, r1⟩ := f1
          obtain ⟨b, ws, rfl, g2, r2⟩ := f2
          cases r1
          have lw : ws.length ≤ sizeLine := by
            rw [PySem.sizeLine_eq, ← r2.length]
            exact h
          refine ⟨a, b, [], ws, rfl, rfl, g1.sq, g2.sq, by rw [List.length_nil, Nat.zero_add]; exact lw, fun _ => q _ Z O H .refl rr ⟨b, ws, rfl, g2, r2⟩, fun h0 => ?_, fun h0 => ?_⟩
          · exact absurd rfl h0
          · exact absurd rfl h0
        · simp only [fAddE, if_neg h] at e
          cases e
      | _ => cases e
  | _ => cases d2 <;> cases e
theorem d_addA {a b : Expr} {ma mb : M D} {pos : Pos} (hK : G.K = X.K) (ha : PE X a (lift G W ma)) (hb : PE X b (lift G W mb)) : PE X (.BinOp a .Add b pos) (lift G W (bin2 (orF fAdd fAddE) ma mb)) :=
  d_orF (d_bin op_addA (by rw [← hK]; exact o_addA) ha hb) (d_bin op_catA (by rw [← hK]; exact o_addE) ha hb)
end PB
set_option maxRecDepth 100000
set_option maxHeartbeats 1000000
/-! PL: readings run: what the plain laws lean on. -/
namespace PB
open PySem PySem.Spec PyProof.Rows L2
/-! ### operators -/
theorem fIC_pos {c : Int → Int → Bool} {g : Int → Int → Int} {i j : Int} (h : c i j = true) : fIC c g (.int i) (.int j) = some (.int (g i j)) := if_pos h
theorem mulR {i j : Int} (h : -(2 ^ 64) < j ∧ j < 2 ^ 64) : fMul (.int i) (.int j) = some (.int (i * j)) := by
  have e : fMulI (.int i) (.int j) = some (.int (i * j)) := fIC_pos (by rw [decide_eq_true h, Bool.or_true])
  unfold fMul
  rw [e]
  rfl
theorem modR {i j : Int} (h : j ≠ 0) : fModI (.int i) (.int j) = some (.int (i.fmod j)) := fIC_pos (decide_eq_true h)
theorem divR {i j : Int} (h : j ≠ 0 ∧ j.natAbs < 1073741824) : fDivI (.int i) (.int j) = some (.int (i.fdiv j)) := fIC_pos (decide_eq_true h)
theorem powR {i j : Int} (h : 0 ≤ j ∧ j ≤ 1000000 ∧ i.natAbs < 2 ^ 64) : fPowI (.int i) (.int j) = some (.int (i ^ j.toNat)) := fIC_pos (decide_eq_true h)
theorem addR {i j : Int} : fAdd (.int i) (.int j) = some (.int (i + j)) := rfl
/-! ### steps -/
section
variable {α β : Type} {ρ ρ1 ρ2 : PB.Env}
theorem bind_ok {m : Res α} {f : α → PB.Env → Res β} {a : α} {r : Res β} (h : m = .ok a ρ) (hf : f a ρ = r) : m.bind f = r := by
  rw [h]
  exact hf
theorem bin2_ok {f : D → D → Option D} {ma mb : M D} {x y d : D} (ha : ma ρ = .ok x ρ1) (hb : mb ρ1 = .ok y ρ2) (hf : f x y = some d) : bin2 f ma mb ρ = .ok d ρ2 := by
  unfold bin2
  rw [ha]
  show (mb ρ1).bind (fun y ρ => optR (f x y) ρ) = _
  rw [hb]
  show optR (f x y) ρ2 = _
  rw [hf]
  rfl
theorem sAsg_ok {gb : D → PB.Env → Option PB.Env} {m : M D} {d : D} (h : m ρ = .ok d ρ1) (hg : gb d ρ1 = some ρ2) : sAsg gb m ρ = .ok .nx ρ2 := by
  unfold sAsg
  rw [h]
  show (match gb d ρ1 with | some ρ' => Res.ok Fl.nx ρ' | none => .bad) = _
  rw [hg]
theorem sSeq_ok {a b : M Fl} {r : Res Fl} (ha : a ρ = .ok .nx ρ1) (hb : b ρ1 = r) : sSeq a b ρ = r := by
  unfold sSeq
  rw [ha]
  exact hb
theorem mCons_ok {m : M D} {ms : M (List D)} {x : D} {xs : List D} (h : m ρ = .ok x ρ1) (hs : ms ρ1 = .ok xs ρ2) : mCons m ms ρ = .ok (x :: xs) ρ2 := bind_ok h (bind_ok hs rfl)
theorem sRet_ok {m : M D} {d : D} (h : m ρ = .ok d ρ1) : sRet m ρ = .ok (.rt d) ρ1 := by
  unfold sRet
  rw [h]
  rfl
theorem runF_rt {I : List Nat} {np nN : Nat} {mb : M Fl} {args : PB.Env} {d : D} (hl : args.length = np) (h : mb (args ++ List.replicate (nN - np) .un) = .ok (.rt d) ρ) : runF I np nN mb args = .ok d (outs I np ρ) := by
  unfold runF
  rw [if_pos hl, h]
theorem runF_ro {I : List Nat} {np nN : Nat} {mb : M Fl} {args : PB.Env} {d : D} (hl : args.length = np) (h : mb (args ++ List.replicate (nN - np) .un) = .ok (.ro d) ρ) : runF I np nN mb args = .own d (outs I np ρ) := by
  unfold runF
  rw [if_pos hl, h]
theorem runF_nx {I : List Nat} {np nN : Nat} {mb : M Fl} {args : PB.Env} (hl : args.length = np) (h : mb (args ++ List.replicate (nN - np) .un) = .ok .nx ρ) : runF I np nN mb args = .ok .non (outs I np ρ) := by
  unfold runF
  rw [if_pos hl, h]
theorem callR_ok {F : PB.Env → FR} {as : List Arg} {args o ρ' : PB.Env} {d : D} (n : (slotsOf as).Nodup) (hm : mkArgs as ρ = some args) (hF : F args = .ok d o) (hp : putBack as o ρ = some ρ') : callR F as ρ = .ok d ρ' := by
  unfold callR
  rw [if_pos n, hm]
  simp only [hF]
  unfold endR
  rw [hp]
theorem callO_ok {F : PB.Env → FR} {as : List Arg} {args o ρ' : PB.Env} {d : D} (n : (slotsOf as).Nodup) (hm : mkArgs as ρ = some args) (hF : F args = .own d o) (hp : putBack as o ρ = some ρ') : callO F as ρ = .ok d ρ' := by
  unfold callO
  rw [if_pos n, hm]
  simp only [hF]
  unfold endR
  rw [hp]
theorem sIf_t {t : M Bool} {a b : M Fl} {r : Res Fl} (h : t ρ = .ok true ρ1) (ha : a ρ1 = r) : sIf t a b ρ = r := by
  unfold sIf
  rw [h]
  exact ha
theorem sIf_f {t : M Bool} {a b : M Fl} {r : Res Fl} (h : t ρ = .ok false ρ1) (ha : b ρ1 = r) : sIf t a b ρ = r := by
  unfold sIf
  rw [h]
  exact ha
end
/-! ### the draw's dict -/
structure Dw where
  l : List Int
  r : Int
  c : List Int
  t : Int
abbrev Dw.d (w : Dw) : D := .drw w.l w.r w.c w.t
abbrev ow (w : Dw) : Sl := .ow w.d
abbrev io (w : Dw) : Sl := .io w.d
/-- a slot that has it, owned or lent -/
inductive HasW : Sl → Dw → Prop
  | ow (w : Dw) : HasW (ow w) w
  | io (w : Dw) : HasW (io w) w
/-- .. with another state -/
def newW : Sl → Dw → Sl
  | .ow _, w => ow w
  | .io _, w => io w
  | s, _ => s
theorem HasW.new {s : Sl} {w : Dw} (h : HasW s w) (w' : Dw) : HasW (newW s w') w' := by cases h <;> constructor
theorem newW_newW {s : Sl} {w : Dw} (h : HasW s w) (w1 w2 : Dw) : newW (newW s w1) w2 = newW s w2 := by cases h <;> rfl
theorem mkArgs_v (ρ : PB.Env) : ∀ ds : List D, mkArgs (ds.map .v) ρ = some (ds.map .fr)
  | [] => rfl
  | d :: ds => by
    rw [List.map_cons, List.map_cons]
    unfold mkArgs
    rw [mkArgs_v ρ ds]
    rfl
theorem slotsOf_v : ∀ ds : List D, slotsOf (ds.map .v) = []
  | [] => rfl
  | d :: ds => by
    rw [List.map_cons]
    unfold slotsOf
    exact slotsOf_v ds
theorem putBack_v (ρ : PB.Env) : ∀ (ds : List D) (os : PB.Env), os.length = ds.length → putBack (ds.map .v) os ρ = some ρ
  | [], [], _ => rfl
  | [], _ :: _, l => by simp at l
  | _ :: _, [], l => by simp at l
  | d :: ds, o :: os, l => by
    rw [List.map_cons]
    unfold putBack
    exact putBack_v ρ ds os (by simpa using l)
/-- a call that lends the draw -/
theorem callW {F : PB.Env → FR} {ρ os : PB.Env} {j : Nat} {s : Sl} {w w' : Dw} {ds : List D} {x : D} (hs : HasW s w) (hj : ρ[j]? = some s) (hF : F (io w :: ds.map .fr) = .ok x (io w' :: os)) (hl : os.length = ds.length) : callR F (.s j :: ds.map .v) ρ = .ok x (ρ.set j (newW s w')) := by
  have e1 : mkArgs (.s j :: ds.map .v) ρ = some (io w :: ds.map .fr) := by
    unfold mkArgs
    rw [hj, mkArgs_v]
    cases hs <;> rfl
  refine callR_ok (by unfold slotsOf; rw [slotsOf_v]; exact List.nodup_cons.mpr ⟨List.not_mem_nil, List.nodup_nil⟩) e1 hF ?_
  unfold putBack
  rw [hj]
  cases hs <;> exact putBack_v _ ds os hl
/-- a call of what changes nothing -/
theorem callV {F : PB.Env → FR} {ρ os : PB.Env} {ds : List D} {x : D} (hF : F (ds.map .fr) = .ok x os) (hl : os.length = ds.length) : callR F (ds.map .v) ρ = .ok x ρ :=
  callR_ok (by rw [slotsOf_v]; exact List.nodup_nil) (mkArgs_v ρ ds) hF (putBack_v ρ ds os hl)
theorem callV1 {F : PB.Env → FR} {ρ : PB.Env} {d x : D} {o : Sl} (hF : F [.fr d] = .ok x [o]) : callR F [.v d] ρ = .ok x ρ := callV (ds := [d]) hF rfl
theorem callV2 {F : PB.Env → FR} {ρ : PB.Env} {d e x : D} {o o2 : Sl} (hF : F [.fr d, .fr e] = .ok x [o, o2]) : callR F [.v d, .v e] ρ = .ok x ρ := callV (ds := [d, e]) hF rfl
theorem callV3 {F : PB.Env → FR} {ρ : PB.Env} {d e g x : D} {o o2 o3 : Sl} (hF : F [.fr d, .fr e, .fr g] = .ok x [o, o2, o3]) : callR F [.v d, .v e, .v g] ρ = .ok x ρ := callV (ds := [d, e, g]) hF rfl
theorem mCall_ok {F : PB.Env → FR} {ms : M (List Arg)} {ρ ρ1 : PB.Env} {as : List Arg} {r : Res D} (h : ms ρ = .ok as ρ1) (hc : callR F as ρ1 = r) : mCall F ms ρ = r := bind_ok h hc
theorem atI_of {xs : List D} {k : Int} (h1 : 0 ≤ k) (h2 : k < xs.length) : ∃ x, x ∈ xs ∧ atI xs k = some x := by
  refine ⟨xs[k.toNat]'(by omega), List.getElem_mem _, ?_⟩
  unfold atI
  have e : ixN xs.length k = some k.toNat := by
    unfold ixN
    rw [if_pos h1, if_pos h2]
  rw [e]
  exact List.getElem?_eq_getElem (by omega)
/-! ### walks -/
theorem forL_cnt {gb : D → PB.Env → Option PB.Env} {mb : M Fl} {J : Nat → PB.Env → Prop} {m : Nat} : ∀ {xs : List D} {n : Nat} {ρ : PB.Env}, (∀ x ∈ xs, ∀ n ρ, n < m → J n ρ → ∃ ρ1 ρ2, gb x ρ = some ρ1 ∧ mb ρ1 = .ok .nx ρ2 ∧ J (n + 1) ρ2) → n + xs.length ≤ m → J n ρ → ∃ ρ', forL gb mb xs ρ = .ok .nx ρ' ∧ J (n + xs.length) ρ'
  | [], n, ρ, _, _, h => ⟨ρ, rfl, h⟩
  | x :: xs, n, ρ, hs, hm, h => by
    rw [List.length_cons] at hm
    obtain ⟨ρ1, ρ2, e1, e2, h2⟩ := hs x List.mem_cons_self n ρ (by omega) h
    obtain ⟨ρ', e3, h3⟩ := forL_cnt (xs := xs) (fun y hy => hs y (List.mem_cons_of_mem _ hy)) (by omega) h2
    refine ⟨ρ', ?_, by rw [List.length_cons, ← Nat.add_assoc, Nat.add_right_comm]; exact h3⟩
    unfold forL
    rw [e1]
    simp only [e2]
    exact e3
theorem forL_all {gb : D → PB.Env → Option PB.Env} {mb : M Fl} {J : PB.Env → Prop} {xs : List D} {ρ : PB.Env} (hs : ∀ x ∈ xs, ∀ ρ, J ρ → ∃ ρ1 ρ2, gb x ρ = some ρ1 ∧ mb ρ1 = .ok .nx ρ2 ∧ J ρ2) (h : J ρ) : ∃ ρ', forL gb mb xs ρ = .ok .nx ρ' ∧ J ρ' :=
  forL_cnt (J := fun _ => J) (n := 0) (fun x hx _ ρ _ => hs x hx ρ) (Nat.le_refl _) h
theorem lcL_all {own : List Nat} {gb : D → PB.Env → Option PB.Env} {me : M D} {J : PB.Env → Prop} {P : D → Prop} : ∀ {xs acc : List D} {ρ : PB.Env}, (∀ x ∈ xs, ∀ ρ, J ρ → ∃ ρ1 y ρ3, gb x ρ = some ρ1 ∧ me ρ1 = .ok y ρ3 ∧ P y ∧ J (wipeE own ρ3)) → J ρ → acc.length + xs.length < lim → (∀ y ∈ acc, P y) →
    ∃ ys ρ', lcL own gb mYes me xs acc ρ = .ok (.lst ys) ρ' ∧ J ρ' ∧ ys.length = acc.length + xs.length ∧ ∀ y ∈ ys, P y
  | [], acc, ρ, _, h, _, ha => ⟨acc, ρ, rfl, h, rfl, ha⟩
  | x :: xs, acc, ρ, hs, h, hl, ha => by
    obtain ⟨ρ1, y, ρ3, e1, e2, hy, h2⟩ := hs x List.mem_cons_self ρ h
    rw [List.length_cons] at hl
    obtain ⟨ys, ρ', e3, h3, l3, p3⟩ := lcL_all (xs := xs) (acc := acc ++ [y]) (fun z hz => hs z (List.mem_cons_of_mem _ hz)) h2 (by rw [List.length_append, List.length_singleton]; omega) (fun z hz => (List.mem_append.mp hz).elim (ha z) fun q => by rw [List.mem_singleton.mp q]; exact hy)
    refine ⟨ys, ρ', ?_, h3, by rw [l3, List.length_append, List.length_singleton, List.length_cons]; omega, p3⟩
    unfold lcL
    rw [e1]
    show (match me ρ1 with
      | .ok y ρ3 => if acc.length < lim then lcL own gb mYes me xs (acc ++ [y]) (wipeE own ρ3) else .bad
      | _ => .bad) = _
    rw [e2]
    show (if acc.length < lim then lcL own gb mYes me xs (acc ++ [y]) (wipeE own ρ3) else .bad) = _
    rw [if_pos (by omega)]
    exact e3
/-- a comprehension whose elements are told one by one, the rest standing still -/
theorem lcL_map {own : List Nat} {gb : D → PB.Env → Option PB.Env} {me : M D} {f : D → D} {ρ : PB.Env} : ∀ {xs acc : List D}, (∀ x ∈ xs, ∃ ρ1 ρ3, gb x ρ = some ρ1 ∧ me ρ1 = .ok (f x) ρ3 ∧ wipeE own ρ3 = ρ) → acc.length + xs.length < lim → lcL own gb mYes me xs acc ρ = .ok (.lst (acc ++ xs.map f)) ρ
  | [], acc, _, _ => by rw [List.map_nil, List.append_nil]; rfl
  | x :: xs, acc, hs, hl => by
    obtain ⟨ρ1, ρ3, e1, e2, e3⟩ := hs x List.mem_cons_self
    rw [List.length_cons] at hl
    have e4 := lcL_map (own := own) (gb := gb) (me := me) (f := f) (ρ := ρ) (xs := xs) (acc := acc ++ [f x]) (fun z hz => hs z (List.mem_cons_of_mem _ hz)) (by rw [List.length_append, List.length_singleton]; omega)
    unfold lcL
    rw [e1]
    show (match me ρ1 with
      | .ok y ρ3 => if acc.length < lim then lcL own gb mYes me xs (acc ++ [y]) (wipeE own ρ3) else .bad
      | _ => .bad) = _
    rw [e2]
    show (if acc.length < lim then lcL own gb mYes me xs (acc ++ [f x]) (wipeE own ρ3) else .bad) = _
    rw [if_pos (by omega), e3, e4, List.map_cons, List.append_assoc]
    rfl
theorem intsD_ints : ∀ ls : List Int, intsD (ls.map D.int) = some ls
  | [] => rfl
  | x :: ls => by
    rw [List.map_cons]
    unfold intsD
    rw [intsD_ints ls]
    rfl
/-! ### data that can be compared -/
def Shp (d : D) : Prop := ∃ p, toP d = some p ∧ p.canLay0 = true ∧ p.depth ≤ 60
theorem shp_list : ∀ {xs : List D}, (∀ x ∈ xs, Shp x) → ∃ ps, toPL xs = some ps ∧ PyData.canLayAll0 ps = true ∧ PyData.depthAll ps ≤ 60
  | [], _ => ⟨[], rfl, rfl, by decide⟩
  | x :: xs, h => by
    obtain ⟨p, e1, c1, d1⟩ := h x List.mem_cons_self
    obtain ⟨ps, e2, c2, d2⟩ := shp_list (xs := xs) fun y hy => h y (List.mem_cons_of_mem _ hy)
    refine ⟨p :: ps, ?_, ?_, ?_⟩
    · unfold toPL
      rw [e1, e2]
    · unfold PyData.canLayAll0
      rw [c1, c2]
      rfl
    · unfold PyData.depthAll
      omega
theorem ne_nil {xs : List D} (h : ∀ x ∈ xs, Shp x) : fNe (.lst xs) (.lst []) = some (.bl (!xs.isEmpty)) := by
  obtain ⟨ps, e, c, dp⟩ := shp_list h
  have e1 : toP (.lst xs) = some (.list ps) := by
    unfold toP
    rw [e]
    rfl
  have s1 : SeqAt.shaped (.list ps) = true := by
    unfold SeqAt.shaped
    rw [Bool.and_eq_true]
    refine ⟨?_, decide_eq_true ?_⟩
    · unfold PyData.canLay0
      exact c
    · unfold PyData.depth
      omega
  unfold fNe fEqB
  rw [e1]
  show (if (SeqAt.shaped (.list ps) && SeqAt.shaped (.list [])) = true then some (D.bl (!PyData.eqv (.list ps) (.list []))) else none) = _
  rw [s1]
  cases xs with
  | nil =>
    cases e
    rfl
  | cons x xs =>
    unfold toPL at e
    split at e
    · cases e; rfl
    · cases e
/-! ### tests, dicts -/
section
variable {ρ ρ1 : PB.Env}
theorem mOrB_f {a b : M Bool} {r : Res Bool} (ha : a ρ = .ok false ρ1) (hb : b ρ1 = r) : mOrB a b ρ = r := by
  unfold mOrB
  rw [ha]
  exact hb
theorem mOrB_t {a b : M Bool} (ha : a ρ = .ok true ρ1) : mOrB a b ρ = .ok true ρ1 := by
  unfold mOrB
  rw [ha]
  rfl
theorem mAndB_t {a b : M Bool} {r : Res Bool} (ha : a ρ = .ok true ρ1) (hb : b ρ1 = r) : mAndB a b ρ = r := by
  unfold mAndB
  rw [ha]
  exact hb
theorem mAndB_f {a b : M Bool} (ha : a ρ = .ok false ρ1) : mAndB a b ρ = .ok false ρ1 := by
  unfold mAndB
  rw [ha]
  rfl
theorem zip_fs : ∀ ps : List (Key × D), (ps.map (·.1)).zip (ps.map (·.2)) = ps
  | [] => rfl
  | p :: ps => by rw [List.map_cons, List.map_cons, List.zip_cons_cons, zip_fs ps]
theorem sDput_ok {i : Nat} {mk mv : M D} {k v : D} {y : Key} {ps : List (Key × D)} (hv : mv ρ = .ok v ρ1) (h1 : ρ1[i]? = some (.ow (dctOf ps))) (hk : mk ρ1 = .ok k ρ1) (hy : keyD k = some y) (hl : ps.length < lim) : sDput i mk mv ρ = .ok .nx (ρ1.set i (.ow (dctOf (putKD ps y v)))) := by
  have g : getO ρ1 i = some (dctOf ps) := by
    unfold getO
    rw [h1]
  unfold sDput
  rw [hv]
  show (match getO ρ1 i with
    | some (.dct _ _) => (mk ρ1).bind fun k ρ2 => (match getO ρ2 i, keyD k with
      | some (.dct ks xs), some y => if ks.length < lim then Res.ok Fl.nx (putO ρ2 i (dctOf (putKD (ks.zip xs) y v))) else .bad
      | _, _ => .bad)
    | _ => .bad) = _
  rw [g]
  show ((mk ρ1).bind fun k ρ2 => (match getO ρ2 i, keyD k with
      | some (.dct ks xs), some y => if ks.length < lim then Res.ok Fl.nx (putO ρ2 i (dctOf (putKD (ks.zip xs) y v))) else .bad
      | _, _ => .bad)) = _
  rw [hk]
  show (match getO ρ1 i, keyD k with
      | some (.dct ks xs), some y => if ks.length < lim then Res.ok Fl.nx (putO ρ1 i (dctOf (putKD (ks.zip xs) y v))) else .bad
      | _, _ => .bad) = _
  rw [g, hy]
  show (if (ps.map (·.1)).length < lim then Res.ok Fl.nx (putO ρ1 i (dctOf (putKD ((ps.map (·.1)).zip (ps.map (·.2))) y v))) else .bad) = _
  rw [if_pos (by rw [List.length_map]; exact hl), zip_fs]
  unfold putO
  rw [h1]
theorem valD_mem {k : Key} : ∀ {ps : List (Key × D)}, k ∈ ps.map (·.1) → ∃ p ∈ ps, valD (ps.map (·.1)) (ps.map (·.2)) k = some p.2
  | [], h => nomatch h
  | p :: ps, h => by
    rw [List.map_cons, List.map_cons]
    unfold valD
    by_cases q : p.1 = k
    · exact ⟨p, List.mem_cons_self, if_pos q⟩
    · rcases List.mem_cons.mp h with rfl | h
      · exact absurd rfl q
      · obtain ⟨p', h1, h2⟩ := valD_mem h
        exact ⟨p', List.mem_cons_of_mem _ h1, by rw [if_neg q]; exact h2⟩
theorem putKD_all {Q : Key → D → Prop} {ps : List (Key × D)} {k : Key} {d : D} (g : ∀ p ∈ ps, Q p.1 p.2) (h : Q k d) : (∀ p ∈ putKD ps k d, Q p.1 p.2) ∧ (putKD ps k d).length ≤ ps.length + 1 := by
  unfold putKD
  split
  · refine ⟨fun p hp => ?_, by rw [List.length_map]; omega⟩
    obtain ⟨p0, h0, rfl⟩ := List.mem_map.mp hp
    by_cases q : p0.1 = k
    · rw [if_pos q]; subst q; exact h
    · rw [if_neg q]; exact g p0 h0
  · refine ⟨fun p hp => ?_, by rw [List.length_append, List.length_singleton]; exact Nat.le_refl _⟩
    rcases List.mem_append.mp hp with h1 | h1
    · exact g p h1
    · rw [List.mem_singleton.mp h1]; exact h
theorem blsD_true : ∀ l : List D, blsD (l.map fun _ => .bl true) = some (l.map fun _ => true)
  | [] => rfl
  | x :: l => by
    rw [List.map_cons, List.map_cons]
    unfold blsD
    rw [blsD_true l]
    rfl
theorem all_true (l : List D) : fAll [.lst (l.map fun _ => .bl true)] = some (.bl true) := by
  show (blsD (l.map fun _ => .bl true)).map (fun bs => D.bl (bs.all id)) = _
  rw [blsD_true]
  show some (D.bl ((l.map fun _ => true).all id)) = _
  rw [List.all_eq_true.mpr fun b hb => by
    obtain ⟨_, _, rfl⟩ := List.mem_map.mp hb
    rfl]
end
/-! ### more steps -/
section
variable {ρ ρ1 ρ2 : PB.Env}
theorem mLc_ok {own : List Nat} {gb : D → PB.Env → Option PB.Env} {mi : M (List D)} {mt : M Bool} {me : M D} {xs : List D} {r : Res D} (hi : mi ρ = .ok xs ρ1) (hl : lcL own gb mt me xs [] (wipeE own ρ1) = r) : mLc own gb mi mt me ρ = r := bind_ok hi hl
theorem mFn_ok {f : List D → Option D} {ms : M (List D)} {ds : List D} {d : D} (h : ms ρ = .ok ds ρ1) (hf : f ds = some d) : mFn f ms ρ = .ok d ρ1 := bind_ok h (by rw [hf]; rfl)
theorem mFrz_ok {m : M D} {d : D} (h : m ρ = .ok d ρ1) (hd : isDrw d = false) : mFrz m ρ = .ok d ρ1 := bind_ok h (by rw [hd]; rfl)
theorem mTup_ok {ms : M (List D)} {ds : List D} (h : ms ρ = .ok ds ρ1) (hl : ds.length ≤ lim) : mTup ms ρ = .ok (.tup ds) ρ1 := bind_ok h (if_pos hl)
theorem mLst_ok {ms : M (List D)} {ds : List D} (h : ms ρ = .ok ds ρ1) (hl : ds.length ≤ lim) : mLst ms ρ = .ok (.lst ds) ρ1 := bind_ok h (if_pos hl)
theorem mItems_ok {f : D → Option (List D)} {m : M D} {d : D} {xs : List D} (h : m ρ = .ok d ρ1) (hf : f d = some xs) : mItems f m ρ = .ok xs ρ1 := bind_ok h (by rw [hf]; rfl)
theorem mItemsL_ok {f : List D → Option (List D)} {ms : M (List D)} {ds xs : List D} (h : ms ρ = .ok ds ρ1) (hf : f ds = some xs) : mItemsL f ms ρ = .ok xs ρ1 := bind_ok h (by rw [hf]; rfl)
theorem mTru_ok {m : M D} {b : Bool} (h : m ρ = .ok (.bl b) ρ1) : mTru m ρ = .ok b ρ1 := bind_ok h rfl
theorem mNotB_ok {m : M Bool} {b : Bool} (h : m ρ = .ok b ρ1) : mNotB m ρ = .ok (!b) ρ1 := bind_ok h rfl
theorem sFor_ok {gb : D → PB.Env → Option PB.Env} {mi : M (List D)} {mb : M Fl} {xs : List D} {r : Res Fl} (hi : mi ρ = .ok xs ρ1) (h : forL gb mb xs ρ1 = r) : sFor gb mi mb ρ = r := bind_ok hi h
theorem aV_ok {m : M D} {ms : M (List Arg)} {d : D} {as : List Arg} (h : m ρ = .ok d ρ1) (hs : ms ρ1 = .ok as ρ2) : aV m ms ρ = .ok (.v d :: as) ρ2 := bind_ok h (bind_ok hs rfl)
theorem mStar_ok {m : M D} {ms : M (List D)} {d : D} {xs ys : List D} (h : m ρ = .ok d ρ1) (hd : asSeq d = some xs) (hs : ms ρ1 = .ok ys ρ2) : mStar m ms ρ = .ok (xs ++ ys) ρ2 := bind_ok h (by rw [hd]; exact bind_ok hs rfl)
theorem mChain_t {f g : D → D → Option D} {ma mb mc : M D} {x y z d : D} {ρ3 : PB.Env} (ha : ma ρ = .ok x ρ1) (hb : mb ρ1 = .ok y ρ2) (hf : f x y = some (.bl true)) (hc : mc ρ2 = .ok z ρ3) (hg : g y z = some d) : mChain f g ma mb mc ρ = .ok d ρ3 := bind_ok ha (bind_ok hb (by rw [hf]; exact bind_ok hc (by rw [hg]; rfl)))
theorem mAndV_t {a b : M D} {d : D} {r : Res D} (ha : a ρ = .ok d ρ1) (ht : truD d = some true) (hb : b ρ1 = r) : mAndV a b ρ = r := bind_ok ha (by rw [ht]; exact hb)
theorem fLe_t {i j : Int} (h : i ≤ j) : fLe (.int i) (.int j) = some (.bl true) := by
  show some (D.bl (decide (i ≤ j))) = _
  rw [decide_eq_true h]
theorem sIf_rt {t : M Bool} {m : M D} {b : M Fl} {d : D} (h : t ρ = .ok true ρ1) (hm : m ρ1 = .ok d ρ2) : sIf t (sRet m) b ρ = .ok (.rt d) ρ2 := sIf_t h (sRet_ok hm)
theorem sSeq_rt {a b : M Fl} {d : D} (h : a ρ = .ok (.rt d) ρ1) : sSeq a b ρ = .ok (.rt d) ρ1 := by
  unfold sSeq
  rw [h]
theorem pairsD_len : ∀ ps : List (Key × D), (pairsD (ps.map (·.1)) (ps.map (·.2))).length = ps.length
  | [] => rfl
  | (.inl i, d) :: ps => by
    show (pairsD (ps.map (·.1)) (ps.map (·.2))).length + 1 = _
    rw [pairsD_len ps]
    rfl
  | (.inr i, d) :: ps => by
    show (pairsD (ps.map (·.1)) (ps.map (·.2))).length + 1 = _
    rw [pairsD_len ps]
    rfl
theorem mStarI_ok {m : M D} {ms : M (List D)} {ps : List (Key × D)} {ys : List D} (h : m ρ = .ok (dctOf ps) ρ1) (hs : ms ρ1 = .ok ys ρ2) : mStarI m ms ρ = .ok (pairsD (ps.map (·.1)) (ps.map (·.2)) ++ ys) ρ2 := bind_ok h (bind_ok hs rfl)
theorem m1_ok {f : D → Option D} {m : M D} {x d : D} (h : m ρ = .ok x ρ1) (hf : f x = some d) : m1 f m ρ = .ok d ρ1 := bind_ok h (by rw [hf]; rfl)
theorem mSl_ok {mx : M D} {ml mh : M (Option Int)} {x d : D} {l u : Option Int} {ρ3 : PB.Env} (hx : mx ρ = .ok x ρ1) (hl : ml ρ1 = .ok l ρ2) (hh : mh ρ2 = .ok u ρ3) (hc : cutD x l u = some d) : mSl mx ml mh ρ = .ok d ρ3 := bind_ok hx (bind_ok hl (bind_ok hh (by rw [hc]; rfl)))
theorem mPart_ok {m : M D} {i : Int} (h : m ρ = .ok (.int i) ρ1) : mPart m ρ = .ok (some i) ρ1 := bind_ok h rfl
theorem asR1_ok {k : Int} (h : -(2 ^ 62) ≤ k ∧ k < 2 ^ 62) : asR1 [.int k] = some (rngD 0 k.toNat) := if_pos h
theorem sDo_ok {m : M D} {d : D} (h : m ρ = .ok d ρ1) : sDo m ρ = .ok .nx ρ1 := bind_ok h rfl
theorem shp_str {x : Str} (h : (PyData.str x).canLay0 = true) : Shp (.str x) := ⟨.str x, rfl, h, Nat.zero_le _⟩
end
/-! ### slots that are lent, lists that grow -/
section
variable {ρ ρ1 : PB.Env}
theorem callS {F : PB.Env → FR} {os : PB.Env} {j : Nat} {d0 d1 x : D} {ds : List D} (hj : ρ[j]? = some (.io d0)) (hF : F (.io d0 :: ds.map .fr) = .ok x (.io d1 :: os)) (hl : os.length = ds.length) : callR F (.s j :: ds.map .v) ρ = .ok x (ρ.set j (.io d1)) := by
  have e1 : mkArgs (.s j :: ds.map .v) ρ = some (.io d0 :: ds.map .fr) := by
    unfold mkArgs
    rw [hj, mkArgs_v]
    rfl
  refine callR_ok (by unfold slotsOf; rw [slotsOf_v]; exact List.nodup_cons.mpr ⟨List.not_mem_nil, List.nodup_nil⟩) e1 hF ?_
  unfold putBack
  rw [hj]
  exact putBack_v _ ds os hl
theorem sApp_ok {i : Nat} {m : M D} {d : D} {ys xs : List D} (h0 : ρ[i]? = some (.ow (.lst ys))) (hm : m ρ = .ok d ρ1) (h1 : ρ1[i]? = some (.ow (.lst xs))) (hl : xs.length < lim) : sApp i m ρ = .ok .nx (ρ1.set i (.ow (.lst (xs ++ [d])))) := by
  have g0 : getO ρ i = some (.lst ys) := by
    unfold getO
    rw [h0]
  have g1 : getO ρ1 i = some (.lst xs) := by
    unfold getO
    rw [h1]
  unfold sApp
  rw [g0]
  show ((m ρ).bind fun d ρ1 => match getO ρ1 i with
    | some (.lst xs) => if xs.length < lim then Res.ok Fl.nx (putO ρ1 i (.lst (xs ++ [d]))) else .bad
    | _ => .bad) = _
  rw [hm]
  show (match getO ρ1 i with
    | some (.lst xs) => if xs.length < lim then Res.ok Fl.nx (putO ρ1 i (.lst (xs ++ [d]))) else .bad
    | _ => .bad) = _
  rw [g1]
  show (if xs.length < lim then Res.ok Fl.nx (putO ρ1 i (.lst (xs ++ [d]))) else .bad) = _
  rw [if_pos hl]
  unfold putO
  rw [h1]
theorem atI_last {xs : List D} {d : D} : atI (xs ++ [d]) (-1) = some d := by
  unfold atI
  have e : ixN (xs ++ [d]).length (-1) = some xs.length := by
    unfold ixN
    rw [if_neg (by omega), List.length_append, List.length_singleton]
    have e1 : (-1 + ((xs.length + 1 : Nat) : Int)).toNat = xs.length := by omega
    first
      | rw [if_pos (by omega), e1]
      | (simp only [e1]; rw [if_pos (by omega)])
      | (simp; omega)
  rw [e]
  simp
theorem atI_nat {xs : List D} {k : Nat} {d : D} (h : xs[k]? = some d) : atI xs (k : Int) = some d := by
  obtain ⟨hk, e⟩ := List.getElem?_eq_some_iff.mp h
  unfold atI
  have e : ixN xs.length (k : Int) = some k := by
    unfold ixN
    rw [if_pos (by omega), if_pos (by omega)]
    simp
  rw [e]
  exact h
theorem fIxA_lst {xs : List D} {k : Int} {d : D} (h : atI xs k = some d) : fIxA (.lst xs) (.int k) = some d := by
  show (((atI xs k).orElse fun _ => fIxT (.lst xs) (.int k))).orElse (fun _ => fDGet (.lst xs) (.int k)) = _
  rw [h]
  rfl
theorem fIxA_tup {xs : List D} {k : Int} {d : D} (h : atI xs k = some d) : fIxA (.tup xs) (.int k) = some d := by
  show (((none : Option D).orElse fun _ => atI xs k)).orElse (fun _ => fDGet (.tup xs) (.int k)) = _
  rw [h]
  rfl
theorem mIxO_ok {i : Nat} {m : M D} {k : Int} {xs ys : List D} {d : D} (h0 : ρ[i]? = some (.ow (.lst ys))) (hm : m ρ = .ok (.int k) ρ1) (h1 : ρ1[i]? = some (.ow (.lst xs))) (hk : atI xs k = some d) : mIxP i m ρ = .ok d ρ1 := by
  have g0 : getO ρ i = some (.lst ys) := by
    unfold getO
    rw [h0]
  have g1 : getO ρ1 i = some (.lst xs) := by
    unfold getO
    rw [h1]
  unfold mIxP
  rw [h0]
  show mIxO i m ρ = _
  unfold mIxO
  rw [g0]
  show ((m ρ).bind fun y ρ1 => (match getO ρ1 i, y with
    | some (.lst xs), .int k => optR (atI xs k) ρ1
    | _, _ => .bad)) = _
  rw [hm]
  show (match getO ρ1 i, (D.int k) with
    | some (.lst xs), .int k => optR (atI xs k) ρ1
    | _, _ => .bad) = _
  rw [g1]
  show optR (atI xs k) ρ1 = _
  rw [hk]
  rfl
end
/-! ### dicts made anew of their pairs -/
theorem pairsDk_app : ∀ {xs ys : List D} {ps qs : List (Key × D)}, pairsDk xs = some ps → pairsDk ys = some qs → pairsDk (xs ++ ys) = some (ps ++ qs)
  | [], _, _, _, h, k => by cases h; exact k
  | x :: xs, ys, ps, qs, h, k => by
    unfold pairsDk at h
    cases e1 : pairD x with
    | none => rw [e1] at h; cases h
    | some p =>
      cases e2 : pairsDk xs with
      | none => rw [e1, e2] at h; cases h
      | some r =>
        rw [e1, e2] at h
        cases h
        rw [List.cons_append]
        unfold pairsDk
        rw [e1, pairsDk_app e2 k]
        rfl
theorem pairsDk_items : ∀ ps : List (Key × D), pairsDk (pairsD (ps.map (·.1)) (ps.map (·.2))) = some ps
  | [] => rfl
  | (.inl i, d) :: ps => by
    show (match pairD (.tup [.int i, d]), pairsDk (pairsD (ps.map (·.1)) (ps.map (·.2))) with
      | some p, some r => some (p :: r)
      | _, _ => none) = _
    rw [pairsDk_items ps]
    rfl
  | (.inr i, d) :: ps => by
    show (match pairD (.tup [.str i, d]), pairsDk (pairsD (ps.map (·.1)) (ps.map (·.2))) with
      | some p, some r => some (p :: r)
      | _, _ => none) = _
    rw [pairsDk_items ps]
    rfl
theorem putKD_new {ps : List (Key × D)} {k : Key} {d : D} (h : k ∉ ps.map (·.1)) : putKD ps k d = ps ++ [(k, d)] := by
  unfold putKD
  rw [if_neg]
  intro e
  obtain ⟨p, hp, e⟩ := List.any_eq_true.mp e
  exact h (List.mem_map.mpr ⟨p, hp, of_decide_eq_true e⟩)
theorem mergeKD_app (ps qs rs : List (Key × D)) : mergeKD ps (qs ++ rs) = mergeKD (mergeKD ps qs) rs := by
  unfold mergeKD
  rw [List.foldl_append]
theorem mergeKD_new : ∀ (more acc : List (Key × D)), (acc.map (·.1) ++ more.map (·.1)).Nodup → mergeKD acc more = acc ++ more
  | [], acc, _ => by rw [List.append_nil]; rfl
  | p :: more, acc, h => by
    show mergeKD (putKD acc p.1 p.2) more = _
    have h1 : p.1 ∉ acc.map (·.1) := fun z => by
      rw [List.nodup_append] at h
      exact h.2.2 _ z _ (by simp) rfl
    rw [putKD_new h1, mergeKD_new more _ (by simpa using h), List.append_assoc]
    rfl
/-- dict([*d.items(), (k, v)]) -/
theorem fDict_more {ps : List (Key × D)} (hn : (ps.map (·.1)).Nodup) (w : Str) (d : D) : fDict [.lst (pairsD (ps.map (·.1)) (ps.map (·.2)) ++ [.tup [.str w, d]])] = some (dctOf (putKD ps (.inr w) d)) := by
  have e : pairsDk (pairsD (ps.map (·.1)) (ps.map (·.2)) ++ [.tup [.str w, d]]) = some (ps ++ [(.inr w, d)]) := pairsDk_app (pairsDk_items ps) rfl
  show (pairsDk _).map (fun ps => dctOf (mergeKD [] ps)) = _
  rw [e]
  show some (dctOf (mergeKD [] (ps ++ [(.inr w, d)]))) = _
  rw [mergeKD_app, mergeKD_new ps [] (by simpa using hn), List.nil_append]
  rfl
theorem putKD_nodup {ps : List (Key × D)} {k : Key} {d : D} (h : (ps.map (·.1)).Nodup) : ((putKD ps k d).map (·.1)).Nodup := by
  unfold putKD
  split
  · have e : (ps.map fun kv => if kv.1 = k then (kv.1, d) else kv).map (·.1) = ps.map (·.1) := by
      rw [List.map_map]
      refine List.map_congr_left fun p _ => ?_
      show (if p.1 = k then (p.1, d) else p).1 = p.1
      split <;> rfl
    rw [e]
    exact h
  · rename_i hk
    rw [List.map_append, List.nodup_append]
    refine ⟨h, List.nodup_cons.mpr ⟨List.not_mem_nil, List.nodup_nil⟩, fun a ha b hb e => ?_⟩
    have eb : b = k := by simpa using hb
    subst eb e
    obtain ⟨p, hp, ep⟩ := List.mem_map.mp ha
    exact hk (List.any_eq_true.mpr ⟨p, hp, decide_eq_true ep⟩)
/-- what stands under a text -/
abbrev look (ps : List (Key × D)) (w : Str) : Option D := valD (ps.map (·.1)) (ps.map (·.2)) (.inr w)
theorem fIxA_dct (ps : List (Key × D)) (w : Str) : fIxA (dctOf ps) (.str w) = look ps w := rfl
/-! ### bounded shapes -/
def SH (d : D) (b : Nat) : Prop := ∃ p, toP d = some p ∧ p.canLay0 = true ∧ p.depth ≤ b
theorem SH.mono {d : D} {b c : Nat} (h : SH d b) (hc : b ≤ c) : SH d c := let ⟨p, e, q, k⟩ := h; ⟨p, e, q, Nat.le_trans k hc⟩
theorem SH.shp {d : D} {b : Nat} (h : SH d b) (hc : b ≤ 60) : Shp d := h.mono hc
theorem SH.str {x : Str} (h : (PyData.str x).canLay0 = true) (b : Nat) : SH (.str x) b := ⟨.str x, rfl, h, Nat.zero_le _⟩
theorem SH.int (i : Int) (b : Nat) : SH (.int i) b := ⟨.int i, rfl, rfl, Nat.zero_le _⟩
theorem sh_list {b : Nat} : ∀ {xs : List D}, (∀ x ∈ xs, SH x b) → ∃ ps, toPL xs = some ps ∧ PyData.canLayAll0 ps = true ∧ PyData.depthAll ps ≤ b
  | [], _ => ⟨[], rfl, rfl, Nat.zero_le _⟩
  | x :: xs, h => by
    obtain ⟨p, e1, c1, d1⟩ := h x List.mem_cons_self
    obtain ⟨ps, e2, c2, d2⟩ := sh_list (xs := xs) fun y hy => h y (List.mem_cons_of_mem _ hy)
    refine ⟨p :: ps, ?_, ?_, ?_⟩
    · unfold toPL
      rw [e1, e2]
    · unfold PyData.canLayAll0
      rw [c1, c2]
      rfl
    · unfold PyData.depthAll
      omega
theorem SH.tup {b : Nat} {xs : List D} (h : ∀ x ∈ xs, SH x b) : SH (.tup xs) (b + 1) := by
  obtain ⟨ps, e, c, dp⟩ := sh_list h
  refine ⟨.tuple ps, ?_, ?_, ?_⟩
  · unfold toP
    rw [e]
    rfl
  · unfold PyData.canLay0
    exact c
  · unfold PyData.depth
    omega
theorem shaped_of {d : D} (h : Shp d) : ∃ p, toP d = some p ∧ SeqAt.shaped p = true := by
  obtain ⟨p, e, c, k⟩ := h
  refine ⟨p, e, ?_⟩
  unfold SeqAt.shaped
  rw [Bool.and_eq_true]
  exact ⟨c, decide_eq_true (by omega)⟩
theorem eqB_of {g : Bool → Bool} {x y : D} {p q : PyData} (ep : toP x = some p) (sp : SeqAt.shaped p = true) (eq : toP y = some q) (sq : SeqAt.shaped q = true) : fEqB g x y = some (.bl (g (PyData.eqv p q))) := by
  unfold fEqB
  rw [ep, eq]
  show (if (SeqAt.shaped p && SeqAt.shaped q) = true then some (D.bl (g (PyData.eqv p q))) else none) = _
  rw [sp, sq]
  rfl
/-- a tuple of some against () -/
theorem eq_unit {x : D} {xs : List D} (h : Shp (.tup (x :: xs))) : fEq (.tup (x :: xs)) (.tup []) = some (.bl false) := by
  obtain ⟨p, e, s⟩ := shaped_of h
  have e2 := e
  unfold toP at e2
  cases e1 : toPL (x :: xs) with
  | none => rw [e1] at e2; cases e2
  | some ps =>
    rw [e1] at e2
    cases e2
    cases ps with
    | nil =>
      unfold toPL at e1
      split at e1 <;> cases e1
    | cons p ps => exact eqB_of (q := .tuple []) e s rfl (by kernel_rfl)
/-! ### comprehensions by relation, with a test -/
inductive Fa2 (R : D → D → Prop) : List D → List D → Prop
  | nil : Fa2 R [] []
  | cons {x y : D} {xs ys : List D} : R x y → Fa2 R xs ys → Fa2 R (x :: xs) (y :: ys)
theorem lcL_rel {own : List Nat} {gb : D → PB.Env → Option PB.Env} {me : M D} {J : PB.Env → Prop} {Rel : D → D → Prop} : ∀ {xs acc : List D} {ρ : PB.Env}, (∀ x ∈ xs, ∀ ρ, J ρ → ∃ ρ1 y ρ3, gb x ρ = some ρ1 ∧ me ρ1 = .ok y ρ3 ∧ Rel x y ∧ J (wipeE own ρ3)) → J ρ → acc.length + xs.length < lim →
    ∃ ys ρ', lcL own gb mYes me xs acc ρ = .ok (.lst (acc ++ ys)) ρ' ∧ J ρ' ∧ Fa2 Rel xs ys
  | [], acc, ρ, _, h, _ => ⟨[], ρ, by rw [List.append_nil]; rfl, h, .nil⟩
  | x :: xs, acc, ρ, hs, h, hl => by
    obtain ⟨ρ1, y, ρ3, e1, e2, hy, h2⟩ := hs x List.mem_cons_self ρ h
    rw [List.length_cons] at hl
    obtain ⟨ys, ρ', e3, h3, p3⟩ := lcL_rel (xs := xs) (acc := acc ++ [y]) (fun z hz => hs z (List.mem_cons_of_mem _ hz)) h2 (by rw [List.length_append, List.length_singleton]; omega)
    refine ⟨y :: ys, ρ', ?_, h3, .cons hy p3⟩
    unfold lcL
    rw [e1]
    show (match me ρ1 with
      | .ok y ρ3 => if acc.length < lim then lcL own gb mYes me xs (acc ++ [y]) (wipeE own ρ3) else .bad
      | _ => .bad) = _
    rw [e2]
    show (if acc.length < lim then lcL own gb mYes me xs (acc ++ [y]) (wipeE own ρ3) else .bad) = _
    rw [if_pos (by omega), e3, List.append_assoc]
    rfl
/-- [x for x in texts if ..] -/
theorem lcL_filS {own : List Nat} {gb : D → PB.Env → Option PB.Env} {mt : M Bool} {me : M D} {b : Str → Bool} {ρ : PB.Env} : ∀ {ws acc : List Str}, (∀ w ∈ ws, ∃ ρ1, gb (.str w) ρ = some ρ1 ∧ mt ρ1 = .ok (b w) ρ1 ∧ me ρ1 = .ok (.str w) ρ1 ∧ wipeE own ρ1 = ρ) → acc.length + ws.length < lim → lcL own gb mt me (ws.map D.str) (acc.map D.str) ρ = .ok (.lst ((acc ++ ws.filter b).map D.str)) ρ
  | [], acc, _, _ => by rw [List.filter_nil, List.append_nil]; rfl
  | w :: ws, acc, hs, hl => by
    obtain ⟨ρ1, e1, e2, e3, e4⟩ := hs w List.mem_cons_self
    rw [List.length_cons] at hl
    rw [List.map_cons]
    unfold lcL
    rw [e1]
    show (match mt ρ1 with
      | .ok true ρ2 => (match me ρ2 with
        | .ok y ρ3 => if (acc.map D.str).length < lim then lcL own gb mt me (ws.map D.str) (acc.map D.str ++ [y]) (wipeE own ρ3) else .bad
        | _ => .bad)
      | .ok false ρ2 => lcL own gb mt me (ws.map D.str) (acc.map D.str) (wipeE own ρ2)
      | _ => .bad) = _
    rw [e2]
    cases hb : b w with
    | true =>
      show (match me ρ1 with
        | .ok y ρ3 => if (acc.map D.str).length < lim then lcL own gb mt me (ws.map D.str) (acc.map D.str ++ [y]) (wipeE own ρ3) else .bad
        | _ => .bad) = _
      rw [e3]
      show (if (acc.map D.str).length < lim then lcL own gb mt me (ws.map D.str) (acc.map D.str ++ [.str w]) (wipeE own ρ1) else .bad) = _
      rw [if_pos (by rw [List.length_map]; omega), e4, List.filter_cons_of_pos hb]
      have := lcL_filS (own := own) (gb := gb) (mt := mt) (me := me) (b := b) (ρ := ρ) (ws := ws) (acc := acc ++ [w]) (fun v hv => hs v (List.mem_cons_of_mem _ hv)) (by rw [List.length_append, List.length_singleton]; omega)
      rw [List.map_append, List.append_assoc] at this
      exact this
    | false =>
      show lcL own gb mt me (ws.map D.str) (acc.map D.str) (wipeE own ρ1) = _
      rw [e4, List.filter_cons_of_neg (by rw [hb]; decide)]
      exact lcL_filS (fun v hv => hs v (List.mem_cons_of_mem _ hv)) (by omega)
theorem strsD_str : ∀ ws : List Str, strsD (ws.map D.str) = some ws
  | [] => rfl
  | w :: ws => by
    rw [List.map_cons]
    unfold strsD
    rw [strsD_str ws]
    rfl
theorem keysS_str : ∀ ws : List Str, keysS (ws.map Sum.inr) = some ws
  | [] => rfl
  | w :: ws => by
    rw [List.map_cons]
    unfold keysS
    rw [keysS_str ws]
    rfl
theorem toPL_str : ∀ ws : List Str, toPL (ws.map D.str) = some (ws.map PyData.str)
  | [] => rfl
  | w :: ws => by
    rw [List.map_cons, List.map_cons]
    unfold toPL
    rw [toPL_str ws]
    rfl
theorem sorted_strs {ws : List Str} (h : ws.length < 64) : fSorted [.lst (ws.map D.str)] = some (.lst ((sortS ws).map D.str)) := by
  have e : fSortedL [.lst (ws.map D.str)] = some (.lst ((sortS ws).map D.str)) := by
    show (match strsD (ws.map D.str) with
      | some a => if a.length < 64 then some (D.lst ((sortS a).map D.str)) else none
      | none => match intsD (ws.map D.str) with
        | some a => if a.length < 64 then some (D.lst ((sortI a).map D.int)) else none
        | none => none) = _
    rw [strsD_str]
    exact if_pos h
  unfold fSorted
  rw [e]
  rfl
theorem sorted_dct {ps : List (Key × D)} {ws : List Str} (hw : ps.map (·.1) = ws.map Sum.inr) (h : ws.length < 64) : fSorted [dctOf ps] = some (.lst ((sortS ws).map D.str)) := by
  show fSortedD [dctOf ps] = _
  show (keysS (ps.map (·.1))).bind (fun a => if a.length < 64 then some (D.lst ((sortS a).map D.str)) else none) = _
  rw [hw, keysS_str]
  exact if_pos h
/-! ### rows of some -/
def rowsU (xs : List D) : Nat → List (List D)
  | 0 => [[]]
  | n + 1 => [] :: xs.flatMap fun x => (rowsU xs n).map (x :: ·)
theorem mem_rowsU {xs : List D} : ∀ {n : Nat} {ys : List D}, ys.length ≤ n → (∀ y ∈ ys, y ∈ xs) → ys ∈ rowsU xs n
  | 0, [], _, _ => List.mem_singleton.mpr rfl
  | 0, _ :: _, l, _ => by simp at l
  | _ + 1, [], _, _ => List.mem_cons_self
  | n + 1, y :: ys, l, h => List.mem_cons_of_mem _ (List.mem_flatMap.mpr ⟨y, h y List.mem_cons_self, List.mem_map.mpr ⟨ys, mem_rowsU (by simpa using l) fun z hz => h z (List.mem_cons_of_mem _ hz), rfl⟩⟩)
end PB
set_option maxRecDepth 100000
set_option maxHeartbeats 4000000
namespace PB.Lk02
open PySem PySem.Spec PyProof.Rows L2 PB
open PySem.W (Frag keepIn)
theorem hu1 {k : Nat} {A : Around} (r : Room k A) : A.units + 1 < cLine := by have := r.units; omega
/-! ### the text -/
def top (i : Nat) : Stmt := PySem.Challenge.pw_playsalike_k02_terms_and_their_sorts.main.body.getD i (.Pass ⟨0, 0, 0, 0⟩)
def clsB (s : Stmt) : List Stmt := match s with
  | .ClassDef (body := b) .. => b
  | _ => []
def methOf (i j : Nat) : Stmt := (clsB (top i)).getD j (.Pass ⟨0, 0, 0, 0⟩)
abbrev s_is_number : Stmt := top 8
abbrev s_is_between : Stmt := top 9
abbrev s_is_tuple : Stmt := top 10
abbrev s_is_word : Stmt := top 11
abbrev s_need_between : Stmt := top 12
abbrev s_is_plain : Stmt := top 17
abbrev s_is_sort : Stmt := top 18
abbrev s_is_names : Stmt := top 19
abbrev s_need_names : Stmt := top 20
abbrev s_parts_of : Stmt := top 28
abbrev s_names_within : Stmt := top 29
abbrev s_is_shape : Stmt := top 30
abbrev s_is_use : Stmt := top 31
abbrev s_wanted_of : Stmt := top 32
abbrev s_sort_by : Stmt := top 33
abbrev s_need_size : Stmt := top 35
abbrev s_sort_of : Stmt := top 36
abbrev s_is_term : Stmt := top 37
abbrev s_law_begun : Stmt := top 39
abbrev s_law_mixed : Stmt := top 40
abbrev s_law_take : Stmt := top 41
abbrev s_law_pick : Stmt := top 42
abbrev s_law_shuffled : Stmt := top 43
abbrev s_law_caught : Stmt := top 44
abbrev s_law_names : Stmt := top 45
abbrev s_law_nodes : Stmt := top 46
abbrev s_law_parts : Stmt := top 47
abbrev s_law_boxes : Stmt := top 48
abbrev s_law_leaf : Stmt := top 49
abbrev s_law_call : Stmt := top 50
abbrev s_law_term : Stmt := top 51
abbrev s_law_fine_term : Stmt := top 52
abbrev s_law_broad : Stmt := top 53
abbrev s_law_spots : Stmt := top 54
abbrev s_law : Stmt := top 55
abbrev s_Sorter_init : Stmt := methOf 34 0
abbrev s_Sorter_sort_at : Stmt := methOf 34 1
def fnD (x : Str) (i : Nat) : He.FnD := ⟨(x, none), x, x, defArgs (top i), defBody (top i), defScope (top i)⟩
def meD (c x q : Str) (i j : Nat) : He.FnD := ⟨(c, some x), x, q, defArgs (methOf i j), defBody (methOf i j), defScope (methOf i j)⟩
def xD (c : Nat) (q p f : Str) (i : Nat) : XD := ⟨c, q, p, f, methOf i 0⟩
def clsNames : List Str := ["PlayError", "BadNumber", "BadSort", "BadTerm", "Sorter", "LENGTHS"]
def fnDs : List He.FnD := (([fnD "is_number" 8, fnD "is_between" 9, fnD "is_tuple" 10, fnD "is_word" 11, fnD "need_between" 12, fnD "is_plain" 17, fnD "is_sort" 18, fnD "is_names" 19, fnD "need_names" 20, fnD "parts_of" 28, fnD "names_within" 29, fnD "is_shape" 30, fnD "is_use" 31, fnD "wanted_of" 32, fnD "sort_by" 33, fnD "need_size" 35, fnD "sort_of" 36, fnD "is_term" 37, fnD "_law_begun" 39, fnD "_law_mixed" 40, fnD "_law_take" 41, fnD "_law_pick" 42, fnD "_law_shuffled" 43, fnD "_law_caught" 44, fnD "_law_names" 45, fnD "_law_nodes" 46, fnD "_law_parts" 47, fnD "_law_boxes" 48, fnD "_law_leaf" 49, fnD "_law_call" 50] : List He.FnD) ++ ([fnD "_law_term" 51, fnD "_law_fine_term" 52, fnD "_law_broad" 53, fnD "_law_spots" 54, fnD "law" 55] : List He.FnD))
def xDs : List XD := [xD 1 "BadNumber.__init__" "part" "part" 2, xD 3 "BadTerm.__init__" "at" "at" 4]
def plainC : List Nat := [0, 2]
def plainE : List Nat := []
def freeN : List Str := ["isinstance", "len", "int", "abs", "range", "enumerate", "repr", "super", "ValueError", "list", "tuple", "dict", "str", "bool", "all", "min", "sum", "sorted"]
def gloN : List Str := ((["is_number", "is_between", "is_tuple", "is_word", "need_between", "is_plain", "is_sort", "is_names", "need_names", "parts_of", "names_within", "is_shape", "is_use", "wanted_of", "sort_by", "need_size", "sort_of", "is_term", "_law_begun", "_law_mixed", "_law_take", "_law_pick", "_law_shuffled", "_law_caught", "_law_names", "_law_nodes", "_law_parts", "_law_boxes", "_law_leaf", "_law_call"] : List Str) ++ (["_law_term", "_law_fine_term", "_law_broad", "_law_spots", "law", "PlayError", "BadNumber", "BadSort", "BadTerm", "Sorter", "LENGTHS"] : List Str))
def own_Sorter : OwnD := ⟨4, [meD "Sorter" "__init__" "Sorter.__init__" 34 0, meD "Sorter" "sort_at" "Sorter.sort_at" 34 1], ["nodes", "size"]⟩
def ownDs : List OwnD := [own_Sorter]
def k_LETTERS : D := (.str "abcdefghijklmnopqrstuvwxyz")
def k_LONGEST_WORD : D := (.int 8)
def k_PLAIN : D := (.tup [(.str "num"), (.str "do"), (.str "box")])
def k_MOST_ARGS : D := (.int 3)
def k_MOST_NAMES : D := (.int 4)
def k_LEAST_SIZE : D := (.int 2)
def k_MOST_SIZE : D := (.int 4)
def k_MOST_NODES : D := (.int 60)
def k_MOST_DEEP : D := (.int 12)
def k_TWO_NUMBERS : D := (.tup [(.str "sum"), (.str "less"), (.str "same"), (.str "below")])
def cstDs : List (Str × D) := [("LETTERS", k_LETTERS), ("LONGEST_WORD", k_LONGEST_WORD), ("PLAIN", k_PLAIN), ("MOST_ARGS", k_MOST_ARGS), ("MOST_NAMES", k_MOST_NAMES), ("LEAST_SIZE", k_LEAST_SIZE), ("MOST_SIZE", k_MOST_SIZE), ("MOST_NODES", k_MOST_NODES), ("MOST_DEEP", k_MOST_DEEP), ("TWO_NUMBERS", k_TWO_NUMBERS)]
def ks_LENGTHS : List Str := ["number", "skip", "never", "name", "sum", "less", "same", "below", "not", "then", "if", "while", "get", "set", "new", "made", "claim"]
def xs_LENGTHS : List D := [(.int 2), (.int 1), (.int 2), (.int 3), (.int 3), (.int 3), (.int 3), (.int 3), (.int 2), (.int 3), (.int 4), (.int 3), (.int 2), (.int 3), (.int 4), (.int 4), (.int 2)]
def dicDs : List (Nat × List Str × List D) := [(5, ks_LENGTHS, xs_LENGTHS)]
def isX (c d : Nat) : Bool := c == d || d == 0
def btys : List String := ["NoneType", "bool", "int", "str", "tuple", "list", "dict"]
def bcls : List String := ["int", "bool", "tuple", "str", "dict"]
def ncls : List Nat := [3]
def isV : Tn → Tn → Bool
  | .inl c, .inl d => if c < 4 ∧ d < 4 then isX c d else c == d
  | .inl c, .inr s => decide (c < 4) && (decide (s = "ValueError") || decide (s = "Exception"))
  | .inr _, .inl _ => false
  | .inr s, .inr t => decide (s = t) || (decide (s = "bool") && decide (t = "int"))
def okT : Tn → Bool
  | .inl n => decide (n < 5)
  | .inr s => btys.contains s
def okC : Tn → Bool
  | .inl n => ncls.contains n
  | .inr s => bcls.contains s
def isF (t c : Tn) : Option Bool := if (okT t && okC c) = true then some (isV t c) else none
def tysL : List Tn := (List.range 5).map .inl ++ btys.map .inr
def clsL : List Tn := ncls.map .inl ++ bcls.map .inr
def isTab : List (Tn × Tn × Bool) := tysL.flatMap fun t => clsL.map fun c => (t, c, isV t c)
def excL : List (Nat × Nat × Bool) := (List.range 4).flatMap fun n => [0, 3].map fun c => (n, c, isX n c)
def tx : Tx := ⟨"/claim/cut.py", clsNames, 4, gloN, freeN, fnDs, xDs, plainC, plainE, isTab, ownDs, cstDs, dicDs, ["law"], excL⟩
def looseN : List Str := ((["is_number", "is_between", "is_tuple", "is_word", "need_between", "is_plain", "is_sort", "is_names", "need_names", "parts_of", "names_within", "is_shape", "is_use", "wanted_of", "sort_by", "need_size", "sort_of", "is_term", "_law_begun", "_law_mixed", "_law_take", "_law_pick", "_law_shuffled", "_law_caught", "_law_names", "_law_nodes", "_law_parts", "_law_boxes", "_law_leaf", "_law_call"] : List Str) ++ (["_law_term", "_law_fine_term", "_law_broad", "_law_spots", "PlayError", "BadNumber", "BadSort", "BadTerm", "Sorter", "LETTERS", "LONGEST_WORD", "PLAIN", "MOST_ARGS", "MOST_NAMES", "LEAST_SIZE", "MOST_SIZE", "MOST_NODES", "MOST_DEEP", "TWO_NUMBERS", "LENGTHS"] : List Str))
theorem isF_mem : ∀ t c b, isF t c = some b → (t, c, b) ∈ tx.isT := by
  intro t c b e
  unfold isF at e
  by_cases hh : (okT t && okC c) = true
  · rw [if_pos hh] at e
    cases e
    obtain ⟨h1, h2⟩ := He.ba hh
    refine List.mem_flatMap.mpr ⟨t, ?_, List.mem_map.mpr ⟨c, ?_, rfl⟩⟩
    · cases t with
      | inl n => exact List.mem_append_left _ (List.mem_map.mpr ⟨n, List.mem_range.mpr (of_decide_eq_true h1), rfl⟩)
      | inr s => exact List.mem_append_right _ (List.mem_map.mpr ⟨s, List.contains_iff_mem.mp h1, rfl⟩)
    · cases c with
      | inl n => exact List.mem_append_left _ (List.mem_map.mpr ⟨n, List.contains_iff_mem.mp h2, rfl⟩)
      | inr s => exact List.mem_append_right _ (List.mem_map.mpr ⟨s, List.contains_iff_mem.mp h2, rfl⟩)
  · rw [if_neg hh] at e; cases e
def exF (n : Nat) : Bool := decide (n < tx.nx)
def catF (c : Nat) (n : Nat) : Option Bool := if n < 4 then some (isX n c) else none
theorem cat_PlayError : ∀ n b, catF 0 n = some b → (n, 0, b) ∈ tx.exm := fun n b e => by
  unfold catF at e
  split at e
  · rename_i hh
    cases e
    exact List.mem_flatMap.mpr ⟨n, List.mem_range.mpr hh, List.mem_map.mpr ⟨0, by simp, rfl⟩⟩
  · cases e
theorem cat_BadTerm : ∀ n b, catF 3 n = some b → (n, 3, b) ∈ tx.exm := fun n b e => by
  unfold catF at e
  split at e
  · rename_i hh
    cases e
    exact List.mem_flatMap.mpr ⟨n, List.mem_range.mpr hh, List.mem_map.mpr ⟨3, by simp, rfl⟩⟩
  · cases e
/-! ### what stands behind the top -/
abbrev PW : Program := PySem.Challenge.pw_playsalike_k02_terms_and_their_sorts
structure H0 (w : World) (K : Frag) (mg : Str → Option Value) (base : Heap) : Prop where
  ok : tx.Ok PW w K
  gl : ∀ x ∈ gloN, mg x = some (.ref (He.ga K x))
  fr : ∀ x ∈ freeN, mg x = none
  cs : ∀ c ∈ cstDs, CstAt K mg c.1 c.2
section
variable {w : World} {K : Frag} {mg : Str → Option Value} {base : Heap}
theorem H0.g_PlayError (h : H0 w K mg base) : mg "PlayError" = some (.ref (tx.cl K 0)) := h.gl "PlayError" (List.mem_of_getElem? (i := 35) rfl)
theorem H0.g_BadNumber (h : H0 w K mg base) : mg "BadNumber" = some (.ref (tx.cl K 1)) := h.gl "BadNumber" (List.mem_of_getElem? (i := 36) rfl)
theorem H0.g_BadSort (h : H0 w K mg base) : mg "BadSort" = some (.ref (tx.cl K 2)) := h.gl "BadSort" (List.mem_of_getElem? (i := 37) rfl)
theorem H0.g_BadTerm (h : H0 w K mg base) : mg "BadTerm" = some (.ref (tx.cl K 3)) := h.gl "BadTerm" (List.mem_of_getElem? (i := 38) rfl)
theorem H0.g_Sorter (h : H0 w K mg base) : mg "Sorter" = some (.ref (tx.cl K 4)) := h.gl "Sorter" (List.mem_of_getElem? (i := 39) rfl)
theorem H0.g_LENGTHS (h : H0 w K mg base) : mg "LENGTHS" = some (.ref (tx.cl K 5)) := h.gl "LENGTHS" (List.mem_of_getElem? (i := 40) rfl)
theorem H0.f_is_number_fn (h : H0 w K mg base) : mg "is_number" = some (.ref (He.ga K "is_number")) := h.gl "is_number" (List.mem_of_getElem? (i := 0) rfl)
theorem H0.f_is_between_fn (h : H0 w K mg base) : mg "is_between" = some (.ref (He.ga K "is_between")) := h.gl "is_between" (List.mem_of_getElem? (i := 1) rfl)
theorem H0.f_is_tuple_fn (h : H0 w K mg base) : mg "is_tuple" = some (.ref (He.ga K "is_tuple")) := h.gl "is_tuple" (List.mem_of_getElem? (i := 2) rfl)
theorem H0.f_is_word_fn (h : H0 w K mg base) : mg "is_word" = some (.ref (He.ga K "is_word")) := h.gl "is_word" (List.mem_of_getElem? (i := 3) rfl)
theorem H0.f_need_between_fn (h : H0 w K mg base) : mg "need_between" = some (.ref (He.ga K "need_between")) := h.gl "need_between" (List.mem_of_getElem? (i := 4) rfl)
theorem H0.f_is_plain_fn (h : H0 w K mg base) : mg "is_plain" = some (.ref (He.ga K "is_plain")) := h.gl "is_plain" (List.mem_of_getElem? (i := 5) rfl)
theorem H0.f_is_sort_fn (h : H0 w K mg base) : mg "is_sort" = some (.ref (He.ga K "is_sort")) := h.gl "is_sort" (List.mem_of_getElem? (i := 6) rfl)
theorem H0.f_is_names_fn (h : H0 w K mg base) : mg "is_names" = some (.ref (He.ga K "is_names")) := h.gl "is_names" (List.mem_of_getElem? (i := 7) rfl)
theorem H0.f_need_names_fn (h : H0 w K mg base) : mg "need_names" = some (.ref (He.ga K "need_names")) := h.gl "need_names" (List.mem_of_getElem? (i := 8) rfl)
theorem H0.f_parts_of_fn (h : H0 w K mg base) : mg "parts_of" = some (.ref (He.ga K "parts_of")) := h.gl "parts_of" (List.mem_of_getElem? (i := 9) rfl)
theorem H0.f_names_within_fn (h : H0 w K mg base) : mg "names_within" = some (.ref (He.ga K "names_within")) := h.gl "names_within" (List.mem_of_getElem? (i := 10) rfl)
theorem H0.f_is_shape_fn (h : H0 w K mg base) : mg "is_shape" = some (.ref (He.ga K "is_shape")) := h.gl "is_shape" (List.mem_of_getElem? (i := 11) rfl)
theorem H0.f_is_use_fn (h : H0 w K mg base) : mg "is_use" = some (.ref (He.ga K "is_use")) := h.gl "is_use" (List.mem_of_getElem? (i := 12) rfl)
theorem H0.f_wanted_of_fn (h : H0 w K mg base) : mg "wanted_of" = some (.ref (He.ga K "wanted_of")) := h.gl "wanted_of" (List.mem_of_getElem? (i := 13) rfl)
theorem H0.f_sort_by_fn (h : H0 w K mg base) : mg "sort_by" = some (.ref (He.ga K "sort_by")) := h.gl "sort_by" (List.mem_of_getElem? (i := 14) rfl)
theorem H0.f_need_size_fn (h : H0 w K mg base) : mg "need_size" = some (.ref (He.ga K "need_size")) := h.gl "need_size" (List.mem_of_getElem? (i := 15) rfl)
theorem H0.f_sort_of_fn (h : H0 w K mg base) : mg "sort_of" = some (.ref (He.ga K "sort_of")) := h.gl "sort_of" (List.mem_of_getElem? (i := 16) rfl)
theorem H0.f_is_term_fn (h : H0 w K mg base) : mg "is_term" = some (.ref (He.ga K "is_term")) := h.gl "is_term" (List.mem_of_getElem? (i := 17) rfl)
theorem H0.f_law_begun_fn (h : H0 w K mg base) : mg "_law_begun" = some (.ref (He.ga K "_law_begun")) := h.gl "_law_begun" (List.mem_of_getElem? (i := 18) rfl)
theorem H0.f_law_mixed_fn (h : H0 w K mg base) : mg "_law_mixed" = some (.ref (He.ga K "_law_mixed")) := h.gl "_law_mixed" (List.mem_of_getElem? (i := 19) rfl)
theorem H0.f_law_take_fn (h : H0 w K mg base) : mg "_law_take" = some (.ref (He.ga K "_law_take")) := h.gl "_law_take" (List.mem_of_getElem? (i := 20) rfl)
theorem H0.f_law_pick_fn (h : H0 w K mg base) : mg "_law_pick" = some (.ref (He.ga K "_law_pick")) := h.gl "_law_pick" (List.mem_of_getElem? (i := 21) rfl)
theorem H0.f_law_shuffled_fn (h : H0 w K mg base) : mg "_law_shuffled" = some (.ref (He.ga K "_law_shuffled")) := h.gl "_law_shuffled" (List.mem_of_getElem? (i := 22) rfl)
theorem H0.f_law_caught_fn (h : H0 w K mg base) : mg "_law_caught" = some (.ref (He.ga K "_law_caught")) := h.gl "_law_caught" (List.mem_of_getElem? (i := 23) rfl)
theorem H0.f_law_names_fn (h : H0 w K mg base) : mg "_law_names" = some (.ref (He.ga K "_law_names")) := h.gl "_law_names" (List.mem_of_getElem? (i := 24) rfl)
theorem H0.f_law_nodes_fn (h : H0 w K mg base) : mg "_law_nodes" = some (.ref (He.ga K "_law_nodes")) := h.gl "_law_nodes" (List.mem_of_getElem? (i := 25) rfl)
theorem H0.f_law_parts_fn (h : H0 w K mg base) : mg "_law_parts" = some (.ref (He.ga K "_law_parts")) := h.gl "_law_parts" (List.mem_of_getElem? (i := 26) rfl)
theorem H0.f_law_boxes_fn (h : H0 w K mg base) : mg "_law_boxes" = some (.ref (He.ga K "_law_boxes")) := h.gl "_law_boxes" (List.mem_of_getElem? (i := 27) rfl)
theorem H0.f_law_leaf_fn (h : H0 w K mg base) : mg "_law_leaf" = some (.ref (He.ga K "_law_leaf")) := h.gl "_law_leaf" (List.mem_of_getElem? (i := 28) rfl)
theorem H0.f_law_call_fn (h : H0 w K mg base) : mg "_law_call" = some (.ref (He.ga K "_law_call")) := h.gl "_law_call" (List.mem_of_getElem? (i := 29) rfl)
theorem H0.f_law_term_fn (h : H0 w K mg base) : mg "_law_term" = some (.ref (He.ga K "_law_term")) := h.gl "_law_term" (List.mem_of_getElem? (i := 30) rfl)
theorem H0.f_law_fine_term_fn (h : H0 w K mg base) : mg "_law_fine_term" = some (.ref (He.ga K "_law_fine_term")) := h.gl "_law_fine_term" (List.mem_of_getElem? (i := 31) rfl)
theorem H0.f_law_broad_fn (h : H0 w K mg base) : mg "_law_broad" = some (.ref (He.ga K "_law_broad")) := h.gl "_law_broad" (List.mem_of_getElem? (i := 32) rfl)
theorem H0.f_law_spots_fn (h : H0 w K mg base) : mg "_law_spots" = some (.ref (He.ga K "_law_spots")) := h.gl "_law_spots" (List.mem_of_getElem? (i := 33) rfl)
theorem H0.f_law_fn (h : H0 w K mg base) : mg "law" = some (.ref (He.ga K "law")) := h.gl "law" (List.mem_of_getElem? (i := 34) rfl)
theorem H0.f_isinstance (h : H0 w K mg base) : mg "isinstance" = none := h.fr "isinstance" (List.mem_of_getElem? (i := 0) rfl)
theorem H0.f_len (h : H0 w K mg base) : mg "len" = none := h.fr "len" (List.mem_of_getElem? (i := 1) rfl)
theorem H0.f_int (h : H0 w K mg base) : mg "int" = none := h.fr "int" (List.mem_of_getElem? (i := 2) rfl)
theorem H0.f_abs (h : H0 w K mg base) : mg "abs" = none := h.fr "abs" (List.mem_of_getElem? (i := 3) rfl)
theorem H0.f_range (h : H0 w K mg base) : mg "range" = none := h.fr "range" (List.mem_of_getElem? (i := 4) rfl)
theorem H0.f_enumerate (h : H0 w K mg base) : mg "enumerate" = none := h.fr "enumerate" (List.mem_of_getElem? (i := 5) rfl)
theorem H0.f_repr (h : H0 w K mg base) : mg "repr" = none := h.fr "repr" (List.mem_of_getElem? (i := 6) rfl)
theorem H0.f_super (h : H0 w K mg base) : mg "super" = none := h.fr "super" (List.mem_of_getElem? (i := 7) rfl)
theorem H0.f_ValueError (h : H0 w K mg base) : mg "ValueError" = none := h.fr "ValueError" (List.mem_of_getElem? (i := 8) rfl)
theorem H0.f_list (h : H0 w K mg base) : mg "list" = none := h.fr "list" (List.mem_of_getElem? (i := 9) rfl)
theorem H0.f_tuple (h : H0 w K mg base) : mg "tuple" = none := h.fr "tuple" (List.mem_of_getElem? (i := 10) rfl)
theorem H0.f_dict (h : H0 w K mg base) : mg "dict" = none := h.fr "dict" (List.mem_of_getElem? (i := 11) rfl)
theorem H0.f_str (h : H0 w K mg base) : mg "str" = none := h.fr "str" (List.mem_of_getElem? (i := 12) rfl)
theorem H0.f_bool (h : H0 w K mg base) : mg "bool" = none := h.fr "bool" (List.mem_of_getElem? (i := 13) rfl)
theorem H0.f_all (h : H0 w K mg base) : mg "all" = none := h.fr "all" (List.mem_of_getElem? (i := 14) rfl)
theorem H0.f_min (h : H0 w K mg base) : mg "min" = none := h.fr "min" (List.mem_of_getElem? (i := 15) rfl)
theorem H0.f_sum (h : H0 w K mg base) : mg "sum" = none := h.fr "sum" (List.mem_of_getElem? (i := 16) rfl)
theorem H0.f_sorted (h : H0 w K mg base) : mg "sorted" = none := h.fr "sorted" (List.mem_of_getElem? (i := 17) rfl)
theorem H0.c_LETTERS (h : H0 w K mg base) : CstAt K mg "LETTERS" k_LETTERS := h.cs ("LETTERS", k_LETTERS) (List.mem_of_getElem? (i := 0) rfl)
theorem H0.c_LONGEST_WORD (h : H0 w K mg base) : CstAt K mg "LONGEST_WORD" k_LONGEST_WORD := h.cs ("LONGEST_WORD", k_LONGEST_WORD) (List.mem_of_getElem? (i := 1) rfl)
theorem H0.c_PLAIN (h : H0 w K mg base) : CstAt K mg "PLAIN" k_PLAIN := h.cs ("PLAIN", k_PLAIN) (List.mem_of_getElem? (i := 2) rfl)
theorem H0.c_MOST_ARGS (h : H0 w K mg base) : CstAt K mg "MOST_ARGS" k_MOST_ARGS := h.cs ("MOST_ARGS", k_MOST_ARGS) (List.mem_of_getElem? (i := 3) rfl)
theorem H0.c_MOST_NAMES (h : H0 w K mg base) : CstAt K mg "MOST_NAMES" k_MOST_NAMES := h.cs ("MOST_NAMES", k_MOST_NAMES) (List.mem_of_getElem? (i := 4) rfl)
theorem H0.c_LEAST_SIZE (h : H0 w K mg base) : CstAt K mg "LEAST_SIZE" k_LEAST_SIZE := h.cs ("LEAST_SIZE", k_LEAST_SIZE) (List.mem_of_getElem? (i := 5) rfl)
theorem H0.c_MOST_SIZE (h : H0 w K mg base) : CstAt K mg "MOST_SIZE" k_MOST_SIZE := h.cs ("MOST_SIZE", k_MOST_SIZE) (List.mem_of_getElem? (i := 6) rfl)
theorem H0.c_MOST_NODES (h : H0 w K mg base) : CstAt K mg "MOST_NODES" k_MOST_NODES := h.cs ("MOST_NODES", k_MOST_NODES) (List.mem_of_getElem? (i := 7) rfl)
theorem H0.c_MOST_DEEP (h : H0 w K mg base) : CstAt K mg "MOST_DEEP" k_MOST_DEEP := h.cs ("MOST_DEEP", k_MOST_DEEP) (List.mem_of_getElem? (i := 8) rfl)
theorem H0.c_TWO_NUMBERS (h : H0 w K mg base) : CstAt K mg "TWO_NUMBERS" k_TWO_NUMBERS := h.cs ("TWO_NUMBERS", k_TWO_NUMBERS) (List.mem_of_getElem? (i := 9) rfl)
theorem H0.d_LENGTHS (h : H0 w K mg base) : DicT K w (tx.cl K 5) ks_LENGTHS xs_LENGTHS := h.ok.dic (5, ks_LENGTHS, xs_LENGTHS) (List.mem_of_getElem? (i := 0) rfl) rfl
theorem htop : (PW.main.scope.names.lookup ("super" : Str)).isSome = false := by decide +kernel
theorem H0.clF (h : H0 w K mg base) {l : Lc} : ClF (tx.gc K l) isF exF tx.inB := h.ok.clF isF_mem
theorem H0.x_BadNumber (h : H0 w K mg base) {l : Lc} : XMk PW w K mg base 1 "BadNumber" "part" "part" ((tx.gc K l).cl 1) := xmk_of (d := xD 1 "BadNumber.__init__" "part" "part" 2) h.ok (List.mem_of_getElem? (i := 0) rfl) (by decide) h.g_BadNumber (by rfl) h.f_super htop
  (NdefX.nscope_by (by decide +kernel)) (by rfl) (by rfl) (by rfl) (by decide) (by decide) (by decide) (by rfl) (fun _ _ _ _ => rfl) (fun _ _ _ _ => rfl) (fun _ _ _ _ _ _ _ us hl => match us, hl with | [_, _], _ => rfl) (fun _ _ _ _ _ _ _ _ _ => rfl)
theorem H0.x_BadTerm (h : H0 w K mg base) {l : Lc} : XMk PW w K mg base 1 "BadTerm" "at" "at" ((tx.gc K l).cl 3) := xmk_of (d := xD 3 "BadTerm.__init__" "at" "at" 4) h.ok (List.mem_of_getElem? (i := 1) rfl) (by decide) h.g_BadTerm (by rfl) h.f_super htop
  (NdefX.nscope_by (by decide +kernel)) (by rfl) (by rfl) (by rfl) (by decide) (by decide) (by decide) (by rfl) (fun _ _ _ _ => rfl) (fun _ _ _ _ => rfl) (fun _ _ _ _ _ _ _ us hl => match us, hl with | [_, _], _ => rfl) (fun _ _ _ _ _ _ _ _ _ => rfl)
end
/-! ### ways to a part of the text -/
def exC : Expr → List Expr
  | .List es _ => es
  | .Tuple es _ _ => es
  | .Call f as _ _ => f :: as
  | .BinOp a _ b _ => [a, b]
  | .Compare a _ bs _ => a :: bs
  | .BoolOp _ as _ => as
  | .UnaryOp _ a _ => [a]
  | _ => []
def stE : Stmt → List Expr
  | .For _ it _ _ _ => [it]
  | .If c _ _ _ => [c]
  | .Assign _ v _ => [v]
  | .Return (some v) _ => [v]
  | .Expr v _ => [v]
  | _ => []
def stB : Stmt → List Stmt
  | .For _ _ b _ _ => b
  | .If _ a b _ => a ++ b
  | _ => []
def stAt : List Nat → List Stmt → Stmt
  | [], _ => .Pass ⟨0, 0, 0, 0⟩
  | [i], b => b.getD i (.Pass ⟨0, 0, 0, 0⟩)
  | i :: is, b => stAt is (stB (b.getD i (.Pass ⟨0, 0, 0, 0⟩)))
def exAt : List Nat → Expr → Expr
  | [], e => e
  | i :: is, e => exAt is ((exC e).getD i e)
def lamOf : Expr → LamD
  | .Lambda p b s _ => (p, b, s)
  | e => (defArgs (.Pass ⟨0, 0, 0, 0⟩), e, defScope (.Pass ⟨0, 0, 0, 0⟩))
end PB.Lk02
set_option maxRecDepth 100000
set_option maxHeartbeats 4000000
namespace PB.Lk02
open PySem PySem.Spec PyProof.Rows L2 PB
open PySem.W (Frag keepIn)
/-! ### is_word -/
def N_is_word : List Str := ["thing", "sign"]
theorem sc_is_word : FnScope N_is_word ["thing"] (defScope s_is_word) := ⟨rfl, rfl, rfl, by decide +kernel, rfl, by decide +kernel, by decide +kernel⟩
def e_is_word_0 : M D := (bin2 fInA (rdV 1) (rdC k_LETTERS))
def a_is_word_0 : M Fl := (sIf (mOrB (mNotB (mTru (mFn (fIsi isF exF tx.inB) (mCons (rdV 0) (mCons (rdC (.ty "str")) mNil))))) (mNotB (mTru (mChain fLe fLe (rdC
    (.int 1)) (mFn fLenA (mCons (rdV 0) mNil)) (rdC k_LONGEST_WORD))))) (sRet (rdC (.bl false))) sNx)
def a_is_word_1 : M Fl := (sRet (mFn fAll (mCons (mFrz (mLc [1] (bName 1) (mItems asAll (rdV 0)) mYes e_is_word_0)) mNil)))
def m_is_word : M Fl := (sSeq a_is_word_0 a_is_word_1)
def F_is_word : Env → FR := runF [] 1 2 m_is_word
theorem d_is_word {w : World} {K : Frag} {mg : Str → Option Value} {base : Heap} {l : Lc} (h : H0 w K mg base) : Callee PW w K mg base 1 "is_word" ["thing"] s_is_word (tx.gc K l) F_is_word :=
  callee_of (k := 0) (I := []) (N := N_is_word) (st := s_is_word) (mb := m_is_word) h.ok (List.mem_of_getElem? (i := 3) rfl) h.f_is_word_fn sc_is_word (by decide) (fun _ _ _ _ _ _ us hl => match us, hl with | [_], _ => rfl) fun f cdv A outer s H E hr => by
  exact (s_cons (s_if (PW.pt (t_or (t_not (t_of rfl (d_fn (call_isD (is := isF)) (n_isi h.clF) rfl h.f_isinstance PyProof.Rows.Boot.«isinstance» (a_cons (d_var (pv 0))
    (a_cons (d_const (v := .ty "str") (pe_bltn rfl h.f_str PyProof.Rows.Boot.«str» rfl) fun _ _ => rfl) a_nil))))) (t_or1 (t_not (t_chain op_le op_le o_leA
    o_leA bl_IB d_int (d_fn call_lenA n_lenA rfl h.f_len PyProof.Rows.Boot.«len» (a_cons (d_var (pv 0)) a_nil)) (d_cst rfl rfl h.c_LONGEST_WORD)))))) (s_one
    (s_ret d_bl)) s_nil) (s_one (s_ret (d_fn (cr_all rfl) n_bls rfl h.f_all PyProof.Rows.Boot.«all» (a_cons (d_frz (o_lc (own := [("sign", 1)]) rfl
    sc_is_word.nd src_all (c_name rfl) tst_yes (pi_all (by rfl) (d_var (pv 0))) (blkOk_by (own := [("sign", 1)])
    (by show blkC N_is_word (defScope s_is_word) _ _ = true; decide +kernel)) (fun _ _ _ _ _ => (pg_name sc_is_word.nd (i := 1) rfl
    (by first | exact Or.inl rfl | exact Or.inr rfl))) (fun _ _ _ _ _ => pts_nil) (fun _ _ _ _ _ => (d_inA rfl (hu1 hr) (d_var (pv 1)) (d_cst rfl rfl
    h.c_LETTERS) (by with_unfolding_all rfl))))) a_nil)))))
end PB.Lk02
set_option maxRecDepth 100000
set_option maxHeartbeats 4000000
namespace PB.Lk02
open PySem PySem.Spec PyProof.Rows L2 PB
open PySem.W (Frag keepIn)
/-! ### is_tuple -/
def N_is_tuple : List Str := ["thing", "size"]
theorem sc_is_tuple : FnScope N_is_tuple ["thing", "size"] (defScope s_is_tuple) := ⟨rfl, rfl, rfl, by decide +kernel, rfl, by decide +kernel, by decide +kernel⟩
def a_is_tuple_0 : M Fl := (sRet (mAndV (mFn (fIsi isF exF tx.inB) (mCons (rdV 0) (mCons (rdC (.ty "tuple")) mNil))) (bin2 fEq (mFn fLenA (mCons (rdV 0) mNil))
    (rdV 1))))
def m_is_tuple : M Fl := a_is_tuple_0
def F_is_tuple : Env → FR := runF [] 2 2 m_is_tuple
theorem d_is_tuple {w : World} {K : Frag} {mg : Str → Option Value} {base : Heap} {l : Lc} (h : H0 w K mg base) : Callee PW w K mg base 1 "is_tuple" ["thing", "size"] s_is_tuple (tx.gc K l) F_is_tuple :=
  callee_of (k := 0) (I := []) (N := N_is_tuple) (st := s_is_tuple) (mb := m_is_tuple) h.ok (List.mem_of_getElem? (i := 2) rfl) h.f_is_tuple_fn sc_is_tuple (by decide) (fun _ _ _ _ _ _ us hl => match us, hl with | [_, _], _ => rfl) fun f cdv A outer s H E hr => by
  exact (s_one (s_ret (d_and rfl (d_fn (call_isD (is := isF)) (n_isi h.clF) rfl h.f_isinstance PyProof.Rows.Boot.«isinstance» (a_cons (d_var (pv 0)) (a_cons (d_const (v
    := .ty "tuple") (pe_bltn rfl h.f_tuple PyProof.Rows.Boot.«tuple» rfl) fun _ _ => rfl) a_nil))) (d_one (d_cmp (op_eqD hr.units) o_eq (d_fn call_lenA n_lenA
    rfl h.f_len PyProof.Rows.Boot.«len» (a_cons (d_var (pv 0)) a_nil)) (d_var (pv 1)) (nomark _))))))
end PB.Lk02
set_option maxRecDepth 100000
set_option maxHeartbeats 4000000
namespace PB.Lk02
open PySem PySem.Spec PyProof.Rows L2 PB
open PySem.W (Frag keepIn)
/-! ### is_plain -/
def N_is_plain : List Str := ["thing"]
theorem sc_is_plain : FnScope N_is_plain ["thing"] (defScope s_is_plain) := ⟨rfl, rfl, rfl, by decide +kernel, rfl, by decide +kernel, by decide +kernel⟩
def a_is_plain_0 : M Fl := (sRet (mAndV (mFn (fIsi isF exF tx.inB) (mCons (rdV 0) (mCons (rdC (.ty "str")) mNil))) (bin2 fInA (rdV 0) (rdC k_PLAIN))))
def m_is_plain : M Fl := a_is_plain_0
def F_is_plain : Env → FR := runF [] 1 1 m_is_plain
theorem d_is_plain {w : World} {K : Frag} {mg : Str → Option Value} {base : Heap} {l : Lc} (h : H0 w K mg base) : Callee PW w K mg base 1 "is_plain" ["thing"] s_is_plain (tx.gc K l) F_is_plain :=
  callee_of (k := 0) (I := []) (N := N_is_plain) (st := s_is_plain) (mb := m_is_plain) h.ok (List.mem_of_getElem? (i := 5) rfl) h.f_is_plain_fn sc_is_plain (by decide) (fun _ _ _ _ _ _ us hl => match us, hl with | [_], _ => rfl) fun f cdv A outer s H E hr => by
  exact (s_one (s_ret (d_and rfl (d_fn (call_isD (is := isF)) (n_isi h.clF) rfl h.f_isinstance PyProof.Rows.Boot.«isinstance» (a_cons (d_var (pv 0)) (a_cons (d_const (v
    := .ty "str") (pe_bltn rfl h.f_str PyProof.Rows.Boot.«str» rfl) fun _ _ => rfl) a_nil))) (d_one (d_inA rfl (hu1 hr) (d_var (pv 0)) (d_cst rfl rfl h.c_PLAIN)
    (by with_unfolding_all rfl))))))
end PB.Lk02
set_option maxRecDepth 100000
set_option maxHeartbeats 4000000
namespace PB.Lk02
open PySem PySem.Spec PyProof.Rows L2 PB
open PySem.W (Frag keepIn)
/-! ### is_sort -/
def N_is_sort : List Str := ["thing", "item"]
theorem sc_is_sort : FnScope N_is_sort ["thing"] (defScope s_is_sort) := ⟨rfl, rfl, rfl, by decide +kernel, rfl, by decide +kernel, by decide +kernel⟩
def e_is_sort_0 : M D := (mCall F_is_plain (aV (rdV 1) aNil))
def a_is_sort_0 : M Fl := (sIf (mOrB (mNotB (mTru (mCall F_is_tuple (aV (rdV 0) (aV (rdC (.int 2)) aNil))))) (mOrB (mNotB (mTru (mFn (fIsi isF exF tx.inB)
    (mCons (bin2 fIxA (rdV 0) (rdC (.int 0))) (mCons (rdC (.ty "tuple")) mNil))))) (mTru (bin2 fGt (mFn fLenA (mCons (bin2 fIxA (rdV 0) (rdC (.int 0))) mNil))
    (rdC k_MOST_ARGS))))) (sRet (rdC (.bl false))) sNx)
def a_is_sort_1 : M Fl := (sIf (mOrB (mNotB (mTru (mFn fAll (mCons (mFrz (mLc [1] (bName 1) (mItems asAll (bin2 fIxA (rdV 0) (rdC (.int 0)))) mYes e_is_sort_0))
    mNil)))) (mNotB (mTru (mCall F_is_plain (aV (bin2 fIxA (rdV 0) (rdC (.int 1))) aNil))))) (sRet (rdC (.bl false))) sNx)
def a_is_sort_2 : M Fl := (sRet (mOrV (bin2 fNe (bin2 fIxA (rdV 0) (rdC (.int 1))) (rdC (.str "box"))) (bin2 fEq (bin2 fIxA (rdV 0) (rdC (.int 0))) (mTup
    mNil))))
def m_is_sort : M Fl := (sSeq a_is_sort_0 (sSeq a_is_sort_1 a_is_sort_2))
def F_is_sort : Env → FR := runF [] 1 2 m_is_sort
theorem d_is_sort {w : World} {K : Frag} {mg : Str → Option Value} {base : Heap} {l : Lc} (h : H0 w K mg base) (c_is_tuple : Callee PW w K mg base 1 "is_tuple" ["thing", "size"] s_is_tuple (tx.gc K l) F_is_tuple) (c_is_plain : Callee PW w K mg base 1 "is_plain" ["thing"] s_is_plain (tx.gc K l) F_is_plain) : Callee PW w K mg base 2 "is_sort" ["thing"] s_is_sort (tx.gc K l) F_is_sort :=
  callee_of (k := 1) (I := []) (N := N_is_sort) (st := s_is_sort) (mb := m_is_sort) h.ok (List.mem_of_getElem? (i := 6) rfl) h.f_is_sort_fn sc_is_sort (by decide) (fun _ _ _ _ _ _ us hl => match us, hl with | [_], _ => rfl) fun f cdv A outer s H E hr => by
  exact (s_cons (s_if (PW.pt (t_or (t_not (t_of rfl (d_cal (takes_of rfl rfl rfl rfl) c_is_tuple hr (by decide) rfl (aa_v (d_var (pv 0)) (aa_v d_int aa_nil))))) (t_or
    (t_not (t_of rfl (d_fn (call_isD (is := isF)) (n_isi h.clF) rfl h.f_isinstance PyProof.Rows.Boot.«isinstance» (a_cons (d_ixA rfl (hu1 hr) (d_var (pv 0))
    d_int (fun _ _ => rfl) (fun _ _ => rfl)) (a_cons (d_const (v := .ty "tuple") (pe_bltn rfl h.f_tuple PyProof.Rows.Boot.«tuple» rfl) fun _ _ => rfl)
    a_nil))))) (t_or1 (t_cmp op_gt o_gtA bl_IB (d_fn call_lenA n_lenA rfl h.f_len PyProof.Rows.Boot.«len» (a_cons (d_ixA rfl (hu1 hr) (d_var (pv 0)) d_int (fun
    _ _ => rfl) (fun _ _ => rfl)) a_nil)) (d_cst rfl rfl h.c_MOST_ARGS) (nomark _)))))) (s_one (s_ret d_bl)) s_nil) (s_cons (s_if (PW.pt (t_or (t_not (t_of rfl
    (d_fn (cr_all rfl) n_bls rfl h.f_all PyProof.Rows.Boot.«all» (a_cons (d_frz (o_lc (own := [("item", 1)]) rfl sc_is_sort.nd src_all (c_name rfl) tst_yes
    (pi_all (by rfl) (d_ixA rfl (hu1 hr) (d_var (pv 0)) d_int (fun _ _ => rfl) (fun _ _ => rfl))) (blkOk_by (own := [("item", 1)])
    (by show blkC N_is_sort (defScope s_is_sort) _ _ = true; decide +kernel)) (fun _ _ _ _ _ => (pg_name sc_is_sort.nd (i := 1) rfl
    (by first | exact Or.inl rfl | exact Or.inr rfl))) (fun _ _ _ _ _ => pts_nil) (fun _ _ _ _ _ => (d_cal tk0 c_is_plain hr (by decide) rfl (aa_v (d_var (pv
    1)) aa_nil))))) a_nil)))) (t_or1 (t_not (t_of rfl (d_cal (takes_of rfl rfl rfl rfl) c_is_plain hr (by decide) rfl (aa_v (d_ixA rfl (hu1 hr) (d_var (pv 0))
    d_int (fun _ _ => rfl) (fun _ _ => rfl)) aa_nil))))))) (s_one (s_ret d_bl)) s_nil) (s_one (s_ret (d_or rfl (d_cmp (op_neD hr.units) o_ne (d_ixA rfl (hu1 hr)
    (d_var (pv 0)) d_int (fun _ _ => rfl) (fun _ _ => rfl)) d_str (nomark _)) (d_one (d_cmp (op_eqD hr.units) o_eq (d_ixA rfl (hu1 hr) (d_var (pv 0)) d_int (fun
    _ _ => rfl) (fun _ _ => rfl)) (d_tup a_nil) (nomark _))))))))
end PB.Lk02
set_option maxRecDepth 100000
set_option maxHeartbeats 4000000
namespace PB.Lk02
open PySem PySem.Spec PyProof.Rows L2 PB
open PySem.W (Frag keepIn)
/-! ### is_names -/
def N_is_names : List Str := ["thing", "word"]
theorem sc_is_names : FnScope N_is_names ["thing"] (defScope s_is_names) := ⟨rfl, rfl, rfl, by decide +kernel, rfl, by decide +kernel, by decide +kernel⟩
def e_is_names_0 : M D := (mAndV (mCall F_is_word (aV (rdV 1) aNil)) (mCall F_is_sort (aV (bin2 fIxA (rdV 0) (rdV 1)) aNil)))
def a_is_names_0 : M Fl := (sIf (mOrB (mNotB (mTru (mFn (fIsi isF exF tx.inB) (mCons (rdV 0) (mCons (rdC (.ty "dict")) mNil))))) (mTru (bin2 fGt (mFn fLenA
    (mCons (rdV 0) mNil)) (rdC k_MOST_NAMES)))) (sRet (rdC (.bl false))) sNx)
def a_is_names_1 : M Fl := (sRet (mFn fAll (mCons (mFrz (mLc [1] (bName 1) (mItems asAll (rdV 0)) mYes e_is_names_0)) mNil)))
def m_is_names : M Fl := (sSeq a_is_names_0 a_is_names_1)
def F_is_names : Env → FR := runF [] 1 2 m_is_names
theorem d_is_names {w : World} {K : Frag} {mg : Str → Option Value} {base : Heap} {l : Lc} (h : H0 w K mg base) (c_is_word : Callee PW w K mg base 1 "is_word" ["thing"] s_is_word (tx.gc K l) F_is_word) (c_is_sort : Callee PW w K mg base 2 "is_sort" ["thing"] s_is_sort (tx.gc K l) F_is_sort) : Callee PW w K mg base 3 "is_names" ["thing"] s_is_names (tx.gc K l) F_is_names :=
  callee_of (k := 2) (I := []) (N := N_is_names) (st := s_is_names) (mb := m_is_names) h.ok (List.mem_of_getElem? (i := 7) rfl) h.f_is_names_fn sc_is_names (by decide) (fun _ _ _ _ _ _ us hl => match us, hl with | [_], _ => rfl) fun f cdv A outer s H E hr => by
  exact (s_cons (s_if (PW.pt (t_or (t_not (t_of rfl (d_fn (call_isD (is := isF)) (n_isi h.clF) rfl h.f_isinstance PyProof.Rows.Boot.«isinstance» (a_cons (d_var (pv 0))
    (a_cons (d_const (v := .ty "dict") (pe_bltn rfl h.f_dict PyProof.Rows.Boot.«dict» rfl) fun _ _ => rfl) a_nil))))) (t_or1 (t_cmp op_gt o_gtA bl_IB (d_fn
    call_lenA n_lenA rfl h.f_len PyProof.Rows.Boot.«len» (a_cons (d_var (pv 0)) a_nil)) (d_cst rfl rfl h.c_MOST_NAMES) (nomark _))))) (s_one (s_ret d_bl))
    s_nil) (s_one (s_ret (d_fn (cr_all rfl) n_bls rfl h.f_all PyProof.Rows.Boot.«all» (a_cons (d_frz (o_lc (own := [("word", 1)]) rfl sc_is_names.nd src_all
    (c_name rfl) tst_yes (pi_all (by rfl) (d_var (pv 0))) (blkOk_by (own := [("word", 1)])
    (by show blkC N_is_names (defScope s_is_names) _ _ = true; decide +kernel)) (fun _ _ _ _ _ => (pg_name sc_is_names.nd (i := 1) rfl
    (by first | exact Or.inl rfl | exact Or.inr rfl))) (fun _ _ _ _ _ => pts_nil) (fun _ _ _ _ _ => (d_and rfl (d_cal tk0 c_is_word hr (by decide) rfl (aa_v
    (d_var (pv 1)) aa_nil)) (d_one (d_cal tk0 c_is_sort hr (by decide) rfl (aa_v (d_ixA rfl (hu1 hr) (d_var (pv 0)) (d_var (pv 1)) (fun _ _ => rfl) (fun _ _ =>
    rfl)) aa_nil))))))) a_nil)))))
end PB.Lk02
set_option maxRecDepth 100000
set_option maxHeartbeats 4000000
namespace PB.Lk02
open PySem PySem.Spec PyProof.Rows L2 PB
open PySem.W (Frag keepIn)
/-! ### need_names -/
def N_need_names : List Str := ["thing"]
theorem sc_need_names : FnScope N_need_names ["thing"] (defScope s_need_names) := ⟨rfl, rfl, rfl, by decide +kernel, rfl, by decide +kernel, by decide +kernel⟩
def a_need_names_0 : M Fl := (sIf (mNotB (mTru (mCall F_is_names (aV (rdV 0) aNil)))) (sX0 2 (rdC (.str "no names with sorts"))) sNx)
def m_need_names : M Fl := a_need_names_0
def F_need_names : Env → FR := runF [] 1 1 m_need_names
theorem d_need_names {w : World} {K : Frag} {mg : Str → Option Value} {base : Heap} {l : Lc} (h : H0 w K mg base) (c_is_names : Callee PW w K mg base 3 "is_names" ["thing"] s_is_names (tx.gc K l) F_is_names) : Callee PW w K mg base 4 "need_names" ["thing"] s_need_names (tx.gc K l) F_need_names :=
  callee_of (k := 3) (I := []) (N := N_need_names) (st := s_need_names) (mb := m_need_names) h.ok (List.mem_of_getElem? (i := 8) rfl) h.f_need_names_fn sc_need_names (by decide) (fun _ _ _ _ _ _ us hl => match us, hl with | [_], _ => rfl) fun f cdv A outer s H E hr => by
  exact (s_one (s_if (t_not (t_of rfl (d_cal (takes_of rfl rfl rfl rfl) c_is_names hr (by decide) rfl (aa_v (d_var (pv 0)) aa_nil)))) (s_one (s_rz0 (c := 2) rfl
    (takes_of rfl rfl rfl rfl) h.ok (by decide) (by decide) h.g_BadSort rfl d_str)) s_nil))
end PB.Lk02
set_option maxRecDepth 100000
set_option maxHeartbeats 4000000
namespace PB.Lk02
open PySem PySem.Spec PyProof.Rows L2 PB
open PySem.W (Frag keepIn)
/-! ### is_number -/
def N_is_number : List Str := ["thing"]
theorem sc_is_number : FnScope N_is_number ["thing"] (defScope s_is_number) := ⟨rfl, rfl, rfl, by decide +kernel, rfl, by decide +kernel, by decide +kernel⟩
def a_is_number_0 : M Fl := (sRet (mAndV (mFn (fIsi isF exF tx.inB) (mCons (rdV 0) (mCons (rdC (.ty "int")) mNil))) (mNotV (mFn (fIsi isF exF tx.inB) (mCons
    (rdV 0) (mCons (rdC (.ty "bool")) mNil))))))
def m_is_number : M Fl := a_is_number_0
def F_is_number : Env → FR := runF [] 1 1 m_is_number
theorem d_is_number {w : World} {K : Frag} {mg : Str → Option Value} {base : Heap} {l : Lc} (h : H0 w K mg base) : Callee PW w K mg base 1 "is_number" ["thing"] s_is_number (tx.gc K l) F_is_number :=
  callee_of (k := 0) (I := []) (N := N_is_number) (st := s_is_number) (mb := m_is_number) h.ok (List.mem_of_getElem? (i := 0) rfl) h.f_is_number_fn sc_is_number (by decide) (fun _ _ _ _ _ _ us hl => match us, hl with | [_], _ => rfl) fun f cdv A outer s H E hr => by
  exact (s_one (s_ret (d_and rfl (d_fn (call_isD (is := isF)) (n_isi h.clF) rfl h.f_isinstance PyProof.Rows.Boot.«isinstance» (a_cons (d_var (pv 0)) (a_cons (d_const (v
    := .ty "int") (pe_bltn rfl h.f_int PyProof.Rows.Boot.«int» rfl) fun _ _ => rfl) a_nil))) (d_one (d_not rfl (d_fn (call_isD (is := isF)) (n_isi h.clF) rfl
    h.f_isinstance PyProof.Rows.Boot.«isinstance» (a_cons (d_var (pv 0)) (a_cons (d_const (v := .ty "bool") (pe_bltn rfl h.f_bool PyProof.Rows.Boot.«bool» rfl)
    fun _ _ => rfl) a_nil))))))))
end PB.Lk02
set_option maxRecDepth 100000
set_option maxHeartbeats 4000000
namespace PB.Lk02
open PySem PySem.Spec PyProof.Rows L2 PB
open PySem.W (Frag keepIn)
/-! ### is_between -/
def N_is_between : List Str := ["thing", "low", "high"]
theorem sc_is_between : FnScope N_is_between ["thing", "low", "high"] (defScope s_is_between) := ⟨rfl, rfl, rfl, by decide +kernel, rfl, by decide +kernel, by decide +kernel⟩
def a_is_between_0 : M Fl := (sRet (mAndV (mCall F_is_number (aV (rdV 0) aNil)) (mChain fLe fLe (rdV 1) (rdV 0) (rdV 2))))
def m_is_between : M Fl := a_is_between_0
def F_is_between : Env → FR := runF [] 3 3 m_is_between
theorem d_is_between {w : World} {K : Frag} {mg : Str → Option Value} {base : Heap} {l : Lc} (h : H0 w K mg base) (c_is_number : Callee PW w K mg base 1 "is_number" ["thing"] s_is_number (tx.gc K l) F_is_number) : Callee PW w K mg base 2 "is_between" ["thing", "low", "high"] s_is_between (tx.gc K l) F_is_between :=
  callee_of (k := 1) (I := []) (N := N_is_between) (st := s_is_between) (mb := m_is_between) h.ok (List.mem_of_getElem? (i := 1) rfl) h.f_is_between_fn sc_is_between (by decide) (fun _ _ _ _ _ _ us hl => match us, hl with | [_, _, _], _ => rfl) fun f cdv A outer s H E hr => by
  exact (s_one (s_ret (d_and rfl (d_cal (takes_of rfl rfl rfl rfl) c_is_number hr (by decide) rfl (aa_v (d_var (pv 0)) aa_nil)) (d_one (d_chain op_le op_le o_leA o_leA
    (d_var (pv 1)) (d_var (pv 0)) (d_var (pv 2)))))))
end PB.Lk02
set_option maxRecDepth 100000
set_option maxHeartbeats 4000000
namespace PB.Lk02
open PySem PySem.Spec PyProof.Rows L2 PB
open PySem.W (Frag keepIn)
/-! ### need_between -/
def N_need_between : List Str := ["number", "low", "high", "part"]
theorem sc_need_between : FnScope N_need_between ["number", "low", "high", "part"] (defScope s_need_between) := ⟨rfl, rfl, rfl, by decide +kernel, rfl, by decide +kernel, by decide +kernel⟩
def a_need_between_0 : M Fl := (sIf (mNotB (mTru (mCall F_is_between (aV (rdV 0) (aV (rdV 1) (aV (rdV 2) aNil)))))) (sX1 1 "part" (rdV 3)) sNx)
def m_need_between : M Fl := a_need_between_0
def F_need_between : Env → FR := runF [] 4 4 m_need_between
theorem d_need_between {w : World} {K : Frag} {mg : Str → Option Value} {base : Heap} {l : Lc} (h : H0 w K mg base) (c_is_between : Callee PW w K mg base 2 "is_between" ["thing", "low", "high"] s_is_between (tx.gc K l) F_is_between) : Callee PW w K mg base 3 "need_between" ["number", "low", "high", "part"] s_need_between (tx.gc K l) F_need_between :=
  callee_of (k := 2) (I := []) (N := N_need_between) (st := s_need_between) (mb := m_need_between) h.ok (List.mem_of_getElem? (i := 4) rfl) h.f_need_between_fn sc_need_between (by decide) (fun _ _ _ _ _ _ us hl => match us, hl with | [_, _, _, _], _ => rfl) fun f cdv A outer s H E hr => by
  exact (s_one (s_if (t_not (t_of rfl (d_cal (takes_of rfl rfl rfl rfl) c_is_between hr (by decide) rfl (aa_v (d_var (pv 0)) (aa_v (d_var (pv 1)) (aa_v (d_var (pv 2))
    aa_nil)))))) (s_one (s_rz (c := 1) rfl (takes_of rfl rfl rfl rfl) h.x_BadNumber hr (by decide) rfl (d_var (pv 3)))) s_nil))
end PB.Lk02
set_option maxRecDepth 100000
set_option maxHeartbeats 4000000
namespace PB.Lk02
open PySem PySem.Spec PyProof.Rows L2 PB
open PySem.W (Frag keepIn)
/-! ### need_size -/
def N_need_size : List Str := ["size"]
theorem sc_need_size : FnScope N_need_size ["size"] (defScope s_need_size) := ⟨rfl, rfl, rfl, by decide +kernel, rfl, by decide +kernel, by decide +kernel⟩
def a_need_size_0 : M Fl := (sDo (mCall F_need_between (aV (rdV 0) (aV (rdC k_LEAST_SIZE) (aV (rdC k_MOST_SIZE) (aV (rdC (.str "size")) aNil))))))
def m_need_size : M Fl := a_need_size_0
def F_need_size : Env → FR := runF [] 1 1 m_need_size
theorem d_need_size {w : World} {K : Frag} {mg : Str → Option Value} {base : Heap} {l : Lc} (h : H0 w K mg base) (c_need_between : Callee PW w K mg base 3 "need_between" ["number", "low", "high", "part"] s_need_between (tx.gc K l) F_need_between) : Callee PW w K mg base 4 "need_size" ["size"] s_need_size (tx.gc K l) F_need_size :=
  callee_of (k := 3) (I := []) (N := N_need_size) (st := s_need_size) (mb := m_need_size) h.ok (List.mem_of_getElem? (i := 15) rfl) h.f_need_size_fn sc_need_size (by decide) (fun _ _ _ _ _ _ us hl => match us, hl with | [_], _ => rfl) fun f cdv A outer s H E hr => by
  exact (s_one (s_expr (d_cal (takes_of rfl rfl rfl rfl) c_need_between hr (by decide) rfl (aa_v (d_var (pv 0)) (aa_v (d_cst rfl rfl h.c_LEAST_SIZE) (aa_v (d_cst rfl
    rfl h.c_MOST_SIZE) (aa_v d_str aa_nil)))))))
end PB.Lk02
set_option maxRecDepth 100000
set_option maxHeartbeats 4000000
namespace PB.Lk02
open PySem PySem.Spec PyProof.Rows L2 PB
open PySem.W (Frag keepIn)
/-! ### Sorter_init -/
def N_Sorter_init : List Str := ["self", "size"]
theorem sc_Sorter_init : FnScope N_Sorter_init ["self", "size"] (defScope s_Sorter_init) := ⟨rfl, rfl, rfl, by decide +kernel, rfl, by decide +kernel, by decide +kernel⟩
def a_Sorter_init_0 : M Fl := (sFldP tx.fin "size" 0 (rdV 1))
def a_Sorter_init_1 : M Fl := (sFldP tx.fin "nodes" 0 (rdC (.int 0)))
def m_Sorter_init : M Fl := (sSeq a_Sorter_init_0 a_Sorter_init_1)
def F_Sorter_init : Env → FR := runF [0] 2 2 m_Sorter_init
theorem d_Sorter_init {w : World} {K : Frag} {mg : Str → Option Value} {base : Heap} {l : Lc} (h : H0 w K mg base) : MethF PW w K mg base 1 ((tx.gc K l).cl 4) "__init__" ["self", "size"] (tx.gc K l) F_Sorter_init :=
  meth_of (d := own_Sorter) (k := 0) (x := "__init__") (q := "Sorter.__init__") (I := [0]) (N := N_Sorter_init) (st := s_Sorter_init) (mb := m_Sorter_init) h.ok (List.mem_of_getElem? (i := 0) rfl) (List.mem_of_getElem? (i := 0) rfl) sc_Sorter_init (by decide) (fun _ _ _ _ _ _ us hl => match us, hl with | [_, _], _ => rfl) fun f cdv A outer s H E hr => by
  exact (s_cons (s_fldP h.ok.fin (pv 0) (d_var (pv 1))) (s_one (s_fldP h.ok.fin (pv 0) d_int)))
theorem k_Sorter {w : World} {K : Frag} {mg : Str → Option Value} {base : Heap} {l : Lc} (h : H0 w K mg base) (c : MethF PW w K mg base 1 ((tx.gc K l).cl 4) "__init__" ["self", "size"] (tx.gc K l) F_Sorter_init) : MakeF PW w K mg base 1 "Sorter" ((tx.gc K l).cl 4) ["self", "size"] (tx.gc K l) F_Sorter_init := make_of (d := own_Sorter) h.ok (List.mem_of_getElem? (i := 0) rfl) c h.g_Sorter
end PB.Lk02
set_option maxRecDepth 100000
set_option maxHeartbeats 4000000
namespace PB.Lk02
open PySem PySem.Spec PyProof.Rows L2 PB
open PySem.W (Frag keepIn)
/-! ### parts_of -/
def N_parts_of : List Str := ["piece", "k", "part"]
theorem sc_parts_of : FnScope N_parts_of ["piece"] (defScope s_parts_of) := ⟨rfl, rfl, rfl, by decide +kernel, rfl, by decide +kernel, by decide +kernel⟩
def e_parts_of_0 : M D := (mTup (mCons (mTup (mCons (rdC (.int 2)) (mCons (rdV 1) mNil))) (mCons (rdV 2) mNil)))
def e_parts_of_1 : M D := (mTup (mCons (mTup (mCons (rdV 1) mNil)) (mCons (bin2 fIxA (rdV 0) (rdV 1)) mNil)))
def a_parts_of_0 : M Fl := (sIf (mTru (bin2 fEq (bin2 fIxA (rdV 0) (rdC (.int 0))) (rdC (.str "name")))) (sRet (mFrz (mLc [1, 2] (bTup 2 (bCons (bName 1) (bCons
    (bName 2) bNil))) (mItemsL asEnA (mCons (bin2 fIxA (rdV 0) (rdC (.int 2))) mNil)) mYes e_parts_of_0))) sNx)
def a_parts_of_1 : M Fl := (sIf (mTru (bin2 fInA (bin2 fIxA (rdV 0) (rdC (.int 0))) (mTup (mCons (rdC (.str "number")) (mCons (rdC (.str "skip")) (mCons (rdC
    (.str "never")) mNil)))))) (sRet (mLst mNil)) sNx)
def a_parts_of_2 : M Fl := (sIf (mTru (bin2 fEq (bin2 fIxA (rdV 0) (rdC (.int 0))) (rdC (.str "new")))) (sRet (mLst (mCons (mTup (mCons (mTup (mCons (rdC (.int
    3)) mNil)) (mCons (bin2 fIxA (rdV 0) (rdC (.int 3))) mNil))) mNil))) sNx)
def a_parts_of_3 : M Fl := (sIf (mTru (bin2 fEq (bin2 fIxA (rdV 0) (rdC (.int 0))) (rdC (.str "made")))) (sRet (mLst (mCons (mTup (mCons (mTup (mCons (rdC (.int
    1)) mNil)) (mCons (bin2 fIxA (rdV 0) (rdC (.int 1))) mNil))) (mCons (mTup (mCons (mTup (mCons (rdC (.int 3)) mNil)) (mCons (bin2 fIxA (rdV 0) (rdC (.int
    3))) mNil))) mNil)))) sNx)
def a_parts_of_4 : M Fl := (sRet (mFrz (mLc [1] (bName 1) (mItemsL asR2 (mCons (rdC (.int 1)) (mCons (mFn fLenA (mCons (rdV 0) mNil)) mNil))) mYes
    e_parts_of_1)))
def m_parts_of : M Fl := (sSeq a_parts_of_0 (sSeq a_parts_of_1 (sSeq a_parts_of_2 (sSeq a_parts_of_3 a_parts_of_4))))
def F_parts_of : Env → FR := runF [] 1 3 m_parts_of
theorem d_parts_of {w : World} {K : Frag} {mg : Str → Option Value} {base : Heap} {l : Lc} (h : H0 w K mg base) : Callee PW w K mg base 1 "parts_of" ["piece"] s_parts_of (tx.gc K l) F_parts_of :=
  callee_of (k := 0) (I := []) (N := N_parts_of) (st := s_parts_of) (mb := m_parts_of) h.ok (List.mem_of_getElem? (i := 9) rfl) h.f_parts_of_fn sc_parts_of (by decide) (fun _ _ _ _ _ _ us hl => match us, hl with | [_], _ => rfl) fun f cdv A outer s H E hr => by
  exact (s_cons (s_if (t_cmp (op_eqD hr.units) o_eq bl_eq (d_ixA rfl (hu1 hr) (d_var (pv 0)) d_int (fun _ _ => rfl) (fun _ _ => rfl)) d_str (nomark _)) (s_one (s_ret
    (d_frz (o_lc (own := [("k", 1), ("part", 2)]) rfl sc_parts_of.nd src_enumA (c_tup (c_cons (c_name rfl) (c_cons (c_name rfl) c_nil))) tst_yes (pi_enumA rfl
    (by rfl) h.f_enumerate (a_cons (d_ixA rfl (hu1 hr) (d_var (pv 0)) d_int (fun _ _ => rfl) (fun _ _ => rfl)) a_nil)) (blkOk_by (own := [("k", 1), ("part",
    2)]) (by show blkC N_parts_of (defScope s_parts_of) _ _ = true; decide +kernel)) (fun _ _ _ _ _ => (pg_tup (n := 2) rfl (pgs_cons (pg_name sc_parts_of.nd (i
    := 1) rfl (by first | exact Or.inl rfl | exact Or.inr rfl)) (pgs_cons (pg_name sc_parts_of.nd (i := 2) rfl (by first | exact Or.inl rfl | exact Or.inr rfl))
    pgs_nil)))) (fun _ _ _ _ _ => pts_nil) (fun _ _ _ _ _ => (d_tup (a_cons (d_tup (a_cons d_int (a_cons (d_var (pv 1)) a_nil))) (a_cons (d_var (pv 2))
    a_nil)))))))) s_nil) (s_cons (s_if (t_inA rfl (hu1 hr) (d_ixA rfl (hu1 hr) (d_var (pv 0)) d_int (fun _ _ => rfl) (fun _ _ => rfl)) (d_tup (a_cons d_str
    (a_cons d_str (a_cons d_str a_nil)))) (by with_unfolding_all rfl)) (s_one (s_ret (d_lst a_nil))) s_nil) (s_cons (s_if (t_cmp (op_eqD hr.units) o_eq bl_eq
    (d_ixA rfl (hu1 hr) (d_var (pv 0)) d_int (fun _ _ => rfl) (fun _ _ => rfl)) d_str (nomark _)) (s_one (s_ret (d_lst (a_cons (d_tup (a_cons (d_tup (a_cons
    d_int a_nil)) (a_cons (d_ixA rfl (hu1 hr) (d_var (pv 0)) d_int (fun _ _ => rfl) (fun _ _ => rfl)) a_nil))) a_nil)))) s_nil) (s_cons (s_if (t_cmp (op_eqD
    hr.units) o_eq bl_eq (d_ixA rfl (hu1 hr) (d_var (pv 0)) d_int (fun _ _ => rfl) (fun _ _ => rfl)) d_str (nomark _)) (s_one (s_ret (d_lst (a_cons (d_tup
    (a_cons (d_tup (a_cons d_int a_nil)) (a_cons (d_ixA rfl (hu1 hr) (d_var (pv 0)) d_int (fun _ _ => rfl) (fun _ _ => rfl)) a_nil))) (a_cons (d_tup (a_cons
    (d_tup (a_cons d_int a_nil)) (a_cons (d_ixA rfl (hu1 hr) (d_var (pv 0)) d_int (fun _ _ => rfl) (fun _ _ => rfl)) a_nil))) a_nil))))) s_nil) (s_one (s_ret
    (d_frz (o_lc (own := [("k", 1)]) rfl sc_parts_of.nd src_range2 (c_name rfl) tst_yes (pi_range2 (by rfl) h.f_range (a_cons d_int (a_cons (d_fn call_lenA
    n_lenA (by rfl) h.f_len PyProof.Rows.Boot.«len» (a_cons (d_var (pv 0)) a_nil)) a_nil))) (blkOk_by (own := [("k", 1)])
    (by show blkC N_parts_of (defScope s_parts_of) _ _ = true; decide +kernel)) (fun _ _ _ _ _ => (pg_name sc_parts_of.nd (i := 1) rfl
    (by first | exact Or.inl rfl | exact Or.inr rfl))) (fun _ _ _ _ _ => pts_nil) (fun _ _ _ _ _ => (d_tup (a_cons (d_tup (a_cons (d_var (pv 1)) a_nil)) (a_cons
    (d_ixA rfl (hu1 hr) (d_var (pv 0)) (d_var (pv 1)) (fun _ _ => rfl) (fun _ _ => rfl)) a_nil))))))))))))
end PB.Lk02
set_option maxRecDepth 100000
set_option maxHeartbeats 4000000
namespace PB.Lk02
open PySem PySem.Spec PyProof.Rows L2 PB
open PySem.W (Frag keepIn)
/-! ### names_within -/
def N_names_within : List Str := ["piece", "names", "place", "part"]
theorem sc_names_within : FnScope N_names_within ["piece", "names"] (defScope s_names_within) := ⟨rfl, rfl, rfl, by decide +kernel, rfl, by decide +kernel, by decide +kernel⟩
def e_names_within_0 : M D := (rdV 1)
def a_names_within_0 : M Fl := (sIf (mTru (bin2 fEq (bin2 fIxA (rdV 0) (rdC (.int 0))) (rdC (.str "new")))) (sRet (mLst (mCons (mFn fDict (mCons (mLst (mStarI
    (rdV 1) (mCons (mTup (mCons (bin2 fIxA (rdV 0) (rdC (.int 1))) (mCons (mTup (mCons (mTup mNil) (mCons (rdC (.str "box")) mNil))) mNil))) mNil))) mNil))
    mNil))) sNx)
def a_names_within_1 : M Fl := (sIf (mTru (bin2 fEq (bin2 fIxA (rdV 0) (rdC (.int 0))) (rdC (.str "made")))) (sRet (mLst (mCons (rdV 1) (mCons (mFn fDict (mCons
    (mLst (mStarI (rdV 1) (mCons (mTup (mCons (bin2 fIxA (rdV 0) (rdC (.int 2))) (mCons (mTup (mCons (mTup mNil) (mCons (rdC (.str "num")) mNil))) mNil)))
    mNil))) mNil)) mNil)))) sNx)
def a_names_within_2 : M Fl := (sRet (mFrz (mLc [2, 3] (bTup 2 (bCons (bName 2) (bCons (bName 3) bNil))) (mItems asAll (mCall F_parts_of (aV (rdV 0) aNil)))
    mYes e_names_within_0)))
def m_names_within : M Fl := (sSeq a_names_within_0 (sSeq a_names_within_1 a_names_within_2))
def F_names_within : Env → FR := runF [] 2 4 m_names_within
theorem d_names_within {w : World} {K : Frag} {mg : Str → Option Value} {base : Heap} {l : Lc} (h : H0 w K mg base) (c_parts_of : Callee PW w K mg base 1 "parts_of" ["piece"] s_parts_of (tx.gc K l) F_parts_of) : Callee PW w K mg base 2 "names_within" ["piece", "names"] s_names_within (tx.gc K l) F_names_within :=
  callee_of (k := 1) (I := []) (N := N_names_within) (st := s_names_within) (mb := m_names_within) h.ok (List.mem_of_getElem? (i := 10) rfl) h.f_names_within_fn sc_names_within (by decide) (fun _ _ _ _ _ _ us hl => match us, hl with | [_, _], _ => rfl) fun f cdv A outer s H E hr => by
  exact (s_cons (s_if (t_cmp (op_eqD hr.units) o_eq bl_eq (d_ixA rfl (hu1 hr) (d_var (pv 0)) d_int (fun _ _ => rfl) (fun _ _ => rfl)) d_str (nomark _)) (s_one (s_ret
    (d_lst (a_cons (d_ty (call_dictP rfl) n_dict rfl h.f_dict PyProof.Rows.Boot.«dict» (a_cons (d_lst (a_starI rfl (d_var (pv 1)) (a_cons (d_tup (a_cons (d_ixA
    rfl (hu1 hr) (d_var (pv 0)) d_int (fun _ _ => rfl) (fun _ _ => rfl)) (a_cons (d_tup (a_cons (d_tup a_nil) (a_cons d_str a_nil))) a_nil))) a_nil))) a_nil))
    a_nil)))) s_nil) (s_cons (s_if (t_cmp (op_eqD hr.units) o_eq bl_eq (d_ixA rfl (hu1 hr) (d_var (pv 0)) d_int (fun _ _ => rfl) (fun _ _ => rfl)) d_str (nomark
    _)) (s_one (s_ret (d_lst (a_cons (d_var (pv 1)) (a_cons (d_ty (call_dictP rfl) n_dict rfl h.f_dict PyProof.Rows.Boot.«dict» (a_cons (d_lst (a_starI rfl
    (d_var (pv 1)) (a_cons (d_tup (a_cons (d_ixA rfl (hu1 hr) (d_var (pv 0)) d_int (fun _ _ => rfl) (fun _ _ => rfl)) (a_cons (d_tup (a_cons (d_tup a_nil)
    (a_cons d_str a_nil))) a_nil))) a_nil))) a_nil)) a_nil))))) s_nil) (s_one (s_ret (d_frz (o_lc (own := [("place", 2), ("part", 3)]) rfl sc_names_within.nd
    src_all (c_tup (c_cons (c_name rfl) (c_cons (c_name rfl) c_nil))) tst_yes (pi_all (by rfl) (d_cal (takes_of rfl rfl rfl rfl) c_parts_of hr (by decide) rfl
    (aa_v (d_var (pv 0)) aa_nil))) (blkOk_by (own := [("place", 2), ("part", 3)])
    (by show blkC N_names_within (defScope s_names_within) _ _ = true; decide +kernel)) (fun _ _ _ _ _ => (pg_tup (n := 2) rfl (pgs_cons (pg_name
    sc_names_within.nd (i := 2) rfl (by first | exact Or.inl rfl | exact Or.inr rfl)) (pgs_cons (pg_name sc_names_within.nd (i := 3) rfl
    (by first | exact Or.inl rfl | exact Or.inr rfl)) pgs_nil)))) (fun _ _ _ _ _ => pts_nil) (fun _ _ _ _ _ => (d_var (pv 1)))))))))
end PB.Lk02
set_option maxRecDepth 100000
set_option maxHeartbeats 4000000
namespace PB.Lk02
open PySem PySem.Spec PyProof.Rows L2 PB
open PySem.W (Frag keepIn)
/-! ### is_use -/
def N_is_use : List Str := ["names", "piece"]
theorem sc_is_use : FnScope N_is_use ["names", "piece"] (defScope s_is_use) := ⟨rfl, rfl, rfl, by decide +kernel, rfl, by decide +kernel, by decide +kernel⟩
def a_is_use_0 : M Fl := (sIf (mOrB (mNotB (mTru (mFn (fIsi isF exF tx.inB) (mCons (bin2 fIxA (rdV 1) (rdC (.int 1))) (mCons (rdC (.ty "str")) mNil))))) (mOrB
    (mTru (bin2 fNinA (bin2 fIxA (rdV 1) (rdC (.int 1))) (rdV 0))) (mNotB (mTru (mFn (fIsi isF exF tx.inB) (mCons (bin2 fIxA (rdV 1) (rdC (.int 2))) (mCons (rdC
    (.ty "tuple")) mNil))))))) (sRet (rdC (.bl false))) sNx)
def a_is_use_1 : M Fl := (sRet (bin2 fEq (mFn fLenA (mCons (bin2 fIxA (rdV 1) (rdC (.int 2))) mNil)) (mFn fLenA (mCons (bin2 fIxA (bin2 fIxA (rdV 0) (bin2 fIxA
    (rdV 1) (rdC (.int 1)))) (rdC (.int 0))) mNil))))
def m_is_use : M Fl := (sSeq a_is_use_0 a_is_use_1)
def F_is_use : Env → FR := runF [] 2 2 m_is_use
theorem d_is_use {w : World} {K : Frag} {mg : Str → Option Value} {base : Heap} {l : Lc} (h : H0 w K mg base) : Callee PW w K mg base 1 "is_use" ["names", "piece"] s_is_use (tx.gc K l) F_is_use :=
  callee_of (k := 0) (I := []) (N := N_is_use) (st := s_is_use) (mb := m_is_use) h.ok (List.mem_of_getElem? (i := 12) rfl) h.f_is_use_fn sc_is_use (by decide) (fun _ _ _ _ _ _ us hl => match us, hl with | [_, _], _ => rfl) fun f cdv A outer s H E hr => by
  exact (s_cons (s_if (PW.pt (t_or (t_not (t_of rfl (d_fn (call_isD (is := isF)) (n_isi h.clF) rfl h.f_isinstance PyProof.Rows.Boot.«isinstance» (a_cons (d_ixA rfl (hu1
    hr) (d_var (pv 1)) d_int (fun _ _ => rfl) (fun _ _ => rfl)) (a_cons (d_const (v := .ty "str") (pe_bltn rfl h.f_str PyProof.Rows.Boot.«str» rfl) fun _ _ =>
    rfl) a_nil))))) (t_or (t_ninA rfl (hu1 hr) (d_ixA rfl (hu1 hr) (d_var (pv 1)) d_int (fun _ _ => rfl) (fun _ _ => rfl)) (d_var (pv 0))
    (by with_unfolding_all rfl)) (t_or1 (t_not (t_of rfl (d_fn (call_isD (is := isF)) (n_isi h.clF) rfl h.f_isinstance PyProof.Rows.Boot.«isinstance» (a_cons
    (d_ixA rfl (hu1 hr) (d_var (pv 1)) d_int (fun _ _ => rfl) (fun _ _ => rfl)) (a_cons (d_const (v := .ty "tuple") (pe_bltn rfl h.f_tuple
    PyProof.Rows.Boot.«tuple» rfl) fun _ _ => rfl) a_nil))))))))) (s_one (s_ret d_bl)) s_nil) (s_one (s_ret (d_cmp (op_eqD hr.units) o_eq (d_fn call_lenA n_lenA
    rfl h.f_len PyProof.Rows.Boot.«len» (a_cons (d_ixA rfl (hu1 hr) (d_var (pv 1)) d_int (fun _ _ => rfl) (fun _ _ => rfl)) a_nil)) (d_fn call_lenA n_lenA rfl
    h.f_len PyProof.Rows.Boot.«len» (a_cons (d_ixA rfl (hu1 hr) (d_ixA rfl (hu1 hr) (d_var (pv 0)) (d_ixA rfl (hu1 hr) (d_var (pv 1)) d_int (fun _ _ => rfl)
    (fun _ _ => rfl)) (fun _ _ => rfl) (fun _ _ => rfl)) d_int (fun _ _ => rfl) (fun _ _ => rfl)) a_nil)) (nomark _)))))
end PB.Lk02
set_option maxRecDepth 100000
set_option maxHeartbeats 4000000
namespace PB.Lk02
open PySem PySem.Spec PyProof.Rows L2 PB
open PySem.W (Frag keepIn)
/-! ### is_shape -/
def N_is_shape : List Str := ["size", "names", "piece", "deep"]
theorem sc_is_shape : FnScope N_is_shape ["size", "names", "piece", "deep"] (defScope s_is_shape) := ⟨rfl, rfl, rfl, by decide +kernel, rfl, by decide +kernel, by decide +kernel⟩
def a_is_shape_0 : M Fl := (sIf (mOrB (mTru (bin2 fGt (rdV 3) (rdC k_MOST_DEEP))) (mOrB (mNotB (mTru (mFn (fIsi isF exF tx.inB) (mCons (rdV 2) (mCons (rdC (.ty
    "tuple")) mNil))))) (mOrB (mTru (bin2 fEq (rdV 2) (mTup mNil))) (mNotB (mTru (mFn (fIsi isF exF tx.inB) (mCons (bin2 fIxA (rdV 2) (rdC (.int 0))) (mCons
    (rdC (.ty "str")) mNil)))))))) (sRet (rdC (.bl false))) sNx)
def a_is_shape_1 : M Fl := (sIf (mTru (bin2 fNe (mFn fLenA (mCons (rdV 2) mNil)) (mKget 5 ks_LENGTHS xs_LENGTHS (rdC (.at 5)) (bin2 fIxA (rdV 2) (rdC (.int 0)))
    (rdC (.int 0))))) (sRet (rdC (.bl false))) sNx)
def a_is_shape_2 : M Fl := (sIf (mTru (bin2 fEq (bin2 fIxA (rdV 2) (rdC (.int 0))) (rdC (.str "number")))) (sRet (mCall F_is_between (aV (bin2 fIxA (rdV 2) (rdC
    (.int 1))) (aV (rdC (.int 0)) (aV (bin2 fSub (rdV 0) (rdC (.int 1))) aNil))))) sNx)
def a_is_shape_3 : M Fl := (sIf (mTru (bin2 fEq (bin2 fIxA (rdV 2) (rdC (.int 0))) (rdC (.str "never")))) (sRet (mAndV (mFn (fIsi isF exF tx.inB) (mCons (bin2
    fIxA (rdV 2) (rdC (.int 1))) (mCons (rdC (.ty "str")) mNil))) (bin2 fInA (bin2 fIxA (rdV 2) (rdC (.int 1))) (mTup (mCons (rdC (.str "num")) (mCons (rdC
    (.str "do")) mNil)))))) sNx)
def a_is_shape_4 : M Fl := (sIf (mTru (bin2 fEq (bin2 fIxA (rdV 2) (rdC (.int 0))) (rdC (.str "new")))) (sRet (mAndV (mCall F_is_word (aV (bin2 fIxA (rdV 2)
    (rdC (.int 1))) aNil)) (mCall F_is_between (aV (bin2 fIxA (rdV 2) (rdC (.int 2))) (aV (rdC (.int 0)) (aV (bin2 fSub (rdV 0) (rdC (.int 1))) aNil)))))) sNx)
def a_is_shape_5 : M Fl := (sIf (mTru (bin2 fEq (bin2 fIxA (rdV 2) (rdC (.int 0))) (rdC (.str "made")))) (sRet (mCall F_is_word (aV (bin2 fIxA (rdV 2) (rdC
    (.int 2))) aNil))) sNx)
def a_is_shape_6 : M Fl := (sIf (mTru (bin2 fEq (bin2 fIxA (rdV 2) (rdC (.int 0))) (rdC (.str "name")))) (sRet (mCall F_is_use (aV (rdV 1) (aV (rdV 2) aNil))))
    sNx)
def a_is_shape_7 : M Fl := (sRet (rdC (.bl true)))
def m_is_shape : M Fl := (sSeq a_is_shape_0 (sSeq a_is_shape_1 (sSeq a_is_shape_2 (sSeq a_is_shape_3 (sSeq a_is_shape_4 (sSeq a_is_shape_5 (sSeq a_is_shape_6
    a_is_shape_7)))))))
def F_is_shape : Env → FR := runF [] 4 4 m_is_shape
theorem d_is_shape {w : World} {K : Frag} {mg : Str → Option Value} {base : Heap} {l : Lc} (h : H0 w K mg base) (c_is_between : Callee PW w K mg base 2 "is_between" ["thing", "low", "high"] s_is_between (tx.gc K l) F_is_between) (c_is_word : Callee PW w K mg base 1 "is_word" ["thing"] s_is_word (tx.gc K l) F_is_word) (c_is_use : Callee PW w K mg base 1 "is_use" ["names", "piece"] s_is_use (tx.gc K l) F_is_use) : Callee PW w K mg base 3 "is_shape" ["size", "names", "piece", "deep"] s_is_shape (tx.gc K l) F_is_shape :=
  callee_of (k := 2) (I := []) (N := N_is_shape) (st := s_is_shape) (mb := m_is_shape) h.ok (List.mem_of_getElem? (i := 11) rfl) h.f_is_shape_fn sc_is_shape (by decide) (fun _ _ _ _ _ _ us hl => match us, hl with | [_, _, _, _], _ => rfl) fun f cdv A outer s H E hr => by
  exact (s_cons (s_if (PW.pt (t_or (t_cmp op_gt o_gtA bl_IB (d_var (pv 3)) (d_cst rfl rfl h.c_MOST_DEEP) (nomark _)) (t_or (t_not (t_of rfl (d_fn (call_isD (is := isF))
    (n_isi h.clF) rfl h.f_isinstance PyProof.Rows.Boot.«isinstance» (a_cons (d_var (pv 2)) (a_cons (d_const (v := .ty "tuple") (pe_bltn rfl h.f_tuple
    PyProof.Rows.Boot.«tuple» rfl) fun _ _ => rfl) a_nil))))) (t_or (t_cmp (op_eqD hr.units) o_eq bl_eq (d_var (pv 2)) (d_tup a_nil) (nomark _)) (t_or1 (t_not
    (t_of rfl (d_fn (call_isD (is := isF)) (n_isi h.clF) rfl h.f_isinstance PyProof.Rows.Boot.«isinstance» (a_cons (d_ixA rfl (hu1 hr) (d_var (pv 2)) d_int (fun
    _ _ => rfl) (fun _ _ => rfl)) (a_cons (d_const (v := .ty "str") (pe_bltn rfl h.f_str PyProof.Rows.Boot.«str» rfl) fun _ _ => rfl) a_nil)))))))))) (s_one
    (s_ret d_bl)) s_nil) (s_cons (s_if (t_cmp (op_neD hr.units) o_ne bl_eq (d_fn call_lenA n_lenA rfl h.f_len PyProof.Rows.Boot.«len» (a_cons (d_var (pv 2))
    a_nil)) (d_kget2 (n := 5) rfl h.d_LENGTHS (d_const (v := .ref (tx.cl K 5)) (pe_glob rfl h.g_LENGTHS rfl) fun _ _ => rfl) (d_ixA rfl (hu1 hr) (d_var (pv 2))
    d_int (fun _ _ => rfl) (fun _ _ => rfl)) d_int ⟨rfl, rfl, rfl, rfl⟩) (nomark _)) (s_one (s_ret d_bl)) s_nil) (s_cons (s_if (t_cmp (op_eqD hr.units) o_eq
    bl_eq (d_ixA rfl (hu1 hr) (d_var (pv 2)) d_int (fun _ _ => rfl) (fun _ _ => rfl)) d_str (nomark _)) (s_one (s_ret (d_cal (takes_of rfl rfl rfl rfl)
    c_is_between hr (by decide) rfl (aa_v (d_ixA rfl (hu1 hr) (d_var (pv 2)) d_int (fun _ _ => rfl) (fun _ _ => rfl)) (aa_v d_int (aa_v (d_bin op_sub o_subA
    (d_var (pv 0)) d_int) aa_nil)))))) s_nil) (s_cons (s_if (t_cmp (op_eqD hr.units) o_eq bl_eq (d_ixA rfl (hu1 hr) (d_var (pv 2)) d_int (fun _ _ => rfl) (fun _
    _ => rfl)) d_str (nomark _)) (s_one (s_ret (d_and rfl (d_fn (call_isD (is := isF)) (n_isi h.clF) rfl h.f_isinstance PyProof.Rows.Boot.«isinstance» (a_cons
    (d_ixA rfl (hu1 hr) (d_var (pv 2)) d_int (fun _ _ => rfl) (fun _ _ => rfl)) (a_cons (d_const (v := .ty "str") (pe_bltn rfl h.f_str PyProof.Rows.Boot.«str»
    rfl) fun _ _ => rfl) a_nil))) (d_one (d_inA rfl (hu1 hr) (d_ixA rfl (hu1 hr) (d_var (pv 2)) d_int (fun _ _ => rfl) (fun _ _ => rfl)) (d_tup (a_cons d_str
    (a_cons d_str a_nil))) (by with_unfolding_all rfl)))))) s_nil) (s_cons (s_if (t_cmp (op_eqD hr.units) o_eq bl_eq (d_ixA rfl (hu1 hr) (d_var (pv 2)) d_int
    (fun _ _ => rfl) (fun _ _ => rfl)) d_str (nomark _)) (s_one (s_ret (d_and rfl (d_cal (takes_of rfl rfl rfl rfl) c_is_word hr (by decide) rfl (aa_v (d_ixA
    rfl (hu1 hr) (d_var (pv 2)) d_int (fun _ _ => rfl) (fun _ _ => rfl)) aa_nil)) (d_one (d_cal (takes_of rfl rfl rfl rfl) c_is_between hr (by decide) rfl (aa_v
    (d_ixA rfl (hu1 hr) (d_var (pv 2)) d_int (fun _ _ => rfl) (fun _ _ => rfl)) (aa_v d_int (aa_v (d_bin op_sub o_subA (d_var (pv 0)) d_int) aa_nil))))))))
    s_nil) (s_cons (s_if (t_cmp (op_eqD hr.units) o_eq bl_eq (d_ixA rfl (hu1 hr) (d_var (pv 2)) d_int (fun _ _ => rfl) (fun _ _ => rfl)) d_str (nomark _))
    (s_one (s_ret (d_cal (takes_of rfl rfl rfl rfl) c_is_word hr (by decide) rfl (aa_v (d_ixA rfl (hu1 hr) (d_var (pv 2)) d_int (fun _ _ => rfl) (fun _ _ =>
    rfl)) aa_nil)))) s_nil) (s_cons (s_if (t_cmp (op_eqD hr.units) o_eq bl_eq (d_ixA rfl (hu1 hr) (d_var (pv 2)) d_int (fun _ _ => rfl) (fun _ _ => rfl)) d_str
    (nomark _)) (s_one (s_ret (d_cal (takes_of rfl rfl rfl rfl) c_is_use hr (by decide) rfl (aa_v (d_var (pv 1)) (aa_v (d_var (pv 2)) aa_nil))))) s_nil) (s_one
    (s_ret d_bl)))))))))
end PB.Lk02
set_option maxRecDepth 100000
set_option maxHeartbeats 4000000
namespace PB.Lk02
open PySem PySem.Spec PyProof.Rows L2 PB
open PySem.W (Frag keepIn)
/-! ### wanted_of -/
def N_wanted_of : List Str := ["piece", "names", "kind", "sort"]
theorem sc_wanted_of : FnScope N_wanted_of ["piece", "names"] (defScope s_wanted_of) := ⟨rfl, rfl, rfl, by decide +kernel, rfl, by decide +kernel, by decide +kernel⟩
def e_wanted_of_0 : M D := (mTup (mCons (rdV 3) mNil))
def a_wanted_of_0 : M Fl := (sAsg (bName 2) (bin2 fIxA (rdV 0) (rdC (.int 0))))
def a_wanted_of_1 : M Fl := (sIf (mTru (bin2 fEq (rdV 2) (rdC (.str "name")))) (sRet (mFrz (mLc [3] (bName 3) (mItems asAll (bin2 fIxA (bin2 fIxA (rdV 1) (bin2
    fIxA (rdV 0) (rdC (.int 1)))) (rdC (.int 0)))) mYes e_wanted_of_0))) sNx)
def a_wanted_of_2 : M Fl := (sIf (mTru (bin2 fInA (rdV 2) (rdC k_TWO_NUMBERS))) (sRet (mLst (mCons (mTup (mCons (rdC (.str "num")) mNil)) (mCons (mTup (mCons
    (rdC (.str "num")) mNil)) mNil)))) sNx)
def a_wanted_of_3 : M Fl := (sIf (mTru (bin2 fInA (rdV 2) (mTup (mCons (rdC (.str "not")) (mCons (rdC (.str "claim")) mNil))))) (sRet (mLst (mCons (mTup (mCons
    (rdC (.str "num")) mNil)) mNil))) sNx)
def a_wanted_of_4 : M Fl := (sIf (mTru (bin2 fEq (rdV 2) (rdC (.str "then")))) (sRet (mLst (mCons (mTup (mCons (rdC (.str "do")) mNil)) (mCons (mTup (mCons (rdC
    (.str "num")) (mCons (rdC (.str "do")) mNil))) mNil)))) sNx)
def a_wanted_of_5 : M Fl := (sIf (mTru (bin2 fEq (rdV 2) (rdC (.str "if")))) (sRet (mLst (mCons (mTup (mCons (rdC (.str "num")) mNil)) (mCons (mTup (mCons (rdC
    (.str "num")) (mCons (rdC (.str "do")) mNil))) (mCons (mTup (mCons (rdC (.str "num")) (mCons (rdC (.str "do")) mNil))) mNil))))) sNx)
def a_wanted_of_6 : M Fl := (sIf (mTru (bin2 fInA (rdV 2) (mTup (mCons (rdC (.str "while")) (mCons (rdC (.str "made")) mNil))))) (sRet (mLst (mCons (mTup (mCons
    (rdC (.str "num")) mNil)) (mCons (mTup (mCons (rdC (.str "do")) mNil)) mNil)))) sNx)
def a_wanted_of_7 : M Fl := (sIf (mTru (bin2 fInA (rdV 2) (mTup (mCons (rdC (.str "get")) (mCons (rdC (.str "set")) mNil))))) (sRet (mSl (mLst (mCons (mTup
    (mCons (rdC (.str "box")) mNil)) (mCons (mTup (mCons (rdC (.str "num")) mNil)) mNil))) mNoP (mPart (bin2 fSub (mFn fLenA (mCons (rdV 0) mNil)) (rdC (.int
    1)))))) sNx)
def a_wanted_of_8 : M Fl := (sRet (mIf (mTru (bin2 fEq (rdV 2) (rdC (.str "new")))) (mLst (mCons (mTup (mCons (rdC (.str "num")) (mCons (rdC (.str "do"))
    mNil))) mNil)) (mLst mNil)))
def m_wanted_of : M Fl := (sSeq a_wanted_of_0 (sSeq a_wanted_of_1 (sSeq a_wanted_of_2 (sSeq a_wanted_of_3 (sSeq a_wanted_of_4 (sSeq a_wanted_of_5 (sSeq
    a_wanted_of_6 (sSeq a_wanted_of_7 a_wanted_of_8))))))))
def F_wanted_of : Env → FR := runF [] 2 4 m_wanted_of
theorem d_wanted_of {w : World} {K : Frag} {mg : Str → Option Value} {base : Heap} {l : Lc} (h : H0 w K mg base) : Callee PW w K mg base 1 "wanted_of" ["piece", "names"] s_wanted_of (tx.gc K l) F_wanted_of :=
  callee_of (k := 0) (I := []) (N := N_wanted_of) (st := s_wanted_of) (mb := m_wanted_of) h.ok (List.mem_of_getElem? (i := 13) rfl) h.f_wanted_of_fn sc_wanted_of (by decide) (fun _ _ _ _ _ _ us hl => match us, hl with | [_, _], _ => rfl) fun f cdv A outer s H E hr => by
  exact (s_cons (s_asg (g_name (i := 2) rfl) (ps_set sc_wanted_of.nd rfl (by first | exact Or.inl rfl | exact Or.inr rfl) (d_ixA rfl (hu1 hr) (d_var (pv 0)) d_int (fun
    _ _ => rfl) (fun _ _ => rfl)))) (s_cons (s_if (t_cmp (op_eqD hr.units) o_eq bl_eq (d_var (pv 2)) d_str (nomark _)) (s_one (s_ret (d_frz (o_lc (own :=
    [("sort", 3)]) rfl sc_wanted_of.nd src_all (c_name rfl) tst_yes (pi_all (by rfl) (d_ixA rfl (hu1 hr) (d_ixA rfl (hu1 hr) (d_var (pv 1)) (d_ixA rfl (hu1 hr)
    (d_var (pv 0)) d_int (fun _ _ => rfl) (fun _ _ => rfl)) (fun _ _ => rfl) (fun _ _ => rfl)) d_int (fun _ _ => rfl) (fun _ _ => rfl))) (blkOk_by (own :=
    [("sort", 3)]) (by show blkC N_wanted_of (defScope s_wanted_of) _ _ = true; decide +kernel)) (fun _ _ _ _ _ => (pg_name sc_wanted_of.nd (i := 3) rfl
    (by first | exact Or.inl rfl | exact Or.inr rfl))) (fun _ _ _ _ _ => pts_nil) (fun _ _ _ _ _ => (d_tup (a_cons (d_var (pv 3)) a_nil))))))) s_nil) (s_cons
    (s_if (t_inA rfl (hu1 hr) (d_var (pv 2)) (d_cst rfl rfl h.c_TWO_NUMBERS) (by with_unfolding_all rfl)) (s_one (s_ret (d_lst (a_cons (d_tup (a_cons d_str
    a_nil)) (a_cons (d_tup (a_cons d_str a_nil)) a_nil))))) s_nil) (s_cons (s_if (t_inA rfl (hu1 hr) (d_var (pv 2)) (d_tup (a_cons d_str (a_cons d_str a_nil)))
    (by with_unfolding_all rfl)) (s_one (s_ret (d_lst (a_cons (d_tup (a_cons d_str a_nil)) a_nil)))) s_nil) (s_cons (s_if (t_cmp (op_eqD hr.units) o_eq bl_eq
    (d_var (pv 2)) d_str (nomark _)) (s_one (s_ret (d_lst (a_cons (d_tup (a_cons d_str a_nil)) (a_cons (d_tup (a_cons d_str (a_cons d_str a_nil))) a_nil)))))
    s_nil) (s_cons (s_if (t_cmp (op_eqD hr.units) o_eq bl_eq (d_var (pv 2)) d_str (nomark _)) (s_one (s_ret (d_lst (a_cons (d_tup (a_cons d_str a_nil)) (a_cons
    (d_tup (a_cons d_str (a_cons d_str a_nil))) (a_cons (d_tup (a_cons d_str (a_cons d_str a_nil))) a_nil)))))) s_nil) (s_cons (s_if (t_inA rfl (hu1 hr) (d_var
    (pv 2)) (d_tup (a_cons d_str (a_cons d_str a_nil))) (by with_unfolding_all rfl)) (s_one (s_ret (d_lst (a_cons (d_tup (a_cons d_str a_nil)) (a_cons (d_tup
    (a_cons d_str a_nil)) a_nil))))) s_nil) (s_cons (s_if (t_inA rfl (hu1 hr) (d_var (pv 2)) (d_tup (a_cons d_str (a_cons d_str a_nil)))
    (by with_unfolding_all rfl)) (s_one (s_ret (d_slice rfl (d_lst (a_cons (d_tup (a_cons d_str a_nil)) (a_cons (d_tup (a_cons d_str a_nil)) a_nil))) o_none
    (o_some (d_bin op_sub o_subA (d_fn call_lenA n_lenA rfl h.f_len PyProof.Rows.Boot.«len» (a_cons (d_var (pv 0)) a_nil)) d_int))))) s_nil) (s_one (s_ret (d_if
    (t_cmp (op_eqD hr.units) o_eq bl_eq (d_var (pv 2)) d_str (nomark _)) (d_lst (a_cons (d_tup (a_cons d_str (a_cons d_str a_nil))) a_nil)) (d_lst
    a_nil))))))))))))
end PB.Lk02
set_option maxRecDepth 100000
set_option maxHeartbeats 4000000
namespace PB.Lk02
open PySem PySem.Spec PyProof.Rows L2 PB
open PySem.W (Frag keepIn)
/-! ### sort_by -/
def N_sort_by : List Str := ["piece", "sorts", "names", "kind"]
theorem sc_sort_by : FnScope N_sort_by ["piece", "sorts", "names"] (defScope s_sort_by) := ⟨rfl, rfl, rfl, by decide +kernel, rfl, by decide +kernel, by decide +kernel⟩
def a_sort_by_0 : M Fl := (sAsg (bName 3) (bin2 fIxA (rdV 0) (rdC (.int 0))))
def a_sort_by_1 : M Fl := (sIf (mTru (bin2 fEq (rdV 3) (rdC (.str "name")))) (sRet (bin2 fIxA (bin2 fIxA (rdV 2) (bin2 fIxA (rdV 0) (rdC (.int 1)))) (rdC (.int
    1)))) sNx)
def a_sort_by_2 : M Fl := (sIf (mTru (bin2 fEq (rdV 3) (rdC (.str "never")))) (sRet (bin2 fIxA (rdV 0) (rdC (.int 1)))) sNx)
def a_sort_by_3 : M Fl := (sIf (mTru (bin2 fEq (rdV 3) (rdC (.str "made")))) (sRet (rdC (.str "box"))) sNx)
def a_sort_by_4 : M Fl := (sIf (mTru (bin2 fInA (rdV 3) (mTup (mCons (rdC (.str "skip")) (mCons (rdC (.str "while")) (mCons (rdC (.str "set")) (mCons (rdC (.str
    "claim")) mNil))))))) (sRet (rdC (.str "do"))) sNx)
def a_sort_by_5 : M Fl := (sRet (mIf (mTru (bin2 fInA (rdV 3) (mTup (mCons (rdC (.str "then")) (mCons (rdC (.str "if")) (mCons (rdC (.str "new")) mNil))))))
    (bin2 fIxA (rdV 1) (m1 fNeg (rdC (.int 1)))) (rdC (.str "num"))))
def m_sort_by : M Fl := (sSeq a_sort_by_0 (sSeq a_sort_by_1 (sSeq a_sort_by_2 (sSeq a_sort_by_3 (sSeq a_sort_by_4 a_sort_by_5)))))
def F_sort_by : Env → FR := runF [] 3 4 m_sort_by
theorem d_sort_by {w : World} {K : Frag} {mg : Str → Option Value} {base : Heap} {l : Lc} (h : H0 w K mg base) : Callee PW w K mg base 1 "sort_by" ["piece", "sorts", "names"] s_sort_by (tx.gc K l) F_sort_by :=
  callee_of (k := 0) (I := []) (N := N_sort_by) (st := s_sort_by) (mb := m_sort_by) h.ok (List.mem_of_getElem? (i := 14) rfl) h.f_sort_by_fn sc_sort_by (by decide) (fun _ _ _ _ _ _ us hl => match us, hl with | [_, _, _], _ => rfl) fun f cdv A outer s H E hr => by
  exact (s_cons (s_asg (g_name (i := 3) rfl) (ps_set sc_sort_by.nd rfl (by first | exact Or.inl rfl | exact Or.inr rfl) (d_ixA rfl (hu1 hr) (d_var (pv 0)) d_int (fun _
    _ => rfl) (fun _ _ => rfl)))) (s_cons (s_if (t_cmp (op_eqD hr.units) o_eq bl_eq (d_var (pv 3)) d_str (nomark _)) (s_one (s_ret (d_ixA rfl (hu1 hr) (d_ixA
    rfl (hu1 hr) (d_var (pv 2)) (d_ixA rfl (hu1 hr) (d_var (pv 0)) d_int (fun _ _ => rfl) (fun _ _ => rfl)) (fun _ _ => rfl) (fun _ _ => rfl)) d_int (fun _ _ =>
    rfl) (fun _ _ => rfl)))) s_nil) (s_cons (s_if (t_cmp (op_eqD hr.units) o_eq bl_eq (d_var (pv 3)) d_str (nomark _)) (s_one (s_ret (d_ixA rfl (hu1 hr) (d_var
    (pv 0)) d_int (fun _ _ => rfl) (fun _ _ => rfl)))) s_nil) (s_cons (s_if (t_cmp (op_eqD hr.units) o_eq bl_eq (d_var (pv 3)) d_str (nomark _)) (s_one (s_ret
    d_str)) s_nil) (s_cons (s_if (t_inA rfl (hu1 hr) (d_var (pv 3)) (d_tup (a_cons d_str (a_cons d_str (a_cons d_str (a_cons d_str a_nil)))))
    (by with_unfolding_all rfl)) (s_one (s_ret d_str)) s_nil) (s_one (s_ret (d_if (t_inA rfl (hu1 hr) (d_var (pv 3)) (d_tup (a_cons d_str (a_cons d_str (a_cons
    d_str a_nil)))) (by with_unfolding_all rfl)) (d_ixA rfl (hu1 hr) (d_var (pv 1)) (d_neg d_int) (fun _ _ => rfl) (fun _ _ => rfl)) d_str))))))))
end PB.Lk02
set_option maxRecDepth 100000
set_option maxHeartbeats 4000000
namespace PB.Lk02
open PySem PySem.Spec PyProof.Rows L2 PB
open PySem.W (Frag keepIn)
/-! ### Sorter_sort_at -/
def N_Sorter_sort_at : List Str := ["self", "piece", "names", "at", "deep", "inner", "wanted", "sorts", "k", "place", "part", "is_last_arm"]
theorem sc_Sorter_sort_at : FnScope N_Sorter_sort_at ["self", "piece", "names", "at", "deep"] (defScope s_Sorter_sort_at) := ⟨rfl, rfl, rfl, by decide +kernel, rfl, by decide +kernel, by decide +kernel⟩
def b_Sorter_sort_at_0_0 (F_Sorter_sort_at : Env → FR) : M Fl := (sApp 7 (mMethS 4 "sort_at" F_Sorter_sort_at 0 (aV (rdV 10) (aV (bin2 fIxA (rdV 5) (rdV 8)) (aV
    (mTup (mStar (rdV 3) (mStar (rdV 9) mNil))) (aV (bin2 fAdd (rdV 4) (rdC (.int 1))) aNil))))))
def b_Sorter_sort_at_0_1 (F_Sorter_sort_at : Env → FR) : M Fl := (sAsg (bName 11) (mAndV (bin2 fEq (bin2 fIxA (rdV 1) (rdC (.int 0))) (rdC (.str "if"))) (bin2
    fEq (rdV 8) (rdC (.int 2)))))
def b_Sorter_sort_at_0_2 (F_Sorter_sort_at : Env → FR) : M Fl := (sIf (mOrB (mTru (bin2 fNinA (mIxP 7 (m1 fNeg (rdC (.int 1)))) (bin2 fIxA (rdV 6) (rdV 8))))
    (mAndB (mTru (rdV 11)) (mTru (bin2 fNe (mIxP 7 (rdC (.int 2))) (mIxP 7 (rdC (.int 1))))))) (sX1 3 "at" (mTup (mStar (rdV 3) (mStar (rdV 9) mNil)))) sNx)
def b_Sorter_sort_at_0 (F_Sorter_sort_at : Env → FR) : M Fl := (sSeq (b_Sorter_sort_at_0_0 F_Sorter_sort_at) (sSeq (b_Sorter_sort_at_0_1 F_Sorter_sort_at) (b_Sorter_sort_at_0_2 F_Sorter_sort_at)))
def a_Sorter_sort_at_0 (F_Sorter_sort_at : Env → FR) : M Fl := (sFldAugP tx.fin (fI fun i j => i + j) "nodes" 0 (rdC (.int 1)))
def a_Sorter_sort_at_1 (F_Sorter_sort_at : Env → FR) : M Fl := (sIf (mOrB (mTru (bin2 fGt (mFldA tx.fin "nodes" 0) (rdC k_MOST_NODES))) (mNotB (mTru (mCall
    F_is_shape (aV (mFldA tx.fin "size" 0) (aV (rdV 2) (aV (rdV 1) (aV (rdV 4) aNil)))))))) (sX1 3 "at" (rdV 3)) sNx)
def a_Sorter_sort_at_2 (F_Sorter_sort_at : Env → FR) : M Fl := (sParP [5, 6, 7] (pV (mCall F_names_within (aV (rdV 1) (aV (rdV 2) aNil))) (pV (mCall F_wanted_of
    (aV (rdV 1) (aV (rdV 2) aNil))) (pO (mLst mNil) pNil))))
def a_Sorter_sort_at_3 (F_Sorter_sort_at : Env → FR) : M Fl := (sFor (bTup 2 (bCons (bName 8) (bCons (bTup 2 (bCons (bName 9) (bCons (bName 10) bNil))) bNil)))
    (mItemsL asEnA (mCons (mCall F_parts_of (aV (rdV 1) aNil)) mNil)) (b_Sorter_sort_at_0 F_Sorter_sort_at))
def a_Sorter_sort_at_4 (F_Sorter_sort_at : Env → FR) : M Fl := (sRet (mCall F_sort_by (aV (rdV 1) (aV (rdV 7) (aV (rdV 2) aNil)))))
def m_Sorter_sort_at (F_Sorter_sort_at : Env → FR) : M Fl := (sSeq (a_Sorter_sort_at_0 F_Sorter_sort_at) (sSeq (a_Sorter_sort_at_1 F_Sorter_sort_at) (sSeq
    (a_Sorter_sort_at_2 F_Sorter_sort_at) (sSeq (a_Sorter_sort_at_3 F_Sorter_sort_at) (a_Sorter_sort_at_4 F_Sorter_sort_at)))))
theorem r_Sorter_sort_at {w : World} {K : Frag} {mg : Str → Option Value} {base : Heap} {l : Lc} {F_Sorter_sort_at : Env → FR} {kk : Nat} (h : H0 w K mg base) (hk : 3 ≤ kk) (c_parts_of : Callee PW w K mg base 1 "parts_of" ["piece"] s_parts_of (tx.gc K l) F_parts_of) (c_names_within : Callee PW w K mg base 2 "names_within" ["piece", "names"] s_names_within (tx.gc K l) F_names_within) (c_is_shape : Callee PW w K mg base 3 "is_shape" ["size", "names", "piece", "deep"] s_is_shape (tx.gc K l) F_is_shape) (c_wanted_of : Callee PW w K mg base 1 "wanted_of" ["piece", "names"] s_wanted_of (tx.gc K l) F_wanted_of) (c_sort_by : Callee PW w K mg base 1 "sort_by" ["piece", "sorts", "names"] s_sort_by (tx.gc K l) F_sort_by) (c_Sorter_sort_at : MethF PW w K mg base kk ((tx.gc K l).cl 4) "sort_at" ["self", "piece", "names", "at", "deep"] (tx.gc K l) F_Sorter_sort_at) : MethF PW w K mg base (kk + 1) ((tx.gc K l).cl 4) "sort_at" ["self", "piece", "names", "at", "deep"] (tx.gc K l) (runF [0] 5 12 (m_Sorter_sort_at F_Sorter_sort_at)) :=
  meth_of (d := own_Sorter) (k := kk) (x := "sort_at") (q := "Sorter.sort_at") (I := [0]) (N := N_Sorter_sort_at) (st := s_Sorter_sort_at) (mb := (m_Sorter_sort_at F_Sorter_sort_at)) h.ok (List.mem_of_getElem? (i := 0) rfl) (List.mem_of_getElem? (i := 1) rfl) sc_Sorter_sort_at (by decide) (fun _ _ _ _ _ _ us hl => match us, hl with | [_, _, _, _, _], _ => rfl) fun f cdv A outer s H E hr => by
  exact (s_cons (s_fldAugP L2.in_add p_add h.ok.fin (pv 0) d_int) (s_cons (s_if (PW.pt (t_or (t_cmp op_gt o_gtA bl_IB (d_fldA h.ok.fin (pv 0)) (d_cst rfl rfl
    h.c_MOST_NODES) (nomark _)) (t_or1 (t_not (t_of rfl (d_cal (takes_of rfl rfl rfl rfl) c_is_shape hr (by omega) rfl (aa_v (d_fldA h.ok.fin (pv 0)) (aa_v
    (d_var (pv 2)) (aa_v (d_var (pv 1)) (aa_v (d_var (pv 4)) aa_nil)))))))))) (s_one (s_rz (c := 3) rfl (takes_of rfl rfl rfl rfl) h.x_BadTerm hr (by omega) rfl
    (d_var (pv 3)))) s_nil) (s_cons (s_parP3 rfl rfl rfl (ps_par3 rfl sc_Sorter_sort_at.nd (i := 5) (j := 6) (l := 7) rfl rfl rfl (by decide) (by decide)
    (by decide) rfl rfl rfl (pp_v (d_cal (takes_of rfl rfl rfl rfl) c_names_within hr (by omega) rfl (aa_v (d_var (pv 1)) (aa_v (d_var (pv 2)) aa_nil))) (pp_v
    (d_cal (takes_of rfl rfl rfl rfl) c_wanted_of hr (by omega) rfl (aa_v (d_var (pv 1)) (aa_v (d_var (pv 2)) aa_nil))) (pp_o (o_lst a_nil) pp_nil))) (by rfl)))
    (s_cons (s_for src_enumA (g_tup (g_cons (g_name rfl) (g_cons (g_tup (g_cons (g_name rfl) (g_cons (g_name rfl) g_nil))) g_nil))) (ps_for (passes_of rfl) rfl
    (pi_enumA rfl (by rfl) h.f_enumerate (a_cons (d_cal (takes_of rfl rfl rfl rfl) c_parts_of hr (by omega) rfl (aa_v (d_var (pv 1)) aa_nil)) a_nil)) (pg_tup (n
    := 2) rfl (pgs_cons (pg_name sc_Sorter_sort_at.nd (i := 8) rfl (by first | exact Or.inl rfl | exact Or.inr rfl)) (pgs_cons (pg_tup (n := 2) rfl (pgs_cons
    (pg_name sc_Sorter_sort_at.nd (i := 9) rfl (by first | exact Or.inl rfl | exact Or.inr rfl)) (pgs_cons (pg_name sc_Sorter_sort_at.nd (i := 10) rfl
    (by first | exact Or.inl rfl | exact Or.inr rfl)) pgs_nil))) pgs_nil))) (s_cons (s_app (pv 7) (d_methS (c := 4) (takes_of rfl rfl rfl rfl) c_Sorter_sort_at
    hr (by omega) (pv 0) (aa_v (d_var (pv 10)) (aa_v (d_ixA rfl (hu1 hr) (d_var (pv 5)) (d_var (pv 8)) (fun _ _ => rfl) (fun _ _ => rfl)) (aa_v (d_tup (a_star
    rfl (d_var (pv 3)) (a_star rfl (d_var (pv 9)) a_nil))) (aa_v (d_bin op_addA o_addA (d_var (pv 4)) d_int) aa_nil)))))) (s_cons (s_asg (g_name (i := 11) rfl)
    (ps_set sc_Sorter_sort_at.nd rfl (by first | exact Or.inl rfl | exact Or.inr rfl) (d_and rfl (d_cmp (op_eqD hr.units) o_eq (d_ixA rfl (hu1 hr) (d_var (pv
    1)) d_int (fun _ _ => rfl) (fun _ _ => rfl)) d_str (nomark _)) (d_one (d_cmp (op_eqD hr.units) o_eq (d_var (pv 8)) d_int (nomark _)))))) (s_one (s_if (PW.pt
    (t_or (t_ninA rfl (hu1 hr) (d_ixP rfl (hu1 hr) (pv 7) (d_neg d_int) (fun _ _ => rfl) (fun _ _ => rfl)) (d_ixA rfl (hu1 hr) (d_var (pv 6)) (d_var (pv 8))
    (fun _ _ => rfl) (fun _ _ => rfl)) (by with_unfolding_all rfl)) (t_or1 (PW.pt (t_and (t_of rfl (d_var (pv 11))) (t_and1 (t_cmp (op_neD hr.units) o_ne bl_eq
    (d_ixP rfl (hu1 hr) (pv 7) d_int (fun _ _ => rfl) (fun _ _ => rfl)) (d_ixP rfl (hu1 hr) (pv 7) d_int (fun _ _ => rfl) (fun _ _ => rfl)) (nomark _))))))))
    (s_one (s_rz (c := 3) rfl (takes_of rfl rfl rfl rfl) h.x_BadTerm hr (by omega) rfl (d_tup (a_star rfl (d_var (pv 3)) (a_star rfl (d_var (pv 9)) a_nil)))))
    s_nil)))))) (s_one (s_ret (d_cal (takes_of rfl rfl rfl rfl) c_sort_by hr (by omega) rfl (aa_v (d_var (pv 1)) (aa_v (d_var (pv 7)) (aa_v (d_var (pv 2))
    aa_nil))))))))))
/-! ### the family of Sorter_sort_at -/
def fam_Sorter_sort_at : Nat → (Env → FR)
  | 0 => runF [0] 5 12 mBad
  | n + 1 => runF [0] 5 12 (m_Sorter_sort_at ((fam_Sorter_sort_at n)))
def G_Sorter_sort_at (n : Nat) : Env → FR := (fam_Sorter_sort_at n)
abbrev F_Sorter_sort_at : Env → FR := G_Sorter_sort_at 40
theorem g_Sorter_sort_at {w : World} {K : Frag} {mg : Str → Option Value} {base : Heap} {l : Lc} (h : H0 w K mg base) (c_parts_of : Callee PW w K mg base 1 "parts_of" ["piece"] s_parts_of (tx.gc K l) F_parts_of) (c_names_within : Callee PW w K mg base 2 "names_within" ["piece", "names"] s_names_within (tx.gc K l) F_names_within) (c_is_shape : Callee PW w K mg base 3 "is_shape" ["size", "names", "piece", "deep"] s_is_shape (tx.gc K l) F_is_shape) (c_wanted_of : Callee PW w K mg base 1 "wanted_of" ["piece", "names"] s_wanted_of (tx.gc K l) F_wanted_of) (c_sort_by : Callee PW w K mg base 1 "sort_by" ["piece", "sorts", "names"] s_sort_by (tx.gc K l) F_sort_by) : ∀ n : Nat, MethF PW w K mg base (4 + n) ((tx.gc K l).cl 4) "sort_at" ["self", "piece", "names", "at", "deep"] (tx.gc K l) (G_Sorter_sort_at n)
  | 0 => meth_of (d := own_Sorter) (k := 3) (x := "sort_at") (q := "Sorter.sort_at") (I := [0]) (N := N_Sorter_sort_at) (st := s_Sorter_sort_at) (mb := mBad) h.ok (List.mem_of_getElem? (i := 0) rfl) (List.mem_of_getElem? (i := 1) rfl) sc_Sorter_sort_at (by decide) (fun _ _ _ _ _ _ us hl => match us, hl with | [_, _, _, _, _], _ => rfl) fun f cdv A outer s H E hr => ss_bad
  | n + 1 => by
    have r := g_Sorter_sort_at (l := l) h c_parts_of c_names_within c_is_shape c_wanted_of c_sort_by n
    have c_Sorter_sort_at := r
    exact r_Sorter_sort_at (kk := 4 + n) h (by omega) c_parts_of c_names_within c_is_shape c_wanted_of c_sort_by c_Sorter_sort_at
theorem d_Sorter_sort_at {w : World} {K : Frag} {mg : Str → Option Value} {base : Heap} {l : Lc} (h : H0 w K mg base) (c_parts_of : Callee PW w K mg base 1 "parts_of" ["piece"] s_parts_of (tx.gc K l) F_parts_of) (c_names_within : Callee PW w K mg base 2 "names_within" ["piece", "names"] s_names_within (tx.gc K l) F_names_within) (c_is_shape : Callee PW w K mg base 3 "is_shape" ["size", "names", "piece", "deep"] s_is_shape (tx.gc K l) F_is_shape) (c_wanted_of : Callee PW w K mg base 1 "wanted_of" ["piece", "names"] s_wanted_of (tx.gc K l) F_wanted_of) (c_sort_by : Callee PW w K mg base 1 "sort_by" ["piece", "sorts", "names"] s_sort_by (tx.gc K l) F_sort_by) : MethF PW w K mg base 44 ((tx.gc K l).cl 4) "sort_at" ["self", "piece", "names", "at", "deep"] (tx.gc K l) F_Sorter_sort_at := (g_Sorter_sort_at (l := l) h c_parts_of c_names_within c_is_shape c_wanted_of c_sort_by 40)
end PB.Lk02
set_option maxRecDepth 100000
set_option maxHeartbeats 4000000
namespace PB.Lk02
open PySem PySem.Spec PyProof.Rows L2 PB
open PySem.W (Frag keepIn)
/-! ### sort_of -/
def N_sort_of : List Str := ["size", "names", "term"]
theorem sc_sort_of : FnScope N_sort_of ["size", "names", "term"] (defScope s_sort_of) := ⟨rfl, rfl, rfl, by decide +kernel, rfl, by decide +kernel, by decide +kernel⟩
def a_sort_of_0 : M Fl := (sDo (mCall F_need_size (aV (rdV 0) aNil)))
def a_sort_of_1 : M Fl := (sDo (mCall F_need_names (aV (rdV 1) aNil)))
def a_sort_of_2 : M Fl := (sRet (mMethT 4 "sort_at" F_Sorter_sort_at (mMakeO 4 F_Sorter_init (mCons (rdV 0) mNil)) (mCons (rdV 2) (mCons (rdV 1) (mCons (mTup
    mNil) (mCons (rdC (.int 1)) mNil))))))
def m_sort_of : M Fl := (sSeq a_sort_of_0 (sSeq a_sort_of_1 a_sort_of_2))
def F_sort_of : Env → FR := runF [] 3 3 m_sort_of
theorem d_sort_of {w : World} {K : Frag} {mg : Str → Option Value} {base : Heap} {l : Lc} (h : H0 w K mg base) (c_need_names : Callee PW w K mg base 4 "need_names" ["thing"] s_need_names (tx.gc K l) F_need_names) (c_need_size : Callee PW w K mg base 4 "need_size" ["size"] s_need_size (tx.gc K l) F_need_size) (c_Sorter_sort_at : MethF PW w K mg base 44 ((tx.gc K l).cl 4) "sort_at" ["self", "piece", "names", "at", "deep"] (tx.gc K l) F_Sorter_sort_at) (mk_Sorter : MakeF PW w K mg base 1 "Sorter" ((tx.gc K l).cl 4) ["self", "size"] (tx.gc K l) F_Sorter_init) : Callee PW w K mg base 45 "sort_of" ["size", "names", "term"] s_sort_of (tx.gc K l) F_sort_of :=
  callee_of (k := 44) (I := []) (N := N_sort_of) (st := s_sort_of) (mb := m_sort_of) h.ok (List.mem_of_getElem? (i := 16) rfl) h.f_sort_of_fn sc_sort_of (by decide) (fun _ _ _ _ _ _ us hl => match us, hl with | [_, _, _], _ => rfl) fun f cdv A outer s H E hr => by
  exact (s_cons (s_expr (d_cal (takes_of rfl rfl rfl rfl) c_need_size hr (by decide) rfl (aa_v (d_var (pv 0)) aa_nil))) (s_cons (s_expr (d_cal (takes_of rfl rfl rfl
    rfl) c_need_names hr (by decide) rfl (aa_v (d_var (pv 1)) aa_nil))) (s_one (s_ret (d_methT (c := 4) (takes_of rfl rfl rfl rfl) c_Sorter_sort_at hr
    (by decide) (o_make (c := 4) (takes_of rfl rfl rfl rfl) mk_Sorter hr (by decide) rfl (a_cons (d_var (pv 0)) a_nil)) (a_cons (d_var (pv 2)) (a_cons (d_var
    (pv 1)) (a_cons (d_tup a_nil) (a_cons d_int a_nil)))))))))
end PB.Lk02
set_option maxRecDepth 100000
set_option maxHeartbeats 4000000
namespace PB.Lk02
open PySem PySem.Spec PyProof.Rows L2 PB
open PySem.W (Frag keepIn)
/-! ### is_term -/
def N_is_term : List Str := ["size", "names", "thing"]
theorem sc_is_term : FnScope N_is_term ["size", "names", "thing"] (defScope s_is_term) := ⟨rfl, rfl, rfl, by decide +kernel, rfl, by decide +kernel, by decide +kernel⟩
def a_is_term_0 : M Fl := (sDo (mCall F_need_size (aV (rdV 0) aNil)))
def a_is_term_1 : M Fl := (sDo (mCall F_need_names (aV (rdV 1) aNil)))
def a_is_term_2 : M Fl := (sTry (catF 3) (sDo (mMethT 4 "sort_at" F_Sorter_sort_at (mMakeO 4 F_Sorter_init (mCons (rdV 0) mNil)) (mCons (rdV 2) (mCons (rdV 1)
    (mCons (mTup mNil) (mCons (rdC (.int 1)) mNil)))))) (sRet (rdC (.bl false))))
def a_is_term_3 : M Fl := (sRet (rdC (.bl true)))
def m_is_term : M Fl := (sSeq a_is_term_0 (sSeq a_is_term_1 (sSeq a_is_term_2 a_is_term_3)))
def F_is_term : Env → FR := runF [] 3 3 m_is_term
theorem d_is_term {w : World} {K : Frag} {mg : Str → Option Value} {base : Heap} {l : Lc} (h : H0 w K mg base) (c_need_names : Callee PW w K mg base 4 "need_names" ["thing"] s_need_names (tx.gc K l) F_need_names) (c_need_size : Callee PW w K mg base 4 "need_size" ["size"] s_need_size (tx.gc K l) F_need_size) (c_Sorter_sort_at : MethF PW w K mg base 44 ((tx.gc K l).cl 4) "sort_at" ["self", "piece", "names", "at", "deep"] (tx.gc K l) F_Sorter_sort_at) (mk_Sorter : MakeF PW w K mg base 1 "Sorter" ((tx.gc K l).cl 4) ["self", "size"] (tx.gc K l) F_Sorter_init) : Callee PW w K mg base 45 "is_term" ["size", "names", "thing"] s_is_term (tx.gc K l) F_is_term :=
  callee_of (k := 44) (I := []) (N := N_is_term) (st := s_is_term) (mb := m_is_term) h.ok (List.mem_of_getElem? (i := 17) rfl) h.f_is_term_fn sc_is_term (by decide) (fun _ _ _ _ _ _ us hl => match us, hl with | [_, _, _], _ => rfl) fun f cdv A outer s H E hr => by
  exact (s_cons (s_expr (d_cal (takes_of rfl rfl rfl rfl) c_need_size hr (by decide) rfl (aa_v (d_var (pv 0)) aa_nil))) (s_cons (s_expr (d_cal (takes_of rfl rfl rfl
    rfl) c_need_names hr (by decide) rfl (aa_v (d_var (pv 1)) aa_nil))) (s_cons (s_try (c := .ref (tx.cl K 3)) rfl rfl ⟨rfl, by decide, .inl h.g_BadTerm⟩
    (takes_of rfl rfl rfl rfl) (h.ok.exk cat_BadTerm) (fun W pn xe tk1 po => (s_one (s_expr (d_methT (c := 4) tk1 c_Sorter_sort_at hr (by decide) (o_make (c :=
    4) tk1 mk_Sorter hr (by decide) rfl (a_cons (d_var (pv 0)) a_nil)) (a_cons (d_var (pv 2)) (a_cons (d_var (pv 1)) (a_cons (d_tup a_nil) (a_cons d_int
    a_nil)))))))) (fun a oe cls d pn zc ex => (s_one (s_ret d_bl)))) (s_one (s_ret d_bl)))))
end PB.Lk02
set_option maxRecDepth 100000
set_option maxHeartbeats 4000000
namespace PB.Lk02
open PySem PySem.Spec PyProof.Rows L2 PB
open PySem.W (Frag keepIn)
/-! ### law_begun -/
def N_law_begun : List Str := ["script", "large", "grain"]
theorem sc_law_begun : FnScope N_law_begun ["script"] (defScope s_law_begun) := ⟨rfl, rfl, rfl, by decide +kernel, rfl, by decide +kernel, by decide +kernel⟩
def e_law_begun_0 : M D := (bin2 fSub (mFn fAbs (mCons (rdV 2) mNil)) (bin2 fPowI (rdC (.int 10)) (rdC (.int 18))))
def e_law_begun_1 : M D := (mFn fAbs (mCons (rdV 2) mNil))
def a_law_begun_0 : M Fl := (sAsgO 1 (mLc [2] (bName 2) (mItems asAll (rdV 0)) (mTru (bin2 fGe (mFn fAbs (mCons (rdV 2) mNil)) (bin2 fPowI (rdC (.int 10)) (rdC
    (.int 18))))) e_law_begun_0))
def a_law_begun_1 : M Fl := (sRetO (mDraw 1 (mLc [2] (bName 2) (mItems asAll (rdV 0)) mYes e_law_begun_1)))
def m_law_begun : M Fl := (sSeq a_law_begun_0 a_law_begun_1)
def F_law_begun : Env → FR := runF [] 1 3 m_law_begun
theorem d_law_begun {w : World} {K : Frag} {mg : Str → Option Value} {base : Heap} {l : Lc} (h : H0 w K mg base) : Callee PW w K mg base 1 "_law_begun" ["script"] s_law_begun (tx.gc K l) F_law_begun :=
  callee_of (k := 0) (I := []) (N := N_law_begun) (st := s_law_begun) (mb := m_law_begun) h.ok (List.mem_of_getElem? (i := 18) rfl) h.f_law_begun_fn sc_law_begun (by decide) (fun _ _ _ _ _ _ us hl => match us, hl with | [_], _ => rfl) fun f cdv A outer s H E hr => by
  exact (s_cons (s_setLc (i := 1) rfl src_all (c_name rfl) tst_one (ps_setLc rfl sc_law_begun.nd rfl rfl (by rfl) (pi_all (by rfl) (d_var (pv 0))) (blkOk_by (own :=
    [("grain", 2)]) (by show blkC N_law_begun (defScope s_law_begun) _ _ = true; decide +kernel)) (fun _ _ _ _ _ => (pg_name sc_law_begun.nd (i := 2) rfl
    (by first | exact Or.inl rfl | exact Or.inr rfl))) (fun _ _ _ _ _ => (pts_one (t_cmp op_ge o_geA bl_IB (d_fn call_abs n_abs rfl h.f_abs
    PyProof.Rows.Boot.«abs» (a_cons (d_var (pv 2)) a_nil)) (d_bin op_pow o_powI d_int d_int) (nomark _)))) (fun _ _ _ _ _ => (d_bin op_sub o_subA (d_fn call_abs
    n_abs rfl h.f_abs PyProof.Rows.Boot.«abs» (a_cons (d_var (pv 2)) a_nil)) (d_bin op_pow o_powI d_int d_int))))) (s_one (s_retO (o_draw pe_str pe_str pe_str
    pe_str (pv 1) pe_int (o_lc (own := [("grain", 2)]) rfl sc_law_begun.nd src_all (c_name rfl) tst_yes (pi_all (by rfl) (d_var (pv 0))) (blkOk_by (own :=
    [("grain", 2)]) (by show blkC N_law_begun (defScope s_law_begun) _ _ = true; decide +kernel)) (fun _ _ _ _ _ => (pg_name sc_law_begun.nd (i := 2) rfl
    (by first | exact Or.inl rfl | exact Or.inr rfl))) (fun _ _ _ _ _ => pts_nil) (fun _ _ _ _ _ => (d_fn call_abs n_abs rfl h.f_abs PyProof.Rows.Boot.«abs»
    (a_cons (d_var (pv 2)) a_nil)))) pe_int))))
end PB.Lk02
set_option maxRecDepth 100000
set_option maxHeartbeats 4000000
namespace PB.Lk02
open PySem PySem.Spec PyProof.Rows L2 PB
open PySem.W (Frag keepIn)
/-! ### law_mixed -/
def N_law_mixed : List Str := ["draw", "turn", "found", "great", "blend", "grain"]
theorem sc_law_mixed : FnScope N_law_mixed ["draw"] (defScope s_law_mixed) := ⟨rfl, rfl, rfl, by decide +kernel, rfl, by decide +kernel, by decide +kernel⟩
def b_law_mixed_0 : M Fl := (sAsg (bName 4) (bin2 fModI (bin2 fAdd (bin2 fMul (rdV 4) (rdC (.int 48271))) (mFn fInt (mCons (rdV 5) mNil))) (rdV 3)))
def b_law_mixed_1_0 : M Fl := (sAsg (bName 4) (bin2 fModI (bin2 fAdd (bin2 fMul (rdV 1) (rdC (.int 69621))) (bin2 fDivI (rdV 3) (rdC (.int 7)))) (rdV 3)))
def b_law_mixed_1_1 : M Fl := (sFor (bName 5) (mItems asAll (drCells 0)) b_law_mixed_0)
def b_law_mixed_1_2 : M Fl := (sAsg (bName 2) (bin2 fAdd (bin2 fMul (rdV 2) (rdC (.int 2147483647))) (bin2 fModI (bin2 fPowI (rdV 4) (rdC (.int 5))) (rdV 3))))
def b_law_mixed_1 : M Fl := (sSeq b_law_mixed_1_0 (sSeq b_law_mixed_1_1 b_law_mixed_1_2))
def a_law_mixed_0 : M Fl := (drPutT 0 (bin2 fAdd (drTurn 0) (rdC (.int 1))))
def a_law_mixed_1 : M Fl := (sPar 1 2 (mCons (mFn fInt (mCons (drTurn 0) mNil)) (mCons (rdC (.int 0)) mNil)))
def a_law_mixed_2 : M Fl := (sFor (bName 3) (mItems asAll (mLst (mCons (rdC (.int 2147483629)) (mCons (rdC (.int 2147483587)) (mCons (rdC (.int 2147483579))
    mNil))))) b_law_mixed_1)
def a_law_mixed_3 : M Fl := (sRet (rdV 2))
def m_law_mixed : M Fl := (sSeq a_law_mixed_0 (sSeq a_law_mixed_1 (sSeq a_law_mixed_2 a_law_mixed_3)))
def F_law_mixed : Env → FR := runF [0] 1 6 m_law_mixed
theorem d_law_mixed {w : World} {K : Frag} {mg : Str → Option Value} {base : Heap} {l : Lc} (h : H0 w K mg base) : Callee PW w K mg base 1 "_law_mixed" ["draw"] s_law_mixed (tx.gc K l) F_law_mixed :=
  callee_of (k := 0) (I := [0]) (N := N_law_mixed) (st := s_law_mixed) (mb := m_law_mixed) h.ok (List.mem_of_getElem? (i := 19) rfl) h.f_law_mixed_fn sc_law_mixed (by decide) (fun _ _ _ _ _ _ us hl => match us, hl with | [_], _ => rfl) fun f cdv A outer s H E hr => by
  exact (s_cons (s_putT (hu1 hr) (pv 0) pe_str (d_bin op_addA o_addA (d_turn (hu1 hr) (pv 0) pe_str (fun _ _ => rfl)) d_int)) (s_cons (s_par rfl rfl (ps_par rfl
    sc_law_mixed.nd (i := 1) (j := 2) rfl rfl (by decide) rfl rfl (a_cons (d_ty call_int1 n_int rfl h.f_int PyProof.Rows.Boot.«int» (a_cons (d_turn (hu1 hr) (pv
    0) pe_str (fun _ _ => rfl)) a_nil)) (a_cons d_int a_nil)) (by rfl))) (s_cons (s_for src_all (g_name rfl) (ps_for (passes_of rfl) rfl (pi_all (by rfl) (d_lst
    (a_cons d_int (a_cons d_int (a_cons d_int a_nil))))) (pg_name sc_law_mixed.nd (i := 3) rfl (by first | exact Or.inl rfl | exact Or.inr rfl)) (s_cons (s_asg
    (g_name (i := 4) rfl) (ps_set sc_law_mixed.nd rfl (by first | exact Or.inl rfl | exact Or.inr rfl) (d_bin op_modN o_modI (d_bin op_addA o_addA (d_bin
    op_mulA o_mulA (d_var (pv 1)) d_int) (d_bin op_fdivN o_divI (d_var (pv 3)) d_int)) (d_var (pv 3))))) (s_cons (s_for src_all (g_name rfl) (ps_for (passes_of
    rfl) rfl (pi_all (by rfl) (d_cells (hu1 hr) (pv 0) pe_str (fun _ _ => rfl))) (pg_name sc_law_mixed.nd (i := 5) rfl
    (by first | exact Or.inl rfl | exact Or.inr rfl)) (s_one (s_asg (g_name (i := 4) rfl) (ps_set sc_law_mixed.nd rfl
    (by first | exact Or.inl rfl | exact Or.inr rfl) (d_bin op_modN o_modI (d_bin op_addA o_addA (d_bin op_mulA o_mulA (d_var (pv 4)) d_int) (d_ty call_int1
    n_int rfl h.f_int PyProof.Rows.Boot.«int» (a_cons (d_var (pv 5)) a_nil))) (d_var (pv 3)))))))) (s_one (s_asg (g_name (i := 2) rfl) (ps_set sc_law_mixed.nd
    rfl (by first | exact Or.inl rfl | exact Or.inr rfl) (d_bin op_addA o_addA (d_bin op_mulA o_mulA (d_var (pv 2)) d_int) (d_bin op_modN o_modI (d_bin op_pow
    o_powI (d_var (pv 4)) d_int) (d_var (pv 3))))))))))) (s_one (s_ret (d_var (pv 2)))))))
end PB.Lk02
set_option maxRecDepth 100000
set_option maxHeartbeats 4000000
namespace PB.Lk02
open PySem PySem.Spec PyProof.Rows L2 PB
open PySem.W (Frag keepIn)
/-! ### law_take -/
def N_law_take : List Str := ["draw", "amount", "found"]
theorem sc_law_take : FnScope N_law_take ["draw", "amount"] (defScope s_law_take) := ⟨rfl, rfl, rfl, by decide +kernel, rfl, by decide +kernel, by decide +kernel⟩
def a_law_take_0 : M Fl := (sIf (mTru (bin2 fEq (drRest 0) (rdC (.int 0)))) (drPutR 0 (mIf (drAny 0) (drPop 0) (mCall F_law_mixed (aS 0 aNil)))) sNx)
def a_law_take_1 : M Fl := (sAsg (bName 2) (bin2 fModI (mFn fInt (mCons (drRest 0) mNil)) (rdV 1)))
def a_law_take_2 : M Fl := (drPutR 0 (bin2 fDivI (mFn fInt (mCons (drRest 0) mNil)) (rdV 1)))
def a_law_take_3 : M Fl := (sRet (rdV 2))
def m_law_take : M Fl := (sSeq a_law_take_0 (sSeq a_law_take_1 (sSeq a_law_take_2 a_law_take_3)))
def F_law_take : Env → FR := runF [0] 2 3 m_law_take
theorem d_law_take {w : World} {K : Frag} {mg : Str → Option Value} {base : Heap} {l : Lc} (h : H0 w K mg base) (c_law_mixed : Callee PW w K mg base 1 "_law_mixed" ["draw"] s_law_mixed (tx.gc K l) F_law_mixed) : Callee PW w K mg base 2 "_law_take" ["draw", "amount"] s_law_take (tx.gc K l) F_law_take :=
  callee_of (k := 1) (I := [0]) (N := N_law_take) (st := s_law_take) (mb := m_law_take) h.ok (List.mem_of_getElem? (i := 20) rfl) h.f_law_take_fn sc_law_take (by decide) (fun _ _ _ _ _ _ us hl => match us, hl with | [_, _], _ => rfl) fun f cdv A outer s H E hr => by
  exact (s_cons (s_if (t_cmp (op_eqD hr.units) o_eq bl_eq (d_rest (hu1 hr) (pv 0) pe_str (fun _ _ => rfl)) d_int (nomark _)) (s_one (s_putR (hu1 hr) (pv 0) pe_str (d_if
    (d_any hr.units (hu1 hr) (pv 0) pe_str (fun _ _ => rfl)) (d_drPop (hu1 hr) (pv 0) pe_str (fun _ _ => rfl) pe_int) (d_cal (takes_of rfl rfl rfl rfl)
    c_law_mixed hr (by decide) rfl (aa_s (pv 0) aa_nil))))) s_nil) (s_cons (s_asg (g_name (i := 2) rfl) (ps_set sc_law_take.nd rfl
    (by first | exact Or.inl rfl | exact Or.inr rfl) (d_bin op_modN o_modI (d_ty call_int1 n_int rfl h.f_int PyProof.Rows.Boot.«int» (a_cons (d_rest (hu1 hr)
    (pv 0) pe_str (fun _ _ => rfl)) a_nil)) (d_var (pv 1))))) (s_cons (s_putR (hu1 hr) (pv 0) pe_str (d_bin op_fdivN o_divI (d_ty call_int1 n_int rfl h.f_int
    PyProof.Rows.Boot.«int» (a_cons (d_rest (hu1 hr) (pv 0) pe_str (fun _ _ => rfl)) a_nil)) (d_var (pv 1)))) (s_one (s_ret (d_var (pv 2)))))))
end PB.Lk02
set_option maxRecDepth 100000
set_option maxHeartbeats 4000000
namespace PB.Lk02
open PySem PySem.Spec PyProof.Rows L2 PB
open PySem.W (Frag keepIn)
/-! ### law_pick -/
def N_law_pick : List Str := ["draw", "some"]
theorem sc_law_pick : FnScope N_law_pick ["draw", "some"] (defScope s_law_pick) := ⟨rfl, rfl, rfl, by decide +kernel, rfl, by decide +kernel, by decide +kernel⟩
def a_law_pick_0 : M Fl := (sRet (bin2 fIxA (rdV 1) (mCall F_law_take (aS 0 (aV (mFn fLenA (mCons (rdV 1) mNil)) aNil)))))
def m_law_pick : M Fl := a_law_pick_0
def F_law_pick : Env → FR := runF [0] 2 2 m_law_pick
theorem d_law_pick {w : World} {K : Frag} {mg : Str → Option Value} {base : Heap} {l : Lc} (h : H0 w K mg base) (c_law_take : Callee PW w K mg base 2 "_law_take" ["draw", "amount"] s_law_take (tx.gc K l) F_law_take) : Callee PW w K mg base 3 "_law_pick" ["draw", "some"] s_law_pick (tx.gc K l) F_law_pick :=
  callee_of (k := 2) (I := [0]) (N := N_law_pick) (st := s_law_pick) (mb := m_law_pick) h.ok (List.mem_of_getElem? (i := 21) rfl) h.f_law_pick_fn sc_law_pick (by decide) (fun _ _ _ _ _ _ us hl => match us, hl with | [_, _], _ => rfl) fun f cdv A outer s H E hr => by
  exact (s_one (s_ret (d_ixA rfl (hu1 hr) (d_var (pv 1)) (d_cal (takes_of rfl rfl rfl rfl) c_law_take hr (by decide) rfl (aa_s (pv 0) (aa_v (d_fn call_lenA n_lenA rfl
    h.f_len PyProof.Rows.Boot.«len» (a_cons (d_var (pv 1)) a_nil)) aa_nil))) (fun _ _ => rfl) (fun _ _ => rfl))))
end PB.Lk02
set_option maxRecDepth 100000
set_option maxHeartbeats 4000000
namespace PB.Lk02
open PySem PySem.Spec PyProof.Rows L2 PB
open PySem.W (Frag keepIn)
/-! ### law_shuffled -/
def N_law_shuffled : List Str := ["draw", "some", "left", "found"]
theorem sc_law_shuffled : FnScope N_law_shuffled ["draw", "some"] (defScope s_law_shuffled) := ⟨rfl, rfl, rfl, by decide +kernel, rfl, by decide +kernel, by decide +kernel⟩
def b_law_shuffled_0 : M Fl := (sApp 3 (dPop 2 (mCall F_law_take (aS 0 (aV (mLenP 2) aNil)))))
def a_law_shuffled_0 : M Fl := (sParP [2, 3] (pO (mFn fLstOf (mCons (rdV 1) mNil)) (pO (mLst mNil) pNil)))
def a_law_shuffled_1 : M Fl := (whileM (mTru (mPL fNe 2 (mLst mNil))) b_law_shuffled_0 3000)
def a_law_shuffled_2 : M Fl := (sRet (rdV 3))
def m_law_shuffled : M Fl := (sSeq a_law_shuffled_0 (sSeq a_law_shuffled_1 a_law_shuffled_2))
def F_law_shuffled : Env → FR := runF [0] 2 4 m_law_shuffled
theorem d_law_shuffled {w : World} {K : Frag} {mg : Str → Option Value} {base : Heap} {l : Lc} (h : H0 w K mg base) (c_law_take : Callee PW w K mg base 2 "_law_take" ["draw", "amount"] s_law_take (tx.gc K l) F_law_take) : Callee PW w K mg base 3 "_law_shuffled" ["draw", "some"] s_law_shuffled (tx.gc K l) F_law_shuffled :=
  callee_of (k := 2) (I := [0]) (N := N_law_shuffled) (st := s_law_shuffled) (mb := m_law_shuffled) h.ok (List.mem_of_getElem? (i := 22) rfl) h.f_law_shuffled_fn sc_law_shuffled (by decide) (fun _ _ _ _ _ _ us hl => match us, hl with | [_, _], _ => rfl) fun f cdv A outer s H E hr => by
  exact (s_cons (s_parP2 rfl rfl (ps_par rfl sc_law_shuffled.nd (i := 2) (j := 3) rfl rfl (by decide) rfl rfl (pp_o (o_ty call_list_of no_lstOf rfl h.f_list
    PyProof.Rows.Boot.«list» (a_cons (d_var (pv 1)) a_nil)) (pp_o (o_lst a_nil) pp_nil)) (by rfl))) (s_cons (s_while (passes_of rfl) (t_op (op_neD hr.units) (pv
    2) (d_lst a_nil) (nomark _) (fun _ _ _ => pl_tOp p_ne) (mPL_bl bl_eq)) (s_one (s_app (pv 3) (d_pop (pv 2) (d_cal (takes_of rfl rfl rfl rfl) c_law_take hr
    (by decide) rfl (aa_s (pv 0) (aa_v (d_lenP rfl h.f_len boot_len (pv 2) rfl) aa_nil))))))) (s_one (s_ret (d_var (pv 3))))))
end PB.Lk02
set_option maxRecDepth 100000
set_option maxHeartbeats 4000000
namespace PB.Lk02
open PySem PySem.Spec PyProof.Rows L2 PB
open PySem.W (Frag keepIn)
/-! ### law_names -/
def N_law_names : List Str := ["draw", "many", "most_args", "found", "word", "way", "args_here", "k"]
theorem sc_law_names : FnScope N_law_names ["draw", "many", "most_args"] (defScope s_law_names) := ⟨rfl, rfl, rfl, by decide +kernel, rfl, by decide +kernel, by decide +kernel⟩
def e_law_names_0 : M D := (mCall F_law_pick (aS 0 (aV (mLst (mCons (rdC (.str "num")) (mCons (rdC (.str "num")) (mCons (rdC (.str "do")) (mCons (rdC (.str
    "box")) mNil))))) aNil)))
def b_law_names_1_0 : M Fl := (sAsg (bName 5) (mCall F_law_take (aS 0 (aV (rdC (.int 6)) aNil))))
def b_law_names_1_1 : M Fl := (sIf (mTru (bin2 fLt (rdV 5) (rdC (.int 3)))) (sDput 3 (rdV 4) (mTup (mCons (mTup mNil) (mCons (mCall F_law_pick (aS 0 (aV (mLst
    (mCons (rdC (.str "num")) (mCons (rdC (.str "num")) (mCons (rdC (.str "do")) (mCons (rdC (.str "box")) mNil))))) aNil))) mNil)))) (sSeq (sAsg (bName 6) (mFn
    fTupOf (mCons (mFrz (mLc [7] (bName 7) (mItemsL asR1 (mCons (mCall F_law_take (aS 0 (aV (bin2 fAdd (rdV 2) (rdC (.int 1))) aNil))) mNil)) mYes
    e_law_names_0)) mNil))) (sDput 3 (rdV 4) (mTup (mCons (rdV 6) (mCons (mCall F_law_pick (aS 0 (aV (mLst (mCons (rdC (.str "num")) (mCons (rdC (.str "do"))
    mNil))) aNil))) mNil))))))
def b_law_names_1 : M Fl := (sSeq b_law_names_1_0 b_law_names_1_1)
def a_law_names_0 : M Fl := (sAsgO 3 (fun ρ => .ok (.dct [] []) ρ))
def a_law_names_1 : M Fl := (sFor (bName 4) (mItems asAll (mSl (mCall F_law_shuffled (aS 0 (aV (mLst (mCons (rdC (.str "f")) (mCons (rdC (.str "x")) (mCons (rdC
    (.str "v")) (mCons (rdC (.str "go")) mNil))))) aNil))) mNoP (mPart (mCall F_law_take (aS 0 (aV (bin2 fAdd (rdV 1) (rdC (.int 1))) aNil)))))) b_law_names_1)
def a_law_names_2 : M Fl := (sRet (rdV 3))
def m_law_names : M Fl := (sSeq a_law_names_0 (sSeq a_law_names_1 a_law_names_2))
def F_law_names : Env → FR := runF [0] 3 8 m_law_names
theorem d_law_names {w : World} {K : Frag} {mg : Str → Option Value} {base : Heap} {l : Lc} (h : H0 w K mg base) (c_law_take : Callee PW w K mg base 2 "_law_take" ["draw", "amount"] s_law_take (tx.gc K l) F_law_take) (c_law_pick : Callee PW w K mg base 3 "_law_pick" ["draw", "some"] s_law_pick (tx.gc K l) F_law_pick) (c_law_shuffled : Callee PW w K mg base 3 "_law_shuffled" ["draw", "some"] s_law_shuffled (tx.gc K l) F_law_shuffled) : Callee PW w K mg base 4 "_law_names" ["draw", "many", "most_args"] s_law_names (tx.gc K l) F_law_names :=
  callee_of (k := 3) (I := [0]) (N := N_law_names) (st := s_law_names) (mb := m_law_names) h.ok (List.mem_of_getElem? (i := 24) rfl) h.f_law_names_fn sc_law_names (by decide) (fun _ _ _ _ _ _ us hl => match us, hl with | [_, _, _], _ => rfl) fun f cdv A outer s H E hr => by
  exact (s_cons (s_asgO (i := 3) rfl (ps_set sc_law_names.nd rfl (by first | exact Or.inl rfl | exact Or.inr rfl) o_dct0)) (s_cons (s_for src_all (g_name rfl) (ps_for
    (passes_of rfl) rfl (pi_all (by rfl) (d_slice rfl (d_cal (takes_of rfl rfl rfl rfl) c_law_shuffled hr (by decide) rfl (aa_s (pv 0) (aa_v (d_lst (a_cons
    d_str (a_cons d_str (a_cons d_str (a_cons d_str a_nil))))) aa_nil))) o_none (o_some (d_cal (takes_of rfl rfl rfl rfl) c_law_take hr (by decide) rfl (aa_s
    (pv 0) (aa_v (d_bin op_addA o_addA (d_var (pv 1)) d_int) aa_nil)))))) (pg_name sc_law_names.nd (i := 4) rfl
    (by first | exact Or.inl rfl | exact Or.inr rfl)) (s_cons (s_asg (g_name (i := 5) rfl) (ps_set sc_law_names.nd rfl
    (by first | exact Or.inl rfl | exact Or.inr rfl) (d_cal (takes_of rfl rfl rfl rfl) c_law_take hr (by decide) rfl (aa_s (pv 0) (aa_v d_int aa_nil))))) (s_one
    (s_if (t_cmp op_lt o_ltA bl_IB (d_var (pv 5)) d_int (nomark _)) (s_one (s_dput (hu1 hr) (pv 3) (d_var (pv 4)) (d_tup (a_cons (d_tup a_nil) (a_cons (d_cal
    (takes_of rfl rfl rfl rfl) c_law_pick hr (by decide) rfl (aa_s (pv 0) (aa_v (d_lst (a_cons d_str (a_cons d_str (a_cons d_str (a_cons d_str a_nil)))))
    aa_nil))) a_nil))))) (s_cons (s_asg (g_name (i := 6) rfl) (ps_set sc_law_names.nd rfl (by first | exact Or.inl rfl | exact Or.inr rfl) (d_ty call_tuple_of
    n_tupOf rfl h.f_tuple PyProof.Rows.Boot.«tuple» (a_cons (d_frz (o_lc (own := [("k", 7)]) rfl sc_law_names.nd src_range1 (c_name rfl) tst_yes (pi_range1
    (by rfl) h.f_range (a_cons (d_cal (takes_of rfl rfl rfl rfl) c_law_take hr (by decide) rfl (aa_s (pv 0) (aa_v (d_bin op_addA o_addA (d_var (pv 2)) d_int)
    aa_nil))) a_nil)) (blkOk_by (own := [("k", 7)]) (by show blkC N_law_names (defScope s_law_names) _ _ = true; decide +kernel)) (fun _ _ _ _ _ => (pg_name
    sc_law_names.nd (i := 7) rfl (by first | exact Or.inl rfl | exact Or.inr rfl))) (fun _ _ _ _ _ => pts_nil) (fun _ _ _ _ _ => (d_cal tk0 c_law_pick hr
    (by decide) rfl (aa_s (pv 0) (aa_v (d_lst (a_cons d_str (a_cons d_str (a_cons d_str (a_cons d_str a_nil))))) aa_nil)))))) a_nil)))) (s_one (s_dput (hu1 hr)
    (pv 3) (d_var (pv 4)) (d_tup (a_cons (d_var (pv 6)) (a_cons (d_cal (takes_of rfl rfl rfl rfl) c_law_pick hr (by decide) rfl (aa_s (pv 0) (aa_v (d_lst
    (a_cons d_str (a_cons d_str a_nil))) aa_nil))) a_nil))))))))))) (s_one (s_ret (d_var (pv 3))))))
end PB.Lk02
set_option maxRecDepth 100000
set_option maxHeartbeats 4000000
namespace PB.Lk02
open PySem PySem.Spec PyProof.Rows L2 PB
open PySem.W (Frag keepIn)
/-! ### law_parts -/
def N_law_parts : List Str := ["term_here"]
theorem sc_law_parts : FnScope N_law_parts ["term_here"] (defScope s_law_parts) := ⟨rfl, rfl, rfl, by decide +kernel, rfl, by decide +kernel, by decide +kernel⟩
def a_law_parts_0 : M Fl := (sIf (mTru (bin2 fEq (bin2 fIxA (rdV 0) (rdC (.int 0))) (rdC (.str "name")))) (sRet (mFn fLstOf (mCons (bin2 fIxA (rdV 0) (rdC (.int
    2))) mNil))) sNx)
def a_law_parts_1 : M Fl := (sIf (mTru (bin2 fInA (bin2 fIxA (rdV 0) (rdC (.int 0))) (mLst (mCons (rdC (.str "number")) (mCons (rdC (.str "skip")) (mCons (rdC
    (.str "never")) mNil)))))) (sRet (mLst mNil)) sNx)
def a_law_parts_2 : M Fl := (sIf (mTru (bin2 fEq (bin2 fIxA (rdV 0) (rdC (.int 0))) (rdC (.str "made")))) (sRet (mLst (mCons (bin2 fIxA (rdV 0) (rdC (.int 1)))
    (mCons (bin2 fIxA (rdV 0) (rdC (.int 3))) mNil)))) sNx)
def a_law_parts_3 : M Fl := (sRet (mIf (mTru (bin2 fEq (bin2 fIxA (rdV 0) (rdC (.int 0))) (rdC (.str "new")))) (mLst (mCons (bin2 fIxA (rdV 0) (rdC (.int 3)))
    mNil)) (mFn fLstOf (mCons (mSl (rdV 0) (mPart (rdC (.int 1))) mNoP) mNil))))
def m_law_parts : M Fl := (sSeq a_law_parts_0 (sSeq a_law_parts_1 (sSeq a_law_parts_2 a_law_parts_3)))
def F_law_parts : Env → FR := runF [] 1 1 m_law_parts
theorem d_law_parts {w : World} {K : Frag} {mg : Str → Option Value} {base : Heap} {l : Lc} (h : H0 w K mg base) : Callee PW w K mg base 1 "_law_parts" ["term_here"] s_law_parts (tx.gc K l) F_law_parts :=
  callee_of (k := 0) (I := []) (N := N_law_parts) (st := s_law_parts) (mb := m_law_parts) h.ok (List.mem_of_getElem? (i := 26) rfl) h.f_law_parts_fn sc_law_parts (by decide) (fun _ _ _ _ _ _ us hl => match us, hl with | [_], _ => rfl) fun f cdv A outer s H E hr => by
  exact (s_cons (s_if (t_cmp (op_eqD hr.units) o_eq bl_eq (d_ixA rfl (hu1 hr) (d_var (pv 0)) d_int (fun _ _ => rfl) (fun _ _ => rfl)) d_str (nomark _)) (s_one (s_ret
    (d_ty call_list_of n_lstOf rfl h.f_list PyProof.Rows.Boot.«list» (a_cons (d_ixA rfl (hu1 hr) (d_var (pv 0)) d_int (fun _ _ => rfl) (fun _ _ => rfl))
    a_nil)))) s_nil) (s_cons (s_if (t_inA rfl (hu1 hr) (d_ixA rfl (hu1 hr) (d_var (pv 0)) d_int (fun _ _ => rfl) (fun _ _ => rfl)) (d_lst (a_cons d_str (a_cons
    d_str (a_cons d_str a_nil)))) (by with_unfolding_all rfl)) (s_one (s_ret (d_lst a_nil))) s_nil) (s_cons (s_if (t_cmp (op_eqD hr.units) o_eq bl_eq (d_ixA rfl
    (hu1 hr) (d_var (pv 0)) d_int (fun _ _ => rfl) (fun _ _ => rfl)) d_str (nomark _)) (s_one (s_ret (d_lst (a_cons (d_ixA rfl (hu1 hr) (d_var (pv 0)) d_int
    (fun _ _ => rfl) (fun _ _ => rfl)) (a_cons (d_ixA rfl (hu1 hr) (d_var (pv 0)) d_int (fun _ _ => rfl) (fun _ _ => rfl)) a_nil))))) s_nil) (s_one (s_ret (d_if
    (t_cmp (op_eqD hr.units) o_eq bl_eq (d_ixA rfl (hu1 hr) (d_var (pv 0)) d_int (fun _ _ => rfl) (fun _ _ => rfl)) d_str (nomark _)) (d_lst (a_cons (d_ixA rfl
    (hu1 hr) (d_var (pv 0)) d_int (fun _ _ => rfl) (fun _ _ => rfl)) a_nil)) (d_ty call_list_of n_lstOf rfl h.f_list PyProof.Rows.Boot.«list» (a_cons (d_slice
    rfl (d_var (pv 0)) (o_some d_int) o_none) a_nil))))))))
end PB.Lk02
set_option maxRecDepth 100000
set_option maxHeartbeats 4000000
namespace PB.Lk02
open PySem PySem.Spec PyProof.Rows L2 PB
open PySem.W (Frag keepIn)
/-! ### law_nodes -/
def N_law_nodes : List Str := ["term_here", "part"]
theorem sc_law_nodes : FnScope N_law_nodes ["term_here"] (defScope s_law_nodes) := ⟨rfl, rfl, rfl, by decide +kernel, rfl, by decide +kernel, by decide +kernel⟩
def e_law_nodes_0 (F_law_nodes : Env → FR) : M D := (mCall F_law_nodes (aV (rdV 1) aNil))
def a_law_nodes_0 (F_law_nodes : Env → FR) : M Fl := (sRet (bin2 fAdd (rdC (.int 1)) (mFn fSum (mCons (mFrz (mLc [1] (bName 1) (mItems asAll (mCall F_law_parts
    (aV (rdV 0) aNil))) mYes (e_law_nodes_0 F_law_nodes))) mNil))))
def m_law_nodes (F_law_nodes : Env → FR) : M Fl := (a_law_nodes_0 F_law_nodes)
theorem r_law_nodes {w : World} {K : Frag} {mg : Str → Option Value} {base : Heap} {l : Lc} {F_law_nodes : Env → FR} {kk : Nat} (h : H0 w K mg base) (hk : 1 ≤ kk) (c_law_nodes : Callee PW w K mg base kk "_law_nodes" ["term_here"] s_law_nodes (tx.gc K l) F_law_nodes) (c_law_parts : Callee PW w K mg base 1 "_law_parts" ["term_here"] s_law_parts (tx.gc K l) F_law_parts) : Callee PW w K mg base (kk + 1) "_law_nodes" ["term_here"] s_law_nodes (tx.gc K l) (runF [] 1 2 (m_law_nodes F_law_nodes)) :=
  callee_of (k := kk) (I := []) (N := N_law_nodes) (st := s_law_nodes) (mb := (m_law_nodes F_law_nodes)) h.ok (List.mem_of_getElem? (i := 25) rfl) h.f_law_nodes_fn sc_law_nodes (by decide) (fun _ _ _ _ _ _ us hl => match us, hl with | [_], _ => rfl) fun f cdv A outer s H E hr => by
  exact (s_one (s_ret (d_bin op_addA o_addA d_int (d_fn (cr_sum rfl) n_sum rfl h.f_sum PyProof.Rows.Boot.«sum» (a_cons (d_frz (o_lc (own := [("part", 1)]) rfl
    sc_law_nodes.nd src_all (c_name rfl) tst_yes (pi_all (by rfl) (d_cal (takes_of rfl rfl rfl rfl) c_law_parts hr (by omega) rfl (aa_v (d_var (pv 0)) aa_nil)))
    (blkOk_by (own := [("part", 1)]) (by show blkC N_law_nodes (defScope s_law_nodes) _ _ = true; decide +kernel)) (fun _ _ _ _ _ => (pg_name sc_law_nodes.nd (i
    := 1) rfl (by first | exact Or.inl rfl | exact Or.inr rfl))) (fun _ _ _ _ _ => pts_nil) (fun _ _ _ _ _ => (d_cal tk0 c_law_nodes hr (by omega) rfl (aa_v
    (d_var (pv 1)) aa_nil))))) a_nil)))))
/-! ### the family of law_nodes -/
def fam_law_nodes : Nat → (Env → FR)
  | 0 => runF [] 1 2 mBad
  | n + 1 => runF [] 1 2 (m_law_nodes ((fam_law_nodes n)))
def G_law_nodes (n : Nat) : Env → FR := (fam_law_nodes n)
abbrev F_law_nodes : Env → FR := G_law_nodes 40
theorem g_law_nodes {w : World} {K : Frag} {mg : Str → Option Value} {base : Heap} {l : Lc} (h : H0 w K mg base) (c_law_parts : Callee PW w K mg base 1 "_law_parts" ["term_here"] s_law_parts (tx.gc K l) F_law_parts) : ∀ n : Nat, Callee PW w K mg base (2 + n) "_law_nodes" ["term_here"] s_law_nodes (tx.gc K l) (G_law_nodes n)
  | 0 => callee_of (k := 1) (I := []) (N := N_law_nodes) (st := s_law_nodes) (mb := mBad) h.ok (List.mem_of_getElem? (i := 25) rfl) h.f_law_nodes_fn sc_law_nodes (by decide) (fun _ _ _ _ _ _ us hl => match us, hl with | [_], _ => rfl) fun f cdv A outer s H E hr => ss_bad
  | n + 1 => by
    have r := g_law_nodes (l := l) h c_law_parts n
    have c_law_nodes := r
    exact r_law_nodes (kk := 2 + n) h (by omega) c_law_nodes c_law_parts
theorem d_law_nodes {w : World} {K : Frag} {mg : Str → Option Value} {base : Heap} {l : Lc} (h : H0 w K mg base) (c_law_parts : Callee PW w K mg base 1 "_law_parts" ["term_here"] s_law_parts (tx.gc K l) F_law_parts) : Callee PW w K mg base 42 "_law_nodes" ["term_here"] s_law_nodes (tx.gc K l) F_law_nodes := (g_law_nodes (l := l) h c_law_parts 40)
end PB.Lk02
set_option maxRecDepth 100000
set_option maxHeartbeats 4000000
namespace PB.Lk02
open PySem PySem.Spec PyProof.Rows L2 PB
open PySem.W (Frag keepIn)
/-! ### law_boxes -/
def N_law_boxes : List Str := ["names_here", "word"]
theorem sc_law_boxes : FnScope N_law_boxes ["names_here"] (defScope s_law_boxes) := ⟨rfl, rfl, rfl, by decide +kernel, rfl, by decide +kernel, by decide +kernel⟩
def e_law_boxes_0 : M D := (rdV 1)
def a_law_boxes_0 : M Fl := (sRet (mFn fSorted (mCons (mFrz (mLc [1] (bName 1) (mItems asAll (rdV 0)) (mTru (bin2 fEq (bin2 fIxA (rdV 0) (rdV 1)) (mTup (mCons
    (mTup mNil) (mCons (rdC (.str "box")) mNil))))) e_law_boxes_0)) mNil)))
def m_law_boxes : M Fl := a_law_boxes_0
def F_law_boxes : Env → FR := runF [] 1 2 m_law_boxes
theorem d_law_boxes {w : World} {K : Frag} {mg : Str → Option Value} {base : Heap} {l : Lc} (h : H0 w K mg base) : Callee PW w K mg base 1 "_law_boxes" ["names_here"] s_law_boxes (tx.gc K l) F_law_boxes :=
  callee_of (k := 0) (I := []) (N := N_law_boxes) (st := s_law_boxes) (mb := m_law_boxes) h.ok (List.mem_of_getElem? (i := 27) rfl) h.f_law_boxes_fn sc_law_boxes (by decide) (fun _ _ _ _ _ _ us hl => match us, hl with | [_], _ => rfl) fun f cdv A outer s H E hr => by
  exact (s_one (s_ret (d_fn (call_sorted rfl) n_sorted rfl h.f_sorted PyProof.Rows.Boot.«sorted» (a_cons (d_frz (o_lc (own := [("word", 1)]) rfl sc_law_boxes.nd src_all
    (c_name rfl) tst_one (pi_all (by rfl) (d_var (pv 0))) (blkOk_by (own := [("word", 1)])
    (by show blkC N_law_boxes (defScope s_law_boxes) _ _ = true; decide +kernel)) (fun _ _ _ _ _ => (pg_name sc_law_boxes.nd (i := 1) rfl
    (by first | exact Or.inl rfl | exact Or.inr rfl))) (fun _ _ _ _ _ => (pts_one (t_cmp (op_eqD hr.units) o_eq bl_eq (d_ixA rfl (hu1 hr) (d_var (pv 0)) (d_var
    (pv 1)) (fun _ _ => rfl) (fun _ _ => rfl)) (d_tup (a_cons (d_tup a_nil) (a_cons d_str a_nil))) (nomark _)))) (fun _ _ _ _ _ => (d_var (pv 1))))) a_nil))))
end PB.Lk02
set_option maxRecDepth 100000
set_option maxHeartbeats 4000000
namespace PB.Lk02
open PySem PySem.Spec PyProof.Rows L2 PB
open PySem.W (Frag keepIn)
/-! ### law_leaf -/
def N_law_leaf : List Str := ["draw", "size", "names_here", "sort_here", "some", "word"]
theorem sc_law_leaf : FnScope N_law_leaf ["draw", "size", "names_here", "sort_here"] (defScope s_law_leaf) := ⟨rfl, rfl, rfl, by decide +kernel, rfl, by decide +kernel, by decide +kernel⟩
def e_law_leaf_0 : M D := (rdV 5)
def a_law_leaf_0 : M Fl := (sAsgO 4 (mLc [5] (bName 5) (mItems asAll (mFn fSorted (mCons (rdV 2) mNil))) (mTru (bin2 fEq (bin2 fIxA (rdV 2) (rdV 5)) (mTup
    (mCons (mTup mNil) (mCons (rdV 3) mNil))))) e_law_leaf_0))
def a_law_leaf_1 : M Fl := (sIf (mAndB (mTru (bin2 fNe (rdV 4) (mLst mNil))) (mOrB (mTru (bin2 fEq (rdV 3) (rdC (.str "box")))) (mTru (bin2 fEq (mCall
    F_law_take (aS 0 (aV (rdC (.int 2)) aNil))) (rdC (.int 0)))))) (sRet (mTup (mCons (rdC (.str "name")) (mCons (mCall F_law_pick (aS 0 (aV (rdV 4) aNil)))
    (mCons (mTup mNil) mNil))))) sNx)
def a_law_leaf_2 : M Fl := (sIf (mTru (bin2 fEq (rdV 3) (rdC (.str "box")))) (sRet (mTup (mCons (rdC (.str "made")) (mCons (mTup (mCons (rdC (.str "number"))
    (mCons (mCall F_law_take (aS 0 (aV (rdV 1) aNil))) mNil))) (mCons (rdC (.str "w")) (mCons (mTup (mCons (rdC (.str "skip")) mNil)) mNil)))))) sNx)
def a_law_leaf_3 : M Fl := (sIf (mTru (bin2 fEq (rdV 3) (rdC (.str "do")))) (sRet (mTup (mCons (rdC (.str "skip")) mNil))) sNx)
def a_law_leaf_4 : M Fl := (sIf (mAndB (mTru (bin2 fNe (mCall F_law_boxes (aV (rdV 2) aNil)) (mLst mNil))) (mTru (bin2 fEq (mCall F_law_take (aS 0 (aV (rdC
    (.int 2)) aNil))) (rdC (.int 0))))) (sRet (mTup (mCons (rdC (.str "get")) (mCons (mTup (mCons (rdC (.str "name")) (mCons (mCall F_law_pick (aS 0 (aV (mCall
    F_law_boxes (aV (rdV 2) aNil)) aNil))) (mCons (mTup mNil) mNil)))) mNil)))) sNx)
def a_law_leaf_5 : M Fl := (sRet (mTup (mCons (rdC (.str "number")) (mCons (mCall F_law_take (aS 0 (aV (rdV 1) aNil))) mNil))))
def m_law_leaf : M Fl := (sSeq a_law_leaf_0 (sSeq a_law_leaf_1 (sSeq a_law_leaf_2 (sSeq a_law_leaf_3 (sSeq a_law_leaf_4 a_law_leaf_5)))))
def F_law_leaf : Env → FR := runF [0] 4 6 m_law_leaf
theorem d_law_leaf {w : World} {K : Frag} {mg : Str → Option Value} {base : Heap} {l : Lc} (h : H0 w K mg base) (c_law_take : Callee PW w K mg base 2 "_law_take" ["draw", "amount"] s_law_take (tx.gc K l) F_law_take) (c_law_pick : Callee PW w K mg base 3 "_law_pick" ["draw", "some"] s_law_pick (tx.gc K l) F_law_pick) (c_law_boxes : Callee PW w K mg base 1 "_law_boxes" ["names_here"] s_law_boxes (tx.gc K l) F_law_boxes) : Callee PW w K mg base 4 "_law_leaf" ["draw", "size", "names_here", "sort_here"] s_law_leaf (tx.gc K l) F_law_leaf :=
  callee_of (k := 3) (I := [0]) (N := N_law_leaf) (st := s_law_leaf) (mb := m_law_leaf) h.ok (List.mem_of_getElem? (i := 28) rfl) h.f_law_leaf_fn sc_law_leaf (by decide) (fun _ _ _ _ _ _ us hl => match us, hl with | [_, _, _, _], _ => rfl) fun f cdv A outer s H E hr => by
  exact (s_cons (s_setLc (i := 4) rfl src_all (c_name rfl) tst_one (ps_setLc rfl sc_law_leaf.nd rfl rfl (by rfl) (pi_all (by rfl) (d_fn (call_sorted (by rfl)) n_sorted
    (by rfl) h.f_sorted PyProof.Rows.Boot.«sorted» (a_cons (d_var (pv 2)) a_nil))) (blkOk_by (own := [("word", 5)])
    (by show blkC N_law_leaf (defScope s_law_leaf) _ _ = true; decide +kernel)) (fun _ _ _ _ _ => (pg_name sc_law_leaf.nd (i := 5) rfl
    (by first | exact Or.inl rfl | exact Or.inr rfl))) (fun _ _ _ _ _ => (pts_one (t_cmp (op_eqD hr.units) o_eq bl_eq (d_ixA rfl (hu1 hr) (d_var (pv 2)) (d_var
    (pv 5)) (fun _ _ => rfl) (fun _ _ => rfl)) (d_tup (a_cons (d_tup a_nil) (a_cons (d_var (pv 3)) a_nil))) (nomark _)))) (fun _ _ _ _ _ => (d_var (pv 5)))))
    (s_cons (s_if (PW.pt (t_and (t_cmp (op_neD hr.units) o_ne bl_eq (d_var (pv 4)) (d_lst a_nil) (nomark _)) (t_and1 (PW.pt (t_or (t_cmp (op_eqD hr.units) o_eq
    bl_eq (d_var (pv 3)) d_str (nomark _)) (t_or1 (t_cmp (op_eqD hr.units) o_eq bl_eq (d_cal (takes_of rfl rfl rfl rfl) c_law_take hr (by decide) rfl (aa_s (pv
    0) (aa_v d_int aa_nil))) d_int (nomark _)))))))) (s_one (s_ret (d_tup (a_cons d_str (a_cons (d_cal (takes_of rfl rfl rfl rfl) c_law_pick hr (by decide) rfl
    (aa_s (pv 0) (aa_v (d_var (pv 4)) aa_nil))) (a_cons (d_tup a_nil) a_nil)))))) s_nil) (s_cons (s_if (t_cmp (op_eqD hr.units) o_eq bl_eq (d_var (pv 3)) d_str
    (nomark _)) (s_one (s_ret (d_tup (a_cons d_str (a_cons (d_tup (a_cons d_str (a_cons (d_cal (takes_of rfl rfl rfl rfl) c_law_take hr (by decide) rfl (aa_s
    (pv 0) (aa_v (d_var (pv 1)) aa_nil))) a_nil))) (a_cons d_str (a_cons (d_tup (a_cons d_str a_nil)) a_nil))))))) s_nil) (s_cons (s_if (t_cmp (op_eqD hr.units)
    o_eq bl_eq (d_var (pv 3)) d_str (nomark _)) (s_one (s_ret (d_tup (a_cons d_str a_nil)))) s_nil) (s_cons (s_if (PW.pt (t_and (t_cmp (op_neD hr.units) o_ne
    bl_eq (d_cal (takes_of rfl rfl rfl rfl) c_law_boxes hr (by decide) rfl (aa_v (d_var (pv 2)) aa_nil)) (d_lst a_nil) (nomark _)) (t_and1 (t_cmp (op_eqD
    hr.units) o_eq bl_eq (d_cal (takes_of rfl rfl rfl rfl) c_law_take hr (by decide) rfl (aa_s (pv 0) (aa_v d_int aa_nil))) d_int (nomark _))))) (s_one (s_ret
    (d_tup (a_cons d_str (a_cons (d_tup (a_cons d_str (a_cons (d_cal (takes_of rfl rfl rfl rfl) c_law_pick hr (by decide) rfl (aa_s (pv 0) (aa_v (d_cal
    (takes_of rfl rfl rfl rfl) c_law_boxes hr (by decide) rfl (aa_v (d_var (pv 2)) aa_nil)) aa_nil))) (a_cons (d_tup a_nil) a_nil)))) a_nil))))) s_nil) (s_one
    (s_ret (d_tup (a_cons d_str (a_cons (d_cal (takes_of rfl rfl rfl rfl) c_law_take hr (by decide) rfl (aa_s (pv 0) (aa_v (d_var (pv 1)) aa_nil)))
    a_nil))))))))))
end PB.Lk02
set_option maxRecDepth 100000
set_option maxHeartbeats 4000000
namespace PB.Lk02
open PySem PySem.Spec PyProof.Rows L2 PB
open PySem.W (Frag keepIn)
/-! ### law_call -/
def N_law_call : List Str := ["draw", "size", "names_here", "sort_here", "deep", "some", "word", "part"]
theorem sc_law_call : FnScope N_law_call ["draw", "size", "names_here", "sort_here", "deep"] (defScope s_law_call) := ⟨rfl, rfl, rfl, by decide +kernel, rfl, by decide +kernel, by decide +kernel⟩
def e_law_call_0 (F_law_call F_law_term : Env → FR) : M D := (rdV 6)
def e_law_call_1 (F_law_call F_law_term : Env → FR) : M D := (mCall F_law_term (aS 0 (aV (rdV 1) (aV (rdV 2) (aV (rdV 7) (aV (bin2 fSub (rdV 4) (rdC (.int 1)))
    aNil))))))
def a_law_call_0 (F_law_call F_law_term : Env → FR) : M Fl := (sAsgO 5 (mLc [6] (bName 6) (mItems asAll (mFn fSorted (mCons (rdV 2) mNil))) (mAndB (mTru (bin2
    fNe (bin2 fIxA (bin2 fIxA (rdV 2) (rdV 6)) (rdC (.int 0))) (mTup mNil))) (mTru (bin2 fEq (bin2 fIxA (bin2 fIxA (rdV 2) (rdV 6)) (rdC (.int 1))) (rdV 3))))
    (e_law_call_0 F_law_call F_law_term)))
def a_law_call_1 (F_law_call F_law_term : Env → FR) : M Fl := (sIf (mTru (bin2 fEq (rdV 5) (mLst mNil))) (sRet (rdC .non)) sNx)
def a_law_call_2 (F_law_call F_law_term : Env → FR) : M Fl := (sAsg (bName 6) (mCall F_law_pick (aS 0 (aV (rdV 5) aNil))))
def a_law_call_3 (F_law_call F_law_term : Env → FR) : M Fl := (sRet (mTup (mCons (rdC (.str "name")) (mCons (rdV 6) (mCons (mFn fTupOf (mCons (mFrz (mLc [7]
    (bName 7) (mItems asAll (bin2 fIxA (bin2 fIxA (rdV 2) (rdV 6)) (rdC (.int 0)))) mYes (e_law_call_1 F_law_call F_law_term))) mNil)) mNil)))))
def m_law_call (F_law_call F_law_term : Env → FR) : M Fl := (sSeq (a_law_call_0 F_law_call F_law_term) (sSeq (a_law_call_1 F_law_call F_law_term) (sSeq
    (a_law_call_2 F_law_call F_law_term) (a_law_call_3 F_law_call F_law_term))))
theorem r_law_call {w : World} {K : Frag} {mg : Str → Option Value} {base : Heap} {l : Lc} {F_law_call F_law_term : Env → FR} {kk : Nat} (h : H0 w K mg base) (hk : 4 ≤ kk) (c_law_pick : Callee PW w K mg base 3 "_law_pick" ["draw", "some"] s_law_pick (tx.gc K l) F_law_pick) (c_law_term : Callee PW w K mg base kk "_law_term" ["draw", "size", "names_here", "sort_here", "deep"] s_law_term (tx.gc K l) F_law_term) : Callee PW w K mg base (kk + 1) "_law_call" ["draw", "size", "names_here", "sort_here", "deep"] s_law_call (tx.gc K l) (runF [0] 5 8 (m_law_call F_law_call F_law_term)) :=
  callee_of (k := kk) (I := [0]) (N := N_law_call) (st := s_law_call) (mb := (m_law_call F_law_call F_law_term)) h.ok (List.mem_of_getElem? (i := 29) rfl) h.f_law_call_fn sc_law_call (by decide) (fun _ _ _ _ _ _ us hl => match us, hl with | [_, _, _, _, _], _ => rfl) fun f cdv A outer s H E hr => by
  exact (s_cons (s_setLc (i := 5) rfl src_all (c_name rfl) tst_one (ps_setLc rfl sc_law_call.nd rfl rfl (by rfl) (pi_all (by rfl) (d_fn (call_sorted (by rfl)) n_sorted
    (by rfl) h.f_sorted PyProof.Rows.Boot.«sorted» (a_cons (d_var (pv 2)) a_nil))) (blkOk_by (own := [("word", 6)])
    (by show blkC N_law_call (defScope s_law_call) _ _ = true; decide +kernel)) (fun _ _ _ _ _ => (pg_name sc_law_call.nd (i := 6) rfl
    (by first | exact Or.inl rfl | exact Or.inr rfl))) (fun _ _ _ _ _ => (pts_one (PW.pt (t_and (t_cmp (op_neD hr.units) o_ne bl_eq (d_ixA rfl (hu1 hr) (d_ixA
    rfl (hu1 hr) (d_var (pv 2)) (d_var (pv 6)) (fun _ _ => rfl) (fun _ _ => rfl)) d_int (fun _ _ => rfl) (fun _ _ => rfl)) (d_tup a_nil) (nomark _)) (t_and1
    (t_cmp (op_eqD hr.units) o_eq bl_eq (d_ixA rfl (hu1 hr) (d_ixA rfl (hu1 hr) (d_var (pv 2)) (d_var (pv 6)) (fun _ _ => rfl) (fun _ _ => rfl)) d_int (fun _ _
    => rfl) (fun _ _ => rfl)) (d_var (pv 3)) (nomark _))))))) (fun _ _ _ _ _ => (d_var (pv 6))))) (s_cons (s_if (t_cmp (op_eqD hr.units) o_eq bl_eq (d_var (pv
    5)) (d_lst a_nil) (nomark _)) (s_one (s_ret d_non)) s_nil) (s_cons (s_asg (g_name (i := 6) rfl) (ps_set sc_law_call.nd rfl
    (by first | exact Or.inl rfl | exact Or.inr rfl) (d_cal (takes_of rfl rfl rfl rfl) c_law_pick hr (by omega) rfl (aa_s (pv 0) (aa_v (d_var (pv 5))
    aa_nil))))) (s_one (s_ret (d_tup (a_cons d_str (a_cons (d_var (pv 6)) (a_cons (d_ty call_tuple_of n_tupOf rfl h.f_tuple PyProof.Rows.Boot.«tuple» (a_cons
    (d_frz (o_lc (own := [("part", 7)]) rfl sc_law_call.nd src_all (c_name rfl) tst_yes (pi_all (by rfl) (d_ixA rfl (hu1 hr) (d_ixA rfl (hu1 hr) (d_var (pv 2))
    (d_var (pv 6)) (fun _ _ => rfl) (fun _ _ => rfl)) d_int (fun _ _ => rfl) (fun _ _ => rfl))) (blkOk_by (own := [("part", 7)])
    (by show blkC N_law_call (defScope s_law_call) _ _ = true; decide +kernel)) (fun _ _ _ _ _ => (pg_name sc_law_call.nd (i := 7) rfl
    (by first | exact Or.inl rfl | exact Or.inr rfl))) (fun _ _ _ _ _ => pts_nil) (fun _ _ _ _ _ => (d_cal tk0 c_law_term hr (by omega) rfl (aa_s (pv 0) (aa_v
    (d_var (pv 1)) (aa_v (d_var (pv 2)) (aa_v (d_var (pv 7)) (aa_v (d_bin op_sub o_subA (d_var (pv 4)) d_int) aa_nil))))))))) a_nil)) a_nil)))))))))
end PB.Lk02
set_option maxRecDepth 100000
set_option maxHeartbeats 4000000
namespace PB.Lk02
open PySem PySem.Spec PyProof.Rows L2 PB
open PySem.W (Frag keepIn)
/-! ### law_term -/
def N_law_term : List Str := ["draw", "size", "names_here", "sort_here", "deep", "way", "word", "inner", "made_here", "test_here", "arms", "k"]
theorem sc_law_term : FnScope N_law_term ["draw", "size", "names_here", "sort_here", "deep"] (defScope s_law_term) := ⟨rfl, rfl, rfl, by decide +kernel, rfl, by decide +kernel, by decide +kernel⟩
def e_law_term_0 (F_law_call F_law_term : Env → FR) : M D := (mCall F_law_term (aS 0 (aV (rdV 1) (aV (rdV 2) (aV (rdV 3) (aV (bin2 fSub (rdV 4) (rdC (.int 1)))
    aNil))))))
def e_law_term_1 (F_law_call F_law_term : Env → FR) : M D := (mCall F_law_term (aS 0 (aV (rdV 1) (aV (rdV 2) (aV (rdV 3) (aV (bin2 fSub (rdV 4) (rdC (.int 1)))
    aNil))))))
def a_law_term_0 (F_law_call F_law_term : Env → FR) : M Fl := (sAsg (bName 5) (mCall F_law_take (aS 0 (aV (rdC (.int 14)) aNil))))
def a_law_term_1 (F_law_call F_law_term : Env → FR) : M Fl := (sIf (mOrB (mTru (bin2 fEq (rdV 4) (rdC (.int 0)))) (mOrB (mTru (bin2 fLt (rdV 5) (rdC (.int 2))))
    (mAndB (mTru (bin2 fEq (rdV 3) (rdC (.str "box")))) (mTru (bin2 fLt (rdV 5) (rdC (.int 10))))))) (sRet (mCall F_law_leaf (aS 0 (aV (rdV 1) (aV (rdV 2) (aV
    (rdV 3) aNil)))))) sNx)
def a_law_term_2 (F_law_call F_law_term : Env → FR) : M Fl := (sIf (mTru (bin2 fEq (rdV 3) (rdC (.str "box")))) (sSeq (sAsg (bName 6) (mCall F_law_pick (aS 0
    (aV (mLst (mCons (rdC (.str "w")) (mCons (rdC (.str "x")) mNil))) aNil)))) (sSeq (sAsg (bName 7) (mFn fDict (mCons (bin2 fAdd (fun ρ => (mItems asDi (rdV 2)
    ρ).bind fun xs ρ => .ok (.lst xs) ρ) (mLst (mCons (mTup (mCons (rdV 6) (mCons (mTup (mCons (mTup mNil) (mCons (rdC (.str "num")) mNil))) mNil))) mNil)))
    mNil))) (sRet (mTup (mCons (rdC (.str "made")) (mCons (mCall F_law_term (aS 0 (aV (rdV 1) (aV (rdV 2) (aV (rdC (.str "num")) (aV (bin2 fSub (rdV 4) (rdC
    (.int 1))) aNil)))))) (mCons (rdV 6) (mCons (mCall F_law_term (aS 0 (aV (rdV 1) (aV (rdV 7) (aV (rdC (.str "do")) (aV (bin2 fSub (rdV 4) (rdC (.int 1)))
    aNil)))))) mNil)))))))) sNx)
def a_law_term_3 (F_law_call F_law_term : Env → FR) : M Fl := (sAsg (bName 8) (mIf (mTru (bin2 fLt (rdV 5) (rdC (.int 6)))) (mCall F_law_call (aS 0 (aV (rdV 1)
    (aV (rdV 2) (aV (rdV 3) (aV (rdV 4) aNil)))))) (rdC .non)))
def a_law_term_4 (F_law_call F_law_term : Env → FR) : M Fl := (sIf (mTru (bin2 (fIsN not) (rdV 8) (rdC .non))) (sRet (rdV 8)) sNx)
def a_law_term_5 (F_law_call F_law_term : Env → FR) : M Fl := (sIf (mTru (bin2 fEq (rdV 5) (rdC (.int 6)))) (sSeq (sPar 9 10 (mCons (mCall F_law_term (aS 0 (aV
    (rdV 1) (aV (rdV 2) (aV (rdC (.str "num")) (aV (bin2 fSub (rdV 4) (rdC (.int 1))) aNil)))))) (mCons (mFrz (mLc [11] (bName 11) (mItemsL asR1 (mCons (rdC
    (.int 2)) mNil)) mYes (e_law_term_1 F_law_call F_law_term))) mNil))) (sRet (mTup (mCons (rdC (.str "if")) (mCons (rdV 9) (mCons (bin2 fIxA (rdV 10) (rdC
    (.int 0))) (mCons (bin2 fIxA (rdV 10) (rdC (.int 1))) mNil))))))) sNx)
def a_law_term_6 (F_law_call F_law_term : Env → FR) : M Fl := (sIf (mTru (bin2 fLt (rdV 5) (rdC (.int 9)))) (sRet (mTup (mCons (rdC (.str "then")) (mCons (mCall
    F_law_term (aS 0 (aV (rdV 1) (aV (rdV 2) (aV (rdC (.str "do")) (aV (bin2 fSub (rdV 4) (rdC (.int 1))) aNil)))))) (mCons (mCall F_law_term (aS 0 (aV (rdV 1)
    (aV (rdV 2) (aV (rdV 3) (aV (bin2 fSub (rdV 4) (rdC (.int 1))) aNil)))))) mNil))))) sNx)
def a_law_term_7 (F_law_call F_law_term : Env → FR) : M Fl := (sIf (mTru (bin2 fEq (rdV 5) (rdC (.int 9)))) (sSeq (sAsg (bName 6) (mCall F_law_pick (aS 0 (aV
    (mLst (mCons (rdC (.str "c")) (mCons (rdC (.str "d")) (mCons (rdC (.str "v")) mNil)))) aNil)))) (sSeq (sAsg (bName 7) (mFn fDict (mCons (bin2 fAdd (fun ρ =>
    (mItems asDi (rdV 2) ρ).bind fun xs ρ => .ok (.lst xs) ρ) (mLst (mCons (mTup (mCons (rdV 6) (mCons (mTup (mCons (mTup mNil) (mCons (rdC (.str "box"))
    mNil))) mNil))) mNil))) mNil))) (sRet (mTup (mCons (rdC (.str "new")) (mCons (rdV 6) (mCons (mCall F_law_take (aS 0 (aV (rdV 1) aNil))) (mCons (mCall
    F_law_term (aS 0 (aV (rdV 1) (aV (rdV 7) (aV (rdV 3) (aV (bin2 fSub (rdV 4) (rdC (.int 1))) aNil)))))) mNil)))))))) sNx)
def a_law_term_8 (F_law_call F_law_term : Env → FR) : M Fl := (sIf (mTru (bin2 fEq (rdV 3) (rdC (.str "num")))) (sSeq (sIf (mTru (bin2 fEq (rdV 5) (rdC (.int
    10)))) (sRet (mTup (mCons (rdC (.str "not")) (mCons (mCall F_law_term (aS 0 (aV (rdV 1) (aV (rdV 2) (aV (rdC (.str "num")) (aV (bin2 fSub (rdV 4) (rdC (.int
    1))) aNil)))))) mNil)))) sNx) (sSeq (sIf (mAndB (mTru (bin2 fEq (rdV 5) (rdC (.int 11)))) (mTru (bin2 fEq (mCall F_law_take (aS 0 (aV (rdC (.int 2)) aNil)))
    (rdC (.int 0))))) (sRet (mTup (mCons (rdC (.str "get")) (mCons (mCall F_law_term (aS 0 (aV (rdV 1) (aV (rdV 2) (aV (rdC (.str "box")) (aV (bin2 fSub (rdV 4)
    (rdC (.int 1))) aNil)))))) mNil)))) sNx) (sRet (mTup (mCons (mCall F_law_pick (aS 0 (aV (mLst (mCons (rdC (.str "sum")) (mCons (rdC (.str "less")) (mCons
    (rdC (.str "same")) (mCons (rdC (.str "below")) mNil))))) aNil))) (mCons (mCall F_law_term (aS 0 (aV (rdV 1) (aV (rdV 2) (aV (rdC (.str "num")) (aV (bin2
    fSub (rdV 4) (rdC (.int 1))) aNil)))))) (mCons (mCall F_law_term (aS 0 (aV (rdV 1) (aV (rdV 2) (aV (rdC (.str "num")) (aV (bin2 fSub (rdV 4) (rdC (.int 1)))
    aNil)))))) mNil))))))) sNx)
def a_law_term_9 (F_law_call F_law_term : Env → FR) : M Fl := (sIf (mTru (bin2 fEq (rdV 5) (rdC (.int 10)))) (sRet (mTup (mCons (rdC (.str "while")) (mCons
    (mCall F_law_term (aS 0 (aV (rdV 1) (aV (rdV 2) (aV (rdC (.str "num")) (aV (bin2 fSub (rdV 4) (rdC (.int 1))) aNil)))))) (mCons (mCall F_law_term (aS 0 (aV
    (rdV 1) (aV (rdV 2) (aV (rdC (.str "do")) (aV (bin2 fSub (rdV 4) (rdC (.int 1))) aNil)))))) mNil))))) sNx)
def a_law_term_10 (F_law_call F_law_term : Env → FR) : M Fl := (sIf (mTru (bin2 fEq (rdV 5) (rdC (.int 11)))) (sRet (mIf (mTru (bin2 fEq (mCall F_law_take (aS 0
    (aV (rdC (.int 2)) aNil))) (rdC (.int 0)))) (mTup (mCons (rdC (.str "claim")) (mCons (mCall F_law_term (aS 0 (aV (rdV 1) (aV (rdV 2) (aV (rdC (.str "num"))
    (aV (bin2 fSub (rdV 4) (rdC (.int 1))) aNil)))))) mNil))) (mTup (mCons (rdC (.str "never")) (mCons (rdC (.str "do")) mNil))))) sNx)
def a_law_term_11 (F_law_call F_law_term : Env → FR) : M Fl := (sRet (mTup (mCons (rdC (.str "set")) (mCons (mCall F_law_term (aS 0 (aV (rdV 1) (aV (rdV 2) (aV
    (rdC (.str "box")) (aV (bin2 fSub (rdV 4) (rdC (.int 1))) aNil)))))) (mCons (mCall F_law_term (aS 0 (aV (rdV 1) (aV (rdV 2) (aV (rdC (.str "num")) (aV (bin2
    fSub (rdV 4) (rdC (.int 1))) aNil)))))) mNil)))))
def m_law_term (F_law_call F_law_term : Env → FR) : M Fl := (sSeq (a_law_term_0 F_law_call F_law_term) (sSeq (a_law_term_1 F_law_call F_law_term) (sSeq
    (a_law_term_2 F_law_call F_law_term) (sSeq (a_law_term_3 F_law_call F_law_term) (sSeq (a_law_term_4 F_law_call F_law_term) (sSeq (a_law_term_5 F_law_call
    F_law_term) (sSeq (a_law_term_6 F_law_call F_law_term) (sSeq (a_law_term_7 F_law_call F_law_term) (sSeq (a_law_term_8 F_law_call F_law_term) (sSeq
    (a_law_term_9 F_law_call F_law_term) (sSeq (a_law_term_10 F_law_call F_law_term) (a_law_term_11 F_law_call F_law_term))))))))))))
theorem r_law_term {w : World} {K : Frag} {mg : Str → Option Value} {base : Heap} {l : Lc} {F_law_call F_law_term : Env → FR} {kk : Nat} (h : H0 w K mg base) (hk : 4 ≤ kk) (c_law_take : Callee PW w K mg base 2 "_law_take" ["draw", "amount"] s_law_take (tx.gc K l) F_law_take) (c_law_pick : Callee PW w K mg base 3 "_law_pick" ["draw", "some"] s_law_pick (tx.gc K l) F_law_pick) (c_law_leaf : Callee PW w K mg base 4 "_law_leaf" ["draw", "size", "names_here", "sort_here"] s_law_leaf (tx.gc K l) F_law_leaf) (c_law_call : Callee PW w K mg base kk "_law_call" ["draw", "size", "names_here", "sort_here", "deep"] s_law_call (tx.gc K l) F_law_call) (c_law_term : Callee PW w K mg base kk "_law_term" ["draw", "size", "names_here", "sort_here", "deep"] s_law_term (tx.gc K l) F_law_term) : Callee PW w K mg base (kk + 1) "_law_term" ["draw", "size", "names_here", "sort_here", "deep"] s_law_term (tx.gc K l) (runF [0] 5 12 (m_law_term F_law_call F_law_term)) :=
  callee_of (k := kk) (I := [0]) (N := N_law_term) (st := s_law_term) (mb := (m_law_term F_law_call F_law_term)) h.ok (List.mem_of_getElem? (i := 30) rfl) h.f_law_term_fn sc_law_term (by decide) (fun _ _ _ _ _ _ us hl => match us, hl with | [_, _, _, _, _], _ => rfl) fun f cdv A outer s H E hr => by
  exact (s_cons (s_asg (g_name (i := 5) rfl) (ps_set sc_law_term.nd rfl (by first | exact Or.inl rfl | exact Or.inr rfl) (d_cal (takes_of rfl rfl rfl rfl) c_law_take hr
    (by omega) rfl (aa_s (pv 0) (aa_v d_int aa_nil))))) (s_cons (s_if (PW.pt (t_or (t_cmp (op_eqD hr.units) o_eq bl_eq (d_var (pv 4)) d_int (nomark _)) (t_or
    (t_cmp op_lt o_ltA bl_IB (d_var (pv 5)) d_int (nomark _)) (t_or1 (PW.pt (t_and (t_cmp (op_eqD hr.units) o_eq bl_eq (d_var (pv 3)) d_str (nomark _)) (t_and1
    (t_cmp op_lt o_ltA bl_IB (d_var (pv 5)) d_int (nomark _))))))))) (s_one (s_ret (d_cal (takes_of rfl rfl rfl rfl) c_law_leaf hr (by omega) rfl (aa_s (pv 0)
    (aa_v (d_var (pv 1)) (aa_v (d_var (pv 2)) (aa_v (d_var (pv 3)) aa_nil))))))) s_nil) (s_cons (s_if (t_cmp (op_eqD hr.units) o_eq bl_eq (d_var (pv 3)) d_str
    (nomark _)) (s_cons (s_asg (g_name (i := 6) rfl) (ps_set sc_law_term.nd rfl (by first | exact Or.inl rfl | exact Or.inr rfl) (d_cal (takes_of rfl rfl rfl
    rfl) c_law_pick hr (by omega) rfl (aa_s (pv 0) (aa_v (d_lst (a_cons d_str (a_cons d_str a_nil))) aa_nil))))) (s_cons (s_asg (g_name (i := 7) rfl) (ps_set
    sc_law_term.nd rfl (by first | exact Or.inl rfl | exact Or.inr rfl) (d_ty (call_dictP rfl) n_dict rfl h.f_dict PyProof.Rows.Boot.«dict» (a_cons (d_bin
    op_addA o_addA (d_lstI rfl (d_var (pv 2)) rfl h.f_list PyProof.Rows.boot_list) (d_lst (a_cons (d_tup (a_cons (d_var (pv 6)) (a_cons (d_tup (a_cons (d_tup
    a_nil) (a_cons d_str a_nil))) a_nil))) a_nil))) a_nil)))) (s_one (s_ret (d_tup (a_cons d_str (a_cons (d_cal (takes_of rfl rfl rfl rfl) c_law_term hr
    (by omega) rfl (aa_s (pv 0) (aa_v (d_var (pv 1)) (aa_v (d_var (pv 2)) (aa_v d_str (aa_v (d_bin op_sub o_subA (d_var (pv 4)) d_int) aa_nil)))))) (a_cons
    (d_var (pv 6)) (a_cons (d_cal (takes_of rfl rfl rfl rfl) c_law_term hr (by omega) rfl (aa_s (pv 0) (aa_v (d_var (pv 1)) (aa_v (d_var (pv 7)) (aa_v d_str
    (aa_v (d_bin op_sub o_subA (d_var (pv 4)) d_int) aa_nil)))))) a_nil))))))))) s_nil) (s_cons (s_asg (g_name (i := 8) rfl) (ps_set sc_law_term.nd rfl
    (by first | exact Or.inl rfl | exact Or.inr rfl) (d_if (t_cmp op_lt o_ltA bl_IB (d_var (pv 5)) d_int (nomark _)) (d_cal (takes_of rfl rfl rfl rfl)
    c_law_call hr (by omega) rfl (aa_s (pv 0) (aa_v (d_var (pv 1)) (aa_v (d_var (pv 2)) (aa_v (d_var (pv 3)) (aa_v (d_var (pv 4)) aa_nil)))))) d_non))) (s_cons
    (s_if (t_cmp op_notN o_notN bl_isN (d_var (pv 8)) d_non (nomark _)) (s_one (s_ret (d_var (pv 8)))) s_nil) (s_cons (s_if (t_cmp (op_eqD hr.units) o_eq bl_eq
    (d_var (pv 5)) d_int (nomark _)) (s_cons (s_par rfl rfl (ps_par rfl sc_law_term.nd (i := 9) (j := 10) rfl rfl (by decide) rfl rfl (a_cons (d_cal (takes_of
    rfl rfl rfl rfl) c_law_term hr (by omega) rfl (aa_s (pv 0) (aa_v (d_var (pv 1)) (aa_v (d_var (pv 2)) (aa_v d_str (aa_v (d_bin op_sub o_subA (d_var (pv 4))
    d_int) aa_nil)))))) (a_cons (d_frz (o_lc (own := [("k", 11)]) rfl sc_law_term.nd src_range1 (c_name rfl) tst_yes (pi_range1 (by rfl) h.f_range (a_cons d_int
    a_nil)) (blkOk_by (own := [("k", 11)]) (by show blkC N_law_term (defScope s_law_term) _ _ = true; decide +kernel)) (fun _ _ _ _ _ => (pg_name sc_law_term.nd
    (i := 11) rfl (by first | exact Or.inl rfl | exact Or.inr rfl))) (fun _ _ _ _ _ => pts_nil) (fun _ _ _ _ _ => (d_cal tk0 c_law_term hr (by omega) rfl (aa_s
    (pv 0) (aa_v (d_var (pv 1)) (aa_v (d_var (pv 2)) (aa_v (d_var (pv 3)) (aa_v (d_bin op_sub o_subA (d_var (pv 4)) d_int) aa_nil))))))))) a_nil)) (by rfl)))
    (s_one (s_ret (d_tup (a_cons d_str (a_cons (d_var (pv 9)) (a_cons (d_ixA rfl (hu1 hr) (d_var (pv 10)) d_int (fun _ _ => rfl) (fun _ _ => rfl)) (a_cons
    (d_ixA rfl (hu1 hr) (d_var (pv 10)) d_int (fun _ _ => rfl) (fun _ _ => rfl)) a_nil)))))))) s_nil) (s_cons (s_if (t_cmp op_lt o_ltA bl_IB (d_var (pv 5))
    d_int (nomark _)) (s_one (s_ret (d_tup (a_cons d_str (a_cons (d_cal (takes_of rfl rfl rfl rfl) c_law_term hr (by omega) rfl (aa_s (pv 0) (aa_v (d_var (pv
    1)) (aa_v (d_var (pv 2)) (aa_v d_str (aa_v (d_bin op_sub o_subA (d_var (pv 4)) d_int) aa_nil)))))) (a_cons (d_cal (takes_of rfl rfl rfl rfl) c_law_term hr
    (by omega) rfl (aa_s (pv 0) (aa_v (d_var (pv 1)) (aa_v (d_var (pv 2)) (aa_v (d_var (pv 3)) (aa_v (d_bin op_sub o_subA (d_var (pv 4)) d_int) aa_nil))))))
    a_nil)))))) s_nil) (s_cons (s_if (t_cmp (op_eqD hr.units) o_eq bl_eq (d_var (pv 5)) d_int (nomark _)) (s_cons (s_asg (g_name (i := 6) rfl) (ps_set
    sc_law_term.nd rfl (by first | exact Or.inl rfl | exact Or.inr rfl) (d_cal (takes_of rfl rfl rfl rfl) c_law_pick hr (by omega) rfl (aa_s (pv 0) (aa_v (d_lst
    (a_cons d_str (a_cons d_str (a_cons d_str a_nil)))) aa_nil))))) (s_cons (s_asg (g_name (i := 7) rfl) (ps_set sc_law_term.nd rfl
    (by first | exact Or.inl rfl | exact Or.inr rfl) (d_ty (call_dictP rfl) n_dict rfl h.f_dict PyProof.Rows.Boot.«dict» (a_cons (d_bin op_addA o_addA (d_lstI
    rfl (d_var (pv 2)) rfl h.f_list PyProof.Rows.boot_list) (d_lst (a_cons (d_tup (a_cons (d_var (pv 6)) (a_cons (d_tup (a_cons (d_tup a_nil) (a_cons d_str
    a_nil))) a_nil))) a_nil))) a_nil)))) (s_one (s_ret (d_tup (a_cons d_str (a_cons (d_var (pv 6)) (a_cons (d_cal (takes_of rfl rfl rfl rfl) c_law_take hr
    (by omega) rfl (aa_s (pv 0) (aa_v (d_var (pv 1)) aa_nil))) (a_cons (d_cal (takes_of rfl rfl rfl rfl) c_law_term hr (by omega) rfl (aa_s (pv 0) (aa_v (d_var
    (pv 1)) (aa_v (d_var (pv 7)) (aa_v (d_var (pv 3)) (aa_v (d_bin op_sub o_subA (d_var (pv 4)) d_int) aa_nil)))))) a_nil))))))))) s_nil) (s_cons (s_if (t_cmp
    (op_eqD hr.units) o_eq bl_eq (d_var (pv 3)) d_str (nomark _)) (s_cons (s_if (t_cmp (op_eqD hr.units) o_eq bl_eq (d_var (pv 5)) d_int (nomark _)) (s_one
    (s_ret (d_tup (a_cons d_str (a_cons (d_cal (takes_of rfl rfl rfl rfl) c_law_term hr (by omega) rfl (aa_s (pv 0) (aa_v (d_var (pv 1)) (aa_v (d_var (pv 2))
    (aa_v d_str (aa_v (d_bin op_sub o_subA (d_var (pv 4)) d_int) aa_nil)))))) a_nil))))) s_nil) (s_cons (s_if (PW.pt (t_and (t_cmp (op_eqD hr.units) o_eq bl_eq
    (d_var (pv 5)) d_int (nomark _)) (t_and1 (t_cmp (op_eqD hr.units) o_eq bl_eq (d_cal (takes_of rfl rfl rfl rfl) c_law_take hr (by omega) rfl (aa_s (pv 0)
    (aa_v d_int aa_nil))) d_int (nomark _))))) (s_one (s_ret (d_tup (a_cons d_str (a_cons (d_cal (takes_of rfl rfl rfl rfl) c_law_term hr (by omega) rfl (aa_s
    (pv 0) (aa_v (d_var (pv 1)) (aa_v (d_var (pv 2)) (aa_v d_str (aa_v (d_bin op_sub o_subA (d_var (pv 4)) d_int) aa_nil)))))) a_nil))))) s_nil) (s_one (s_ret
    (d_tup (a_cons (d_cal (takes_of rfl rfl rfl rfl) c_law_pick hr (by omega) rfl (aa_s (pv 0) (aa_v (d_lst (a_cons d_str (a_cons d_str (a_cons d_str (a_cons
    d_str a_nil))))) aa_nil))) (a_cons (d_cal (takes_of rfl rfl rfl rfl) c_law_term hr (by omega) rfl (aa_s (pv 0) (aa_v (d_var (pv 1)) (aa_v (d_var (pv 2))
    (aa_v d_str (aa_v (d_bin op_sub o_subA (d_var (pv 4)) d_int) aa_nil)))))) (a_cons (d_cal (takes_of rfl rfl rfl rfl) c_law_term hr (by omega) rfl (aa_s (pv
    0) (aa_v (d_var (pv 1)) (aa_v (d_var (pv 2)) (aa_v d_str (aa_v (d_bin op_sub o_subA (d_var (pv 4)) d_int) aa_nil)))))) a_nil)))))))) s_nil) (s_cons (s_if
    (t_cmp (op_eqD hr.units) o_eq bl_eq (d_var (pv 5)) d_int (nomark _)) (s_one (s_ret (d_tup (a_cons d_str (a_cons (d_cal (takes_of rfl rfl rfl rfl) c_law_term
    hr (by omega) rfl (aa_s (pv 0) (aa_v (d_var (pv 1)) (aa_v (d_var (pv 2)) (aa_v d_str (aa_v (d_bin op_sub o_subA (d_var (pv 4)) d_int) aa_nil)))))) (a_cons
    (d_cal (takes_of rfl rfl rfl rfl) c_law_term hr (by omega) rfl (aa_s (pv 0) (aa_v (d_var (pv 1)) (aa_v (d_var (pv 2)) (aa_v d_str (aa_v (d_bin op_sub o_subA
    (d_var (pv 4)) d_int) aa_nil)))))) a_nil)))))) s_nil) (s_cons (s_if (t_cmp (op_eqD hr.units) o_eq bl_eq (d_var (pv 5)) d_int (nomark _)) (s_one (s_ret (d_if
    (t_cmp (op_eqD hr.units) o_eq bl_eq (d_cal (takes_of rfl rfl rfl rfl) c_law_take hr (by omega) rfl (aa_s (pv 0) (aa_v d_int aa_nil))) d_int (nomark _))
    (d_tup (a_cons d_str (a_cons (d_cal (takes_of rfl rfl rfl rfl) c_law_term hr (by omega) rfl (aa_s (pv 0) (aa_v (d_var (pv 1)) (aa_v (d_var (pv 2)) (aa_v
    d_str (aa_v (d_bin op_sub o_subA (d_var (pv 4)) d_int) aa_nil)))))) a_nil))) (d_tup (a_cons d_str (a_cons d_str a_nil)))))) s_nil) (s_one (s_ret (d_tup
    (a_cons d_str (a_cons (d_cal (takes_of rfl rfl rfl rfl) c_law_term hr (by omega) rfl (aa_s (pv 0) (aa_v (d_var (pv 1)) (aa_v (d_var (pv 2)) (aa_v d_str
    (aa_v (d_bin op_sub o_subA (d_var (pv 4)) d_int) aa_nil)))))) (a_cons (d_cal (takes_of rfl rfl rfl rfl) c_law_term hr (by omega) rfl (aa_s (pv 0) (aa_v
    (d_var (pv 1)) (aa_v (d_var (pv 2)) (aa_v d_str (aa_v (d_bin op_sub o_subA (d_var (pv 4)) d_int) aa_nil)))))) a_nil)))))))))))))))))
/-! ### the family of law_call, law_term -/
def fam_law_call : Nat → (Env → FR) × (Env → FR)
  | 0 => (runF [0] 5 8 mBad, runF [0] 5 12 mBad)
  | n + 1 => (runF [0] 5 8 (m_law_call ((fam_law_call n).1) ((fam_law_call n).2)), runF [0] 5 12 (m_law_term ((fam_law_call n).1) ((fam_law_call n).2)))
def G_law_call (n : Nat) : Env → FR := (fam_law_call n).1
abbrev F_law_call : Env → FR := G_law_call 40
def G_law_term (n : Nat) : Env → FR := (fam_law_call n).2
abbrev F_law_term : Env → FR := G_law_term 40
theorem g_law_call {w : World} {K : Frag} {mg : Str → Option Value} {base : Heap} {l : Lc} (h : H0 w K mg base) (c_law_pick : Callee PW w K mg base 3 "_law_pick" ["draw", "some"] s_law_pick (tx.gc K l) F_law_pick) (c_law_take : Callee PW w K mg base 2 "_law_take" ["draw", "amount"] s_law_take (tx.gc K l) F_law_take) (c_law_leaf : Callee PW w K mg base 4 "_law_leaf" ["draw", "size", "names_here", "sort_here"] s_law_leaf (tx.gc K l) F_law_leaf) : ∀ n : Nat, Callee PW w K mg base (5 + n) "_law_call" ["draw", "size", "names_here", "sort_here", "deep"] s_law_call (tx.gc K l) (G_law_call n) ∧ Callee PW w K mg base (5 + n) "_law_term" ["draw", "size", "names_here", "sort_here", "deep"] s_law_term (tx.gc K l) (G_law_term n)
  | 0 => ⟨callee_of (k := 4) (I := [0]) (N := N_law_call) (st := s_law_call) (mb := mBad) h.ok (List.mem_of_getElem? (i := 29) rfl) h.f_law_call_fn sc_law_call (by decide) (fun _ _ _ _ _ _ us hl => match us, hl with | [_, _, _, _, _], _ => rfl) fun f cdv A outer s H E hr => ss_bad, callee_of (k := 4) (I := [0]) (N := N_law_term) (st := s_law_term) (mb := mBad) h.ok (List.mem_of_getElem? (i := 30) rfl) h.f_law_term_fn sc_law_term (by decide) (fun _ _ _ _ _ _ us hl => match us, hl with | [_, _, _, _, _], _ => rfl) fun f cdv A outer s H E hr => ss_bad⟩
  | n + 1 => by
    have r := g_law_call (l := l) h c_law_pick c_law_take c_law_leaf n
    have c_law_call := r.1
    have c_law_term := r.2
    exact ⟨r_law_call (kk := 5 + n) h (by omega) c_law_pick c_law_term, r_law_term (kk := 5 + n) h (by omega) c_law_take c_law_pick c_law_leaf c_law_call c_law_term⟩
theorem d_law_call {w : World} {K : Frag} {mg : Str → Option Value} {base : Heap} {l : Lc} (h : H0 w K mg base) (c_law_pick : Callee PW w K mg base 3 "_law_pick" ["draw", "some"] s_law_pick (tx.gc K l) F_law_pick) (c_law_take : Callee PW w K mg base 2 "_law_take" ["draw", "amount"] s_law_take (tx.gc K l) F_law_take) (c_law_leaf : Callee PW w K mg base 4 "_law_leaf" ["draw", "size", "names_here", "sort_here"] s_law_leaf (tx.gc K l) F_law_leaf) : Callee PW w K mg base 45 "_law_call" ["draw", "size", "names_here", "sort_here", "deep"] s_law_call (tx.gc K l) F_law_call := (g_law_call (l := l) h c_law_pick c_law_take c_law_leaf 40).1
theorem d_law_term {w : World} {K : Frag} {mg : Str → Option Value} {base : Heap} {l : Lc} (h : H0 w K mg base) (c_law_pick : Callee PW w K mg base 3 "_law_pick" ["draw", "some"] s_law_pick (tx.gc K l) F_law_pick) (c_law_take : Callee PW w K mg base 2 "_law_take" ["draw", "amount"] s_law_take (tx.gc K l) F_law_take) (c_law_leaf : Callee PW w K mg base 4 "_law_leaf" ["draw", "size", "names_here", "sort_here"] s_law_leaf (tx.gc K l) F_law_leaf) : Callee PW w K mg base 45 "_law_term" ["draw", "size", "names_here", "sort_here", "deep"] s_law_term (tx.gc K l) F_law_term := (g_law_call (l := l) h c_law_pick c_law_take c_law_leaf 40).2
end PB.Lk02
set_option maxRecDepth 100000
set_option maxHeartbeats 4000000
namespace PB.Lk02
open PySem PySem.Spec PyProof.Rows L2 PB
open PySem.W (Frag keepIn)
/-! ### law_fine_term -/
def N_law_fine_term : List Str := ["draw", "size", "names_here", "sort_here", "deep", "found"]
theorem sc_law_fine_term : FnScope N_law_fine_term ["draw", "size", "names_here", "sort_here", "deep"] (defScope s_law_fine_term) := ⟨rfl, rfl, rfl, by decide +kernel, rfl, by decide +kernel, by decide +kernel⟩
def a_law_fine_term_0 : M Fl := (sAsg (bName 5) (mCall F_law_term (aS 0 (aV (rdV 1) (aV (rdV 2) (aV (rdV 3) (aV (rdV 4) aNil)))))))
def a_law_fine_term_1 : M Fl := (sRet (mIf (mTru (bin2 fLe (mCall F_law_nodes (aV (rdV 5) aNil)) (rdC (.int 60)))) (rdV 5) (mIf (mTru (bin2 fEq (rdV 3) (rdC
    (.str "do")))) (mTup (mCons (rdC (.str "skip")) mNil)) (mTup (mCons (rdC (.str "number")) (mCons (rdC (.int 1)) mNil))))))
def m_law_fine_term : M Fl := (sSeq a_law_fine_term_0 a_law_fine_term_1)
def F_law_fine_term : Env → FR := runF [0] 5 6 m_law_fine_term
theorem d_law_fine_term {w : World} {K : Frag} {mg : Str → Option Value} {base : Heap} {l : Lc} (h : H0 w K mg base) (c_law_nodes : Callee PW w K mg base 42 "_law_nodes" ["term_here"] s_law_nodes (tx.gc K l) F_law_nodes) (c_law_term : Callee PW w K mg base 45 "_law_term" ["draw", "size", "names_here", "sort_here", "deep"] s_law_term (tx.gc K l) F_law_term) : Callee PW w K mg base 46 "_law_fine_term" ["draw", "size", "names_here", "sort_here", "deep"] s_law_fine_term (tx.gc K l) F_law_fine_term :=
  callee_of (k := 45) (I := [0]) (N := N_law_fine_term) (st := s_law_fine_term) (mb := m_law_fine_term) h.ok (List.mem_of_getElem? (i := 31) rfl) h.f_law_fine_term_fn sc_law_fine_term (by decide) (fun _ _ _ _ _ _ us hl => match us, hl with | [_, _, _, _, _], _ => rfl) fun f cdv A outer s H E hr => by
  exact (s_cons (s_asg (g_name (i := 5) rfl) (ps_set sc_law_fine_term.nd rfl (by first | exact Or.inl rfl | exact Or.inr rfl) (d_cal (takes_of rfl rfl rfl rfl)
    c_law_term hr (by decide) rfl (aa_s (pv 0) (aa_v (d_var (pv 1)) (aa_v (d_var (pv 2)) (aa_v (d_var (pv 3)) (aa_v (d_var (pv 4)) aa_nil)))))))) (s_one (s_ret
    (d_if (t_cmp op_le o_leA bl_IB (d_cal (takes_of rfl rfl rfl rfl) c_law_nodes hr (by decide) rfl (aa_v (d_var (pv 5)) aa_nil)) d_int (nomark _)) (d_var (pv
    5)) (d_if (t_cmp (op_eqD hr.units) o_eq bl_eq (d_var (pv 3)) d_str (nomark _)) (d_tup (a_cons d_str a_nil)) (d_tup (a_cons d_str (a_cons d_int a_nil))))))))
end PB.Lk02
set_option maxRecDepth 100000
set_option maxHeartbeats 4000000
namespace PB.Lk02
open PySem PySem.Spec PyProof.Rows L2 PB
open PySem.W (Frag keepIn)
/-! ### law_broad -/
def N_law_broad : List Str := ["many", "found"]
theorem sc_law_broad : FnScope N_law_broad ["many"] (defScope s_law_broad) := ⟨rfl, rfl, rfl, by decide +kernel, rfl, by decide +kernel, by decide +kernel⟩
def b_law_broad_0 : M Fl := (sAsg (bName 1) (bin2 fAdd (mSl (rdV 1) (mPart (rdC (.int 2))) mNoP) (mLst (mCons (mTup (mCons (rdC (.str "sum")) (mCons (bin2 fIxA
    (rdV 1) (rdC (.int 0))) (mCons (bin2 fIxA (rdV 1) (rdC (.int 1))) mNil)))) mNil))))
def a_law_broad_0 : M Fl := (sAsg (bName 1) (bin2 fMul (mLst (mCons (mTup (mCons (rdC (.str "number")) (mCons (rdC (.int 1)) mNil))) mNil)) (bin2 fAdd (rdV 0)
    (rdC (.int 1)))))
def a_law_broad_1 : M Fl := (whileM (mTru (bin2 fGt (mFn fLenA (mCons (rdV 1) mNil)) (rdC (.int 1)))) b_law_broad_0 3000)
def a_law_broad_2 : M Fl := (sRet (bin2 fIxA (rdV 1) (rdC (.int 0))))
def m_law_broad : M Fl := (sSeq a_law_broad_0 (sSeq a_law_broad_1 a_law_broad_2))
def F_law_broad : Env → FR := runF [] 1 2 m_law_broad
theorem d_law_broad {w : World} {K : Frag} {mg : Str → Option Value} {base : Heap} {l : Lc} (h : H0 w K mg base) : Callee PW w K mg base 1 "_law_broad" ["many"] s_law_broad (tx.gc K l) F_law_broad :=
  callee_of (k := 0) (I := []) (N := N_law_broad) (st := s_law_broad) (mb := m_law_broad) h.ok (List.mem_of_getElem? (i := 32) rfl) h.f_law_broad_fn sc_law_broad (by decide) (fun _ _ _ _ _ _ us hl => match us, hl with | [_], _ => rfl) fun f cdv A outer s H E hr => by
  exact (s_cons (s_asg (g_name (i := 1) rfl) (ps_set sc_law_broad.nd rfl (by first | exact Or.inl rfl | exact Or.inr rfl) (d_bin op_mulA o_mulA (d_lst (a_cons (d_tup
    (a_cons d_str (a_cons d_int a_nil))) a_nil)) (d_bin op_addA o_addA (d_var (pv 0)) d_int)))) (s_cons (s_while (passes_of rfl) (t_cmp op_gt o_gtA bl_IB (d_fn
    call_lenA n_lenA rfl h.f_len PyProof.Rows.Boot.«len» (a_cons (d_var (pv 1)) a_nil)) d_int (nomark _)) (s_one (s_asg (g_name (i := 1) rfl) (ps_set
    sc_law_broad.nd rfl (by first | exact Or.inl rfl | exact Or.inr rfl) (d_bin op_addA o_addA (d_slice rfl (d_var (pv 1)) (o_some d_int) o_none) (d_lst (a_cons
    (d_tup (a_cons d_str (a_cons (d_ixA rfl (hu1 hr) (d_var (pv 1)) d_int (fun _ _ => rfl) (fun _ _ => rfl)) (a_cons (d_ixA rfl (hu1 hr) (d_var (pv 1)) d_int
    (fun _ _ => rfl) (fun _ _ => rfl)) a_nil)))) a_nil))))))) (s_one (s_ret (d_ixA rfl (hu1 hr) (d_var (pv 1)) d_int (fun _ _ => rfl) (fun _ _ => rfl))))))
end PB.Lk02
set_option maxRecDepth 100000
set_option maxHeartbeats 4000000
namespace PB.Lk02
open PySem PySem.Spec PyProof.Rows L2 PB
open PySem.W (Frag keepIn)
/-! ### law_spots -/
def N_law_spots : List Str := ["term_here", "at", "found", "k", "part"]
theorem sc_law_spots : FnScope N_law_spots ["term_here", "at"] (defScope s_law_spots) := ⟨rfl, rfl, rfl, by decide +kernel, rfl, by decide +kernel, by decide +kernel⟩
def b_law_spots_0 (F_law_spots : Env → FR) : M Fl := (sIf (mAndB (mTru (mFn (fIsi isF exF tx.inB) (mCons (rdV 4) (mCons (rdC (.ty "tuple")) mNil)))) (mAndB
    (mTru (bin2 fNe (rdV 4) (mTup mNil))) (mTru (bin2 fGt (rdV 3) (rdC (.int 0)))))) (sAsg (bName 2) (bin2 (orF fAdd fAddE) (rdV 2) (mCall F_law_spots (aV (rdV
    4) (aV (bin2 (orF fAdd fAddE) (rdV 1) (mTup (mCons (rdV 3) mNil))) aNil))))) sNx)
def a_law_spots_0 (F_law_spots : Env → FR) : M Fl := (sAsg (bName 2) (mLst (mCons (rdV 1) mNil)))
def a_law_spots_1 (F_law_spots : Env → FR) : M Fl := (sFor (bTup 2 (bCons (bName 3) (bCons (bName 4) bNil))) (mItemsL asEnA (mCons (rdV 0) mNil)) (b_law_spots_0
    F_law_spots))
def a_law_spots_2 (F_law_spots : Env → FR) : M Fl := (sRet (rdV 2))
def m_law_spots (F_law_spots : Env → FR) : M Fl := (sSeq (a_law_spots_0 F_law_spots) (sSeq (a_law_spots_1 F_law_spots) (a_law_spots_2 F_law_spots)))
theorem r_law_spots {w : World} {K : Frag} {mg : Str → Option Value} {base : Heap} {l : Lc} {F_law_spots : Env → FR} {kk : Nat} (h : H0 w K mg base) (hk : 1 ≤ kk) (c_law_spots : Callee PW w K mg base kk "_law_spots" ["term_here", "at"] s_law_spots (tx.gc K l) F_law_spots) : Callee PW w K mg base (kk + 1) "_law_spots" ["term_here", "at"] s_law_spots (tx.gc K l) (runF [] 2 5 (m_law_spots F_law_spots)) :=
  callee_of (k := kk) (I := []) (N := N_law_spots) (st := s_law_spots) (mb := (m_law_spots F_law_spots)) h.ok (List.mem_of_getElem? (i := 33) rfl) h.f_law_spots_fn sc_law_spots (by decide) (fun _ _ _ _ _ _ us hl => match us, hl with | [_, _], _ => rfl) fun f cdv A outer s H E hr => by
  exact (s_cons (s_asg (g_name (i := 2) rfl) (ps_set sc_law_spots.nd rfl (by first | exact Or.inl rfl | exact Or.inr rfl) (d_lst (a_cons (d_var (pv 1)) a_nil))))
    (s_cons (s_for src_enumA (g_tup (g_cons (g_name rfl) (g_cons (g_name rfl) g_nil))) (ps_for (passes_of rfl) rfl (pi_enumA rfl (by rfl) h.f_enumerate (a_cons
    (d_var (pv 0)) a_nil)) (pg_tup (n := 2) rfl (pgs_cons (pg_name sc_law_spots.nd (i := 3) rfl (by first | exact Or.inl rfl | exact Or.inr rfl)) (pgs_cons
    (pg_name sc_law_spots.nd (i := 4) rfl (by first | exact Or.inl rfl | exact Or.inr rfl)) pgs_nil))) (s_one (s_if (PW.pt (t_and (t_of rfl (d_fn (call_isD (is
    := isF)) (n_isi h.clF) rfl h.f_isinstance PyProof.Rows.Boot.«isinstance» (a_cons (d_var (pv 4)) (a_cons (d_const (v := .ty "tuple") (pe_bltn rfl h.f_tuple
    PyProof.Rows.Boot.«tuple» rfl) fun _ _ => rfl) a_nil)))) (t_and (t_cmp (op_neD hr.units) o_ne bl_eq (d_var (pv 4)) (d_tup a_nil) (nomark _)) (t_and1 (t_cmp
    op_gt o_gtA bl_IB (d_var (pv 3)) d_int (nomark _)))))) (s_one (s_asg (g_name (i := 2) rfl) (ps_set sc_law_spots.nd rfl
    (by first | exact Or.inl rfl | exact Or.inr rfl) (d_addA rfl (d_var (pv 2)) (d_cal (takes_of rfl rfl rfl rfl) c_law_spots hr (by omega) rfl (aa_v (d_var (pv
    4)) (aa_v (d_addA rfl (d_var (pv 1)) (d_tup (a_cons (d_var (pv 3)) a_nil))) aa_nil))))))) s_nil)))) (s_one (s_ret (d_var (pv 2))))))
/-! ### the family of law_spots -/
def fam_law_spots : Nat → (Env → FR)
  | 0 => runF [] 2 5 mBad
  | n + 1 => runF [] 2 5 (m_law_spots ((fam_law_spots n)))
def G_law_spots (n : Nat) : Env → FR := (fam_law_spots n)
abbrev F_law_spots : Env → FR := G_law_spots 40
theorem g_law_spots {w : World} {K : Frag} {mg : Str → Option Value} {base : Heap} {l : Lc} (h : H0 w K mg base)  : ∀ n : Nat, Callee PW w K mg base (2 + n) "_law_spots" ["term_here", "at"] s_law_spots (tx.gc K l) (G_law_spots n)
  | 0 => callee_of (k := 1) (I := []) (N := N_law_spots) (st := s_law_spots) (mb := mBad) h.ok (List.mem_of_getElem? (i := 33) rfl) h.f_law_spots_fn sc_law_spots (by decide) (fun _ _ _ _ _ _ us hl => match us, hl with | [_, _], _ => rfl) fun f cdv A outer s H E hr => ss_bad
  | n + 1 => by
    have r := g_law_spots (l := l) h  n
    have c_law_spots := r
    exact r_law_spots (kk := 2 + n) h (by omega) c_law_spots
theorem d_law_spots {w : World} {K : Frag} {mg : Str → Option Value} {base : Heap} {l : Lc} (h : H0 w K mg base)  : Callee PW w K mg base 42 "_law_spots" ["term_here", "at"] s_law_spots (tx.gc K l) F_law_spots := (g_law_spots (l := l) h  40)
end PB.Lk02
set_option maxRecDepth 100000
set_option maxHeartbeats 4000000
namespace PB.Lk02
open PySem PySem.Spec PyProof.Rows L2 PB
open PySem.W (Frag keepIn)
/-! ### law -/
def N_law : List Str := ["script", "draw", "turn", "size", "names_here", "sort_here", "term_here", "word", "chain", "at", "lap", "caught", "many", "broad"]
theorem sc_law : FnScope N_law ["script"] (defScope s_law) := ⟨rfl, rfl, rfl, by decide +kernel, rfl, by decide +kernel, by decide +kernel⟩
def lam_0 : LamD := lamOf (exAt [1] ((stE (stAt [5] (defBody s_law))).getD 0 (.Constant .none 0 ⟨0, 0, 0, 0⟩)))
def lamB_0 : M D := (mCall F_sort_of (aV (rdC (.int 2)) (aV (fun ρ => .ok (.dct [] []) ρ) (aV (mTup (mCons (rdC (.str "claim")) (mCons (rdV 8) mNil))) aNil))))
def lam_1 : LamD := lamOf (exAt [1] ((stE (stAt [10] (defBody s_law))).getD 0 (.Constant .none 0 ⟨0, 0, 0, 0⟩)))
def lamB_1 : M D := (mCall F_sort_of (aV (rdC (.int 2)) (aV (fun ρ => .ok (.dct [] []) ρ) (aV (rdV 13) aNil))))
def lamsL : List LamD := [lam_0, lam_1]
def lamBs : Nat → M D
  | 0 => lamB_0
  | 1 => lamB_1
  | _ => mBad
def b_law_0 : M Fl := (sIf (mTru (bin2 fNe (mCall F_sort_of (aV (rdV 3) (aV (rdV 4) (aV (mTup (mCons (rdC (.str "name")) (mCons (rdV 7) (mCons (mTup mNil)
    mNil)))) aNil)))) (rdC (.str "box")))) (sRet (rdC (.bl false))) sNx)
def b_law_1_0 : M Fl := (sPar 3 4 (mCons (bin2 fAdd (rdC (.int 2)) (mCall F_law_take (aS 1 (aV (rdC (.int 3)) aNil)))) (mCons (mCall F_law_names (aS 1 (aV (rdC
    (.int 4)) (aV (rdC (.int 3)) aNil)))) mNil)))
def b_law_1_1 : M Fl := (sAsg (bName 5) (mCall F_law_pick (aS 1 (aV (mLst (mCons (rdC (.str "num")) (mCons (rdC (.str "do")) mNil))) aNil))))
def b_law_1_2 : M Fl := (sAsg (bName 6) (mCall F_law_fine_term (aS 1 (aV (rdV 3) (aV (rdV 4) (aV (rdV 5) (aV (rdC (.int 3)) aNil)))))))
def b_law_1_3 : M Fl := (sIf (mOrB (mTru (bin2 (fIsB not) (mCall F_is_term (aV (rdV 3) (aV (rdV 4) (aV (rdV 6) aNil)))) (rdC (.bl true)))) (mTru (bin2 (fIsB
    not) (mCallK [2, 1, 0] F_is_term aNil (aV (rdV 6) (aV (rdV 4) (aV (rdV 3) aNil)))) (rdC (.bl true))))) (sRet (rdC (.bl false))) sNx)
def b_law_1_4 : M Fl := (sIf (mOrB (mTru (bin2 fNe (mFn fRepA (mCons (mCall F_sort_of (aV (rdV 3) (aV (rdV 4) (aV (rdV 6) aNil)))) mNil)) (mFn fRepA (mCons (rdV
    5) mNil)))) (mTru (bin2 fNe (mCallK [2, 1, 0] F_sort_of aNil (aV (rdV 6) (aV (rdV 4) (aV (rdV 3) aNil)))) (rdV 5)))) (sRet (rdC (.bl false))) sNx)
def b_law_1_5 : M Fl := (sFor (bName 7) (mItems asAll (mCall F_law_boxes (aV (rdV 4) aNil))) b_law_0)
def b_law_1 : M Fl := (sSeq b_law_1_0 (sSeq b_law_1_1 (sSeq b_law_1_2 (sSeq b_law_1_3 (sSeq b_law_1_4 b_law_1_5)))))
def b_law_2 : M Fl := (sAsg (bName 8) (mTup (mCons (rdC (.str "not")) (mCons (rdV 8) mNil))))
def a_law_0 : M Fl := (sAsgO 1 (mCallO F_law_begun (aV (rdV 0) aNil)))
def a_law_1 : M Fl := (sFor (bName 2) (mItemsL asR1 (mCons (bin2 fAdd (rdC (.int 2)) (mFn (fMin fun i j => if j < i then j else i) (mCons (mFn fLenA (mCons (rdV
    0) mNil)) (mCons (rdC (.int 6)) mNil)))) mNil)) b_law_1)
def a_law_2 : M Fl := (sAsg (bTup 2 (bCons (bName 8) (bCons (bName 9) bNil))) (mTup (mCons (mTup (mCons (rdC (.str "number")) (mCons (rdC (.int 1)) mNil)))
    (mCons (mTup mNil) mNil))))
def a_law_3 : M Fl := (sFor (bName 10) (mItemsL asR1 (mCons (rdC (.int 11)) mNil)) b_law_2)
def a_law_4 : M Fl := (sIf (mTru (bin2 fNe (mCall F_sort_of (aV (rdC (.int 2)) (aV (fun ρ => .ok (.dct [] []) ρ) (aV (rdV 8) aNil)))) (rdC (.str "num")))) (sRet
    (rdC (.bl false))) sNx)
def a_law_5 : M Fl := (sAsg (bName 11) (mCaught (catF 0) lamBs (rdC (.lam 0))))
def a_law_6 : M Fl := (sIf (mOrB (mNotB (mTru (mFn (fIsi isF exF tx.inB) (mCons (rdV 11) (mCons (rdC (.at 3)) mNil))))) (mTru (bin2 fNe (m1 (fldD tx.fin tx.fok
    "at") (rdV 11)) (bin2 fMul (mTup (mCons (rdC (.int 1)) mNil)) (rdC (.int 12)))))) (sRet (rdC (.bl false))) sNx)
def a_law_7 : M Fl := (sAsg (bName 12) (bin2 fAdd (rdC (.int 29)) (mCall F_law_take (aS 1 (aV (rdC (.int 2)) aNil)))))
def a_law_8 : M Fl := (sAsg (bName 13) (mCall F_law_broad (aV (rdV 12) aNil)))
def a_law_9 : M Fl := (sIf (mTru (bin2 fLe (mCall F_law_nodes (aV (rdV 13) aNil)) (rdC (.int 60)))) (sRet (bin2 fEq (mCall F_sort_of (aV (rdC (.int 2)) (aV (fun
    ρ => .ok (.dct [] []) ρ) (aV (rdV 13) aNil)))) (rdC (.str "num")))) sNx)
def a_law_10 : M Fl := (sAsg (bName 11) (mCaught (catF 0) lamBs (rdC (.lam 1))))
def a_law_11 : M Fl := (sRet (mAndV (mFn (fIsi isF exF tx.inB) (mCons (rdV 11) (mCons (rdC (.at 3)) mNil))) (bin2 fEq (m1 (fldD tx.fin tx.fok "at") (rdV 11))
    (bin2 fIxA (mCall F_law_spots (aV (rdV 13) (aV (mTup mNil) aNil))) (rdC (.int 60))))))
def m_law : M Fl := (sSeq a_law_0 (sSeq a_law_1 (sSeq a_law_2 (sSeq a_law_3 (sSeq a_law_4 (sSeq a_law_5 (sSeq a_law_6 (sSeq a_law_7 (sSeq a_law_8 (sSeq a_law_9
    (sSeq a_law_10 a_law_11)))))))))))
def F_law : Env → FR := runF [] 1 14 m_law
theorem uT1 (P : Addr) (q : Str) : ∀ p ∈ [(P, q)], p.1 = P → p.2 = q := fun p hp _ => by
  cases hp with
  | head => rfl
  | tail _ h => cases h
theorem lam_0_ok {w : World} {K : Frag} {mg : Str → Option Value} {base : Heap} {l : Lc} (h : H0 w K mg base) (c_sort_of : Callee PW w K mg base 45 "sort_of" ["size", "names", "term"] s_sort_of (tx.gc K l) F_sort_of) (c_is_term : Callee PW w K mg base 45 "is_term" ["size", "names", "thing"] s_is_term (tx.gc K l) F_is_term) (c_law_begun : Callee PW w K mg base 1 "_law_begun" ["script"] s_law_begun (tx.gc K l) F_law_begun) (c_law_take : Callee PW w K mg base 2 "_law_take" ["draw", "amount"] s_law_take (tx.gc K l) F_law_take) (c_law_pick : Callee PW w K mg base 3 "_law_pick" ["draw", "some"] s_law_pick (tx.gc K l) F_law_pick) (c_law_names : Callee PW w K mg base 4 "_law_names" ["draw", "many", "most_args"] s_law_names (tx.gc K l) F_law_names) (c_law_nodes : Callee PW w K mg base 42 "_law_nodes" ["term_here"] s_law_nodes (tx.gc K l) F_law_nodes) (c_law_boxes : Callee PW w K mg base 1 "_law_boxes" ["names_here"] s_law_boxes (tx.gc K l) F_law_boxes) (c_law_fine_term : Callee PW w K mg base 46 "_law_fine_term" ["draw", "size", "names_here", "sort_here", "deep"] s_law_fine_term (tx.gc K l) F_law_fine_term) (c_law_broad : Callee PW w K mg base 1 "_law_broad" ["many"] s_law_broad (tx.gc K l) F_law_broad) (c_law_spots : Callee PW w K mg base 42 "_law_spots" ["term_here", "at"] s_law_spots (tx.gc K l) F_law_spots) (f : Addr) (cdv : Value) (A0 : Around) (outer0 : List PySem.Env) (s0 : Shared) (H0_ : Hp) (E0 : XK) : LamX.LamS (cxOf (L2.CX PW w) PW w K mg base N_law "law" (defScope s_law) f cdv A0 outer0 s0 H0_ E0).env.scope lam_0.2.2 ∧ (∀ (q : Str) (cl : List (Str × Addr)) (pm cv ctv : Value), bindArgs (PySem.W.kla_fn "<lambda>" q lam_0.1 lam_0.2.1 lam_0.2.2 cl pm cv ctv) ⟨[], []⟩ = pure []) ∧
    ∀ (A : Around) (outer : List PySem.Env) (s : Shared) (H : Hp) (E : XK) (g c1 : Addr), Room 45 (A.deeper (LamX.lamEnv (cxOf (L2.CX PW w) PW w K mg base N_law "law" (defScope s_law) f cdv A0 outer0 s0 H0_ E0) lam_0.2.2 s.heap.objs.size g c1)) → PE (LamX.lamCx (cxOf (L2.CX PW w) PW w K mg base N_law "law" (defScope s_law) f cdv A0 outer0 s0 H0_ E0) A outer s H E lam_0.2.2 g c1) lam_0.2.1 (lift (tx.gc K l) (fun c d _ H => E c d H) (lamBs 0)) := by
  refine ⟨LamX.lamS_by (by show LamX.lamSB (defScope s_law) _ = true; decide +kernel), fun _ _ _ _ _ => rfl, fun A outer s H E g c1 hr => ?_⟩
  exact (d_cal (takes_of rfl rfl rfl rfl) c_sort_of hr (by decide) rfl (aa_v d_int (aa_v d_dct0 (aa_v (d_tup (a_cons d_str (a_cons (d_var (pv 8)) a_nil))) aa_nil))))
theorem lam_1_ok {w : World} {K : Frag} {mg : Str → Option Value} {base : Heap} {l : Lc} (h : H0 w K mg base) (c_sort_of : Callee PW w K mg base 45 "sort_of" ["size", "names", "term"] s_sort_of (tx.gc K l) F_sort_of) (c_is_term : Callee PW w K mg base 45 "is_term" ["size", "names", "thing"] s_is_term (tx.gc K l) F_is_term) (c_law_begun : Callee PW w K mg base 1 "_law_begun" ["script"] s_law_begun (tx.gc K l) F_law_begun) (c_law_take : Callee PW w K mg base 2 "_law_take" ["draw", "amount"] s_law_take (tx.gc K l) F_law_take) (c_law_pick : Callee PW w K mg base 3 "_law_pick" ["draw", "some"] s_law_pick (tx.gc K l) F_law_pick) (c_law_names : Callee PW w K mg base 4 "_law_names" ["draw", "many", "most_args"] s_law_names (tx.gc K l) F_law_names) (c_law_nodes : Callee PW w K mg base 42 "_law_nodes" ["term_here"] s_law_nodes (tx.gc K l) F_law_nodes) (c_law_boxes : Callee PW w K mg base 1 "_law_boxes" ["names_here"] s_law_boxes (tx.gc K l) F_law_boxes) (c_law_fine_term : Callee PW w K mg base 46 "_law_fine_term" ["draw", "size", "names_here", "sort_here", "deep"] s_law_fine_term (tx.gc K l) F_law_fine_term) (c_law_broad : Callee PW w K mg base 1 "_law_broad" ["many"] s_law_broad (tx.gc K l) F_law_broad) (c_law_spots : Callee PW w K mg base 42 "_law_spots" ["term_here", "at"] s_law_spots (tx.gc K l) F_law_spots) (f : Addr) (cdv : Value) (A0 : Around) (outer0 : List PySem.Env) (s0 : Shared) (H0_ : Hp) (E0 : XK) : LamX.LamS (cxOf (L2.CX PW w) PW w K mg base N_law "law" (defScope s_law) f cdv A0 outer0 s0 H0_ E0).env.scope lam_1.2.2 ∧ (∀ (q : Str) (cl : List (Str × Addr)) (pm cv ctv : Value), bindArgs (PySem.W.kla_fn "<lambda>" q lam_1.1 lam_1.2.1 lam_1.2.2 cl pm cv ctv) ⟨[], []⟩ = pure []) ∧
    ∀ (A : Around) (outer : List PySem.Env) (s : Shared) (H : Hp) (E : XK) (g c1 : Addr), Room 45 (A.deeper (LamX.lamEnv (cxOf (L2.CX PW w) PW w K mg base N_law "law" (defScope s_law) f cdv A0 outer0 s0 H0_ E0) lam_1.2.2 s.heap.objs.size g c1)) → PE (LamX.lamCx (cxOf (L2.CX PW w) PW w K mg base N_law "law" (defScope s_law) f cdv A0 outer0 s0 H0_ E0) A outer s H E lam_1.2.2 g c1) lam_1.2.1 (lift (tx.gc K l) (fun c d _ H => E c d H) (lamBs 1)) := by
  refine ⟨LamX.lamS_by (by show LamX.lamSB (defScope s_law) _ = true; decide +kernel), fun _ _ _ _ _ => rfl, fun A outer s H E g c1 hr => ?_⟩
  exact (d_cal (takes_of rfl rfl rfl rfl) c_sort_of hr (by decide) rfl (aa_v d_int (aa_v d_dct0 (aa_v (d_var (pv 13)) aa_nil))))
theorem r_law {w : World} {K : Frag} {mg : Str → Option Value} {base : Heap} {l : Lc} (h : H0 w K mg base) (c_sort_of : Callee PW w K mg base 45 "sort_of" ["size", "names", "term"] s_sort_of (tx.gc K l) F_sort_of) (c_is_term : Callee PW w K mg base 45 "is_term" ["size", "names", "thing"] s_is_term (tx.gc K l) F_is_term) (c_law_begun : Callee PW w K mg base 1 "_law_begun" ["script"] s_law_begun (tx.gc K l) F_law_begun) (c_law_take : Callee PW w K mg base 2 "_law_take" ["draw", "amount"] s_law_take (tx.gc K l) F_law_take) (c_law_pick : Callee PW w K mg base 3 "_law_pick" ["draw", "some"] s_law_pick (tx.gc K l) F_law_pick) (c_law_names : Callee PW w K mg base 4 "_law_names" ["draw", "many", "most_args"] s_law_names (tx.gc K l) F_law_names) (c_law_nodes : Callee PW w K mg base 42 "_law_nodes" ["term_here"] s_law_nodes (tx.gc K l) F_law_nodes) (c_law_boxes : Callee PW w K mg base 1 "_law_boxes" ["names_here"] s_law_boxes (tx.gc K l) F_law_boxes) (c_law_fine_term : Callee PW w K mg base 46 "_law_fine_term" ["draw", "size", "names_here", "sort_here", "deep"] s_law_fine_term (tx.gc K l) F_law_fine_term) (c_law_broad : Callee PW w K mg base 1 "_law_broad" ["many"] s_law_broad (tx.gc K l) F_law_broad) (c_law_spots : Callee PW w K mg base 42 "_law_spots" ["term_here", "at"] s_law_spots (tx.gc K l) F_law_spots) (f : Addr) (cdv : Value) (A : Around) (hgd0 : A.guards = some []) (outer : List PySem.Env) (s : Shared) (H : Hp) (E : XK) (hr : Room 47 (A.deeper (PyProof.Rows.envOfC "law" (defScope s_law) s.heap.objs.size f cdv))) (cd P : Addr) (hcode : cdv = .ref cd) (TB : LamX.TabB base mg cd P) (hl : l = ⟨lamFn (PyProof.Rows.envOfC "law" (defScope s_law) s.heap.objs.size f cdv) lamsL, (PyProof.Rows.envOfC "law" (defScope s_law) s.heap.objs.size f cdv).qual ++ "<lambda>", [(P, (PyProof.Rows.envOfC "law" (defScope s_law) s.heap.objs.size f cdv).qual ++ "<lambda>")]⟩) :
    PSs (cxOf (L2.CX PW w) PW w K mg base N_law "law" (defScope s_law) f cdv A outer s H E) (defBody s_law) (liftS (tx.gc K l) (fun c d _ H => E c d H) [] m_law) := by
  have hgd : (A.deeper (PyProof.Rows.envOfC "law" (defScope s_law) s.heap.objs.size f cdv)).guards = some [] := hgd0
  obtain ⟨⟨oc, od, osl, kV, doc, pmv, an, cdg, ctg, lkg, hcg⟩, hkp⟩ := h.ok.fn (fnD "_law_caught" 44) (List.mem_of_getElem? (i := 23) rfl)
  have hbod : ∀ n params body scope, lamsL[n]? = some (params, body, scope) → LamX.LamS (cxOf (L2.CX PW w) PW w K mg base N_law "law" (defScope s_law) f cdv A outer s H E).env.scope scope ∧ (∀ (q : Str) (cl : List (Str × Addr)) (pm cv ctv : Value), bindArgs (PySem.W.kla_fn "<lambda>" q params body scope cl pm cv ctv) ⟨[], []⟩ = pure []) ∧
      ∀ (A2 : Around) (outer2 : List PySem.Env) (s2 : Shared) (H2 : Hp) (E2 : XK) (g c1 : Addr), Room 45 (A2.deeper (LamX.lamEnv (cxOf (L2.CX PW w) PW w K mg base N_law "law" (defScope s_law) f cdv A outer s H E) scope s2.heap.objs.size g c1)) → PE (LamX.lamCx (cxOf (L2.CX PW w) PW w K mg base N_law "law" (defScope s_law) f cdv A outer s H E) A2 outer2 s2 H2 E2 scope g c1) body (lift (tx.gc K l) (fun c d _ H => E2 c d H) (lamBs n)) := by
    intro n pr bd sc e
    match n, e with
    | 0, e =>
      have e2 : lam_0 = (pr, bd, sc) := Option.some.inj e
      have r := lam_0_ok (l := l) h c_sort_of c_is_term c_law_begun c_law_take c_law_pick c_law_names c_law_nodes c_law_boxes c_law_fine_term c_law_broad c_law_spots f cdv A outer s H E
      rw [e2] at r
      exact r
    | 1, e =>
      have e2 : lam_1 = (pr, bd, sc) := Option.some.inj e
      have r := lam_1_ok (l := l) h c_sort_of c_is_term c_law_begun c_law_take c_law_pick c_law_names c_law_nodes c_law_boxes c_law_fine_term c_law_broad c_law_spots f cdv A outer s H E
      rw [e2] at r
      exact r
    | n + 2, e => exact nomatch e
  subst hl
  have CAUGHT {arg : Expr} {m : M D} {p pos : Pos} (ha : PE (cxOf (L2.CX PW w) PW w K mg base N_law "law" (defScope s_law) f cdv A outer s H E) arg (lift (tx.gc K ⟨lamFn (PyProof.Rows.envOfC "law" (defScope s_law) s.heap.objs.size f cdv) lamsL, (PyProof.Rows.envOfC "law" (defScope s_law) s.heap.objs.size f cdv).qual ++ "<lambda>", [(P, (PyProof.Rows.envOfC "law" (defScope s_law) s.heap.objs.size f cdv).qual ++ "<lambda>")]⟩) (fun c d _ H => E c d H) m)) (hs : starEach [arg] (PyProof.Rows.envOfC "law" (defScope s_law) s.heap.objs.size f cdv) = (false, eval arg (PyProof.Rows.envOfC "law" (defScope s_law) s.heap.objs.size f cdv)) :: starEach [] (PyProof.Rows.envOfC "law" (defScope s_law) s.heap.objs.size f cdv)) : PE (cxOf (L2.CX PW w) PW w K mg base N_law "law" (defScope s_law) f cdv A outer s H E) (.Call (.Name "_law_caught" p) [arg] [] pos) (lift (tx.gc K ⟨lamFn (PyProof.Rows.envOfC "law" (defScope s_law) s.heap.objs.size f cdv) lamsL, (PyProof.Rows.envOfC "law" (defScope s_law) s.heap.objs.size f cdv).qual ++ "<lambda>", [(P, (PyProof.Rows.envOfC "law" (defScope s_law) s.heap.objs.size f cdv).qual ++ "<lambda>")]⟩) (fun c d _ H => E c d H) (mCaught (catF 0) lamBs m)) :=
    d_caught (c := "caught") (w := "work") (e := "error") (P := "PlayError") lkg hcg hkp h.f_law_caught_fn rfl (.all (ps := ["work"]) (fun (us : List Value) (hl : us.length = 1) => match us, hl with | [_], _ => rfl)) ⟨rfl, rfl, rfl, by decide +kernel, rfl, by decide +kernel, by decide +kernel⟩ rfl rfl (by first | exact Or.inl rfl | exact Or.inr (Or.inl rfl)) rfl h.g_PlayError (by decide) (by decide) (by decide) (by decide) (by decide) (by decide) (by decide) (h.ok.exk cat_PlayError) rfl rfl (hr.mono (by decide)) hbod ha rfl hs
  exact (s_cons (s_asgO (i := 1) rfl (ps_set sc_law.nd rfl (by first | exact Or.inl rfl | exact Or.inr rfl) (o_cal (takes_of rfl rfl rfl rfl) c_law_begun hr (by decide)
    rfl (aa_v (d_var (pv 0)) aa_nil)))) (s_cons (s_for src_range1 (g_name rfl) (ps_for (passes_of rfl) rfl (pi_range1 (by rfl) h.f_range (a_cons (d_bin op_addA
    o_addA d_int (d_fn (call_min2 rfl) n_two (by rfl) h.f_min PyProof.Rows.Boot.«min» (a_cons (d_fn call_lenA n_lenA (by rfl) h.f_len PyProof.Rows.Boot.«len»
    (a_cons (d_var (pv 0)) a_nil)) (a_cons d_int a_nil)))) a_nil)) (pg_name sc_law.nd (i := 2) rfl (by first | exact Or.inl rfl | exact Or.inr rfl)) (s_cons
    (s_par rfl rfl (ps_par rfl sc_law.nd (i := 3) (j := 4) rfl rfl (by decide) rfl rfl (a_cons (d_bin op_addA o_addA d_int (d_cal (takes_of rfl rfl rfl rfl)
    c_law_take hr (by decide) rfl (aa_s (pv 1) (aa_v d_int aa_nil)))) (a_cons (d_cal (takes_of rfl rfl rfl rfl) c_law_names hr (by decide) rfl (aa_s (pv 1)
    (aa_v d_int (aa_v d_int aa_nil)))) a_nil)) (by rfl))) (s_cons (s_asg (g_name (i := 5) rfl) (ps_set sc_law.nd rfl
    (by first | exact Or.inl rfl | exact Or.inr rfl) (d_cal (takes_of rfl rfl rfl rfl) c_law_pick hr (by decide) rfl (aa_s (pv 1) (aa_v (d_lst (a_cons d_str
    (a_cons d_str a_nil))) aa_nil))))) (s_cons (s_asg (g_name (i := 6) rfl) (ps_set sc_law.nd rfl (by first | exact Or.inl rfl | exact Or.inr rfl) (d_cal
    (takes_of rfl rfl rfl rfl) c_law_fine_term hr (by decide) rfl (aa_s (pv 1) (aa_v (d_var (pv 3)) (aa_v (d_var (pv 4)) (aa_v (d_var (pv 5)) (aa_v d_int
    aa_nil)))))))) (s_cons (s_if (PW.pt (t_or (t_cmp op_notBl o_notB bl_isB (d_cal (takes_of rfl rfl rfl rfl) c_is_term hr (by decide) rfl (aa_v (d_var (pv 3))
    (aa_v (d_var (pv 4)) (aa_v (d_var (pv 6)) aa_nil)))) d_bl (nomark _)) (t_or1 (t_cmp op_notBl o_notB bl_isB (d_calK0 (ks := ["thing", "names", "size"])
    (takes_of rfl rfl rfl rfl) c_is_term hr (by decide) rfl (fun _ _ _ _ _ _ us ws hu hw => match us, ws, hu, hw with | [], [_, _, _], _, _ => rfl) rfl (kk_v
    (d_var (pv 6)) (kk_v (d_var (pv 4)) (kk_v (d_var (pv 3)) kk_nil)))) d_bl (nomark _))))) (s_one (s_ret d_bl)) s_nil) (s_cons (s_if (PW.pt (t_or (t_cmp
    (op_neD hr.units) o_ne bl_eq (d_fn (call_repA (G := tx.gc K _) rfl hgd hr.units h.ok.sy) n_repA rfl h.f_repr PyProof.Rows.Boot.«repr» (a_cons (d_cal
    (takes_of rfl rfl rfl rfl) c_sort_of hr (by decide) rfl (aa_v (d_var (pv 3)) (aa_v (d_var (pv 4)) (aa_v (d_var (pv 6)) aa_nil)))) a_nil)) (d_fn (call_repA
    (G := tx.gc K _) rfl hgd hr.units h.ok.sy) n_repA rfl h.f_repr PyProof.Rows.Boot.«repr» (a_cons (d_var (pv 5)) a_nil)) (nomark _)) (t_or1 (t_cmp (op_neD
    hr.units) o_ne bl_eq (d_calK0 (ks := ["term", "names", "size"]) (takes_of rfl rfl rfl rfl) c_sort_of hr (by decide) rfl (fun _ _ _ _ _ _ us ws hu hw =>
    match us, ws, hu, hw with | [], [_, _, _], _, _ => rfl) rfl (kk_v (d_var (pv 6)) (kk_v (d_var (pv 4)) (kk_v (d_var (pv 3)) kk_nil)))) (d_var (pv 5)) (nomark
    _))))) (s_one (s_ret d_bl)) s_nil) (s_one (s_for src_all (g_name rfl) (ps_for (passes_of rfl) rfl (pi_all (by rfl) (d_cal (takes_of rfl rfl rfl rfl)
    c_law_boxes hr (by decide) rfl (aa_v (d_var (pv 4)) aa_nil))) (pg_name sc_law.nd (i := 7) rfl (by first | exact Or.inl rfl | exact Or.inr rfl)) (s_one (s_if
    (t_cmp (op_neD hr.units) o_ne bl_eq (d_cal (takes_of rfl rfl rfl rfl) c_sort_of hr (by decide) rfl (aa_v (d_var (pv 3)) (aa_v (d_var (pv 4)) (aa_v (d_tup
    (a_cons d_str (a_cons (d_var (pv 7)) (a_cons (d_tup a_nil) a_nil)))) aa_nil)))) d_str (nomark _)) (s_one (s_ret d_bl)) s_nil)))))))))))) (s_cons (s_asg
    (g_tup (g_cons (g_name rfl) (g_cons (g_name rfl) g_nil))) (ps_asg (d_tup (a_cons (d_tup (a_cons d_str (a_cons d_int a_nil))) (a_cons (d_tup a_nil) a_nil)))
    (pg_tup (n := 2) rfl (pgs_cons (pg_name sc_law.nd (i := 8) rfl (by first | exact Or.inl rfl | exact Or.inr rfl)) (pgs_cons (pg_name sc_law.nd (i := 9) rfl
    (by first | exact Or.inl rfl | exact Or.inr rfl)) pgs_nil))))) (s_cons (s_for src_range1 (g_name rfl) (ps_for (passes_of rfl) rfl (pi_range1 (by rfl)
    h.f_range (a_cons d_int a_nil)) (pg_name sc_law.nd (i := 10) rfl (by first | exact Or.inl rfl | exact Or.inr rfl)) (s_one (s_asg (g_name (i := 8) rfl)
    (ps_set sc_law.nd rfl (by first | exact Or.inl rfl | exact Or.inr rfl) (d_tup (a_cons d_str (a_cons (d_var (pv 8)) a_nil)))))))) (s_cons (s_if (t_cmp
    (op_neD hr.units) o_ne bl_eq (d_cal (takes_of rfl rfl rfl rfl) c_sort_of hr (by decide) rfl (aa_v d_int (aa_v d_dct0 (aa_v (d_var (pv 8)) aa_nil)))) d_str
    (nomark _)) (s_one (s_ret d_bl)) s_nil) (s_cons (s_asg (g_name (i := 11) rfl) (ps_set sc_law.nd rfl (by first | exact Or.inl rfl | exact Or.inr rfl) (CAUGHT
    (hs := by rfl) (d_lam (k := 0) rfl rfl rfl TB hcode (List.Mem.head _) (uT1 _ _) rfl (LamX.lamS_by
    (by show LamX.lamSB (defScope s_law) _ = true; decide +kernel)))))) (s_cons (s_if (PW.pt (t_or (t_not (t_of rfl (d_fn (call_isD (is := isF)) (n_isi h.clF)
    rfl h.f_isinstance PyProof.Rows.Boot.«isinstance» (a_cons (d_var (pv 11)) (a_cons (d_const (v := .ref (tx.cl K 3)) (pe_glob rfl h.g_BadTerm rfl) fun _ _ =>
    rfl) a_nil))))) (t_or1 (t_cmp (op_neD hr.units) o_ne bl_eq (d_fld h.ok.fin h.ok.fok (d_var (pv 11))) (d_bin op_mulA o_mulA (d_tup (a_cons d_int a_nil))
    d_int) (nomark _))))) (s_one (s_ret d_bl)) s_nil) (s_cons (s_asg (g_name (i := 12) rfl) (ps_set sc_law.nd rfl
    (by first | exact Or.inl rfl | exact Or.inr rfl) (d_bin op_addA o_addA d_int (d_cal (takes_of rfl rfl rfl rfl) c_law_take hr (by decide) rfl (aa_s (pv 1)
    (aa_v d_int aa_nil)))))) (s_cons (s_asg (g_name (i := 13) rfl) (ps_set sc_law.nd rfl (by first | exact Or.inl rfl | exact Or.inr rfl) (d_cal (takes_of rfl
    rfl rfl rfl) c_law_broad hr (by decide) rfl (aa_v (d_var (pv 12)) aa_nil)))) (s_cons (s_if (t_cmp op_le o_leA bl_IB (d_cal (takes_of rfl rfl rfl rfl)
    c_law_nodes hr (by decide) rfl (aa_v (d_var (pv 13)) aa_nil)) d_int (nomark _)) (s_one (s_ret (d_cmp (op_eqD hr.units) o_eq (d_cal (takes_of rfl rfl rfl
    rfl) c_sort_of hr (by decide) rfl (aa_v d_int (aa_v d_dct0 (aa_v (d_var (pv 13)) aa_nil)))) d_str (nomark _)))) s_nil) (s_cons (s_asg (g_name (i := 11) rfl)
    (ps_set sc_law.nd rfl (by first | exact Or.inl rfl | exact Or.inr rfl) (CAUGHT (hs := by rfl) (d_lam (k := 1) rfl rfl rfl TB hcode (List.Mem.head _) (uT1 _
    _) rfl (LamX.lamS_by (by show LamX.lamSB (defScope s_law) _ = true; decide +kernel)))))) (s_one (s_ret (d_and rfl (d_fn (call_isD (is := isF)) (n_isi h.clF)
    rfl h.f_isinstance PyProof.Rows.Boot.«isinstance» (a_cons (d_var (pv 11)) (a_cons (d_const (v := .ref (tx.cl K 3)) (pe_glob rfl h.g_BadTerm rfl) fun _ _ =>
    rfl) a_nil))) (d_one (d_cmp (op_eqD hr.units) o_eq (d_fld h.ok.fin h.ok.fok (d_var (pv 11))) (d_ixA rfl (hu1 hr) (d_cal (takes_of rfl rfl rfl rfl)
    c_law_spots hr (by decide) rfl (aa_v (d_var (pv 13)) (aa_v (d_tup a_nil) aa_nil))) d_int (fun _ _ => rfl) (fun _ _ => rfl)) (nomark _)))))))))))))))))
end PB.Lk02
set_option maxRecDepth 100000
set_option maxHeartbeats 1000000
namespace PB.Lk02
open PySem PySem.Spec PyProof.Rows L2 PB
/-! ### the draw begun -/
section
variable (S s1 : Sl)
def q0 : M Bool := (mTru (bin2 fGe (mFn fAbs (mCons (rdV 2) mNil)) (bin2 fPowI (rdC (.int 10)) (rdC (.int 18)))))
def ab (n : Int) : Int := if n < 0 then -n else n
theorem lc1 : ∀ (ns : List Int) (acc : List Int), acc.length + ns.length < lim → ∃ ls : List Int, lcL [2] (bName 2) q0 e_law_begun_0 (ns.map D.int) (acc.map D.int) [S, s1, .un] = .ok (.lst (ls.map D.int)) [S, s1, .un]
  | [], acc, _ => ⟨acc, rfl⟩
  | n :: ns, acc, h => by
    have e0 : q0 [S, s1, .fr (.int n)] = .ok (decide ((10 : Int) ^ 18 ≤ ab n)) [S, s1, .fr (.int n)] := rfl
    have e1 : e_law_begun_0 [S, s1, .fr (.int n)] = .ok (.int (ab n - 10 ^ 18)) [S, s1, .fr (.int n)] := rfl
    rw [List.map_cons]
    unfold lcL
    show ∃ ls : List Int, (match q0 [S, s1, .fr (.int n)] with
      | .ok true ρ2 => (match e_law_begun_0 ρ2 with
        | .ok y ρ3 => if (acc.map D.int).length < lim then lcL [2] (bName 2) q0 e_law_begun_0 (ns.map D.int) (acc.map D.int ++ [y]) (wipeE [2] ρ3) else .bad
        | _ => .bad)
      | .ok false ρ2 => lcL [2] (bName 2) q0 e_law_begun_0 (ns.map D.int) (acc.map D.int) (wipeE [2] ρ2)
      | _ => .bad) = _
    rw [e0]
    rw [List.length_cons] at h
    cases decide ((10 : Int) ^ 18 ≤ ab n) with
    | false => exact lc1 ns acc (by omega)
    | true =>
      show ∃ ls : List Int, (match e_law_begun_0 [S, s1, .fr (.int n)] with
        | .ok y ρ3 => if (acc.map D.int).length < lim then lcL [2] (bName 2) q0 e_law_begun_0 (ns.map D.int) (acc.map D.int ++ [y]) (wipeE [2] ρ3) else .bad
        | _ => .bad) = _
      rw [e1]
      show ∃ ls : List Int, (if (acc.map D.int).length < lim then lcL [2] (bName 2) q0 e_law_begun_0 (ns.map D.int) (acc.map D.int ++ [.int (ab n - 10 ^ 18)]) [S, s1, .un] else .bad) = _
      rw [if_pos (by rw [List.length_map]; omega)]
      have := lc1 ns (acc ++ [ab n - 10 ^ 18]) (by rw [List.length_append, List.length_singleton]; omega)
      rw [List.map_append] at this
      exact this
theorem lc2 (ns : List Int) (h : ns.length < lim) : ∃ ls : List Int, lcL [2] (bName 2) mYes e_law_begun_1 (ns.map D.int) [] [S, s1, .un] = .ok (.lst (ls.map D.int)) [S, s1, .un] := by
  have e := lcL_map (own := [2]) (gb := bName 2) (me := e_law_begun_1) (f := fun d => match d with | .int n => .int (ab n) | d => d) (ρ := [S, s1, .un]) (xs := ns.map D.int) (acc := []) (fun x hx => by
    obtain ⟨n, _, rfl⟩ := List.mem_map.mp hx
    exact ⟨[S, s1, .fr (.int n)], _, rfl, rfl, rfl⟩) (by rw [List.length_map]; simpa using h)
  refine ⟨ns.map ab, e.trans ?_⟩
  rw [List.nil_append, List.map_map, List.map_map]
  rfl
end
theorem begun (ns : List Int) (h : ns.length ≤ 63) : ∃ w : Dw, F_law_begun [.fr (.fls (ns.map D.int))] = .own w.d [.un] := by
  have hl : ([] : List Int).length + ns.length < lim := by show 0 + ns.length < 16777216; omega
  obtain ⟨l, e1⟩ := lc1 (.fr (.fls (ns.map D.int))) .un ns [] hl
  obtain ⟨c, e2⟩ := lc2 (.fr (.fls (ns.map D.int))) (.ow (.lst (l.map D.int))) ns (by show ns.length < 16777216; omega)
  refine ⟨⟨l, 0, c, 0⟩, ?_⟩
  refine (runF_ro (ρ := [.fr (.fls (ns.map D.int)), .un, .un]) rfl (sSeq_ok (ρ1 := [.fr (.fls (ns.map D.int)), .ow (.lst (l.map D.int)), .un]) ?_ ?_)).trans rfl
  · have w : mLc [2] (bName 2) (mItems asAll (rdV 0)) q0 e_law_begun_0 [.fr (.fls (ns.map D.int)), .un, .un] = lcL [2] (bName 2) q0 e_law_begun_0 (ns.map D.int) [] [.fr (.fls (ns.map D.int)), .un, .un] := by kernel_rfl
    exact bind_ok (w.trans e1) rfl
  · have w : mLc [2] (bName 2) (mItems asAll (rdV 0)) mYes e_law_begun_1 [.fr (.fls (ns.map D.int)), .ow (.lst (l.map D.int)), .un] = lcL [2] (bName 2) mYes e_law_begun_1 (ns.map D.int) [] [.fr (.fls (ns.map D.int)), .ow (.lst (l.map D.int)), .un] := by kernel_rfl
    refine bind_ok (a := .drw l 0 c 0) (ρ := [.fr (.fls (ns.map D.int)), .un, .un]) ?_ rfl
    refine bind_ok (w.trans e2) ?_
    show (match intsD (l.map D.int), intsD (c.map D.int) with
      | some a, some b => Res.ok (D.drw a 0 b 0) [.fr (.fls (ns.map D.int)), .un, .un]
      | _, _ => .bad) = _
    rw [intsD_ints, intsD_ints]
/-! ### numbers mixed -/
section
variable (w : Dw) (u g : Int)
abbrev rm (f : Int) (s4 s5 : Sl) : PB.Env := [io w, .fr (.int u), .fr (.int f), .fr (.int g), s4, s5]
theorem inner (hg : 0 < g) (f : Int) : ∀ (cs : List Int) (b : Int) (s : Sl), (0 ≤ b ∧ b < g) → ∃ b' s', forL (bName 5) b_law_mixed_0 (cs.map D.int) (rm w u g f (.fr (.int b)) s) = .ok .nx (rm w u g f (.fr (.int b')) s') ∧ 0 ≤ b' ∧ b' < g
  | [], b, s, h => ⟨b, s, rfl, h⟩
  | x :: cs, b, s, h => by
    have e : b_law_mixed_0 (rm w u g f (.fr (.int b)) (.fr (.int x))) = .ok .nx (rm w u g f (.fr (.int ((b * 48271 + x).fmod g))) (.fr (.int x))) :=
      sAsg_ok (bin2_ok (bin2_ok (bin2_ok rfl rfl (mulR (by omega))) rfl addR) rfl (modR (by omega))) rfl
    obtain ⟨b', s', e2, h2⟩ := inner hg f cs ((b * 48271 + x).fmod g) (.fr (.int x)) ⟨Int.fmod_nonneg_of_pos _ hg, Int.fmod_lt_of_pos _ hg⟩
    refine ⟨b', s', ?_, h2⟩
    rw [List.map_cons]
    unfold forL
    show (match b_law_mixed_0 (rm w u g f (.fr (.int b)) (.fr (.int x))) with
      | .ok .nx ρ2 => forL (bName 5) b_law_mixed_0 (cs.map D.int) ρ2
      | .ok .ct ρ2 => forL (bName 5) b_law_mixed_0 (cs.map D.int) ρ2
      | .ok .bk ρ2 => .ok .nx ρ2
      | r => r) = _
    rw [e]
    exact e2
theorem body_ok (hg : 0 < g) (hg2 : g < 2147483648) (f : Int) (s4 s5 : Sl) : ∃ f' s4' s5', b_law_mixed_1 (rm w u g f s4 s5) = .ok .nx (rm w u g f' s4' s5') := by
  obtain ⟨b', s', e2, h1, h2⟩ := inner w u g hg f w.c ((u * 69621 + g.fdiv 7).fmod g) s5 ⟨Int.fmod_nonneg_of_pos _ hg, Int.fmod_lt_of_pos _ hg⟩
  refine ⟨f * 2147483647 + (b' ^ 5).fmod g, .fr (.int b'), s', ?_⟩
  refine sSeq_ok (sAsg_ok (bin2_ok (bin2_ok (bin2_ok rfl rfl (mulR (by omega))) (bin2_ok rfl rfl (divR (by omega))) addR) rfl (modR (by omega))) rfl) (sSeq_ok (ρ1 := rm w u g f (.fr (.int b')) s') e2 ?_)
  exact sAsg_ok (bin2_ok (bin2_ok rfl rfl (mulR (by omega))) (bin2_ok (bin2_ok rfl rfl (powR (by omega))) rfl (modR (by omega))) addR) rfl
theorem for3 : ∀ (gs : List Int), (∀ g ∈ gs, 0 < g ∧ g < 2147483648) → ∀ (f : Int) (s3 s4 s5 : Sl), ∃ f' s3' s4' s5', forL (bName 3) b_law_mixed_1 (gs.map D.int) [io w, .fr (.int u), .fr (.int f), s3, s4, s5] = .ok .nx [io w, .fr (.int u), .fr (.int f'), s3', s4', s5']
  | [], _, f, s3, s4, s5 => ⟨f, s3, s4, s5, rfl⟩
  | g :: gs, h, f, s3, s4, s5 => by
    obtain ⟨f', s4', s5', e⟩ := body_ok w u g (h g List.mem_cons_self).1 (h g List.mem_cons_self).2 f s4 s5
    obtain ⟨f2, s32, s42, s52, e2⟩ := for3 gs (fun g hg => h g (List.mem_cons_of_mem _ hg)) f' (.fr (.int g)) s4' s5'
    refine ⟨f2, s32, s42, s52, ?_⟩
    rw [List.map_cons]
    unfold forL
    show (match b_law_mixed_1 (rm w u g f s4 s5) with
      | .ok .nx ρ2 => forL (bName 3) b_law_mixed_1 (gs.map D.int) ρ2
      | .ok .ct ρ2 => forL (bName 3) b_law_mixed_1 (gs.map D.int) ρ2
      | .ok .bk ρ2 => .ok .nx ρ2
      | r => r) = _
    rw [e]
    exact e2
end
theorem mixed (w : Dw) : ∃ v : Int, F_law_mixed [io w] = .ok (.int v) [io ⟨w.l, w.r, w.c, w.t + 1⟩] := by
  obtain ⟨f', s3, s4, s5, e⟩ := for3 ⟨w.l, w.r, w.c, w.t + 1⟩ (w.t + 1) [2147483629, 2147483587, 2147483579] (by intro g hg; simp at hg; omega) 0 .un .un .un
  refine ⟨f', ?_⟩
  show (match m_law_mixed [io w, .un, .un, .un, .un, .un] with
    | .ok .nx ρ => FR.ok .non (outs [0] 1 ρ)
    | .ok (.rt d) ρ => .ok d (outs [0] 1 ρ)
    | .ok (.ro d) ρ => .own d (outs [0] 1 ρ)
    | .ex x ρ => .ex x (outs [0] 1 ρ)
    | _ => .bad) = _
  have e0 : m_law_mixed [io w, .un, .un, .un, .un, .un] = (match forL (bName 3) b_law_mixed_1 (([2147483629, 2147483587, 2147483579] : List Int).map D.int) [io ⟨w.l, w.r, w.c, w.t + 1⟩, .fr (.int (w.t + 1)), .fr (.int 0), .un, .un, .un] with
    | .ok .nx ρ => a_law_mixed_3 ρ
    | r => r) := rfl
  rw [e0, e]
  rfl
/-! ### a number taken, one of some picked -/
theorem take (w : Dw) (a : Int) (ha : 0 < a) (hb : a < 1000000) : ∃ (k : Int) (w' : Dw), F_law_take [io w, .fr (.int a)] = .ok (.int k) [io w', .un] ∧ 0 ≤ k ∧ k < a := by
  have step : ∃ w1 : Dw, a_law_take_0 [io w, .fr (.int a), .un] = .ok .nx [io w1, .fr (.int a), .un] := by
    obtain ⟨l, r, c, t⟩ := w
    unfold a_law_take_0 sIf mTru
    have e : (bin2 fEq (drRest 0) (rdC (.int 0))) [io ⟨l, r, c, t⟩, .fr (.int a), .un] = .ok (.bl (PyData.eqv (.int r) (.int 0))) [io ⟨l, r, c, t⟩, .fr (.int a), .un] := bin2_ok rfl rfl rfl
    rw [e]
    cases q : PyData.eqv (.int r) (.int 0) with
    | false => exact ⟨⟨l, r, c, t⟩, rfl⟩
    | true =>
      cases l with
      | nil =>
        obtain ⟨v, hv⟩ := mixed ⟨[], r, c, t⟩
        refine ⟨⟨[], v, c, t + 1⟩, ?_⟩
        show (drPutR 0 (mIf (drAny 0) (drPop 0) (mCall F_law_mixed (aS 0 aNil)))) [io ⟨[], r, c, t⟩, .fr (.int a), .un] = _
        have e2 : (mIf (drAny 0) (drPop 0) (mCall F_law_mixed (aS 0 aNil))) [io ⟨[], r, c, t⟩, .fr (.int a), .un] = .ok (.int v) [io ⟨[], r, c, t + 1⟩, .fr (.int a), .un] := by
          show callR F_law_mixed [.s 0] [io ⟨[], r, c, t⟩, .fr (.int a), .un] = _
          exact callR_ok (as := [.s 0]) (show ([0] : List Nat).Nodup by decide) rfl hv rfl
        exact bind_ok e2 rfl
      | cons x l => exact ⟨⟨l, x, c, t⟩, rfl⟩
  obtain ⟨⟨l1, r1, c1, t1⟩, e⟩ := step
  refine ⟨r1.fmod a, ⟨l1, r1.fdiv a, c1, t1⟩, ?_, Int.fmod_nonneg_of_pos _ ha, Int.fmod_lt_of_pos _ ha⟩
  refine (runF_rt (ρ := [io ⟨l1, r1.fdiv a, c1, t1⟩, .fr (.int a), .fr (.int (r1.fmod a))]) rfl ?_).trans rfl
  refine sSeq_ok e (sSeq_ok (ρ1 := [io ⟨l1, r1, c1, t1⟩, .fr (.int a), .fr (.int (r1.fmod a))]) (sAsg_ok (bin2_ok rfl rfl (modR (by omega))) rfl) (sSeq_ok (ρ1 := [io ⟨l1, r1.fdiv a, c1, t1⟩, .fr (.int a), .fr (.int (r1.fmod a))]) ?_ (sRet_ok rfl)))
  exact bind_ok (bin2_ok rfl rfl (divR (by omega))) rfl
theorem take_at {w : Dw} {s : Sl} {ρ : PB.Env} {j : Nat} {a : Int} (hs : HasW s w) (hj : ρ[j]? = some s) (ha : 0 < a) (hb : a < 1000000) : ∃ (k : Int) (w' : Dw), callR F_law_take [.s j, .v (.int a)] ρ = .ok (.int k) (ρ.set j (newW s w')) ∧ 0 ≤ k ∧ k < a := by
  obtain ⟨k, w', e, h1, h2⟩ := take w a ha hb
  exact ⟨k, w', callW (ds := [.int a]) hs hj e rfl, h1, h2⟩
theorem pick (w : Dw) (xs : List D) (h1 : 0 < xs.length) (h2 : xs.length < 1000000) : ∃ (x : D) (w' : Dw), F_law_pick [io w, .fr (.lst xs)] = .ok x [io w', .un] ∧ x ∈ xs := by
  obtain ⟨k, w', e, k1, k2⟩ := take_at (ρ := [io w, .fr (.lst xs)]) (j := 0) (.io w) rfl (a := xs.length) (by omega) (by omega)
  obtain ⟨x, hx, ex⟩ := atI_of k1 k2
  refine ⟨x, w', ?_, hx⟩
  refine (runF_rt (ρ := [io w', .fr (.lst xs)]) rfl (sRet_ok (bin2_ok (y := .int k) rfl ?_ ?_))).trans rfl
  · exact e
  · show ((((atI xs k).orElse fun _ => fIxT (.lst xs) (.int k))).orElse fun _ => fDGet (.lst xs) (.int k)) = _
    rw [ex]
    rfl
theorem pick_at {w : Dw} {s : Sl} {ρ : PB.Env} {j : Nat} {xs : List D} (hs : HasW s w) (hj : ρ[j]? = some s) (h1 : 0 < xs.length) (h2 : xs.length < 1000000) : ∃ (x : D) (w' : Dw), callR F_law_pick [.s j, .v (.lst xs)] ρ = .ok x (ρ.set j (newW s w')) ∧ x ∈ xs := by
  obtain ⟨x, w', e, h⟩ := pick w xs h1 h2
  exact ⟨x, w', callW (ds := [.lst xs]) hs hj e rfl, h⟩
end PB.Lk02
set_option maxRecDepth 100000
set_option maxHeartbeats 1000000
namespace PB.Lk02
open PySem PySem.Spec PyProof.Rows L2 PB
/-! ### a list shuffled -/
theorem seqIx {k : Int} {n : Nat} (h1 : 0 ≤ k) (h2 : k < n) : seqIndex? k n = some k.toNat := by
  unfold seqIndex?
  have e : ¬ k < 0 := by omega
  simp only [e, if_false]
  rw [if_pos (by simp; omega)]
def tSh : M Bool := mTru (mPL fNe 2 (mLst mNil))
section
variable (X : Sl)
abbrev shE (w : Dw) (left found : List D) : PB.Env := [io w, X, .ow (.lst left), .ow (.lst found)]
theorem tSh_ok {w : Dw} {left found : List D} (h : ∀ x ∈ left, Shp x) : tSh (shE X w left found) = .ok (!left.isEmpty) (shE X w left found) := by
  have e : mPL fNe 2 (mLst mNil) (shE X w left found) = optR (fNe (.lst left) (.lst [])) (shE X w left found) := rfl
  unfold tSh mTru
  rw [e, ne_nil h]
  rfl
theorem bSh_ok {w : Dw} {left found : List D} (h : left ≠ []) (hl : left.length < 1000000) (hf : found.length < lim) : ∃ (w' : Dw) (y : D) (j : Nat), left[j]? = some y ∧ b_law_shuffled_0 (shE X w left found) = .ok .nx (shE X w' (left.eraseIdx j) (found ++ [y])) := by
  have l0 : 0 < left.length := List.length_pos_iff.mpr h
  obtain ⟨k, w', e, k1, k2⟩ := take_at (ρ := shE X w left found) (j := 0) (.io w) rfl (a := left.length) (by omega) (by omega)
  have hj : k.toNat < left.length := by omega
  refine ⟨w', left[k.toNat], k.toNat, List.getElem?_eq_getElem hj, ?_⟩
  have e1 : (mCall F_law_take (aS 0 (aV (mLenP 2) aNil))) (shE X w left found) = .ok (.int k) (shE X w' left found) := e
  have e2 : dPop 2 (mCall F_law_take (aS 0 (aV (mLenP 2) aNil))) (shE X w left found) = .ok left[k.toNat] (shE X w' (left.eraseIdx k.toNat) found) := by
    unfold dPop
    show (((mCall F_law_take (aS 0 (aV (mLenP 2) aNil))) (shE X w left found)).bind fun d ρ1 => match d, getO ρ1 2 with
      | .int k, some (.lst xs) => if -(2 ^ 63) ≤ k ∧ k < 2 ^ 63 then (match seqIndex? k xs.length with
        | some j => match xs[j]? with
          | some y => .ok y (putO ρ1 2 (.lst (xs.eraseIdx j)))
          | none => .bad
        | none => .bad) else .bad
      | _, _ => .bad) = _
    rw [e1]
    show (if -(2 ^ 63) ≤ k ∧ k < 2 ^ 63 then (match seqIndex? k left.length with
        | some j => match left[j]? with
          | some y => Res.ok y (putO (shE X w' left found) 2 (.lst (left.eraseIdx j)))
          | none => .bad
        | none => .bad) else .bad) = _
    rw [if_pos (by omega), seqIx k1 k2]
    simp only [List.getElem?_eq_getElem hj]
    rfl
  show (match getO (shE X w left found) 3 with
    | some (.lst _) => (dPop 2 (mCall F_law_take (aS 0 (aV (mLenP 2) aNil))) (shE X w left found)).bind fun d ρ1 => match getO ρ1 3 with
      | some (.lst xs) => if xs.length < lim then Res.ok Fl.nx (putO ρ1 3 (.lst (xs ++ [d]))) else .bad
      | _ => .bad
    | _ => .bad) = _
  rw [e2]
  show (if found.length < lim then Res.ok Fl.nx (putO (shE X w' (left.eraseIdx k.toNat) found) 3 (.lst (found ++ [left[k.toNat]]))) else .bad) = _
  rw [if_pos hf]
  rfl
theorem perm_erase : ∀ {left : List D} {j : Nat} {y : D}, left[j]? = some y → (y :: left.eraseIdx j).Perm left
  | [], _, _, h => by simp at h
  | x :: left, 0, y, h => by
    cases (show some x = some y from h)
    exact List.Perm.refl _
  | x :: left, j + 1, y, h => (List.Perm.swap x y _).trans ((perm_erase (left := left) (j := j) h).cons x)
theorem wSh_ok : ∀ (n : Nat) (w : Dw) (left found : List D), left.length < n → left.length + found.length < 1000000 → (∀ x ∈ left, Shp x) → ∃ (w' : Dw) (ys : List D), whileM tSh b_law_shuffled_0 n (shE X w left found) = .ok .nx (shE X w' [] ys) ∧ ys.Perm (found ++ left)
  | 0, _, left, _, h, _, _ => absurd h (Nat.not_lt_zero _)
  | n + 1, w, left, found, h, hl, hs => by
    unfold whileM
    rw [tSh_ok X hs]
    cases left with
    | nil => exact ⟨w, found, rfl, by rw [List.append_nil]⟩
    | cons x left =>
      obtain ⟨w1, y, j, ej, e1⟩ := bSh_ok X (w := w) (left := x :: left) (found := found) (by simp) (by omega) (by show found.length < 16777216; omega)
      have pe := perm_erase ej
      have l1 : ((x :: left).eraseIdx j).length = left.length := by
        have := pe.length_eq
        simp only [List.length_cons] at this
        omega
      obtain ⟨w2, ys, e2, p2⟩ := wSh_ok n w1 ((x :: left).eraseIdx j) (found ++ [y]) (by rw [l1]; simp only [List.length_cons] at h; omega) (by rw [l1, List.length_append, List.length_singleton]; simp only [List.length_cons] at hl; omega) (fun z hz => hs z (pe.subset (List.mem_cons_of_mem _ hz)))
      refine ⟨w2, ys, ?_, ?_⟩
      · show (match b_law_shuffled_0 (shE X w (x :: left) found) with
          | .ok .nx ρ2 => whileM tSh b_law_shuffled_0 n ρ2
          | .ok .ct ρ2 => whileM tSh b_law_shuffled_0 n ρ2
          | .ok .bk ρ2 => .ok .nx ρ2
          | r => r) = _
        rw [e1]
        exact e2
      · refine p2.trans ?_
        rw [List.append_assoc]
        exact List.Perm.append_left found pe
end
theorem shuffled (w : Dw) (xs : List D) (h : xs.length < 2000) (hs : ∀ x ∈ xs, Shp x) : ∃ (w' : Dw) (ys : List D), F_law_shuffled [io w, .fr (.lst xs)] = .ok (.lst ys) [io w', .un] ∧ ys.Perm xs := by
  obtain ⟨w', ys, e, p⟩ := wSh_ok (.fr (.lst xs)) 3000 w xs [] (by omega) (by simp; omega) hs
  refine ⟨w', ys, ?_, by rw [List.nil_append] at p; exact p⟩
  refine (runF_rt (ρ := [io w', .fr (.lst xs), .ow (.lst []), .fr (.lst ys)]) rfl (sSeq_ok (ρ1 := shE (.fr (.lst xs)) w xs []) rfl (sSeq_ok (ρ1 := shE (.fr (.lst xs)) w' [] ys) e rfl))).trans rfl
theorem shuffled_at {w : Dw} {s : Sl} {ρ : PB.Env} {j : Nat} {xs : List D} (hs : HasW s w) (hj : ρ[j]? = some s) (h : xs.length < 2000) (hx : ∀ x ∈ xs, Shp x) : ∃ (ys : List D) (w' : Dw), callR F_law_shuffled [.s j, .v (.lst xs)] ρ = .ok (.lst ys) (ρ.set j (newW s w')) ∧ ys.Perm xs := by
  obtain ⟨w', ys, e, p⟩ := shuffled w xs h hx
  exact ⟨ys, w', callW (ds := [.lst xs]) hs hj e rfl, p⟩
end PB.Lk02
set_option maxRecDepth 100000
set_option maxHeartbeats 1000000
namespace PB.Lk02
open PySem PySem.Spec PyProof.Rows L2 PB
/-! ### terms that the sorter takes -/
abbrev srt (z m : Int) : D := .ins 4 ["size", "nodes"] [.int z, .int m]
abbrev sE (z m : Int) (pc nm : D) (at_ : List D) (dp : Int) (s5 s6 s7 s8 s9 s10 s11 : Sl) : PB.Env := [.io (srt z m), .fr pc, .fr nm, .fr (.tup at_), .fr (.int dp), s5, s6, s7, s8, s9, s10, s11]
def partD : D → D
  | .tup [_, x] => x
  | d => d
structure Head (z : Int) (pc nm : D) (s : Str) (P In W S : List D) (arm : Bool) : Prop where
  sh : ∀ dp : Int, dp ≤ 12 → F_is_shape [.fr (.int z), .fr nm, .fr pc, .fr (.int dp)] = .ok (.bl true) [.un, .un, .un, .un]
  nw : F_names_within [.fr pc, .fr nm] = .ok (.lst In) [.un, .un]
  wo : F_wanted_of [.fr pc, .fr nm] = .ok (.lst W) [.un, .un]
  po : F_parts_of [.fr pc] = .ok (.lst P) [.un]
  sb : F_sort_by [.fr pc, .fr (.lst S), .fr nm] = .ok (.str s) [.un, .un, .un]
  kd : ∃ k, fIxA pc (.int 0) = some k ∧ fEq k (.str "if") = some (.bl arm)
  wa : ∀ (k : Nat) (sk : D), S[k]? = some sk → ∃ wk, W[k]? = some wk ∧ fNinA sk wk = some (.bl false)
  if_ : arm = true → ∀ x y, S[2]? = some x → S[1]? = some y → fNe x y = some (.bl false)
  lp : F_law_parts [.fr pc] = .ok (.lst (P.map partD)) [.un]
mutual
inductive WT (z : Int) : List (Key × D) → Str → D → Nat → Nat → Prop
  | node {ps : List (Key × D)} {s : Str} {d : D} {P In W S : List D} {arm : Bool} {N h : Nat} : Head z d (dctOf ps) s P In W S arm → Kids z P In S N h → SH d (2 * h + 2) → WT z ps s d (N + 1) (h + 1)
inductive Kids (z : Int) : List D → List D → List D → Nat → Nat → Prop
  | nil {h : Nat} : Kids z [] [] [] 0 h
  | cons {ps : List (Key × D)} {s : Str} {d : D} {N h1 h M : Nat} {pl P In S : List D} : WT z ps s d N h1 → h1 ≤ h → pl.length ≤ 2 → Kids z P In S M h → Kids z (.tup [.tup pl, d] :: P) (dctOf ps :: In) (.str s :: S) (N + M) h
end
theorem WT.sh {z : Int} {ps : List (Key × D)} {s : Str} {d : D} {N h : Nat} (w : WT z ps s d N h) : SH d (2 * h) := by
  cases w with
  | node _ _ q => exact q.mono (by omega)
abbrev bK : D → PB.Env → Option PB.Env := bTup 2 (bCons (bName 8) (bCons (bTup 2 (bCons (bName 9) (bCons (bName 10) bNil))) bNil))
theorem getE_last {xs : List D} {d : D} : (xs ++ [d])[xs.length]? = some d := by simp
theorem kids_len {z : Int} : ∀ {P In S : List D} {M h : Nat}, Kids z P In S M h → P.length ≤ M
  | _, _, _, _, _, .nil => Nat.le_refl _
  | _, _, _, _, _, .cons (M := M) w _ _ k => by
    have := kids_len k
    cases w with
    | node _ _ _ =>
      rw [List.length_cons]
      omega
/-! ### nodes counted -/
section
variable {z : Int}
theorem kids_nodes (F : PB.Env → FR) (d0 : D) {B : Nat} : ∀ {P In S : List D} {M h : Nat}, Kids z P In S M h → M ≤ B → (∀ {ps : List (Key × D)} {s : Str} {d : D} {N h1 : Nat}, WT z ps s d N h1 → h1 ≤ h → N ≤ B → F [.fr d] = .ok (.int N) [.un]) → ∀ acc : List Int, acc.length + P.length < lim →
    ∃ ms : List Int, lcL [1] (bName 1) mYes (e_law_nodes_0 F) (P.map partD) (acc.map D.int) [.fr d0, .un] = .ok (.lst ((acc ++ ms).map D.int)) [.fr d0, .un] ∧ ms.sum = M
  | _, _, _, _, _, .nil, _, _, acc, _ => ⟨[], by rw [List.append_nil]; rfl, rfl⟩
  | _, _, _, _, _, .cons (d := d) (N := N) (M := M) (pl := pl) (P := P) w hh _ kids, hB, hF, acc, hl => by
    rw [List.length_cons] at hl
    obtain ⟨ms, e, em⟩ := kids_nodes F d0 kids (by omega) hF (acc ++ [(N : Int)]) (by rw [List.length_append, List.length_singleton]; omega)
    refine ⟨(N : Int) :: ms, ?_, by rw [List.sum_cons, em]; omega⟩
    have e1 : e_law_nodes_0 F [.fr d0, .fr d] = .ok (.int N) [.fr d0, .fr d] := callV1 (hF w hh (by omega))
    rw [List.map_cons]
    unfold lcL
    show (match e_law_nodes_0 F [.fr d0, .fr d] with
      | .ok y ρ3 => if (acc.map D.int).length < lim then lcL [1] (bName 1) mYes (e_law_nodes_0 F) (P.map partD) (acc.map D.int ++ [y]) (wipeE [1] ρ3) else .bad
      | _ => .bad) = _
    rw [e1]
    show (if (acc.map D.int).length < lim then lcL [1] (bName 1) mYes (e_law_nodes_0 F) (P.map partD) (acc.map D.int ++ [.int N]) [.fr d0, .un] else .bad) = _
    rw [if_pos (by rw [List.length_map]; omega)]
    rw [List.map_append] at e
    rw [show acc ++ (N : Int) :: ms = acc ++ [(N : Int)] ++ ms by rw [List.append_assoc]; rfl]
    exact e
theorem nodes_ok : ∀ (n : Nat) {ps : List (Key × D)} {s : Str} {d : D} {N h : Nat}, WT z ps s d N h → h ≤ n → N < 1000000 → G_law_nodes n [.fr d] = .ok (.int N) [.un]
  | 0, _, _, _, _, _, .node _ _ _, hn, _ => absurd hn (by omega)
  | n + 1, _, _, d, _, _, .node (P := P) (N := N) (h := h) hd kids _, hn, hN => by
    have hlen := kids_len kids
    obtain ⟨ms, e, em⟩ := kids_nodes (G_law_nodes n) d kids (Nat.le_refl _) (fun w' a b => nodes_ok n w' (by omega) (by omega)) [] (by show 0 + P.length < 16777216; omega)
    rw [List.nil_append] at e
    have c : (mCall F_law_parts (aV (rdV 0) aNil)) [.fr d, .un] = .ok (.lst (P.map partD)) [.fr d, .un] := callV1 hd.lp
    have e2 : (mFn fSum (mCons (mFrz (mLc [1] (bName 1) (mItems asAll (mCall F_law_parts (aV (rdV 0) aNil))) mYes (e_law_nodes_0 (G_law_nodes n)))) mNil)) [.fr d, .un] = .ok (.int N) [.fr d, .un] := mFn_ok (mCons_ok (mFrz_ok (mLc_ok (mItems_ok c rfl) e) rfl) rfl) (by
      show (intsD (ms.map D.int)).map (fun ns => D.int ns.sum) = _
      rw [intsD_ints]
      show some (D.int ms.sum) = _
      rw [em])
    have e3 : fAdd (.int 1) (.int N) = some (.int ((N + 1 : Nat) : Int)) := by
      rw [addR, show (1 : Int) + N = ((N + 1 : Nat) : Int) by omega]
    show runF [] 1 2 (m_law_nodes (G_law_nodes n)) [.fr d] = _
    exact (runF_rt (ρ := [.fr d, .un]) rfl (show m_law_nodes (G_law_nodes n) [.fr d, .un] = _ from sRet_ok (bin2_ok (x := .int 1) (ρ1 := [.fr d, .un]) rfl e2 e3))).trans rfl
end
section
variable {z : Int}
theorem step_ok {F : PB.Env → FR} {m m2 : Int} {pc nm d dn : D} {s : Str} {at_ pl In W S0 : List D} {dp : Int} {arm : Bool} {k : Nat} {s8 s9 s10 s11 : Sl} (hk : k = S0.length) (hF : F [.io (srt z m), .fr d, .fr dn, .fr (.tup (at_ ++ pl)), .fr (.int (dp + 1))] = .ok (.str s) [.io (srt z m2), .un, .un, .un, .un]) (hIn : In[k]? = some dn) (ha : at_.length + pl.length ≤ 1000) (hS : S0.length ≤ 1000)
    (kd : ∃ k, fIxA pc (.int 0) = some k ∧ fEq k (.str "if") = some (.bl arm)) (wa : ∃ wk, W[k]? = some wk ∧ fNinA (.str s) wk = some (.bl false)) (if_ : arm = true → k = 2 → ∀ y, S0[1]? = some y → fNe (.str s) y = some (.bl false)) :
    ∃ t11, b_Sorter_sort_at_0 F (sE z m pc nm at_ dp (.fr (.lst In)) (.fr (.lst W)) (.ow (.lst S0)) (.fr (.int k)) (.fr (.tup pl)) (.fr d) s11) = .ok .nx (sE z m2 pc nm at_ dp (.fr (.lst In)) (.fr (.lst W)) (.ow (.lst (S0 ++ [.str s]))) (.fr (.int k)) (.fr (.tup pl)) (.fr d) t11) := by
  obtain ⟨k0, ek, eif⟩ := kd
  obtain ⟨wk, ew, en⟩ := wa
  let ρ1 := sE z m pc nm at_ dp (.fr (.lst In)) (.fr (.lst W)) (.ow (.lst S0)) (.fr (.int k)) (.fr (.tup pl)) (.fr d) s11
  let ρ2 := sE z m2 pc nm at_ dp (.fr (.lst In)) (.fr (.lst W)) (.ow (.lst S0)) (.fr (.int k)) (.fr (.tup pl)) (.fr d) s11
  let ρ3 := sE z m2 pc nm at_ dp (.fr (.lst In)) (.fr (.lst W)) (.ow (.lst (S0 ++ [.str s]))) (.fr (.int k)) (.fr (.tup pl)) (.fr d) s11
  have c : callR F [.s 0, .v d, .v dn, .v (.tup (at_ ++ pl)), .v (.int (dp + 1))] ρ1 = .ok (.str s) ρ2 := callS (ds := [d, dn, .tup (at_ ++ pl), .int (dp + 1)]) (ρ := ρ1) (j := 0) rfl hF rfl
  have e5 : (bin2 fIxA (rdV 5) (rdV 8)) ρ1 = .ok dn ρ1 := bin2_ok rfl rfl (fIxA_lst (atI_nat hIn))
  have et : (mTup (mStar (rdV 3) (mStar (rdV 9) mNil))) ρ1 = .ok (.tup (at_ ++ pl)) ρ1 := by
    refine mTup_ok ?_ (by rw [List.length_append]; show _ ≤ 16777216; omega)
    have e9 : mStar (rdV 9) mNil ρ1 = .ok (pl ++ []) ρ1 := mStar_ok (d := .tup pl) (ρ1 := ρ1) rfl rfl rfl
    rw [List.append_nil] at e9
    exact mStar_ok (d := .tup at_) (ρ1 := ρ1) rfl rfl e9
  have ems : (aV (rdV 10) (aV (bin2 fIxA (rdV 5) (rdV 8)) (aV (mTup (mStar (rdV 3) (mStar (rdV 9) mNil))) (aV (bin2 fAdd (rdV 4) (rdC (.int 1))) aNil)))) ρ1 = .ok [.v d, .v dn, .v (.tup (at_ ++ pl)), .v (.int (dp + 1))] ρ1 :=
    aV_ok (ρ1 := ρ1) rfl (aV_ok e5 (aV_ok et (aV_ok (ρ1 := ρ1) (d := .int (dp + 1)) rfl rfl)))
  have em : (mMethS 4 "sort_at" F 0 (aV (rdV 10) (aV (bin2 fIxA (rdV 5) (rdV 8)) (aV (mTup (mStar (rdV 3) (mStar (rdV 9) mNil))) (aV (bin2 fAdd (rdV 4) (rdC (.int 1))) aNil))))) ρ1 = .ok (.str s) ρ2 := by
    show (if insOf 4 "sort_at" (srt z m) = true then ((aSV 0 _ ρ1).bind fun as ρ => callR F as ρ) else .bad) = _
    rw [if_pos (show insOf 4 "sort_at" (srt z m) = true from by kernel_rfl)]
    refine bind_ok (a := [.s 0, .v d, .v dn, .v (.tup (at_ ++ pl)), .v (.int (dp + 1))]) (ρ := ρ1) ?_ c
    exact bind_ok ems rfl
  have s0 : b_Sorter_sort_at_0_0 F ρ1 = .ok .nx ρ3 := sApp_ok (ρ1 := ρ2) (ys := S0) (xs := S0) rfl em rfl (by show S0.length < 16777216; omega)
  have e1 : (bin2 fEq (bin2 fIxA (rdV 1) (rdC (.int 0))) (rdC (.str "if"))) ρ3 = .ok (.bl arm) ρ3 := bin2_ok (bin2_ok rfl rfl ek) rfl eif
  have e2 : (bin2 fEq (rdV 8) (rdC (.int 2))) ρ3 = .ok (.bl ((k : Int) == 2)) ρ3 := bin2_ok rfl rfl rfl
  let b : Bool := if arm = true then ((k : Int) == 2) else false
  let ρ4 := sE z m2 pc nm at_ dp (.fr (.lst In)) (.fr (.lst W)) (.ow (.lst (S0 ++ [.str s]))) (.fr (.int k)) (.fr (.tup pl)) (.fr d) (.fr (.bl b))
  have s1 : b_Sorter_sort_at_0_1 F ρ3 = .ok .nx ρ4 := by
    refine sAsg_ok (d := .bl b) (ρ1 := ρ3) ?_ rfl
    unfold mAndV
    rw [e1]
    cases arm with
    | true => exact e2
    | false => rfl
  have n1 : (bin2 fNinA (mIxP 7 (m1 fNeg (rdC (.int 1)))) (bin2 fIxA (rdV 6) (rdV 8))) ρ4 = .ok (.bl false) ρ4 := bin2_ok (ρ1 := ρ4) (mIxO_ok (k := -1) (ys := S0 ++ [.str s]) (xs := S0 ++ [.str s]) rfl rfl rfl atI_last) (bin2_ok rfl rfl (fIxA_lst (atI_nat ew))) en
  have n2 : mAndB (mTru (rdV 11)) (mTru (bin2 fNe (mIxP 7 (rdC (.int 2))) (mIxP 7 (rdC (.int 1))))) ρ4 = .ok false ρ4 := by
    have t11 : mTru (rdV 11) ρ4 = .ok b ρ4 := rfl
    cases hb : b with
    | false =>
      rw [hb] at t11
      exact mAndB_f t11
    | true =>
      rw [hb] at t11
      refine mAndB_t t11 (mTru_ok ?_)
      have harm : arm = true := by
        cases q : arm with
        | true => rfl
        | false => simp [b, q] at hb
      have hk2 : k = 2 := by
        have : ((k : Int) == 2) = true := by simpa [b, harm] using hb
        have := eq_of_beq this
        omega
      have l2 : S0.length = 2 := by omega
      have g2 : (S0 ++ [.str s])[2]? = some (.str s) := by rw [← l2]; exact getE_last
      have l1 : 1 < S0.length := by omega
      have g1 : (S0 ++ [.str s])[1]? = some S0[1] := by rw [List.getElem?_append_left l1]; exact List.getElem?_eq_getElem l1
      exact bin2_ok (ρ1 := ρ4) (mIxO_ok (k := 2) (ys := S0 ++ [.str s]) (xs := S0 ++ [.str s]) rfl rfl rfl (atI_nat g2)) (mIxO_ok (k := 1) (ys := S0 ++ [.str s]) (xs := S0 ++ [.str s]) rfl rfl rfl (atI_nat g1)) (if_ harm hk2 _ (List.getElem?_eq_getElem l1))
  exact ⟨.fr (.bl b), sSeq_ok s0 (sSeq_ok s1 (sIf_f (mOrB_f (mTru_ok n1) n2) rfl))⟩
mutual
theorem sorter_ok {ps : List (Key × D)} {s : Str} {d : D} {N h : Nat} : WT z ps s d N h → ∀ (n : Nat) (m : Int) (at_ : List D) (dp : Int), h ≤ n → 0 ≤ m → m + N ≤ 60 → dp + h ≤ 13 → at_.length + 2 * h ≤ 100 →
    G_Sorter_sort_at n [.io (srt z m), .fr d, .fr (dctOf ps), .fr (.tup at_), .fr (.int dp)] = .ok (.str s) [.io (srt z (m + N)), .un, .un, .un, .un]
  | .node (P := P) (In := In) (W := W) (S := S) (arm := arm) (N := N) (h := h) hd kids _, n, m, at_, dp, hn, h0, hm, hdp, hat => by
    cases n with
    | zero => omega
    | succ n =>
      obtain ⟨t8, t9, t10, t11, el⟩ := kids_ok kids n (m + 1) at_ dp d (dctOf ps) W arm [] [] rfl (by omega) (by omega) (by omega) (by omega) (by omega) (by have := kids_len kids; show 0 + _ ≤ 200; omega) hd.kd hd.wa hd.if_ .un .un .un .un
      rw [List.nil_append, List.nil_append] at el
      let u : Sl := .un
      have s0 : a_Sorter_sort_at_0 (G_Sorter_sort_at n) (sE z m d (dctOf ps) at_ dp u u u u u u u) = .ok .nx (sE z (m + 1) d (dctOf ps) at_ dp u u u u u u u) := by kernel_rfl
      have s1 : a_Sorter_sort_at_1 (G_Sorter_sort_at n) (sE z (m + 1) d (dctOf ps) at_ dp u u u u u u u) = .ok .nx (sE z (m + 1) d (dctOf ps) at_ dp u u u u u u u) := by
        have t1 : mTru (bin2 fGt (mFldA tx.fin "nodes" 0) (rdC k_MOST_NODES)) (sE z (m + 1) d (dctOf ps) at_ dp u u u u u u u) = .ok (decide ((60 : Int) < m + 1)) (sE z (m + 1) d (dctOf ps) at_ dp u u u u u u u) := by kernel_rfl
        rw [decide_eq_false (by omega)] at t1
        have c0 : callR F_is_shape [.v (.int z), .v (dctOf ps), .v d, .v (.int dp)] (sE z (m + 1) d (dctOf ps) at_ dp u u u u u u u) = .ok (.bl true) (sE z (m + 1) d (dctOf ps) at_ dp u u u u u u u) := callV (ds := [.int z, dctOf ps, d, .int dp]) (hd.sh dp (by omega)) rfl
        have ea : (aV (mFldA tx.fin "size" 0) (aV (rdV 2) (aV (rdV 1) (aV (rdV 4) aNil)))) (sE z (m + 1) d (dctOf ps) at_ dp u u u u u u u) = .ok [.v (.int z), .v (dctOf ps), .v d, .v (.int dp)] (sE z (m + 1) d (dctOf ps) at_ dp u u u u u u u) := by kernel_rfl
        exact sIf_f (mOrB_f t1 (mNotB_ok (b := true) (mTru_ok (mCall_ok ea c0)))) rfl
      have s2 : a_Sorter_sort_at_2 (G_Sorter_sort_at n) (sE z (m + 1) d (dctOf ps) at_ dp u u u u u u u) = .ok .nx (sE z (m + 1) d (dctOf ps) at_ dp (.fr (.lst In)) (.fr (.lst W)) (.ow (.lst [])) u u u u) := by
        have c1 : (mCall F_names_within (aV (rdV 1) (aV (rdV 2) aNil))) (sE z (m + 1) d (dctOf ps) at_ dp u u u u u u u) = .ok (.lst In) (sE z (m + 1) d (dctOf ps) at_ dp u u u u u u u) := callV2 hd.nw
        have c2 : (mCall F_wanted_of (aV (rdV 1) (aV (rdV 2) aNil))) (sE z (m + 1) d (dctOf ps) at_ dp u u u u u u u) = .ok (.lst W) (sE z (m + 1) d (dctOf ps) at_ dp u u u u u u u) := callV2 hd.wo
        have e : (pV (mCall F_names_within (aV (rdV 1) (aV (rdV 2) aNil))) (pV (mCall F_wanted_of (aV (rdV 1) (aV (rdV 2) aNil))) (pO (mLst mNil) pNil))) (sE z (m + 1) d (dctOf ps) at_ dp u u u u u u u) = .ok [(false, .lst In), (false, .lst W), (true, .lst [])] (sE z (m + 1) d (dctOf ps) at_ dp u u u u u u u) := bind_ok c1 (bind_ok (bind_ok c2 rfl) rfl)
        exact bind_ok e rfl
      have s3 : a_Sorter_sort_at_3 (G_Sorter_sort_at n) (sE z (m + 1) d (dctOf ps) at_ dp (.fr (.lst In)) (.fr (.lst W)) (.ow (.lst [])) u u u u) = .ok .nx (sE z (m + 1 + N) d (dctOf ps) at_ dp (.fr (.lst In)) (.fr (.lst W)) (.ow (.lst S)) t8 t9 t10 t11) := by
        have c1 : (mCall F_parts_of (aV (rdV 1) aNil)) (sE z (m + 1) d (dctOf ps) at_ dp (.fr (.lst In)) (.fr (.lst W)) (.ow (.lst [])) u u u u) = .ok (.lst P) (sE z (m + 1) d (dctOf ps) at_ dp (.fr (.lst In)) (.fr (.lst W)) (.ow (.lst [])) u u u u) := callV1 hd.po
        exact sFor_ok (xs := enD 0 P) (mItemsL_ok (mCons_ok c1 rfl) rfl) el
      have s4 : a_Sorter_sort_at_4 (G_Sorter_sort_at n) (sE z (m + 1 + N) d (dctOf ps) at_ dp (.fr (.lst In)) (.fr (.lst W)) (.ow (.lst S)) t8 t9 t10 t11) = .ok (.rt (.str s)) (sE z (m + 1 + N) d (dctOf ps) at_ dp (.fr (.lst In)) (.fr (.lst W)) (.fr (.lst S)) t8 t9 t10 t11) := by
        have c1 : callR F_sort_by [.v d, .v (.lst S), .v (dctOf ps)] (sE z (m + 1 + N) d (dctOf ps) at_ dp (.fr (.lst In)) (.fr (.lst W)) (.fr (.lst S)) t8 t9 t10 t11) = .ok (.str s) (sE z (m + 1 + N) d (dctOf ps) at_ dp (.fr (.lst In)) (.fr (.lst W)) (.fr (.lst S)) t8 t9 t10 t11) := callV3 hd.sb
        exact sRet_ok (mCall_ok (ρ1 := sE z (m + 1 + N) d (dctOf ps) at_ dp (.fr (.lst In)) (.fr (.lst W)) (.fr (.lst S)) t8 t9 t10 t11) (as := [.v d, .v (.lst S), .v (dctOf ps)]) rfl c1)
      have e9 : m + ((N + 1 : Nat) : Int) = m + 1 + N := by omega
      rw [e9]
      show runF [0] 5 12 (m_Sorter_sort_at (G_Sorter_sort_at n)) [.io (srt z m), .fr d, .fr (dctOf ps), .fr (.tup at_), .fr (.int dp)] = _
      exact (runF_rt (ρ := sE z (m + 1 + N) d (dctOf ps) at_ dp (.fr (.lst In)) (.fr (.lst W)) (.fr (.lst S)) t8 t9 t10 t11) rfl (show m_Sorter_sort_at (G_Sorter_sort_at n) (sE z m d (dctOf ps) at_ dp u u u u u u u) = _ from sSeq_ok s0 (sSeq_ok s1 (sSeq_ok s2 (sSeq_ok s3 s4))))).trans rfl
theorem kids_ok {P In S : List D} {M h : Nat} : Kids z P In S M h → ∀ (n : Nat) (m : Int) (at_ : List D) (dp : Int) (pc nm : D) (W : List D) (arm : Bool) (In0 S0 : List D), In0.length = S0.length → h ≤ n → 0 ≤ m → m + M ≤ 60 → dp + h ≤ 12 → at_.length + 2 * h + 2 ≤ 100 → S0.length + P.length ≤ 200 →
    (∃ k, fIxA pc (.int 0) = some k ∧ fEq k (.str "if") = some (.bl arm)) → (∀ (k : Nat) (sk : D), (S0 ++ S)[k]? = some sk → ∃ wk, W[k]? = some wk ∧ fNinA sk wk = some (.bl false)) → (arm = true → ∀ x y, (S0 ++ S)[2]? = some x → (S0 ++ S)[1]? = some y → fNe x y = some (.bl false)) →
    ∀ s8 s9 s10 s11 : Sl, ∃ t8 t9 t10 t11, forL bK (b_Sorter_sort_at_0 (G_Sorter_sort_at n)) (enD S0.length P) (sE z m pc nm at_ dp (.fr (.lst (In0 ++ In))) (.fr (.lst W)) (.ow (.lst S0)) s8 s9 s10 s11) = .ok .nx (sE z (m + M) pc nm at_ dp (.fr (.lst (In0 ++ In))) (.fr (.lst W)) (.ow (.lst (S0 ++ S))) t8 t9 t10 t11)
  | .nil, n, m, at_, dp, pc, nm, W, arm, In0, S0, _, _, _, _, _, _, _, _, _, _, s8, s9, s10, s11 => ⟨s8, s9, s10, s11, by
    rw [List.append_nil, List.append_nil, show m + ((0 : Nat) : Int) = m by omega]
    rfl⟩
  | .cons (ps := ps) (s := s) (d := d) (N := N) (h1 := h1) (M := M) (pl := pl) (P := P) (In := In) (S := S) w hh hpl kids, n, m, at_, dp, pc, nm, W, arm, In0, S0, hl, hn, h0, hm, hdp, hat, h3, kd, wa, if_, s8, s9, s10, s11 => by
    rw [List.length_cons] at h3
    have gIn : (In0 ++ dctOf ps :: In)[S0.length]? = some (dctOf ps) := by rw [← hl]; simp
    have gS : (S0 ++ .str s :: S)[S0.length]? = some (.str s) := by simp
    obtain ⟨t11, e⟩ := step_ok (F := G_Sorter_sort_at n) (m := m) (m2 := m + N) (pc := pc) (nm := nm) (d := d) (dn := dctOf ps) (s := s) (at_ := at_) (pl := pl) (In := In0 ++ dctOf ps :: In) (W := W) (S0 := S0) (dp := dp) (arm := arm) (k := S0.length) (s8 := s8) (s9 := s9) (s10 := s10) (s11 := s11) rfl
      (sorter_ok w n m (at_ ++ pl) (dp + 1) (by omega) h0 (by omega) (by omega) (by rw [List.length_append]; omega)) gIn (by omega) (by omega) kd (wa _ _ gS) (fun ha h2 y hy => if_ ha _ _ (by rw [← h2]; exact gS) (by rw [List.getElem?_append_left (by omega)]; exact hy))
    obtain ⟨u8, u9, u10, u11, e2⟩ := kids_ok kids n (m + N) at_ dp pc nm W arm (In0 ++ [dctOf ps]) (S0 ++ [.str s]) (by simp [hl]) (by omega) (by omega) (by omega) (by omega) (by omega) (by rw [List.length_append, List.length_singleton]; omega) kd (by rw [List.append_assoc]; exact wa) (by rw [List.append_assoc]; exact if_) (.fr (.int S0.length)) (.fr (.tup pl)) (.fr d) t11
    rw [List.append_assoc, List.append_assoc, List.length_append, List.length_singleton] at e2
    refine ⟨u8, u9, u10, u11, ?_⟩
    rw [show m + ((N + M : Nat) : Int) = m + N + M by omega]
    show (match b_Sorter_sort_at_0 (G_Sorter_sort_at n) (sE z m pc nm at_ dp (.fr (.lst (In0 ++ dctOf ps :: In))) (.fr (.lst W)) (.ow (.lst S0)) (.fr (.int S0.length)) (.fr (.tup pl)) (.fr d) s11) with
      | .ok .nx ρ2 => forL bK (b_Sorter_sort_at_0 (G_Sorter_sort_at n)) (enD (S0.length + 1) P) ρ2
      | .ok .ct ρ2 => forL bK (b_Sorter_sort_at_0 (G_Sorter_sort_at n)) (enD (S0.length + 1) P) ρ2
      | .ok .bk ρ2 => .ok .nx ρ2
      | r => r) = _
    rw [e]
    exact e2
end
end
end PB.Lk02
set_option maxRecDepth 100000
set_option maxHeartbeats 1000000
namespace PB.Lk02
open PySem PySem.Spec PyProof.Rows L2 PB
/-! ### the forms of a term -/
theorem between_ok {k lo hi : Int} (h1 : lo ≤ k) (h2 : k ≤ hi) : F_is_between [.fr (.int k), .fr (.int lo), .fr (.int hi)] = .ok (.bl true) [.un, .un, .un] := by
  have e1 : (mCall F_is_number (aV (rdV 0) aNil)) [.fr (.int k), .fr (.int lo), .fr (.int hi)] = .ok (.bl true) [.fr (.int k), .fr (.int lo), .fr (.int hi)] := by kernel_rfl
  exact (runF_rt (ρ := [.fr (.int k), .fr (.int lo), .fr (.int hi)]) rfl (show m_is_between [.fr (.int k), .fr (.int lo), .fr (.int hi)] = _ from sRet_ok (mAndV_t (d := .bl true) e1 rfl (mChain_t (x := .int lo) (y := .int k) (z := .int hi) (ρ1 := [.fr (.int k), .fr (.int lo), .fr (.int hi)]) (ρ2 := [.fr (.int k), .fr (.int lo), .fr (.int hi)]) (ρ3 := [.fr (.int k), .fr (.int lo), .fr (.int hi)]) rfl rfl (fLe_t h1) rfl (fLe_t h2))))).trans rfl
/-- a piece that begins with a word and has such parts -/
abbrev pcE (z : Int) (nm pc : D) (dp : Int) : PB.Env := [.fr (.int z), .fr nm, .fr pc, .fr (.int dp)]
theorem shape0 (z : Int) (nm : D) {k : Str} {xs : List D} {dp : Int} (hd : dp ≤ 12) (hs : Shp (.tup (.str k :: xs))) : a_is_shape_0 (pcE z nm (.tup (.str k :: xs)) dp) = .ok .nx (pcE z nm (.tup (.str k :: xs)) dp) := by
  have e0 : (bin2 fIxA (rdV 2) (rdC (.int 0))) (pcE z nm (.tup (.str k :: xs)) dp) = .ok (.str k) (pcE z nm (.tup (.str k :: xs)) dp) := bin2_ok rfl rfl (fIxA_tup (atI_nat (k := 0) rfl))
  have e1 : (mFn (fIsi isF exF tx.inB) (mCons (bin2 fIxA (rdV 2) (rdC (.int 0))) (mCons (rdC (.ty "str")) mNil))) (pcE z nm (.tup (.str k :: xs)) dp) = .ok (.bl true) (pcE z nm (.tup (.str k :: xs)) dp) := mFn_ok (mCons_ok e0 (mCons_ok (x := .ty "str") (xs := []) (ρ1 := pcE z nm (.tup (.str k :: xs)) dp) (ρ2 := pcE z nm (.tup (.str k :: xs)) dp) rfl rfl)) (by kernel_rfl)
  refine sIf_f (mOrB_f (ρ1 := pcE z nm (.tup (.str k :: xs)) dp) ?_ (mOrB_f (ρ1 := pcE z nm (.tup (.str k :: xs)) dp) (by kernel_rfl) (mOrB_f (mTru_ok (bin2_ok (ρ2 := pcE z nm (.tup (.str k :: xs)) dp) rfl rfl (eq_unit hs))) (mNotB_ok (mTru_ok e1))))) rfl
  refine Eq.trans (b := .ok (decide ((12 : Int) < dp)) (pcE z nm (.tup (.str k :: xs)) dp)) (by kernel_rfl) ?_
  rw [decide_eq_false (by omega)]
def restS : M Fl := sSeq a_is_shape_1 (sSeq a_is_shape_2 (sSeq a_is_shape_3 (sSeq a_is_shape_4 (sSeq a_is_shape_5 (sSeq a_is_shape_6 a_is_shape_7)))))
theorem shape_ok {z : Int} {nm : D} {k : Str} {xs : List D} {dp : Int} (hd : dp ≤ 12) (hs : Shp (.tup (.str k :: xs))) (hr : restS (pcE z nm (.tup (.str k :: xs)) dp) = .ok (.rt (.bl true)) (pcE z nm (.tup (.str k :: xs)) dp)) :
    F_is_shape (pcE z nm (.tup (.str k :: xs)) dp) = .ok (.bl true) [.un, .un, .un, .un] :=
  (runF_rt (ρ := pcE z nm (.tup (.str k :: xs)) dp) rfl (sSeq_ok (shape0 z nm hd hs) hr)).trans rfl
def two (s : Str) : Prop := s = "num" ∨ s = "do"
section
variable {z : Int} {ps : List (Key × D)}
theorem no_wa {W : List D} : ∀ (k : Nat) (sk : D), ([] : List D)[k]? = some sk → ∃ wk, W[k]? = some wk ∧ fNinA sk wk = some (.bl false) := fun k sk h => by simp at h
theorem no_if {S : List D} (arm : Bool) (h : arm = false) : arm = true → ∀ x y, S[2]? = some x → S[1]? = some y → fNe x y = some (.bl false) := fun e => by rw [h] at e; cases e
theorem wa_cons {S W : List D} {s w : D} (h : fNinA s w = some (.bl false)) (hs : ∀ (k : Nat) (sk : D), S[k]? = some sk → ∃ wk, W[k]? = some wk ∧ fNinA sk wk = some (.bl false)) : ∀ (k : Nat) (sk : D), (s :: S)[k]? = some sk → ∃ wk, (w :: W)[k]? = some wk ∧ fNinA sk wk = some (.bl false)
  | 0, sk, e => by cases e; exact ⟨w, rfl, h⟩
  | k + 1, sk, e => hs k sk e
theorem sh1 {k : Str} {b : Nat} (hk : (PyData.str k).canLay0 = true) {xs : List D} (h : ∀ x ∈ xs, SH x b) : SH (.tup (.str k :: xs)) (b + 1) := SH.tup fun x hx => (List.mem_cons.mp hx).elim (fun e => by rw [e]; exact SH.str hk b) (h x)
abbrev one (k : Int) (x : D) : D := .tup [.tup [.int k], x]
theorem wt_number {k : Int} (h1 : 0 ≤ k) (h2 : k < z) : WT z ps "num" (.tup [.str "number", .int k]) 1 1 := by
  have hs : SH (.tup [.str "number", .int k]) 1 := sh1 (by kernel_rfl) fun x hx => by rw [List.mem_singleton.mp hx]; exact SH.int k 0
  refine .node (P := []) (In := []) (W := []) (S := []) (arm := false) ⟨fun dp hd => shape_ok hd (hs.shp (by decide)) ?_, by kernel_rfl, by kernel_rfl, by kernel_rfl, by kernel_rfl, ⟨.str "number", rfl, by kernel_rfl⟩, no_wa, no_if _ rfl, by kernel_rfl⟩ .nil (hs.mono (by omega))
  refine sSeq_ok (ρ1 := pcE z (dctOf ps) (.tup [.str "number", .int k]) dp) (by kernel_rfl) (sSeq_rt (sIf_rt (ρ1 := pcE z (dctOf ps) (.tup [.str "number", .int k]) dp) (by kernel_rfl) ?_))
  exact mCall_ok (ρ1 := pcE z (dctOf ps) (.tup [.str "number", .int k]) dp) (as := [.v (.int k), .v (.int 0), .v (.int (z - 1))]) (by kernel_rfl) (callV3 (between_ok h1 (by omega)))
theorem wt_skip : WT z ps "do" (.tup [.str "skip"]) 1 1 := by
  have hs : SH (.tup [.str "skip"]) 1 := sh1 (by kernel_rfl) fun x hx => nomatch hx
  exact .node (P := []) (In := []) (W := []) (S := []) (arm := false) ⟨fun dp hd => shape_ok hd (hs.shp (by decide)) (by kernel_rfl), by kernel_rfl, by kernel_rfl, by kernel_rfl, by kernel_rfl, ⟨.str "skip", rfl, by kernel_rfl⟩, no_wa, no_if _ rfl, by kernel_rfl⟩ .nil (hs.mono (by omega))
theorem wt_never : WT z ps "do" (.tup [.str "never", .str "do"]) 1 1 := by
  have hs : SH (.tup [.str "never", .str "do"]) 1 := sh1 (by kernel_rfl) fun x hx => by rw [List.mem_singleton.mp hx]; exact SH.str (by kernel_rfl) 0
  exact .node (P := []) (In := []) (W := []) (S := []) (arm := false) ⟨fun dp hd => shape_ok hd (hs.shp (by decide)) (by kernel_rfl), by kernel_rfl, by kernel_rfl, by kernel_rfl, by kernel_rfl, ⟨.str "never", rfl, by kernel_rfl⟩, no_wa, no_if _ rfl, by kernel_rfl⟩ .nil (hs.mono (by omega))
variable {x y : D} {N M h1 h2 h : Nat} {s t : Str}
theorem kid1 {k : Int} (w : WT z ps s x N h) : Kids z [one k x] [dctOf ps] [.str s] (N + 0) h := .cons w (Nat.le_refl _) (by show 1 ≤ 2; decide) .nil
theorem sh_one {k : Str} (hk : (PyData.str k).canLay0 = true) (w : WT z ps s x N h) : SH (.tup [.str k, x]) (2 * h + 1) := sh1 hk fun y hy => by rw [List.mem_singleton.mp hy]; exact w.sh
theorem wt_not (w : WT z ps "num" x N h) (hh : h ≤ 20) : WT z ps "num" (.tup [.str "not", x]) (N + 1) (h + 1) := by
  have hs := sh_one (k := "not") (by kernel_rfl) w
  exact .node (P := [one 1 x]) (In := [dctOf ps]) (W := [.tup [.str "num"]]) (S := [.str "num"]) (arm := false) ⟨fun dp hd => shape_ok hd (hs.shp (by omega)) (by kernel_rfl), by kernel_rfl, by kernel_rfl, by kernel_rfl, by kernel_rfl, ⟨.str "not", rfl, by kernel_rfl⟩, wa_cons (by kernel_rfl) no_wa, no_if _ rfl, by kernel_rfl⟩ (kid1 w) (hs.mono (by omega))
theorem wt_claim (w : WT z ps "num" x N h) (hh : h ≤ 20) : WT z ps "do" (.tup [.str "claim", x]) (N + 1) (h + 1) := by
  have hs := sh_one (k := "claim") (by kernel_rfl) w
  exact .node (P := [one 1 x]) (In := [dctOf ps]) (W := [.tup [.str "num"]]) (S := [.str "num"]) (arm := false) ⟨fun dp hd => shape_ok hd (hs.shp (by omega)) (by kernel_rfl), by kernel_rfl, by kernel_rfl, by kernel_rfl, by kernel_rfl, ⟨.str "claim", rfl, by kernel_rfl⟩, wa_cons (by kernel_rfl) no_wa, no_if _ rfl, by kernel_rfl⟩ (kid1 w) (hs.mono (by omega))
theorem wt_get (w : WT z ps "box" x N h) (hh : h ≤ 20) : WT z ps "num" (.tup [.str "get", x]) (N + 1) (h + 1) := by
  have hs := sh_one (k := "get") (by kernel_rfl) w
  exact .node (P := [one 1 x]) (In := [dctOf ps]) (W := [.tup [.str "box"]]) (S := [.str "box"]) (arm := false) ⟨fun dp hd => shape_ok hd (hs.shp (by omega)) (by kernel_rfl), by kernel_rfl, by kernel_rfl, by kernel_rfl, by kernel_rfl, ⟨.str "get", rfl, by kernel_rfl⟩, wa_cons (by kernel_rfl) no_wa, no_if _ rfl, by kernel_rfl⟩ (kid1 w) (hs.mono (by omega))
theorem kid2 {k l : Int} (w : WT z ps s x N h1) (u : WT z ps t y M h2) (a : h1 ≤ h) (b : h2 ≤ h) : Kids z [one k x, one l y] [dctOf ps, dctOf ps] [.str s, .str t] (N + (M + 0)) h := .cons w a (by show 1 ≤ 2; decide) (.cons u b (by show 1 ≤ 2; decide) .nil)
theorem sh_two {k : Str} (hk : (PyData.str k).canLay0 = true) (w : WT z ps s x N h1) (u : WT z ps t y M h2) (a : h1 ≤ h) (b : h2 ≤ h) : SH (.tup [.str k, x, y]) (2 * h + 1) := sh1 hk fun v hv => by
  rcases (by simpa using hv : v = x ∨ v = y) with e | e
  · rw [e]; exact w.sh.mono (by omega)
  · rw [e]; exact u.sh.mono (by omega)
theorem wt_while (w : WT z ps "num" x N h1) (u : WT z ps "do" y M h2) (a : h1 ≤ h) (b : h2 ≤ h) (hh : h ≤ 20) : WT z ps "do" (.tup [.str "while", x, y]) (N + (M + 0) + 1) (h + 1) := by
  have hs := sh_two (k := "while") (by kernel_rfl) w u a b
  exact .node (P := [one 1 x, one 2 y]) (In := [dctOf ps, dctOf ps]) (W := [.tup [.str "num"], .tup [.str "do"]]) (S := [.str "num", .str "do"]) (arm := false) ⟨fun dp hd => shape_ok hd (hs.shp (by omega)) (by kernel_rfl), by kernel_rfl, by kernel_rfl, by kernel_rfl, by kernel_rfl, ⟨.str "while", rfl, by kernel_rfl⟩, wa_cons (by kernel_rfl) (wa_cons (by kernel_rfl) no_wa), no_if _ rfl, by kernel_rfl⟩ (kid2 w u a b) (hs.mono (by omega))
theorem wt_set (w : WT z ps "box" x N h1) (u : WT z ps "num" y M h2) (a : h1 ≤ h) (b : h2 ≤ h) (hh : h ≤ 20) : WT z ps "do" (.tup [.str "set", x, y]) (N + (M + 0) + 1) (h + 1) := by
  have hs := sh_two (k := "set") (by kernel_rfl) w u a b
  exact .node (P := [one 1 x, one 2 y]) (In := [dctOf ps, dctOf ps]) (W := [.tup [.str "box"], .tup [.str "num"]]) (S := [.str "box", .str "num"]) (arm := false) ⟨fun dp hd => shape_ok hd (hs.shp (by omega)) (by kernel_rfl), by kernel_rfl, by kernel_rfl, by kernel_rfl, by kernel_rfl, ⟨.str "set", rfl, by kernel_rfl⟩, wa_cons (by kernel_rfl) (wa_cons (by kernel_rfl) no_wa), no_if _ rfl, by kernel_rfl⟩ (kid2 w u a b) (hs.mono (by omega))
def sums : List Str := ["sum", "less", "same", "below"]
theorem wt_sum {k : Str} (hk : k ∈ sums) (w : WT z ps "num" x N h1) (u : WT z ps "num" y M h2) (a : h1 ≤ h) (b : h2 ≤ h) (hh : h ≤ 20) : WT z ps "num" (.tup [.str k, x, y]) (N + (M + 0) + 1) (h + 1) := by
  unfold sums at hk
  simp only [List.mem_cons, List.not_mem_nil, or_false] at hk
  rcases hk with e | e | e | e
  · subst e
    have hs := sh_two (k := "sum") (by kernel_rfl) w u a b
    exact .node (P := [one 1 x, one 2 y]) (In := [dctOf ps, dctOf ps]) (W := [.tup [.str "num"], .tup [.str "num"]]) (S := [.str "num", .str "num"]) (arm := false) ⟨fun dp hd => shape_ok hd (hs.shp (by omega)) (by kernel_rfl), by kernel_rfl, by kernel_rfl, by kernel_rfl, by kernel_rfl, ⟨.str "sum", rfl, by kernel_rfl⟩, wa_cons (by kernel_rfl) (wa_cons (by kernel_rfl) no_wa), no_if _ rfl, by kernel_rfl⟩ (kid2 w u a b) (hs.mono (by omega))
  · subst e
    have hs := sh_two (k := "less") (by kernel_rfl) w u a b
    exact .node (P := [one 1 x, one 2 y]) (In := [dctOf ps, dctOf ps]) (W := [.tup [.str "num"], .tup [.str "num"]]) (S := [.str "num", .str "num"]) (arm := false) ⟨fun dp hd => shape_ok hd (hs.shp (by omega)) (by kernel_rfl), by kernel_rfl, by kernel_rfl, by kernel_rfl, by kernel_rfl, ⟨.str "less", rfl, by kernel_rfl⟩, wa_cons (by kernel_rfl) (wa_cons (by kernel_rfl) no_wa), no_if _ rfl, by kernel_rfl⟩ (kid2 w u a b) (hs.mono (by omega))
  · subst e
    have hs := sh_two (k := "same") (by kernel_rfl) w u a b
    exact .node (P := [one 1 x, one 2 y]) (In := [dctOf ps, dctOf ps]) (W := [.tup [.str "num"], .tup [.str "num"]]) (S := [.str "num", .str "num"]) (arm := false) ⟨fun dp hd => shape_ok hd (hs.shp (by omega)) (by kernel_rfl), by kernel_rfl, by kernel_rfl, by kernel_rfl, by kernel_rfl, ⟨.str "same", rfl, by kernel_rfl⟩, wa_cons (by kernel_rfl) (wa_cons (by kernel_rfl) no_wa), no_if _ rfl, by kernel_rfl⟩ (kid2 w u a b) (hs.mono (by omega))
  · subst e
    have hs := sh_two (k := "below") (by kernel_rfl) w u a b
    exact .node (P := [one 1 x, one 2 y]) (In := [dctOf ps, dctOf ps]) (W := [.tup [.str "num"], .tup [.str "num"]]) (S := [.str "num", .str "num"]) (arm := false) ⟨fun dp hd => shape_ok hd (hs.shp (by omega)) (by kernel_rfl), by kernel_rfl, by kernel_rfl, by kernel_rfl, by kernel_rfl, ⟨.str "below", rfl, by kernel_rfl⟩, wa_cons (by kernel_rfl) (wa_cons (by kernel_rfl) no_wa), no_if _ rfl, by kernel_rfl⟩ (kid2 w u a b) (hs.mono (by omega))
abbrev nd : D := .tup [.str "num", .str "do"]
theorem two_in (hs : two s) : fNinA (.str s) nd = some (.bl false) := by
  rcases hs with e | e <;> (subst e; kernel_rfl)
theorem two_ne (hs : two s) : fNe (.str s) (.str s) = some (.bl false) := by
  rcases hs with e | e <;> (subst e; kernel_rfl)
theorem wt_then (ht : two t) (w : WT z ps "do" x N h1) (u : WT z ps t y M h2) (a : h1 ≤ h) (b : h2 ≤ h) (hh : h ≤ 20) : WT z ps t (.tup [.str "then", x, y]) (N + (M + 0) + 1) (h + 1) := by
  have hs := sh_two (k := "then") (by kernel_rfl) w u a b
  exact .node (P := [one 1 x, one 2 y]) (In := [dctOf ps, dctOf ps]) (W := [.tup [.str "do"], nd]) (S := [.str "do", .str t]) (arm := false) ⟨fun dp hd => shape_ok hd (hs.shp (by omega)) (by kernel_rfl), by kernel_rfl, by kernel_rfl, by kernel_rfl, by kernel_rfl, ⟨.str "then", rfl, by kernel_rfl⟩, wa_cons (by kernel_rfl) (wa_cons (two_in ht) no_wa), no_if _ rfl, by kernel_rfl⟩ (kid2 w u a b) (hs.mono (by omega))
theorem wt_if {v : D} {L h3 : Nat} (ht : two t) (w : WT z ps "num" x N h1) (u : WT z ps t y M h2) (r : WT z ps t v L h3) (a : h1 ≤ h) (b : h2 ≤ h) (c : h3 ≤ h) (hh : h ≤ 20) : WT z ps t (.tup [.str "if", x, y, v]) (N + (M + (L + 0)) + 1) (h + 1) := by
  have hs : SH (.tup [.str "if", x, y, v]) (2 * h + 1) := sh1 (by kernel_rfl) fun q hq => by
    rcases (by simpa using hq : q = x ∨ q = y ∨ q = v) with e | e | e
    · rw [e]; exact w.sh.mono (by omega)
    · rw [e]; exact u.sh.mono (by omega)
    · rw [e]; exact r.sh.mono (by omega)
  refine .node (P := [one 1 x, one 2 y, one 3 v]) (In := [dctOf ps, dctOf ps, dctOf ps]) (W := [.tup [.str "num"], nd, nd]) (S := [.str "num", .str t, .str t]) (arm := true) ⟨fun dp hd => shape_ok hd (hs.shp (by omega)) (by kernel_rfl), by kernel_rfl, by kernel_rfl, by kernel_rfl, by kernel_rfl, ⟨.str "if", rfl, by kernel_rfl⟩, wa_cons (by kernel_rfl) (wa_cons (two_in ht) (wa_cons (two_in ht) no_wa)), fun _ p q e1 e2 => ?_, by kernel_rfl⟩ (.cons w a (by show 1 ≤ 2; decide) (.cons u b (by show 1 ≤ 2; decide) (.cons r c (by show 1 ≤ 2; decide) .nil))) (hs.mono (by omega))
  cases e1
  cases e2
  exact two_ne ht
/-! ### boxes made -/
def okW (w : Str) : Prop := F_is_word [.fr (.str w)] = .ok (.bl true) [.un] ∧ (PyData.str w).canLay0 = true
abbrev boxD : D := .tup [.tup [], .str "box"]
abbrev numD : D := .tup [.tup [], .str "num"]
theorem wt_made {w : Str} (hw : okW w) (hl : ps.length ≤ 1000) (hn : (ps.map (·.1)).Nodup) (p : WT z ps "num" x N h1) (q : WT z (putKD ps (.inr w) numD) "do" y M h2) (a : h1 ≤ h) (b : h2 ≤ h) (hh : h ≤ 20) : WT z ps "box" (.tup [.str "made", x, .str w, y]) (N + (M + 0) + 1) (h + 1) := by
  have hs : SH (.tup [.str "made", x, .str w, y]) (2 * h + 1) := sh1 (by kernel_rfl) fun v hv => by
    rcases (by simpa using hv : v = x ∨ v = .str w ∨ v = y) with e | e | e
    · rw [e]; exact p.sh.mono (by omega)
    · rw [e]; exact SH.str hw.2 _
    · rw [e]; exact q.sh.mono (by omega)
  refine .node (P := [one 1 x, one 3 y]) (In := [dctOf ps, dctOf (putKD ps (.inr w) numD)]) (W := [.tup [.str "num"], .tup [.str "do"]]) (S := [.str "num", .str "do"]) (arm := false) ⟨fun dp hd => shape_ok hd (hs.shp (by omega)) ?_, ?_, by kernel_rfl, by kernel_rfl, by kernel_rfl, ⟨.str "made", rfl, by kernel_rfl⟩, wa_cons (by kernel_rfl) (wa_cons (by kernel_rfl) no_wa), no_if _ rfl, by kernel_rfl⟩ (.cons p a (by show 1 ≤ 2; decide) (.cons q b (by show 1 ≤ 2; decide) .nil)) (hs.mono (by omega))
  · have c : (mCall F_is_word (aV (bin2 fIxA (rdV 2) (rdC (.int 2))) aNil)) (pcE z (dctOf ps) (.tup [.str "made", x, .str w, y]) dp) = .ok (.bl true) (pcE z (dctOf ps) (.tup [.str "made", x, .str w, y]) dp) := mCall_ok (ρ1 := pcE z (dctOf ps) (.tup [.str "made", x, .str w, y]) dp) (as := [.v (.str w)]) (by kernel_rfl) (callV1 hw.1)
    refine sSeq_ok (ρ1 := pcE z (dctOf ps) (.tup [.str "made", x, .str w, y]) dp) (by kernel_rfl) (sSeq_ok (ρ1 := pcE z (dctOf ps) (.tup [.str "made", x, .str w, y]) dp) (by kernel_rfl) (sSeq_ok (ρ1 := pcE z (dctOf ps) (.tup [.str "made", x, .str w, y]) dp) (by kernel_rfl) (sSeq_ok (ρ1 := pcE z (dctOf ps) (.tup [.str "made", x, .str w, y]) dp) (by kernel_rfl) (sSeq_rt (sIf_rt (ρ1 := pcE z (dctOf ps) (.tup [.str "made", x, .str w, y]) dp) (by kernel_rfl) c)))))
  · let ρ : PB.Env := [.fr (.tup [.str "made", x, .str w, y]), .fr (dctOf ps), .un, .un]
    have e1 : (mLst (mStarI (rdV 1) (mCons (mTup (mCons (bin2 fIxA (rdV 0) (rdC (.int 2))) (mCons (mTup (mCons (mTup mNil) (mCons (rdC (.str "num")) mNil))) mNil))) mNil))) ρ = .ok (.lst (pairsD (ps.map (·.1)) (ps.map (·.2)) ++ [.tup [.str w, numD]])) ρ := by
      refine mLst_ok (mStarI_ok (ρ1 := ρ) rfl (by kernel_rfl)) ?_
      rw [List.length_append, pairsD_len]
      show ps.length + 1 ≤ 16777216
      omega
    have e2 : (mFn fDict (mCons (mLst (mStarI (rdV 1) (mCons (mTup (mCons (bin2 fIxA (rdV 0) (rdC (.int 2))) (mCons (mTup (mCons (mTup mNil) (mCons (rdC (.str "num")) mNil))) mNil))) mNil))) mNil)) ρ = .ok (dctOf (putKD ps (.inr w) numD)) ρ := mFn_ok (mCons_ok e1 rfl) (fDict_more hn w numD)
    have e3 : a_names_within_1 ρ = .ok (.rt (.lst [dctOf ps, dctOf (putKD ps (.inr w) numD)])) ρ := sIf_rt (ρ1 := ρ) (by kernel_rfl) (mLst_ok (mCons_ok (x := dctOf ps) (ρ1 := ρ) rfl (mCons_ok e2 rfl)) (by show 2 ≤ 16777216; decide))
    exact (runF_rt (ρ := ρ) rfl (show m_names_within ρ = _ from sSeq_ok (ρ1 := ρ) (by kernel_rfl) (sSeq_rt e3))).trans rfl
theorem wt_new {w : Str} {k : Int} (hw : okW w) (hl : ps.length ≤ 1000) (hn : (ps.map (·.1)).Nodup) (k1 : 0 ≤ k) (k2 : k < z) (ht : two t) (p : WT z (putKD ps (.inr w) boxD) t x N h) (hh : h ≤ 20) : WT z ps t (.tup [.str "new", .str w, .int k, x]) (N + 0 + 1) (h + 1) := by
  have hs : SH (.tup [.str "new", .str w, .int k, x]) (2 * h + 1) := sh1 (by kernel_rfl) fun v hv => by
    rcases (by simpa using hv : v = .str w ∨ v = .int k ∨ v = x) with e | e | e
    · rw [e]; exact SH.str hw.2 _
    · rw [e]; exact SH.int k _
    · rw [e]; exact p.sh
  refine .node (P := [one 3 x]) (In := [dctOf (putKD ps (.inr w) boxD)]) (W := [nd]) (S := [.str t]) (arm := false) ⟨fun dp hd => shape_ok hd (hs.shp (by omega)) ?_, ?_, by kernel_rfl, by kernel_rfl, by kernel_rfl, ⟨.str "new", rfl, by kernel_rfl⟩, wa_cons (two_in ht) no_wa, no_if _ rfl, by kernel_rfl⟩ (.cons p (Nat.le_refl _) (by show 1 ≤ 2; decide) .nil) (hs.mono (by omega))
  · let ρ := pcE z (dctOf ps) (.tup [.str "new", .str w, .int k, x]) dp
    have c : (mCall F_is_word (aV (bin2 fIxA (rdV 2) (rdC (.int 1))) aNil)) ρ = .ok (.bl true) ρ := mCall_ok (ρ1 := ρ) (as := [.v (.str w)]) (by kernel_rfl) (callV1 hw.1)
    have c2 : (mCall F_is_between (aV (bin2 fIxA (rdV 2) (rdC (.int 2))) (aV (rdC (.int 0)) (aV (bin2 fSub (rdV 0) (rdC (.int 1))) aNil)))) ρ = .ok (.bl true) ρ := mCall_ok (ρ1 := ρ) (as := [.v (.int k), .v (.int 0), .v (.int (z - 1))]) (by kernel_rfl) (callV3 (between_ok k1 (by omega)))
    exact sSeq_ok (ρ1 := ρ) (by kernel_rfl) (sSeq_ok (ρ1 := ρ) (by kernel_rfl) (sSeq_ok (ρ1 := ρ) (by kernel_rfl) (sSeq_rt (sIf_rt (ρ1 := ρ) (by kernel_rfl) (mAndV_t (d := .bl true) c rfl c2)))))
  · let ρ : PB.Env := [.fr (.tup [.str "new", .str w, .int k, x]), .fr (dctOf ps), .un, .un]
    have e1 : (mLst (mStarI (rdV 1) (mCons (mTup (mCons (bin2 fIxA (rdV 0) (rdC (.int 1))) (mCons (mTup (mCons (mTup mNil) (mCons (rdC (.str "box")) mNil))) mNil))) mNil))) ρ = .ok (.lst (pairsD (ps.map (·.1)) (ps.map (·.2)) ++ [.tup [.str w, boxD]])) ρ := by
      refine mLst_ok (mStarI_ok (ρ1 := ρ) rfl (by kernel_rfl)) ?_
      rw [List.length_append, pairsD_len]
      show ps.length + 1 ≤ 16777216
      omega
    have e2 : (mFn fDict (mCons (mLst (mStarI (rdV 1) (mCons (mTup (mCons (bin2 fIxA (rdV 0) (rdC (.int 1))) (mCons (mTup (mCons (mTup mNil) (mCons (rdC (.str "box")) mNil))) mNil))) mNil))) mNil)) ρ = .ok (dctOf (putKD ps (.inr w) boxD)) ρ := mFn_ok (mCons_ok e1 rfl) (fDict_more hn w boxD)
    have e3 : a_names_within_0 ρ = .ok (.rt (.lst [dctOf (putKD ps (.inr w) boxD)])) ρ := sIf_rt (ρ1 := ρ) (by kernel_rfl) (mLst_ok (mCons_ok e2 rfl) (by show 1 ≤ 16777216; decide))
    exact (runF_rt (ρ := ρ) rfl (show m_names_within ρ = _ from sSeq_rt e3)).trans rfl
/-! ### names used -/
inductive WTs (z : Int) (ps : List (Key × D)) : List Str → List D → Nat → Nat → Prop
  | nil {h : Nat} : WTs z ps [] [] 0 h
  | cons {s : Str} {d : D} {N h1 h M : Nat} {as : List Str} {ds : List D} : WT z ps s d N h1 → h1 ≤ h → WTs z ps as ds M h → WTs z ps (s :: as) (d :: ds) (N + M) h
def fP : D → D
  | .tup [.int k, x] => .tup [.tup [.int 2, .int k], x]
  | d => d
theorem kidsN : ∀ {as : List Str} {ds : List D} {M h : Nat} (k : Nat), WTs z ps as ds M h → Kids z ((enD k ds).map fP) (ds.map fun _ => dctOf ps) (as.map D.str) M h
  | _, _, _, _, _, .nil => .nil
  | _, _, _, _, k, .cons w a r => .cons (pl := [.int 2, .int k]) w a (Nat.le_refl _) (kidsN (k + 1) r)
theorem WTs.len : ∀ {as : List Str} {ds : List D} {M h : Nat}, WTs z ps as ds M h → as.length = ds.length
  | _, _, _, _, .nil => rfl
  | _, _, _, _, .cons _ _ r => by rw [List.length_cons, List.length_cons, r.len]
theorem WTs.sh : ∀ {as : List Str} {ds : List D} {M h : Nat}, WTs z ps as ds M h → ∀ x ∈ ds, SH x (2 * h)
  | _, _, _, _, .nil, x, hx => nomatch hx
  | _, _, _, _, .cons w a r, x, hx => (List.mem_cons.mp hx).elim (fun e => by rw [e]; exact w.sh.mono (by omega)) (r.sh x)
def sort3 : List Str := ["num", "do", "box"]
theorem sort_in {a : Str} (h : a ∈ sort3) : fNinA (.str a) (.tup [.str a]) = some (.bl false) := by
  unfold sort3 at h
  simp only [List.mem_cons, List.not_mem_nil, or_false] at h
  rcases h with e | e | e <;> (subst e; kernel_rfl)
theorem wa_args : ∀ {as : List Str}, (∀ a ∈ as, a ∈ sort3) → ∀ (k : Nat) (sk : D), (as.map D.str)[k]? = some sk → ∃ wk, ((as.map D.str).map fun d => D.tup [d])[k]? = some wk ∧ fNinA sk wk = some (.bl false)
  | [], _ => no_wa
  | a :: as, h => wa_cons (sort_in (h a List.mem_cons_self)) (wa_args fun b hb => h b (List.mem_cons_of_mem _ hb))
theorem enD_get0 : ∀ {ds : List D} {k : Nat} {x : D}, x ∈ enD k ds → ∃ (i : Nat) (d : D), x = .tup [.int i, d]
  | [], _, _, h => nomatch h
  | d :: ds, k, x, h => (List.mem_cons.mp h).elim (fun e => ⟨k, d, e⟩) fun h => enD_get0 h
theorem wt_name {w : Str} {as : List Str} {ds : List D} (hk : (PyData.str w).canLay0 = true) (hw : look ps w = some (.tup [.tup (as.map D.str), .str t])) (ha : ∀ a ∈ as, a ∈ sort3) (hl : as.length ≤ 1000) (r : WTs z ps as ds N h) (hh : h ≤ 20) : WT z ps t (.tup [.str "name", .str w, .tup ds]) (N + 1) (h + 1) := by
  have hs : SH (.tup [.str "name", .str w, .tup ds]) (2 * h + 2) := sh1 (by kernel_rfl) fun v hv => by
    rcases (by simpa using hv : v = .str w ∨ v = .tup ds) with e | e
    · rw [e]; exact SH.str hk _
    · rw [e]; exact SH.tup r.sh
  have ld := r.len
  have ix : fIxA (dctOf ps) (.str w) = some (.tup [.tup (as.map D.str), .str t]) := hw
  have po : F_parts_of [.fr (.tup [.str "name", .str w, .tup ds])] = .ok (.lst ((enD 0 ds).map fP)) [.un] := by
    let ρ : PB.Env := [.fr (.tup [.str "name", .str w, .tup ds]), .un, .un]
    have lc := lcL_map (own := [1, 2]) (gb := bTup 2 (bCons (bName 1) (bCons (bName 2) bNil))) (me := e_parts_of_0) (f := fP) (ρ := ρ) (xs := enD 0 ds) (acc := []) (fun x hx => by
      obtain ⟨i, d, rfl⟩ := enD_get0 hx
      exact ⟨[.fr (.tup [.str "name", .str w, .tup ds]), .fr (.int i), .fr d], _, rfl, rfl, rfl⟩) (by rw [enD_length]; show 0 + ds.length < 16777216; omega)
    rw [List.nil_append] at lc
    have e1 : (mItemsL asEnA (mCons (bin2 fIxA (rdV 0) (rdC (.int 2))) mNil)) ρ = .ok (enD 0 ds) ρ := mItemsL_ok (ds := [.tup ds]) (ρ1 := ρ) (by kernel_rfl) rfl
    have e2 : a_parts_of_0 ρ = .ok (.rt (.lst ((enD 0 ds).map fP))) ρ := sIf_rt (ρ1 := ρ) (by kernel_rfl) (mFrz_ok (mLc_ok e1 lc) rfl)
    exact (runF_rt (ρ := ρ) rfl (show m_parts_of ρ = _ from sSeq_rt e2)).trans rfl
  have em2 : ∀ (k : Nat) (ds : List D), ((enD k ds).map fP).map partD = ds := fun k ds => by
    induction ds generalizing k with
    | nil => rfl
    | cons d ds ih =>
      show d :: ((enD (k + 1) ds).map fP).map partD = _
      rw [ih (k + 1)]
  have lp : F_law_parts [.fr (.tup [.str "name", .str w, .tup ds])] = .ok (.lst (((enD 0 ds).map fP).map partD)) [.un] := by
    rw [em2]
    kernel_rfl
  refine .node (P := (enD 0 ds).map fP) (In := ds.map fun _ => dctOf ps) (W := (as.map D.str).map fun d => .tup [d]) (S := as.map D.str) (arm := false) ⟨fun dp hd => shape_ok hd (hs.shp (by omega)) ?_, ?_, ?_, po, ?_, ⟨.str "name", rfl, by kernel_rfl⟩, wa_args ha, no_if _ rfl, lp⟩ (kidsN 0 r) (hs.mono (by omega))
  · let ρ := pcE z (dctOf ps) (.tup [.str "name", .str w, .tup ds]) dp
    have c : F_is_use [.fr (dctOf ps), .fr (.tup [.str "name", .str w, .tup ds])] = .ok (.bl true) [.un, .un] := by
      let κ : PB.Env := [.fr (dctOf ps), .fr (.tup [.str "name", .str w, .tup ds])]
      have n1 : fNinA (.str w) (dctOf ps) = some (.bl false) := by
        show some (D.bl (!(look ps w).isSome)) = _
        rw [hw]
        rfl
      have s0 : a_is_use_0 κ = .ok .nx κ := sIf_f (mOrB_f (ρ1 := κ) (by kernel_rfl) (mOrB_f (mTru_ok (bin2_ok (ρ1 := κ) (x := .str w) (by kernel_rfl) (ρ2 := κ) rfl n1)) (by kernel_rfl))) rfl
      have e1 : (bin2 fIxA (bin2 fIxA (rdV 0) (bin2 fIxA (rdV 1) (rdC (.int 1)))) (rdC (.int 0))) κ = .ok (.tup (as.map D.str)) κ := bin2_ok (bin2_ok (x := dctOf ps) (y := .str w) (ρ1 := κ) (ρ2 := κ) rfl (by kernel_rfl) ix) rfl rfl
      have e2 : (mFn fLenA (mCons (bin2 fIxA (rdV 1) (rdC (.int 2))) mNil)) κ = .ok (.int ds.length) κ := by kernel_rfl
      have e3 : (mFn fLenA (mCons (bin2 fIxA (bin2 fIxA (rdV 0) (bin2 fIxA (rdV 1) (rdC (.int 1)))) (rdC (.int 0))) mNil)) κ = .ok (.int (as.map D.str).length) κ := mFn_ok (mCons_ok e1 rfl) rfl
      have e4 : fEq (.int ds.length) (.int (as.map D.str).length) = some (.bl true) := by
        rw [List.length_map, ld]
        show some (D.bl ((ds.length : Int) == (ds.length : Int))) = _
        rw [beq_self_eq_true]
      exact (runF_rt (ρ := κ) rfl (show m_is_use κ = _ from sSeq_ok s0 (sRet_ok (bin2_ok e2 e3 e4)))).trans rfl
    have c1 : (mCall F_is_use (aV (rdV 1) (aV (rdV 2) aNil))) ρ = .ok (.bl true) ρ := mCall_ok (ρ1 := ρ) (as := [.v (dctOf ps), .v (.tup [.str "name", .str w, .tup ds])]) rfl (callV2 c)
    exact sSeq_ok (ρ1 := ρ) (by kernel_rfl) (sSeq_ok (ρ1 := ρ) (by kernel_rfl) (sSeq_ok (ρ1 := ρ) (by kernel_rfl) (sSeq_ok (ρ1 := ρ) (by kernel_rfl) (sSeq_ok (ρ1 := ρ) (by kernel_rfl) (sSeq_rt (sIf_rt (ρ1 := ρ) (by kernel_rfl) c1))))))
  · let ρ : PB.Env := [.fr (.tup [.str "name", .str w, .tup ds]), .fr (dctOf ps), .un, .un]
    have lc := lcL_map (own := [2, 3]) (gb := bTup 2 (bCons (bName 2) (bCons (bName 3) bNil))) (me := e_names_within_0) (f := fun _ => dctOf ps) (ρ := ρ) (xs := (enD 0 ds).map fP) (acc := []) (fun x hx => by
      obtain ⟨y, hy, rfl⟩ := List.mem_map.mp hx
      obtain ⟨i, d, rfl⟩ := enD_get0 hy
      exact ⟨[.fr (.tup [.str "name", .str w, .tup ds]), .fr (dctOf ps), .fr (.tup [.int 2, .int i]), .fr d], _, rfl, rfl, rfl⟩) (by rw [List.length_map, enD_length]; show 0 + ds.length < 16777216; omega)
    rw [List.nil_append] at lc
    have em : ∀ (k : Nat) (ds : List D), ((enD k ds).map fP).map (fun _ => dctOf ps) = ds.map fun _ => dctOf ps := fun k ds => by
      induction ds generalizing k with
      | nil => rfl
      | cons d ds ih =>
        show _ :: ((enD (k + 1) ds).map fP).map (fun _ => dctOf ps) = _
        rw [ih (k + 1)]
        rfl
    rw [em 0 ds] at lc
    have e1 : (mItems asAll (mCall F_parts_of (aV (rdV 0) aNil))) ρ = .ok ((enD 0 ds).map fP) ρ := mItems_ok (d := .lst ((enD 0 ds).map fP)) (mCall_ok (ρ1 := ρ) (as := [.v (.tup [.str "name", .str w, .tup ds])]) rfl (callV1 po)) rfl
    have e2 : a_names_within_2 ρ = .ok (.rt (.lst (ds.map fun _ => dctOf ps))) ρ := sRet_ok (mFrz_ok (mLc_ok e1 lc) rfl)
    exact (runF_rt (ρ := ρ) rfl (show m_names_within ρ = _ from sSeq_ok (ρ1 := ρ) (by kernel_rfl) (sSeq_ok (ρ1 := ρ) (by kernel_rfl) e2))).trans rfl
  · let ρ : PB.Env := [.fr (.tup [.str "name", .str w, .tup ds]), .fr (dctOf ps), .fr (.str "name"), .un]
    have lc := lcL_map (own := [3]) (gb := bName 3) (me := e_wanted_of_0) (f := fun d => .tup [d]) (ρ := ρ) (xs := as.map D.str) (acc := []) (fun x hx => ⟨[.fr (.tup [.str "name", .str w, .tup ds]), .fr (dctOf ps), .fr (.str "name"), .fr x], _, rfl, rfl, rfl⟩) (by rw [List.length_map]; show 0 + as.length < 16777216; omega)
    rw [List.nil_append] at lc
    have e0 : (bin2 fIxA (bin2 fIxA (rdV 1) (bin2 fIxA (rdV 0) (rdC (.int 1)))) (rdC (.int 0))) ρ = .ok (.tup (as.map D.str)) ρ := bin2_ok (bin2_ok (x := dctOf ps) (y := .str w) (ρ1 := ρ) (ρ2 := ρ) rfl (by kernel_rfl) ix) rfl rfl
    have e2 : a_wanted_of_1 ρ = .ok (.rt (.lst ((as.map D.str).map fun d => .tup [d]))) ρ := sIf_rt (ρ1 := ρ) (by kernel_rfl) (mFrz_ok (mLc_ok (mItems_ok e0 rfl) lc) rfl)
    exact (runF_rt (ρ := ρ) rfl (show m_wanted_of [.fr (.tup [.str "name", .str w, .tup ds]), .fr (dctOf ps), .un, .un] = _ from sSeq_ok (ρ1 := ρ) (by kernel_rfl) (sSeq_rt e2))).trans rfl
  · let ρ : PB.Env := [.fr (.tup [.str "name", .str w, .tup ds]), .fr (.lst (as.map D.str)), .fr (dctOf ps), .fr (.str "name")]
    have e0 : (bin2 fIxA (bin2 fIxA (rdV 2) (bin2 fIxA (rdV 0) (rdC (.int 1)))) (rdC (.int 1))) ρ = .ok (.str t) ρ := bin2_ok (bin2_ok (x := dctOf ps) (y := .str w) (ρ1 := ρ) (ρ2 := ρ) rfl (by kernel_rfl) ix) rfl rfl
    have e2 : a_sort_by_1 ρ = .ok (.rt (.str t)) ρ := sIf_rt (ρ1 := ρ) (by kernel_rfl) e0
    exact (runF_rt (ρ := ρ) rfl (show m_sort_by [.fr (.tup [.str "name", .str w, .tup ds]), .fr (.lst (as.map D.str)), .fr (dctOf ps), .un] = _ from sSeq_ok (ρ1 := ρ) (by kernel_rfl) (sSeq_rt e2))).trans rfl
end
end PB.Lk02
set_option maxRecDepth 100000
set_option maxHeartbeats 1000000
namespace PB.Lk02
open PySem PySem.Spec PyProof.Rows L2 PB
/-! ### names with sorts -/
def SOk (d : D) : Prop := ∃ (as : List Str) (t : Str), d = .tup [.tup (as.map D.str), .str t] ∧ as.length ≤ 3 ∧ (∀ a ∈ as, a ∈ sort3) ∧ t ∈ sort3
structure NOk (L : Nat) (ps : List (Key × D)) : Prop where
  nd : (ps.map (·.1)).Nodup
  len : ps.length ≤ L
  ok : ∀ p ∈ ps, ∃ w, p.1 = .inr w ∧ okW w ∧ SOk p.2
theorem canS {a : Str} (h : a ∈ sort3) : (PyData.str a).canLay0 = true := by
  unfold sort3 at h
  simp only [List.mem_cons, List.not_mem_nil, or_false] at h
  rcases h with e | e | e <;> (subst e; kernel_rfl)
theorem NOk.put {L : Nat} {ps : List (Key × D)} (g : NOk L ps) {w : Str} {d : D} (hw : okW w) (hd : SOk d) : NOk (L + 1) (putKD ps (.inr w) d) := by
  obtain ⟨h1, h2⟩ := putKD_all (Q := fun k d => ∃ w, k = .inr w ∧ okW w ∧ SOk d) (k := .inr w) (d := d) g.ok ⟨w, rfl, hw, hd⟩
  exact ⟨putKD_nodup g.nd, Nat.le_trans h2 (Nat.succ_le_succ g.len), h1⟩
theorem NOk.words {L : Nat} {ps : List (Key × D)} (g : NOk L ps) : ∃ ws : List Str, ps.map (·.1) = ws.map Sum.inr ∧ ws.length ≤ L ∧ ∀ w ∈ ws, okW w ∧ ∃ d, look ps w = some d ∧ SOk d := by
  have key : ∀ qs : List (Key × D), (∀ p ∈ qs, ∃ w, p.1 = .inr w ∧ okW w ∧ SOk p.2) → ∃ ws : List Str, qs.map (·.1) = ws.map Sum.inr ∧ ∀ w ∈ ws, okW w := by
    intro qs
    induction qs with
    | nil => exact fun _ => ⟨[], rfl, fun _ h => nomatch h⟩
    | cons q qs ih =>
      intro h
      obtain ⟨ws, e, hw⟩ := ih fun p hp => h p (List.mem_cons_of_mem _ hp)
      obtain ⟨w, e1, h1, _⟩ := h q List.mem_cons_self
      exact ⟨w :: ws, by rw [List.map_cons, List.map_cons, e, e1], fun v hv => (List.mem_cons.mp hv).elim (fun e => by rw [e]; exact h1) (hw v)⟩
  obtain ⟨ws, e, hw⟩ := key ps g.ok
  refine ⟨ws, e, ?_, fun w h => ⟨hw w h, ?_⟩⟩
  · have := congrArg List.length e
    rw [List.length_map, List.length_map] at this
    have := g.len
    omega
  · obtain ⟨p, hp, ev⟩ := valD_mem (ps := ps) (k := .inr w) (by rw [e]; exact List.mem_map.mpr ⟨w, h, rfl⟩)
    obtain ⟨_, _, _, hs⟩ := g.ok p hp
    exact ⟨p.2, ev, hs⟩
theorem keyDt_str (ws : List Str) : (ws.map Sum.inr : List Key).map keyDt = ws.map D.str := by
  rw [List.map_map]
  rfl
/-- what a sort is against ((), s) -/
theorem sort_eq {d : D} {s : Str} (h : SOk d) (hs : s ∈ sort3) : ∃ b : Bool, fEq d (.tup [.tup [], .str s]) = some (.bl b) ∧ (b = true → d = .tup [.tup [], .str s]) := by
  obtain ⟨as, t, rfl, hl, ha, ht⟩ := h
  have ct := canS ht
  have cs := canS hs
  have sh : SH (.tup [.tup (as.map D.str), .str t]) 2 := SH.tup fun x hx => by
    rcases (by simpa using hx : x = .tup (as.map D.str) ∨ x = .str t) with e | e
    · rw [e]
      exact SH.tup fun y hy => by
        obtain ⟨a, h, rfl⟩ := List.mem_map.mp hy
        exact SH.str (canS (ha a h)) 0
    · rw [e]; exact SH.str ct 1
  have sq : SH (.tup [.tup [], .str s]) 2 := SH.tup fun x hx => by
    rcases (by simpa using hx : x = .tup [] ∨ x = .str s) with e | e
    · rw [e]; exact (SH.tup (b := 0) fun y hy => nomatch hy)
    · rw [e]; exact SH.str cs 1
  obtain ⟨p, ep, sp⟩ := shaped_of (sh.shp (by decide))
  obtain ⟨q, eq, sq⟩ := shaped_of (sq.shp (by decide))
  have ep2 : toP (.tup [.tup (as.map D.str), .str t]) = some (.tuple [.tuple (as.map PyData.str), .str t]) := by
    have e1 : toP (.tup (as.map D.str)) = some (.tuple (as.map PyData.str)) := by
      unfold toP
      rw [toPL_str]
      rfl
    have e2 : toPL [.tup (as.map D.str), .str t] = some [.tuple (as.map PyData.str), .str t] := by
      unfold toPL
      rw [e1]
      rfl
    unfold toP
    rw [e2]
    rfl
  rw [ep2] at ep
  cases ep
  cases (show some (PyData.tuple [.tuple [], .str s]) = some q from eq)
  refine ⟨_, eqB_of (g := id) ep2 sp rfl sq, fun hb => ?_⟩
  cases as with
  | nil =>
    have hb : (t == s && true) = true := hb
    rw [Bool.and_true] at hb
    rw [eq_of_beq hb]
    rfl
  | cons a as => cases (show false = true from hb)
/-! ### boxes, leaves -/
theorem boxes_ok {L : Nat} {ps : List (Key × D)} (g : NOk L ps) (hL : L < 64) : ∃ ws : List Str, F_law_boxes [.fr (dctOf ps)] = .ok (.lst (ws.map D.str)) [.un] ∧ (∀ w ∈ ws, okW w ∧ look ps w = some boxD) ∧ ws.length ≤ L := by
  obtain ⟨ws, ek, hl, hw⟩ := g.words
  have hb : ∀ w ∈ ws, ∃ b : Bool, (bin2 fEq (bin2 fIxA (rdV 0) (rdV 1)) (mTup (mCons (mTup mNil) (mCons (rdC (.str "box")) mNil)))) [.fr (dctOf ps), .fr (.str w)] = .ok (.bl b) [.fr (dctOf ps), .fr (.str w)] ∧ (b = true → look ps w = some boxD) := fun w h => by
    obtain ⟨_, d, e, hs⟩ := hw w h
    obtain ⟨b, e2, h2⟩ := sort_eq (s := "box") hs (by simp [sort3])
    exact ⟨b, bin2_ok (bin2_ok (x := dctOf ps) (y := .str w) (ρ1 := [.fr (dctOf ps), .fr (.str w)]) (ρ2 := [.fr (dctOf ps), .fr (.str w)]) rfl rfl e) rfl e2, fun hb => by rw [e, h2 hb]⟩
  classical
  let b : Str → Bool := fun w => if h : w ∈ ws then (hb w h).choose else false
  have lc := lcL_filS (own := [1]) (gb := bName 1) (mt := (mTru (bin2 fEq (bin2 fIxA (rdV 0) (rdV 1)) (mTup (mCons (mTup mNil) (mCons (rdC (.str "box")) mNil)))))) (me := e_law_boxes_0) (b := b) (ρ := [.fr (dctOf ps), .un]) (ws := ws) (acc := []) (fun w h => by
    have := (hb w h).choose_spec.1
    have eb : b w = (hb w h).choose := dif_pos h
    exact ⟨[.fr (dctOf ps), .fr (.str w)], rfl, mTru_ok (by rw [eb]; exact this), rfl, rfl⟩) (by show 0 + ws.length < 16777216; omega)
  have e1 : (mItems asAll (rdV 0)) [.fr (dctOf ps), .un] = .ok (ws.map D.str) [.fr (dctOf ps), .un] := mItems_ok (d := dctOf ps) (ρ1 := [.fr (dctOf ps), .un]) rfl (by
    show some ((ps.map (·.1)).map keyDt) = _
    rw [ek, keyDt_str])
  refine ⟨sortS ([] ++ ws.filter b), (runF_rt (ρ := [.fr (dctOf ps), .un]) rfl (show m_law_boxes [.fr (dctOf ps), .un] = _ from sRet_ok (mFn_ok (mCons_ok (mFrz_ok (mLc_ok e1 lc) rfl) rfl) (sorted_strs ?_)))).trans rfl, fun w hm => ?_, ?_⟩
  · rw [List.nil_append]
    exact Nat.lt_of_le_of_lt (List.length_filter_le _ _) (by omega)
  · have hm := (sortS_perm _).subset hm
    rw [List.nil_append] at hm
    obtain ⟨h, hbw⟩ := List.mem_filter.mp hm
    have eb : b w = (hb w h).choose := dif_pos h
    exact ⟨(hw w h).1, (hb w h).choose_spec.2 (by rw [← eb]; exact hbw)⟩
  · rw [(sortS_perm _).length_eq, List.nil_append]
    exact Nat.le_trans (List.length_filter_le _ _) hl
end PB.Lk02
set_option maxRecDepth 100000
set_option maxHeartbeats 1000000
namespace PB.Lk02
open PySem PySem.Spec PyProof.Rows L2 PB
/-! ### a leaf drawn -/
section
variable {z : Int} {ps : List (Key × D)} {s : Str}
abbrev fE (z : Int) (ps : List (Key × D)) (s : Str) (w : Dw) (s4 s5 : Sl) : PB.Env := [io w, .fr (.int z), .fr (dctOf ps), .fr (.str s), s4, s5]
theorem pickF (w : Dw) (s4 s5 : Sl) (xs : List D) (h : 0 < xs.length) (h2 : xs.length < 1000000) : ∃ (x : D) (w' : Dw), callR F_law_pick [.s 0, .v (.lst xs)] (fE z ps s w s4 s5) = .ok x (fE z ps s w' s4 s5) ∧ x ∈ xs := pick_at (ρ := fE z ps s w s4 s5) (j := 0) (.io w) rfl h h2
theorem takeF (w : Dw) (s4 s5 : Sl) (a : Int) (h : 0 < a) (h2 : a < 1000000) : ∃ (k : Int) (w' : Dw), callR F_law_take [.s 0, .v (.int a)] (fE z ps s w s4 s5) = .ok (.int k) (fE z ps s w' s4 s5) ∧ 0 ≤ k ∧ k < a := take_at (ρ := fE z ps s w s4 s5) (j := 0) (.io w) rfl h h2
def Leaf (z : Int) (ps : List (Key × D)) (s : Str) (d : D) : Prop := ∃ N h, WT z ps s d N h ∧ h ≤ 2 ∧ N ≤ 3
theorem wt_name0 {w : Str} {t : Str} (hw : okW w) (hl : look ps w = some (.tup [.tup [], .str t])) : WT z ps t (.tup [.str "name", .str w, .tup []]) 1 1 := wt_name (as := []) (ds := []) hw.2 hl (fun _ h => nomatch h) (Nat.zero_le _) .nil (by decide)
theorem skip_w : okW "w" := ⟨by kernel_rfl, by kernel_rfl⟩
/-- the leaf behind the look for a name -/
theorem leaf_rest {L : Nat} (g : NOk L ps) (hL : L < 60) (hz : 0 < z ∧ z < 1000) (hs : s ∈ sort3) (w : Dw) (s4 s5 : Sl) : ∃ (d : D) (w' : Dw), sSeq a_law_leaf_2 (sSeq a_law_leaf_3 (sSeq a_law_leaf_4 a_law_leaf_5)) (fE z ps s w s4 s5) = .ok (.rt d) (fE z ps s w' s4 s5) ∧ Leaf z ps s d := by
  unfold sort3 at hs
  simp only [List.mem_cons, List.not_mem_nil, or_false] at hs
  rcases hs with e | e | e
  · subst e
    obtain ⟨ws, eb, hb, hbl⟩ := boxes_ok g (by omega)
    have n2 : a_law_leaf_2 (fE z ps "num" w s4 s5) = .ok .nx (fE z ps "num" w s4 s5) := by kernel_rfl
    have n3 : a_law_leaf_3 (fE z ps "num" w s4 s5) = .ok .nx (fE z ps "num" w s4 s5) := by kernel_rfl
    have cb : ∀ w0, (mCall F_law_boxes (aV (rdV 2) aNil)) (fE z ps "num" w0 s4 s5) = .ok (.lst (ws.map D.str)) (fE z ps "num" w0 s4 s5) := fun w0 => mCall_ok (ρ1 := fE z ps "num" w0 s4 s5) (as := [.v (dctOf ps)]) rfl (callV1 eb)
    have nb : mTru (bin2 fNe (mCall F_law_boxes (aV (rdV 2) aNil)) (mLst mNil)) (fE z ps "num" w s4 s5) = .ok (!(ws.map D.str).isEmpty) (fE z ps "num" w s4 s5) := mTru_ok (bin2_ok (cb w) rfl (ne_nil fun x hx => by
      obtain ⟨v, hv, rfl⟩ := List.mem_map.mp hx
      exact shp_str (hb v hv).1.2))
    have last : ∀ w0, ∃ (d : D) (w' : Dw), a_law_leaf_5 (fE z ps "num" w0 s4 s5) = .ok (.rt d) (fE z ps "num" w' s4 s5) ∧ Leaf z ps "num" d := fun w0 => by
      obtain ⟨k, w', e, k1, k2⟩ := takeF (z := z) (ps := ps) (s := "num") w0 s4 s5 z hz.1 (by omega)
      have e2 : (mCall F_law_take (aS 0 (aV (rdV 1) aNil))) (fE z ps "num" w0 s4 s5) = .ok (.int k) (fE z ps "num" w' s4 s5) := e
      exact ⟨.tup [.str "number", .int k], w', sRet_ok (mTup_ok (mCons_ok (x := .str "number") (xs := [.int k]) (ρ1 := fE z ps "num" w0 s4 s5) rfl (mCons_ok e2 rfl)) (by show 2 ≤ 16777216; decide)), 1, 1, wt_number k1 k2, by decide, by decide⟩
    cases ws with
    | nil =>
      obtain ⟨d, w', e, l⟩ := last w
      exact ⟨d, w', sSeq_ok n2 (sSeq_ok n3 (sSeq_ok (sIf_f (mAndB_f nb) rfl) e)), l⟩
    | cons v ws =>
      obtain ⟨k, w1, e, k1, k2⟩ := takeF (z := z) (ps := ps) (s := "num") w s4 s5 2 (by decide) (by decide)
      have e2 : (mCall F_law_take (aS 0 (aV (rdC (.int 2)) aNil))) (fE z ps "num" w s4 s5) = .ok (.int k) (fE z ps "num" w1 s4 s5) := e
      have t2 : mTru (bin2 fEq (mCall F_law_take (aS 0 (aV (rdC (.int 2)) aNil))) (rdC (.int 0))) (fE z ps "num" w s4 s5) = .ok (k == 0) (fE z ps "num" w1 s4 s5) := mTru_ok (bin2_ok e2 rfl rfl)
      cases hk : (k == 0) with
      | false =>
        rw [hk] at t2
        obtain ⟨d, w', e, l⟩ := last w1
        exact ⟨d, w', sSeq_ok n2 (sSeq_ok n3 (sSeq_ok (sIf_f (mAndB_t nb t2) rfl) e)), l⟩
      | true =>
        rw [hk] at t2
        obtain ⟨x, w2, ep, hx⟩ := pickF (z := z) (ps := ps) (s := "num") w1 s4 s5 ((v :: ws).map D.str) (by simp) (by
          rw [List.length_map]
          omega)
        obtain ⟨y, hy, rfl⟩ := List.mem_map.mp hx
        have ep2 : (mCall F_law_pick (aS 0 (aV (mCall F_law_boxes (aV (rdV 2) aNil)) aNil))) (fE z ps "num" w1 s4 s5) = .ok (.str y) (fE z ps "num" w2 s4 s5) := mCall_ok (ρ1 := fE z ps "num" w1 s4 s5) (as := [.s 0, .v (.lst ((v :: ws).map D.str))]) (by
          have ea : (aV (mCall F_law_boxes (aV (rdV 2) aNil)) aNil) (fE z ps "num" w1 s4 s5) = .ok [.v (.lst ((v :: ws).map D.str))] (fE z ps "num" w1 s4 s5) := aV_ok (cb w1) rfl
          exact bind_ok ea rfl) ep
        have en : (mTup (mCons (rdC (.str "name")) (mCons (mCall F_law_pick (aS 0 (aV (mCall F_law_boxes (aV (rdV 2) aNil)) aNil))) (mCons (mTup mNil) mNil)))) (fE z ps "num" w1 s4 s5) = .ok (.tup [.str "name", .str y, .tup []]) (fE z ps "num" w2 s4 s5) := mTup_ok (mCons_ok (x := .str "name") (xs := [.str y, .tup []]) (ρ1 := fE z ps "num" w1 s4 s5) rfl (mCons_ok ep2 rfl)) (by show 3 ≤ 16777216; decide)
        exact ⟨.tup [.str "get", .tup [.str "name", .str y, .tup []]], w2, sSeq_ok n2 (sSeq_ok n3 (sSeq_rt (sIf_rt (mAndB_t nb t2) (mTup_ok (mCons_ok (x := .str "get") (xs := [.tup [.str "name", .str y, .tup []]]) (ρ1 := fE z ps "num" w1 s4 s5) rfl (mCons_ok en rfl)) (by show 2 ≤ 16777216; decide))))), 2, 2, wt_get (wt_name0 (hb y hy).1 (hb y hy).2) (by decide), by decide, by decide⟩
  · subst e
    exact ⟨.tup [.str "skip"], w, by kernel_rfl, 1, 1, wt_skip, by decide, by decide⟩
  · subst e
    obtain ⟨k, w', e, k1, k2⟩ := takeF (z := z) (ps := ps) (s := "box") w s4 s5 z hz.1 (by omega)
    have e2 : (mCall F_law_take (aS 0 (aV (rdV 1) aNil))) (fE z ps "box" w s4 s5) = .ok (.int k) (fE z ps "box" w' s4 s5) := e
    have e3 : (mTup (mCons (rdC (.str "number")) (mCons (mCall F_law_take (aS 0 (aV (rdV 1) aNil))) mNil))) (fE z ps "box" w s4 s5) = .ok (.tup [.str "number", .int k]) (fE z ps "box" w' s4 s5) := mTup_ok (mCons_ok (x := .str "number") (xs := [.int k]) (ρ1 := fE z ps "box" w s4 s5) rfl (mCons_ok e2 rfl)) (by show 2 ≤ 16777216; decide)
    refine ⟨.tup [.str "made", .tup [.str "number", .int k], .str "w", .tup [.str "skip"]], w', sSeq_rt (sIf_rt (ρ1 := fE z ps "box" w s4 s5) (by kernel_rfl) (mTup_ok (mCons_ok (x := .str "made") (xs := [.tup [.str "number", .int k], .str "w", .tup [.str "skip"]]) (ρ1 := fE z ps "box" w s4 s5) rfl (mCons_ok e3 (by kernel_rfl))) (by show 4 ≤ 16777216; decide))), 3, 2, ?_, by decide, by decide⟩
    exact wt_made (N := 1) (M := 1) (h1 := 1) (h2 := 1) (h := 1) skip_w (Nat.le_trans g.len (by omega)) g.nd (wt_number k1 k2) wt_skip (by decide) (by decide) (by decide)
theorem leaf_ok {L : Nat} (g : NOk L ps) (hL : L < 60) (hz : 0 < z ∧ z < 1000) (hs : s ∈ sort3) (w : Dw) : ∃ (d : D) (w' : Dw), F_law_leaf [io w, .fr (.int z), .fr (dctOf ps), .fr (.str s)] = .ok d [io w', .un, .un, .un] ∧ Leaf z ps s d := by
  obtain ⟨us, ek, hl, hw⟩ := g.words
  let ws := sortS us
  have hws : ∀ w ∈ ws, okW w ∧ ∃ d, look ps w = some d ∧ SOk d := fun v hv => hw v ((sortS_perm us).subset hv)
  have lws : ws.length ≤ L := by
    show (sortS us).length ≤ L
    rw [(sortS_perm us).length_eq]
    exact hl
  have hb : ∀ v ∈ ws, ∃ b : Bool, (bin2 fEq (bin2 fIxA (rdV 2) (rdV 5)) (mTup (mCons (mTup mNil) (mCons (rdV 3) mNil)))) (fE z ps s w .un (.fr (.str v))) = .ok (.bl b) (fE z ps s w .un (.fr (.str v))) ∧ (b = true → look ps v = some (.tup [.tup [], .str s])) := fun v h => by
    obtain ⟨_, d, e, hsd⟩ := hws v h
    obtain ⟨b, e2, h2⟩ := sort_eq (s := s) hsd hs
    exact ⟨b, bin2_ok (bin2_ok (x := dctOf ps) (y := .str v) (ρ1 := fE z ps s w .un (.fr (.str v))) (ρ2 := fE z ps s w .un (.fr (.str v))) rfl rfl e) rfl e2, fun hb => by rw [e, h2 hb]⟩
  classical
  let b : Str → Bool := fun v => if h : v ∈ ws then (hb v h).choose else false
  have lc := lcL_filS (own := [5]) (gb := bName 5) (mt := (mTru (bin2 fEq (bin2 fIxA (rdV 2) (rdV 5)) (mTup (mCons (mTup mNil) (mCons (rdV 3) mNil)))))) (me := e_law_leaf_0) (b := b) (ρ := fE z ps s w .un .un) (ws := ws) (acc := []) (fun v h => by
    have := (hb v h).choose_spec.1
    have eb : b v = (hb v h).choose := dif_pos h
    exact ⟨fE z ps s w .un (.fr (.str v)), rfl, mTru_ok (by rw [eb]; exact this), rfl, rfl⟩) (by show 0 + ws.length < 16777216; omega)
  rw [List.nil_append] at lc
  have e1 : (mItems asAll (mFn fSorted (mCons (rdV 2) mNil))) (fE z ps s w .un .un) = .ok (ws.map D.str) (fE z ps s w .un .un) := mItems_ok (mFn_ok (mCons_ok (x := dctOf ps) (ρ1 := fE z ps s w .un .un) rfl rfl) (sorted_dct ek (by omega))) rfl
  have hsome : ∀ v ∈ ws.filter b, okW v ∧ look ps v = some (.tup [.tup [], .str s]) := fun v hv => by
    obtain ⟨h, hbv⟩ := List.mem_filter.mp hv
    have eb : b v = (hb v h).choose := dif_pos h
    exact ⟨(hws v h).1, (hb v h).choose_spec.2 (by rw [← eb]; exact hbv)⟩
  have lsome : (ws.filter b).length ≤ L := Nat.le_trans (List.length_filter_le _ _) lws
  revert lc
  generalize ws.filter b = fs at hsome lsome
  intro lc
  have s0 : a_law_leaf_0 (fE z ps s w .un .un) = .ok .nx (fE z ps s w (.ow (.lst (fs.map D.str))) .un) := bind_ok (a := .lst (fs.map D.str)) (ρ := fE z ps s w .un .un) (mLc_ok (r := .ok (.lst (fs.map D.str)) (fE z ps s w .un .un)) e1 lc) rfl
  have fin : ∀ (d : D) (w' : Dw) (s4 s5 : Sl), sSeq a_law_leaf_1 (sSeq a_law_leaf_2 (sSeq a_law_leaf_3 (sSeq a_law_leaf_4 a_law_leaf_5))) (fE z ps s w (.ow (.lst (fs.map D.str))) .un) = .ok (.rt d) (fE z ps s w' s4 s5) → F_law_leaf [io w, .fr (.int z), .fr (dctOf ps), .fr (.str s)] = .ok d [io w', .un, .un, .un] := fun d w' s4 s5 e =>
    (runF_rt (ρ := fE z ps s w' s4 s5) rfl (show m_law_leaf (fE z ps s w .un .un) = _ from sSeq_ok s0 e)).trans rfl
  have t1 : mTru (bin2 fNe (rdV 4) (mLst mNil)) (fE z ps s w (.ow (.lst (fs.map D.str))) .un) = .ok (!(fs.map D.str).isEmpty) (fE z ps s w (.fr (.lst (fs.map D.str))) .un) := mTru_ok (bin2_ok (x := .lst (fs.map D.str)) (y := .lst []) (ρ1 := fE z ps s w (.fr (.lst (fs.map D.str))) .un) (ρ2 := fE z ps s w (.fr (.lst (fs.map D.str))) .un) rfl rfl (ne_nil fun x hx => by
    obtain ⟨v, hv, rfl⟩ := List.mem_map.mp hx
    exact shp_str (hsome v hv).1.2))
  cases fs with
  | nil =>
    obtain ⟨d, w', e, l⟩ := leaf_rest g hL hz hs w (.fr (.lst [])) .un
    exact ⟨d, w', fin d w' _ _ (sSeq_ok (sIf_f (mAndB_f t1) rfl) e), l⟩
  | cons v fs =>
    have named : ∀ w0, ∃ (d : D) (w' : Dw), (mTup (mCons (rdC (.str "name")) (mCons (mCall F_law_pick (aS 0 (aV (rdV 4) aNil))) (mCons (mTup mNil) mNil)))) (fE z ps s w0 (.fr (.lst ((v :: fs).map D.str))) .un) = .ok d (fE z ps s w' (.fr (.lst ((v :: fs).map D.str))) .un) ∧ Leaf z ps s d := fun w0 => by
      obtain ⟨x, w2, ep, hx⟩ := pickF (z := z) (ps := ps) (s := s) w0 (.fr (.lst ((v :: fs).map D.str))) .un ((v :: fs).map D.str) (by simp) (by rw [List.length_map]; omega)
      obtain ⟨y, hy, rfl⟩ := List.mem_map.mp hx
      have ep2 : (mCall F_law_pick (aS 0 (aV (rdV 4) aNil))) (fE z ps s w0 (.fr (.lst ((v :: fs).map D.str))) .un) = .ok (.str y) (fE z ps s w2 (.fr (.lst ((v :: fs).map D.str))) .un) := ep
      exact ⟨.tup [.str "name", .str y, .tup []], w2, mTup_ok (mCons_ok (x := .str "name") (xs := [.str y, .tup []]) (ρ1 := fE z ps s w0 (.fr (.lst ((v :: fs).map D.str))) .un) rfl (mCons_ok ep2 rfl)) (by show 3 ≤ 16777216; decide), 1, 1, wt_name0 (hsome y hy).1 (hsome y hy).2, by decide, by decide⟩
    have tb : ∃ q : Bool, mTru (bin2 fEq (rdV 3) (rdC (.str "box"))) (fE z ps s w (.fr (.lst ((v :: fs).map D.str))) .un) = .ok q (fE z ps s w (.fr (.lst ((v :: fs).map D.str))) .un) := by
      unfold sort3 at hs
      simp only [List.mem_cons, List.not_mem_nil, or_false] at hs
      rcases hs with e | e | e
      · exact ⟨false, by subst e; kernel_rfl⟩
      · exact ⟨false, by subst e; kernel_rfl⟩
      · exact ⟨true, by subst e; kernel_rfl⟩
    obtain ⟨q, tq⟩ := tb
    cases q with
    | true =>
      obtain ⟨d, w', e, l⟩ := named w
      exact ⟨d, w', fin d w' _ _ (sSeq_rt (sIf_rt (mAndB_t t1 (mOrB_t tq)) e)), l⟩
    | false =>
      obtain ⟨k, w1, e, k1, k2⟩ := takeF (z := z) (ps := ps) (s := s) w (.fr (.lst ((v :: fs).map D.str))) .un 2 (by decide) (by decide)
      have e2 : (mCall F_law_take (aS 0 (aV (rdC (.int 2)) aNil))) (fE z ps s w (.fr (.lst ((v :: fs).map D.str))) .un) = .ok (.int k) (fE z ps s w1 (.fr (.lst ((v :: fs).map D.str))) .un) := e
      have t2 : mTru (bin2 fEq (mCall F_law_take (aS 0 (aV (rdC (.int 2)) aNil))) (rdC (.int 0))) (fE z ps s w (.fr (.lst ((v :: fs).map D.str))) .un) = .ok (k == 0) (fE z ps s w1 (.fr (.lst ((v :: fs).map D.str))) .un) := mTru_ok (bin2_ok e2 rfl rfl)
      cases hk : (k == 0) with
      | true =>
        rw [hk] at t2
        obtain ⟨d, w', e, l⟩ := named w1
        exact ⟨d, w', fin d w' _ _ (sSeq_rt (sIf_rt (mAndB_t t1 (mOrB_f tq t2)) e)), l⟩
      | false =>
        rw [hk] at t2
        obtain ⟨d, w', e, l⟩ := leaf_rest g hL hz hs w1 (.fr (.lst ((v :: fs).map D.str))) .un
        exact ⟨d, w', fin d w' _ _ (sSeq_ok (sIf_f (mAndB_t t1 (mOrB_f tq t2)) rfl) e), l⟩
end
end PB.Lk02
set_option maxRecDepth 100000
set_option maxHeartbeats 1000000
namespace PB.Lk02
open PySem PySem.Spec PyProof.Rows L2 PB
/-! ### terms drawn: a name that is called -/
def cb : Nat → Nat
  | 0 => 3
  | e + 1 => 3 * cb e + 1
def TermR (z : Int) (ps : List (Key × D)) (s : Str) (e : Nat) (d : D) : Prop := ∃ N h, WT z ps s d N h ∧ h ≤ e + 2 ∧ N ≤ cb e
def TOk (F : PB.Env → FR) (z : Int) (e : Nat) : Prop := ∀ (L : Nat) (ps : List (Key × D)) (s : Str) (w : Dw), NOk L ps → L + e < 50 → s ∈ sort3 → ∃ (d : D) (w' : Dw), F [io w, .fr (.int z), .fr (dctOf ps), .fr (.str s), .fr (.int e)] = .ok d [io w', .un, .un, .un, .un] ∧ TermR z ps s e d
theorem aS_ok {ρ ρ1 : PB.Env} {j : Nat} {s : Sl} {w : Dw} {ms : M (List Arg)} {as : List Arg} (hs : HasW s w) (hj : ρ[j]? = some s) (h : ms ρ = .ok as ρ1) : aS j ms ρ = .ok (.s j :: as) ρ1 := by
  unfold aS
  rw [hj]
  cases hs <;> exact bind_ok h rfl
theorem subE (e : Nat) : fSub (.int ((e + 1 : Nat) : Int)) (.int 1) = some (.int e) := by
  show some (D.int (((e + 1 : Nat) : Int) - 1)) = _
  rw [show ((e + 1 : Nat) : Int) - 1 = e by omega]
theorem eq_nil {xs : List D} (h : ∀ x ∈ xs, Shp x) : fEq (.lst xs) (.lst []) = some (.bl xs.isEmpty) := by
  obtain ⟨ps, e, c, dp⟩ := shp_list h
  have e1 : toP (.lst xs) = some (.list ps) := by
    unfold toP
    rw [e]
    rfl
  have s1 : SeqAt.shaped (.list ps) = true := by
    unfold SeqAt.shaped
    rw [Bool.and_eq_true]
    refine ⟨?_, decide_eq_true ?_⟩
    · unfold PyData.canLay0
      exact c
    · unfold PyData.depth
      omega
  refine (eqB_of (g := id) (q := .list []) e1 s1 rfl (by kernel_rfl)).trans ?_
  cases xs with
  | nil =>
    cases e
    rfl
  | cons x xs =>
    unfold toPL at e
    split at e
    · cases e; rfl
    · cases e
section
variable {z : Int} {ps : List (Key × D)} {s : Str} {e : Nat}
theorem args_of {as ys : List D} {bs : List Str} (hb : as = bs.map D.str) (h : Fa2 (fun x y => ∃ a, x = .str a ∧ TermR z ps a e y) as ys) : ∃ M, WTs z ps bs ys M (e + 2) ∧ M ≤ bs.length * cb e := by
  induction h generalizing bs with
  | nil =>
    cases bs with
    | nil => exact ⟨0, .nil, by omega⟩
    | cons b bs => cases hb
  | cons r _ ih =>
    cases bs with
    | nil => cases hb
    | cons b bs =>
      rw [List.map_cons] at hb
      injection hb with h1 h2
      obtain ⟨a, ea, N, h, w, hh, hN⟩ := r
      rw [h1] at ea
      cases ea
      obtain ⟨M, ws, hM⟩ := ih h2
      refine ⟨N + M, .cons w hh ws, ?_⟩
      rw [List.length_cons, Nat.succ_mul]
      omega
abbrev cE (z : Int) (ps : List (Key × D)) (s : Str) (e : Nat) (w : Dw) (s5 s6 s7 : Sl) : PB.Env := [io w, .fr (.int z), .fr (dctOf ps), .fr (.str s), .fr (.int ((e + 1 : Nat) : Int)), s5, s6, s7]
theorem call_test {d : D} (h : SOk d) (hs : s ∈ sort3) : ∃ b1 b2 : Bool, ∃ (as : List Str) (t : Str), d = .tup [.tup (as.map D.str), .str t] ∧ as.length ≤ 3 ∧ (∀ a ∈ as, a ∈ sort3) ∧ fNe (.tup (as.map D.str)) (.tup []) = some (.bl b1) ∧ fEq (.str t) (.str s) = some (.bl b2) ∧ (b2 = true → t = s) := by
  obtain ⟨as, t, rfl, hl, ha, ht⟩ := h
  have sh : SH (.tup (as.map D.str)) 1 := SH.tup fun y hy => by
    obtain ⟨a, h, rfl⟩ := List.mem_map.mp hy
    exact SH.str (canS (ha a h)) 0
  obtain ⟨p, ep, sp⟩ := shaped_of (sh.shp (by decide))
  obtain ⟨p1, e1, q1⟩ := shaped_of (shp_str (canS ht))
  obtain ⟨p2, e2, q2⟩ := shaped_of (shp_str (canS hs))
  cases (show some (PyData.str t) = some p1 from e1)
  cases (show some (PyData.str s) = some p2 from e2)
  exact ⟨_, _, as, t, rfl, hl, ha, eqB_of (g := not) (q := .tuple []) ep sp rfl (by kernel_rfl), eqB_of (g := id) e1 q1 e2 q2, fun hb => eq_of_beq (show (t == s) = true from hb)⟩
theorem call_ok {Fc F : PB.Env → FR} (hF : TOk F z e) {L : Nat} (g : NOk L ps) (hL : L + e < 50) (hs : s ∈ sort3) (w : Dw) (he : e ≤ 15) : ∃ (d : D) (w' : Dw), runF [0] 5 8 (m_law_call Fc F) [io w, .fr (.int z), .fr (dctOf ps), .fr (.str s), .fr (.int ((e + 1 : Nat) : Int))] = .ok d [io w', .un, .un, .un, .un] ∧ (d = .non ∨ ((∃ xs, d = .tup xs) ∧ TermR z ps s (e + 1) d)) := by
  obtain ⟨us, ek, hl, hw⟩ := g.words
  let ws := sortS us
  have hws : ∀ w ∈ ws, okW w ∧ ∃ d, look ps w = some d ∧ SOk d := fun v hv => hw v ((sortS_perm us).subset hv)
  have lws : ws.length ≤ L := by
    show (sortS us).length ≤ L
    rw [(sortS_perm us).length_eq]
    exact hl
  have hb : ∀ v ∈ ws, ∃ b : Bool, (mAndB (mTru (bin2 fNe (bin2 fIxA (bin2 fIxA (rdV 2) (rdV 6)) (rdC (.int 0))) (mTup mNil))) (mTru (bin2 fEq (bin2 fIxA (bin2 fIxA (rdV 2) (rdV 6)) (rdC (.int 1))) (rdV 3)))) (cE z ps s e w .un (.fr (.str v)) .un) = .ok b (cE z ps s e w .un (.fr (.str v)) .un) ∧
      (b = true → ∃ as : List Str, look ps v = some (.tup [.tup (as.map D.str), .str s]) ∧ as.length ≤ 3 ∧ ∀ a ∈ as, a ∈ sort3) := fun v h => by
    obtain ⟨_, d, e0, hsd⟩ := hws v h
    obtain ⟨b1, b2, as, t, rfl, hl, ha, en, eq, ht⟩ := call_test hsd hs
    let ρ := cE z ps s e w .un (.fr (.str v)) .un
    have x0 : (bin2 fIxA (rdV 2) (rdV 6)) ρ = .ok (.tup [.tup (as.map D.str), .str t]) ρ := bin2_ok (x := dctOf ps) (y := .str v) (ρ1 := ρ) (ρ2 := ρ) rfl rfl e0
    have t1 : mTru (bin2 fNe (bin2 fIxA (bin2 fIxA (rdV 2) (rdV 6)) (rdC (.int 0))) (mTup mNil)) ρ = .ok b1 ρ := mTru_ok (bin2_ok (y := .tup []) (ρ1 := ρ) (ρ2 := ρ) (bin2_ok (y := .int 0) (ρ2 := ρ) x0 rfl rfl) rfl en)
    have t2 : mTru (bin2 fEq (bin2 fIxA (bin2 fIxA (rdV 2) (rdV 6)) (rdC (.int 1))) (rdV 3)) ρ = .ok b2 ρ := mTru_ok (bin2_ok (y := .str s) (ρ1 := ρ) (ρ2 := ρ) (bin2_ok (y := .int 1) (ρ2 := ρ) x0 rfl rfl) rfl eq)
    cases b1 with
    | false => exact ⟨false, mAndB_f t1, fun h => nomatch h⟩
    | true => exact ⟨b2, mAndB_t t1 t2, fun h => ⟨as, by rw [e0, ht h], hl, ha⟩⟩
  classical
  let b : Str → Bool := fun v => if h : v ∈ ws then (hb v h).choose else false
  have lc := lcL_filS (own := [6]) (gb := bName 6) (mt := (mAndB (mTru (bin2 fNe (bin2 fIxA (bin2 fIxA (rdV 2) (rdV 6)) (rdC (.int 0))) (mTup mNil))) (mTru (bin2 fEq (bin2 fIxA (bin2 fIxA (rdV 2) (rdV 6)) (rdC (.int 1))) (rdV 3))))) (me := e_law_call_0 Fc F) (b := b) (ρ := cE z ps s e w .un .un .un) (ws := ws) (acc := []) (fun v h => by
    have := (hb v h).choose_spec.1
    have eb : b v = (hb v h).choose := dif_pos h
    exact ⟨cE z ps s e w .un (.fr (.str v)) .un, rfl, by rw [eb]; exact this, rfl, rfl⟩) (by show 0 + ws.length < 16777216; omega)
  rw [List.nil_append] at lc
  have e1 : (mItems asAll (mFn fSorted (mCons (rdV 2) mNil))) (cE z ps s e w .un .un .un) = .ok (ws.map D.str) (cE z ps s e w .un .un .un) := mItems_ok (mFn_ok (mCons_ok (x := dctOf ps) (ρ1 := cE z ps s e w .un .un .un) rfl rfl) (sorted_dct ek (by omega))) rfl
  have hsome : ∀ v ∈ ws.filter b, okW v ∧ ∃ as : List Str, look ps v = some (.tup [.tup (as.map D.str), .str s]) ∧ as.length ≤ 3 ∧ ∀ a ∈ as, a ∈ sort3 := fun v hv => by
    obtain ⟨h, hbv⟩ := List.mem_filter.mp hv
    have eb : b v = (hb v h).choose := dif_pos h
    exact ⟨(hws v h).1, (hb v h).choose_spec.2 (by rw [← eb]; exact hbv)⟩
  have lsome : (ws.filter b).length ≤ L := Nat.le_trans (List.length_filter_le _ _) lws
  revert lc
  generalize ws.filter b = fs at hsome lsome
  intro lc
  have s0 : a_law_call_0 Fc F (cE z ps s e w .un .un .un) = .ok .nx (cE z ps s e w (.ow (.lst (fs.map D.str))) .un .un) := bind_ok (a := .lst (fs.map D.str)) (ρ := cE z ps s e w .un .un .un) (mLc_ok (r := .ok (.lst (fs.map D.str)) (cE z ps s e w .un .un .un)) e1 lc) rfl
  let f5 : Sl := .fr (.lst (fs.map D.str))
  have t1 : mTru (bin2 fEq (rdV 5) (mLst mNil)) (cE z ps s e w (.ow (.lst (fs.map D.str))) .un .un) = .ok (fs.map D.str).isEmpty (cE z ps s e w f5 .un .un) := mTru_ok (bin2_ok (x := .lst (fs.map D.str)) (y := .lst []) (ρ1 := cE z ps s e w f5 .un .un) (ρ2 := cE z ps s e w f5 .un .un) rfl rfl (eq_nil fun x hx => by
    obtain ⟨v, hv, rfl⟩ := List.mem_map.mp hx
    exact shp_str (hsome v hv).1.2))
  have fin : ∀ (d : D) (w' : Dw) (t5 t6 t7 : Sl), sSeq (a_law_call_1 Fc F) (sSeq (a_law_call_2 Fc F) (a_law_call_3 Fc F)) (cE z ps s e w (.ow (.lst (fs.map D.str))) .un .un) = .ok (.rt d) (cE z ps s e w' t5 t6 t7) → runF [0] 5 8 (m_law_call Fc F) [io w, .fr (.int z), .fr (dctOf ps), .fr (.str s), .fr (.int ((e + 1 : Nat) : Int))] = .ok d [io w', .un, .un, .un, .un] := fun d w' t5 t6 t7 h =>
    (runF_rt (ρ := cE z ps s e w' t5 t6 t7) rfl (show m_law_call Fc F (cE z ps s e w .un .un .un) = _ from sSeq_ok s0 h)).trans rfl
  cases fs with
  | nil => exact ⟨.non, w, fin .non w _ _ _ (sSeq_rt (sIf_rt t1 rfl)), .inl rfl⟩
  | cons v fs =>
    obtain ⟨x, w1, ep, hx⟩ := pick_at (ρ := cE z ps s e w f5 .un .un) (j := 0) (xs := (v :: fs).map D.str) (.io w) rfl (by simp) (by rw [List.length_map]; omega)
    obtain ⟨y, hy, rfl⟩ := List.mem_map.mp hx
    obtain ⟨hyw, as, hlk, hal, haa⟩ := hsome y hy
    have s2 : a_law_call_2 Fc F (cE z ps s e w f5 .un .un) = .ok .nx (cE z ps s e w1 f5 (.fr (.str y)) .un) := sAsg_ok ep rfl
    have ei : (mItems asAll (bin2 fIxA (bin2 fIxA (rdV 2) (rdV 6)) (rdC (.int 0)))) (cE z ps s e w1 f5 (.fr (.str y)) .un) = .ok (as.map D.str) (cE z ps s e w1 f5 (.fr (.str y)) .un) := by
      have x0 : (bin2 fIxA (rdV 2) (rdV 6)) (cE z ps s e w1 f5 (.fr (.str y)) .un) = .ok (.tup [.tup (as.map D.str), .str s]) (cE z ps s e w1 f5 (.fr (.str y)) .un) := bin2_ok (x := dctOf ps) (y := .str y) (ρ1 := cE z ps s e w1 f5 (.fr (.str y)) .un) (ρ2 := cE z ps s e w1 f5 (.fr (.str y)) .un) rfl rfl hlk
      exact mItems_ok (bin2_ok (y := .int 0) (d := .tup (as.map D.str)) (ρ2 := cE z ps s e w1 f5 (.fr (.str y)) .un) x0 rfl rfl) rfl
    obtain ⟨ys, ρ', el, ⟨w2, er⟩, hr⟩ := lcL_rel (own := [7]) (gb := bName 7) (me := e_law_call_1 Fc F) (J := fun ρ => ∃ w, ρ = cE z ps s e w f5 (.fr (.str y)) .un) (Rel := fun x y => ∃ a, x = .str a ∧ TermR z ps a e y) (xs := as.map D.str) (acc := []) (ρ := cE z ps s e w1 f5 (.fr (.str y)) .un) (fun x hx ρ ⟨w0, er⟩ => by
      subst er
      obtain ⟨a, ha, rfl⟩ := List.mem_map.mp hx
      obtain ⟨d, w3, ef, ht⟩ := hF L ps a w0 g hL (haa a ha)
      let ρ1 := cE z ps s e w0 f5 (.fr (.str y)) (.fr (.str a))
      have ea : (aS 0 (aV (rdV 1) (aV (rdV 2) (aV (rdV 7) (aV (bin2 fSub (rdV 4) (rdC (.int 1))) aNil))))) ρ1 = .ok [.s 0, .v (.int z), .v (dctOf ps), .v (.str a), .v (.int e)] ρ1 := by
        have ev : (aV (rdV 1) (aV (rdV 2) (aV (rdV 7) (aV (bin2 fSub (rdV 4) (rdC (.int 1))) aNil)))) ρ1 = .ok [.v (.int z), .v (dctOf ps), .v (.str a), .v (.int e)] ρ1 := aV_ok (ρ1 := ρ1) rfl (aV_ok (ρ1 := ρ1) rfl (aV_ok (ρ1 := ρ1) rfl (aV_ok (bin2_ok (x := .int ((e + 1 : Nat) : Int)) (y := .int 1) (ρ1 := ρ1) (ρ2 := ρ1) rfl rfl (subE e)) rfl)))
        exact aS_ok (ρ := ρ1) (.io w0) rfl ev
      refine ⟨ρ1, d, cE z ps s e w3 f5 (.fr (.str y)) (.fr (.str a)), rfl, ?_, ⟨a, rfl, ht⟩, w3, rfl⟩
      exact mCall_ok ea (callW (ds := [.int z, dctOf ps, .str a, .int e]) (ρ := ρ1) (j := 0) (.io w0) rfl ef rfl)) ⟨w1, rfl⟩ (by rw [List.length_map]; show 0 + as.length < 16777216; omega)
    subst er
    rw [List.nil_append] at el
    obtain ⟨M, wts, hM⟩ := args_of rfl hr
    have et : (mTup (mCons (rdC (.str "name")) (mCons (rdV 6) (mCons (mFn fTupOf (mCons (mFrz (mLc [7] (bName 7) (mItems asAll (bin2 fIxA (bin2 fIxA (rdV 2) (rdV 6)) (rdC (.int 0)))) mYes (e_law_call_1 Fc F))) mNil)) mNil)))) (cE z ps s e w1 f5 (.fr (.str y)) .un) = .ok (.tup [.str "name", .str y, .tup ys]) (cE z ps s e w2 f5 (.fr (.str y)) .un) :=
      mTup_ok (mCons_ok (x := .str "name") (xs := [.str y, .tup ys]) (ρ1 := cE z ps s e w1 f5 (.fr (.str y)) .un) rfl (mCons_ok (x := .str y) (xs := [.tup ys]) (ρ1 := cE z ps s e w1 f5 (.fr (.str y)) .un) rfl (mCons_ok (mFn_ok (mCons_ok (mFrz_ok (mLc_ok (r := .ok (.lst ys) (cE z ps s e w2 f5 (.fr (.str y)) .un)) ei el) rfl) rfl) rfl) rfl))) (by show 3 ≤ 16777216; decide)
    refine ⟨.tup [.str "name", .str y, .tup ys], w2, fin _ w2 _ _ _ (sSeq_ok (sIf_f t1 rfl) (sSeq_ok s2 (sRet_ok et))), .inr ⟨⟨_, rfl⟩, M + 1, e + 2 + 1, wt_name hyw.2 hlk haa (by omega) wts (by omega), by omega, ?_⟩⟩
    have := Nat.mul_le_mul_right (cb e) hal
    show M + 1 ≤ 3 * cb e + 1
    omega
end
end PB.Lk02
set_option maxRecDepth 100000
set_option maxHeartbeats 1000000
namespace PB.Lk02
open PySem PySem.Spec PyProof.Rows L2 PB
/-! ### terms drawn -/
theorem cb_ge : ∀ e, 3 ≤ cb e
  | 0 => by decide
  | e + 1 => by have := cb_ge e; show 3 ≤ 3 * cb e + 1; omega
theorem addL {x y : List D} (h : x.length + y.length ≤ 16777216) : fAdd (.lst x) (.lst y) = some (.lst (x ++ y)) := by
  have e : fAddL (.lst x) (.lst y) = some (.lst (x ++ y)) := if_pos h
  show ((none : Option D).orElse fun _ => (fAddL (.lst x) (.lst y)).orElse fun _ => (fAddT (.lst x) (.lst y)).orElse fun _ => fAddS (.lst x) (.lst y)) = _
  rw [e]
  rfl
section
variable {z : Int} {ps : List (Key × D)} {s : Str} {e : Nat}
abbrev tE (z : Int) (ps : List (Key × D)) (s : Str) (dp : Nat) (w : Dw) (s5 s6 s7 s8 s9 s10 s11 : Sl) : PB.Env := [io w, .fr (.int z), .fr (dctOf ps), .fr (.str s), .fr (.int (dp : Int)), s5, s6, s7, s8, s9, s10, s11]
theorem tcall {F : PB.Env → FR} (hF : TOk F z e) {L : Nat} {qs : List (Key × D)} (g : NOk L qs) (hL : L + e < 50) {t : Str} (ht : t ∈ sort3) {mn ms : M D} {ρ : PB.Env} {w : Dw} (h0 : ρ[0]? = some (io w)) (h1 : (rdV 1) ρ = .ok (.int z) ρ) (hn : mn ρ = .ok (dctOf qs) ρ) (hm : ms ρ = .ok (.str t) ρ) (h4 : (rdV 4) ρ = .ok (.int ((e + 1 : Nat) : Int)) ρ) :
    ∃ (d : D) (w' : Dw), (mCall F (aS 0 (aV (rdV 1) (aV mn (aV ms (aV (bin2 fSub (rdV 4) (rdC (.int 1))) aNil)))))) ρ = .ok d (ρ.set 0 (io w')) ∧ TermR z qs t e d := by
  obtain ⟨d, w', ef, hr⟩ := hF L qs t w g hL ht
  refine ⟨d, w', mCall_ok (aS_ok (.io w) h0 (aV_ok h1 (aV_ok hn (aV_ok hm (aV_ok (bin2_ok h4 (y := .int 1) (ρ2 := ρ) rfl (subE e)) rfl))))) ?_, hr⟩
  exact callW (ds := [.int z, dctOf qs, .str t, .int e]) (.io w) h0 ef rfl
theorem tleaf {L : Nat} (g : NOk L ps) (hL : L < 60) (hz : 0 < z ∧ z < 1000) (hs : s ∈ sort3) {dp : Nat} (w : Dw) (s5 s6 s7 s8 s9 s10 s11 : Sl) : ∃ (d : D) (w' : Dw), (mCall F_law_leaf (aS 0 (aV (rdV 1) (aV (rdV 2) (aV (rdV 3) aNil))))) (tE z ps s dp w s5 s6 s7 s8 s9 s10 s11) = .ok d (tE z ps s dp w' s5 s6 s7 s8 s9 s10 s11) ∧ TermR z ps s e d := by
  obtain ⟨d, w', el, N, h, wt, hh, hN⟩ := leaf_ok (z := z) (ps := ps) (s := s) g hL hz hs w
  have := cb_ge e
  exact ⟨d, w', mCall_ok (ρ1 := tE z ps s dp w s5 s6 s7 s8 s9 s10 s11) (as := [.s 0, .v (.int z), .v (dctOf ps), .v (.str s)]) rfl (callW (ds := [.int z, dctOf ps, .str s]) (ρ := tE z ps s dp w s5 s6 s7 s8 s9 s10 s11) (j := 0) (.io w) rfl el rfl), N, h, wt, by omega, by omega⟩
theorem inner_ok {L : Nat} (g : NOk L ps) (hL : L < 60) {t v : Str} {d : D} {dp : Nat} (w : Dw) (s5 s7 s8 s9 s10 s11 : Sl) {mt : M D} (ht : ∀ ρ, mt ρ = .ok d ρ) : (mFn fDict (mCons (bin2 fAdd (fun ρ => (mItems asDi (rdV 2) ρ).bind fun xs ρ => .ok (.lst xs) ρ) (mLst (mCons (mTup (mCons (rdV 6) (mCons mt mNil))) mNil))) mNil)) (tE z ps s dp w s5 (.fr (.str v)) s7 s8 s9 s10 s11) = .ok (dctOf (putKD ps (.inr v) d)) (tE z ps s dp w s5 (.fr (.str v)) s7 s8 s9 s10 s11) := by
  let ρ := tE z ps s dp w s5 (.fr (.str v)) s7 s8 s9 s10 s11
  have e1 : (mLst (mCons (mTup (mCons (rdV 6) (mCons mt mNil))) mNil)) ρ = .ok (.lst [.tup [.str v, d]]) ρ := mLst_ok (mCons_ok (mTup_ok (mCons_ok (x := .str v) (xs := [d]) (ρ1 := ρ) rfl (mCons_ok (ht ρ) rfl)) (by show 2 ≤ 16777216; decide)) rfl) (by show 1 ≤ 16777216; decide)
  have e2 : (fun ρ => (mItems asDi (rdV 2) ρ).bind fun xs ρ => .ok (.lst xs) ρ : M D) ρ = .ok (.lst (pairsD (ps.map (·.1)) (ps.map (·.2)))) ρ := rfl
  have := g.len
  exact mFn_ok (mCons_ok (bin2_ok e2 e1 (addL (by rw [pairsD_len]; show ps.length + 1 ≤ _; omega))) rfl) (fDict_more g.nd v d)
theorem pickT {dp : Nat} (w : Dw) (s5 s6 s7 s8 s9 s10 s11 : Sl) (xs : List D) (h : 0 < xs.length) (h2 : xs.length < 1000000) : ∃ (x : D) (w' : Dw), callR F_law_pick [.s 0, .v (.lst xs)] (tE z ps s dp w s5 s6 s7 s8 s9 s10 s11) = .ok x (tE z ps s dp w' s5 s6 s7 s8 s9 s10 s11) ∧ x ∈ xs := pick_at (ρ := tE z ps s dp w s5 s6 s7 s8 s9 s10 s11) (j := 0) (.io w) rfl h h2
theorem takeT {dp : Nat} (w : Dw) (s5 s6 s7 s8 s9 s10 s11 : Sl) (a : Int) (h : 0 < a) (h2 : a < 1000000) : ∃ (k : Int) (w' : Dw), callR F_law_take [.s 0, .v (.int a)] (tE z ps s dp w s5 s6 s7 s8 s9 s10 s11) = .ok (.int k) (tE z ps s dp w' s5 s6 s7 s8 s9 s10 s11) ∧ 0 ≤ k ∧ k < a := take_at (ρ := tE z ps s dp w s5 s6 s7 s8 s9 s10 s11) (j := 0) (.io w) rfl h h2
theorem num3 : ("num" : Str) ∈ sort3 := by simp [sort3]
theorem do3 : ("do" : Str) ∈ sort3 := by simp [sort3]
theorem box3 : ("box" : Str) ∈ sort3 := by simp [sort3]
def restB (Fc F : PB.Env → FR) : M Fl := sSeq (a_law_term_3 Fc F) (sSeq (a_law_term_4 Fc F) (sSeq (a_law_term_5 Fc F) (sSeq (a_law_term_6 Fc F) (sSeq (a_law_term_7 Fc F) (sSeq (a_law_term_8 Fc F) (sSeq (a_law_term_9 Fc F) (sSeq (a_law_term_10 Fc F) (a_law_term_11 Fc F))))))))
def CallP (Fc : PB.Env → FR) (z : Int) (ps : List (Key × D)) (s : Str) (e : Nat) : Prop := ∀ w : Dw, ∃ (d : D) (w' : Dw), Fc [io w, .fr (.int z), .fr (dctOf ps), .fr (.str s), .fr (.int ((e + 1 : Nat) : Int))] = .ok d [io w', .un, .un, .un, .un] ∧ (d = .non ∨ ((∃ xs, d = .tup xs) ∧ TermR z ps s (e + 1) d))
/-- a box of a number -/
theorem box_ok {Fc F : PB.Env → FR} (hF : TOk F z e) {L : Nat} (g : NOk L ps) (hL : L + 1 + e < 50) (he : e ≤ 15) (w : Dw) (s5 : Sl) : ∃ (d : D) (w' : Dw) (t6 t7 : Sl), a_law_term_2 Fc F (tE z ps "box" (e + 1) w s5 .un .un .un .un .un .un) = .ok (.rt d) (tE z ps "box" (e + 1) w' s5 t6 t7 .un .un .un .un) ∧ TermR z ps "box" (e + 1) d := by
  obtain ⟨x, w1, ep, hx⟩ := pickT (z := z) (ps := ps) (s := "box") (dp := e + 1) w s5 .un .un .un .un .un .un [.str "w", .str "x"] (by decide) (by decide)
  obtain ⟨v, rfl, hv⟩ : ∃ v, x = .str v ∧ okW v := by
    simp only [List.mem_cons, List.not_mem_nil, or_false] at hx
    rcases hx with h | h
    · exact ⟨"w", h, by kernel_rfl, by kernel_rfl⟩
    · exact ⟨"x", h, by kernel_rfl, by kernel_rfl⟩
  have sn : SOk numD := ⟨[], "num", rfl, Nat.zero_le _, (fun a (h : a ∈ ([] : List Str)) => nomatch h), num3⟩
  let i7 : Sl := .fr (dctOf (putKD ps (.inr v) numD))
  have s1 : (sAsg (bName 6) (mCall F_law_pick (aS 0 (aV (mLst (mCons (rdC (.str "w")) (mCons (rdC (.str "x")) mNil))) aNil)))) (tE z ps "box" (e + 1) w s5 .un .un .un .un .un .un) = .ok .nx (tE z ps "box" (e + 1) w1 s5 (.fr (.str v)) .un .un .un .un .un) := sAsg_ok ep rfl
  obtain ⟨a, w2, ea, Na, ha, wa, hha, hNa⟩ := tcall hF g (by omega) num3 (mn := rdV 2) (ms := rdC (.str "num")) (ρ := tE z ps "box" (e + 1) w1 s5 (.fr (.str v)) i7 .un .un .un .un) (w := w1) rfl rfl rfl rfl rfl
  obtain ⟨b, w3, eb, Nb, hb, wb, hhb, hNb⟩ := tcall hF (g.put hv sn) (by omega) do3 (mn := rdV 7) (ms := rdC (.str "do")) (ρ := tE z ps "box" (e + 1) w2 s5 (.fr (.str v)) i7 .un .un .un .un) (w := w2) rfl rfl rfl rfl rfl
  have et : (mTup (mCons (rdC (.str "made")) (mCons (mCall F (aS 0 (aV (rdV 1) (aV (rdV 2) (aV (rdC (.str "num")) (aV (bin2 fSub (rdV 4) (rdC (.int 1))) aNil)))))) (mCons (rdV 6) (mCons (mCall F (aS 0 (aV (rdV 1) (aV (rdV 7) (aV (rdC (.str "do")) (aV (bin2 fSub (rdV 4) (rdC (.int 1))) aNil)))))) mNil))))) (tE z ps "box" (e + 1) w1 s5 (.fr (.str v)) i7 .un .un .un .un) = .ok (.tup [.str "made", a, .str v, b]) (tE z ps "box" (e + 1) w3 s5 (.fr (.str v)) i7 .un .un .un .un) :=
    mTup_ok (mCons_ok (x := .str "made") (xs := [a, .str v, b]) (ρ1 := tE z ps "box" (e + 1) w1 s5 (.fr (.str v)) i7 .un .un .un .un) rfl (mCons_ok ea (mCons_ok (x := .str v) (xs := [b]) (ρ1 := tE z ps "box" (e + 1) w2 s5 (.fr (.str v)) i7 .un .un .un .un) rfl (mCons_ok eb rfl)))) (by show 4 ≤ 16777216; decide)
  refine ⟨_, w3, .fr (.str v), i7, sIf_t (ρ1 := tE z ps "box" (e + 1) w s5 .un .un .un .un .un .un) (by kernel_rfl) (sSeq_ok s1 (sSeq_ok (sAsg_ok (inner_ok (t := "num") g (by omega) w1 s5 .un .un .un .un .un (d := numD) fun _ => rfl) rfl) (sRet_ok et))), _, _, wt_made (h := e + 2) hv (Nat.le_trans g.len (by omega)) g.nd wa wb hha hhb (by omega), by omega, ?_⟩
  show Na + (Nb + 0) + 1 ≤ 3 * cb e + 1
  omega
theorem two3 {s : Str} (h : two s) : s ∈ sort3 := by
  rcases h with h | h
  · rw [h]; exact num3
  · rw [h]; exact do3
/-- if, then, new: of both sorts -/
theorem both_ok {Fc F : PB.Env → FR} (hF : TOk F z e) {L : Nat} (g : NOk L ps) (hL : L + 1 + e < 50) (he : e ≤ 15) (hz : 0 < z ∧ z < 1000) (ht : two s) (w : Dw) (k : Int) (s6 s7 s8 s9 s10 s11 : Sl) (r : M Fl) :
    (k ≤ 9 ∧ 2 ≤ k → ∃ (d : D) (w' : Dw) (t6 t7 t8 t9 t10 t11 : Sl), sSeq (a_law_term_5 Fc F) (sSeq (a_law_term_6 Fc F) (sSeq (a_law_term_7 Fc F) r)) (tE z ps s (e + 1) w (.fr (.int k)) s6 s7 s8 s9 s10 s11) = .ok (.rt d) (tE z ps s (e + 1) w' (.fr (.int k)) t6 t7 t8 t9 t10 t11) ∧ TermR z ps s (e + 1) d) ∧
    (9 < k → sSeq (a_law_term_5 Fc F) (sSeq (a_law_term_6 Fc F) (sSeq (a_law_term_7 Fc F) r)) (tE z ps s (e + 1) w (.fr (.int k)) s6 s7 s8 s9 s10 s11) = r (tE z ps s (e + 1) w (.fr (.int k)) s6 s7 s8 s9 s10 s11)) := by
  let ρ := tE z ps s (e + 1) w (.fr (.int k)) s6 s7 s8 s9 s10 s11
  have e6 : mTru (bin2 fEq (rdV 5) (rdC (.int 6))) ρ = .ok (k == 6) ρ := rfl
  have l9 : mTru (bin2 fLt (rdV 5) (rdC (.int 9))) ρ = .ok (decide (k < 9)) ρ := rfl
  have e9 : mTru (bin2 fEq (rdV 5) (rdC (.int 9))) ρ = .ok (k == 9) ρ := rfl
  refine ⟨fun hk => ?_, fun hk => ?_⟩
  · by_cases h6 : k = 6
    · rw [show (k == 6) = true by rw [h6]; rfl] at e6
      obtain ⟨a, w1, ea, Na, ha, wa, hha, hNa⟩ := tcall hF g (by omega) num3 (mn := rdV 2) (ms := rdC (.str "num")) (ρ := ρ) (w := w) rfl rfl rfl rfl rfl
      obtain ⟨ys, ρ', el, ⟨w2, er⟩, hr⟩ := lcL_rel (own := [11]) (gb := bName 11) (me := e_law_term_1 Fc F) (J := fun ρ => ∃ w, ρ = tE z ps s (e + 1) w (.fr (.int k)) s6 s7 s8 s9 s10 .un) (Rel := fun _ y => TermR z ps s e y) (xs := rngD 0 2) (acc := []) (ρ := tE z ps s (e + 1) w1 (.fr (.int k)) s6 s7 s8 s9 s10 .un) (fun x hx ρ0 ⟨w0, er⟩ => by
        subst er
        obtain ⟨d, w3, ed, hd⟩ := tcall hF g (by omega) (two3 ht) (mn := rdV 2) (ms := rdV 3) (ρ := tE z ps s (e + 1) w0 (.fr (.int k)) s6 s7 s8 s9 s10 (.fr x)) (w := w0) rfl rfl rfl rfl rfl
        exact ⟨tE z ps s (e + 1) w0 (.fr (.int k)) s6 s7 s8 s9 s10 (.fr x), d, tE z ps s (e + 1) w3 (.fr (.int k)) s6 s7 s8 s9 s10 (.fr x), rfl, ed, hd, w3, rfl⟩) ⟨w1, rfl⟩ (by show 0 + 2 < 16777216; decide)
      subst er
      rw [List.nil_append] at el
      cases hr with
      | cons r1 hr =>
        cases hr with
        | cons r2 hr =>
          cases hr
          rename_i b c
          obtain ⟨Nb, hb, wb, hhb, hNb⟩ := r1
          obtain ⟨Nc, hc, wc, hhc, hNc⟩ := r2
          have em : (mCons (mCall F (aS 0 (aV (rdV 1) (aV (rdV 2) (aV (rdC (.str "num")) (aV (bin2 fSub (rdV 4) (rdC (.int 1))) aNil)))))) (mCons (mFrz (mLc [11] (bName 11) (mItemsL asR1 (mCons (rdC (.int 2)) mNil)) mYes (e_law_term_1 Fc F))) mNil)) ρ = .ok [a, .lst [b, c]] (tE z ps s (e + 1) w2 (.fr (.int k)) s6 s7 s8 s9 s10 .un) := mCons_ok ea (mCons_ok (mFrz_ok (mLc_ok (ρ1 := tE z ps s (e + 1) w1 (.fr (.int k)) s6 s7 s8 s9 s10 s11) (xs := rngD 0 2) (r := .ok (.lst [b, c]) (tE z ps s (e + 1) w2 (.fr (.int k)) s6 s7 s8 s9 s10 .un)) (by kernel_rfl) el) rfl) rfl)
          have sp : (sPar 9 10 (mCons (mCall F (aS 0 (aV (rdV 1) (aV (rdV 2) (aV (rdC (.str "num")) (aV (bin2 fSub (rdV 4) (rdC (.int 1))) aNil)))))) (mCons (mFrz (mLc [11] (bName 11) (mItemsL asR1 (mCons (rdC (.int 2)) mNil)) mYes (e_law_term_1 Fc F))) mNil))) ρ = .ok .nx (tE z ps s (e + 1) w2 (.fr (.int k)) s6 s7 s8 (.fr a) (.fr (.lst [b, c])) .un) := bind_ok em rfl
          have et : (sRet (mTup (mCons (rdC (.str "if")) (mCons (rdV 9) (mCons (bin2 fIxA (rdV 10) (rdC (.int 0))) (mCons (bin2 fIxA (rdV 10) (rdC (.int 1))) mNil)))))) (tE z ps s (e + 1) w2 (.fr (.int k)) s6 s7 s8 (.fr a) (.fr (.lst [b, c])) .un) = .ok (.rt (.tup [.str "if", a, b, c])) (tE z ps s (e + 1) w2 (.fr (.int k)) s6 s7 s8 (.fr a) (.fr (.lst [b, c])) .un) := by kernel_rfl
          refine ⟨.tup [.str "if", a, b, c], w2, s6, s7, s8, _, _, _, sSeq_rt (sIf_t e6 (sSeq_ok sp et)), _, _, wt_if (h := e + 2) ht wa wb wc hha hhb hhc (by omega), by omega, ?_⟩
          show Na + (Nb + (Nc + 0)) + 1 ≤ 3 * cb e + 1
          omega
    · rw [show (k == 6) = false from beq_eq_false_iff_ne.mpr h6] at e6
      by_cases h9 : k < 9
      · rw [decide_eq_true h9] at l9
        obtain ⟨a, w1, ea, Na, ha, wa, hha, hNa⟩ := tcall hF g (by omega) do3 (mn := rdV 2) (ms := rdC (.str "do")) (ρ := ρ) (w := w) rfl rfl rfl rfl rfl
        obtain ⟨b, w2, eb, Nb, hb, wb, hhb, hNb⟩ := tcall hF g (by omega) (two3 ht) (mn := rdV 2) (ms := rdV 3) (ρ := tE z ps s (e + 1) w1 (.fr (.int k)) s6 s7 s8 s9 s10 s11) (w := w1) rfl rfl rfl rfl rfl
        refine ⟨.tup [.str "then", a, b], w2, s6, s7, s8, s9, s10, s11, sSeq_ok (sIf_f e6 rfl) (sSeq_rt (sIf_rt l9 (mTup_ok (mCons_ok (x := .str "then") (xs := [a, b]) (ρ1 := ρ) rfl (mCons_ok ea (mCons_ok eb rfl))) (by show 3 ≤ 16777216; decide)))), _, _, wt_then (h := e + 2) ht wa wb hha hhb (by omega), by omega, ?_⟩
        show Na + (Nb + 0) + 1 ≤ 3 * cb e + 1
        omega
      · rw [decide_eq_false h9] at l9
        rw [show (k == 9) = true by rw [show k = 9 by omega]; rfl] at e9
        obtain ⟨x, w1, ep, hx⟩ := pickT (z := z) (ps := ps) (s := s) (dp := e + 1) w (.fr (.int k)) s6 s7 s8 s9 s10 s11 [.str "c", .str "d", .str "v"] (by decide) (by decide)
        obtain ⟨v, rfl, hv⟩ : ∃ v, x = .str v ∧ okW v := by
          simp only [List.mem_cons, List.not_mem_nil, or_false] at hx
          rcases hx with h | h | h
          · exact ⟨"c", h, by kernel_rfl, by kernel_rfl⟩
          · exact ⟨"d", h, by kernel_rfl, by kernel_rfl⟩
          · exact ⟨"v", h, by kernel_rfl, by kernel_rfl⟩
        have sn : SOk boxD := ⟨[], "box", rfl, Nat.zero_le _, (fun a (h : a ∈ ([] : List Str)) => nomatch h), box3⟩
        let i7 : Sl := .fr (dctOf (putKD ps (.inr v) boxD))
        have s1 : (sAsg (bName 6) (mCall F_law_pick (aS 0 (aV (mLst (mCons (rdC (.str "c")) (mCons (rdC (.str "d")) (mCons (rdC (.str "v")) mNil)))) aNil)))) ρ = .ok .nx (tE z ps s (e + 1) w1 (.fr (.int k)) (.fr (.str v)) s7 s8 s9 s10 s11) := sAsg_ok ep rfl
        obtain ⟨m, w2, em, m1, m2⟩ := takeT (z := z) (ps := ps) (s := s) (dp := e + 1) w1 (.fr (.int k)) (.fr (.str v)) i7 s8 s9 s10 s11 z hz.1 (by omega)
        have em2 : (mCall F_law_take (aS 0 (aV (rdV 1) aNil))) (tE z ps s (e + 1) w1 (.fr (.int k)) (.fr (.str v)) i7 s8 s9 s10 s11) = .ok (.int m) (tE z ps s (e + 1) w2 (.fr (.int k)) (.fr (.str v)) i7 s8 s9 s10 s11) := em
        obtain ⟨b, w3, eb, Nb, hb, wb, hhb, hNb⟩ := tcall hF (g.put hv sn) (by omega) (two3 ht) (mn := rdV 7) (ms := rdV 3) (ρ := tE z ps s (e + 1) w2 (.fr (.int k)) (.fr (.str v)) i7 s8 s9 s10 s11) (w := w2) rfl rfl rfl rfl rfl
        have et : (mTup (mCons (rdC (.str "new")) (mCons (rdV 6) (mCons (mCall F_law_take (aS 0 (aV (rdV 1) aNil))) (mCons (mCall F (aS 0 (aV (rdV 1) (aV (rdV 7) (aV (rdV 3) (aV (bin2 fSub (rdV 4) (rdC (.int 1))) aNil)))))) mNil))))) (tE z ps s (e + 1) w1 (.fr (.int k)) (.fr (.str v)) i7 s8 s9 s10 s11) = .ok (.tup [.str "new", .str v, .int m, b]) (tE z ps s (e + 1) w3 (.fr (.int k)) (.fr (.str v)) i7 s8 s9 s10 s11) :=
          mTup_ok (mCons_ok (x := .str "new") (xs := [.str v, .int m, b]) (ρ1 := tE z ps s (e + 1) w1 (.fr (.int k)) (.fr (.str v)) i7 s8 s9 s10 s11) rfl (mCons_ok (x := .str v) (xs := [.int m, b]) (ρ1 := tE z ps s (e + 1) w1 (.fr (.int k)) (.fr (.str v)) i7 s8 s9 s10 s11) rfl (mCons_ok em2 (mCons_ok eb rfl)))) (by show 4 ≤ 16777216; decide)
        refine ⟨.tup [.str "new", .str v, .int m, b], w3, .fr (.str v), i7, s8, s9, s10, s11, sSeq_ok (sIf_f e6 rfl) (sSeq_ok (sIf_f l9 rfl) (sSeq_rt (sIf_t e9 (sSeq_ok s1 (sSeq_ok (sAsg_ok (inner_ok (t := "box") g (by omega) w1 (.fr (.int k)) s7 s8 s9 s10 s11 (d := boxD) fun _ => rfl) rfl) (sRet_ok et)))))), _, _, wt_new hv (Nat.le_trans g.len (by omega)) g.nd m1 m2 ht wb (by omega), by omega, ?_⟩
        show Nb + 0 + 1 ≤ 3 * cb e + 1
        omega
  · rw [show (k == 6) = false from beq_eq_false_iff_ne.mpr (by omega)] at e6
    rw [decide_eq_false (by omega)] at l9
    rw [show (k == 9) = false from beq_eq_false_iff_ne.mpr (by omega)] at e9
    exact sSeq_ok (sIf_f e6 rfl) (sSeq_ok (sIf_f l9 rfl) (sSeq_ok (sIf_f e9 rfl) rfl))
def endN (Fc F : PB.Env → FR) : M Fl := sSeq (a_law_term_8 Fc F) (sSeq (a_law_term_9 Fc F) (sSeq (a_law_term_10 Fc F) (a_law_term_11 Fc F)))
theorem endN_num {Fc F : PB.Env → FR} (hF : TOk F z e) {L : Nat} (g : NOk L ps) (hL : L + 1 + e < 50) (he : e ≤ 15) (w : Dw) (k : Int) (s6 s7 s8 s9 s10 s11 : Sl) : ∃ (d : D) (w' : Dw), endN Fc F (tE z ps "num" (e + 1) w (.fr (.int k)) s6 s7 s8 s9 s10 s11) = .ok (.rt d) (tE z ps "num" (e + 1) w' (.fr (.int k)) s6 s7 s8 s9 s10 s11) ∧ TermR z ps "num" (e + 1) d := by
  let ρ (w : Dw) := tE z ps "num" (e + 1) w (.fr (.int k)) s6 s7 s8 s9 s10 s11
  have tn : mTru (bin2 fEq (rdV 3) (rdC (.str "num"))) (ρ w) = .ok true (ρ w) := by kernel_rfl
  have e10 : mTru (bin2 fEq (rdV 5) (rdC (.int 10))) (ρ w) = .ok (k == 10) (ρ w) := rfl
  have e11 : mTru (bin2 fEq (rdV 5) (rdC (.int 11))) (ρ w) = .ok (k == 11) (ρ w) := rfl
  have last : ∀ w0, ∃ (d : D) (w' : Dw), (sRet (mTup (mCons (mCall F_law_pick (aS 0 (aV (mLst (mCons (rdC (.str "sum")) (mCons (rdC (.str "less")) (mCons (rdC (.str "same")) (mCons (rdC (.str "below")) mNil))))) aNil))) (mCons (mCall F (aS 0 (aV (rdV 1) (aV (rdV 2) (aV (rdC (.str "num")) (aV (bin2 fSub (rdV 4) (rdC (.int 1))) aNil)))))) (mCons (mCall F (aS 0 (aV (rdV 1) (aV (rdV 2) (aV (rdC (.str "num")) (aV (bin2 fSub (rdV 4) (rdC (.int 1))) aNil)))))) mNil))))) (ρ w0) = .ok (.rt d) (ρ w') ∧ TermR z ps "num" (e + 1) d := fun w0 => by
    obtain ⟨x, w1, ep, hx⟩ := pickT (z := z) (ps := ps) (s := "num") (dp := e + 1) w0 (.fr (.int k)) s6 s7 s8 s9 s10 s11 (sums.map D.str) (by decide) (by decide)
    obtain ⟨v, hv, rfl⟩ := List.mem_map.mp hx
    have ep2 : (mCall F_law_pick (aS 0 (aV (mLst (mCons (rdC (.str "sum")) (mCons (rdC (.str "less")) (mCons (rdC (.str "same")) (mCons (rdC (.str "below")) mNil))))) aNil))) (ρ w0) = .ok (.str v) (ρ w1) := ep
    obtain ⟨a, w2, ea, Na, ha, wa, hha, hNa⟩ := tcall hF g (by omega) num3 (mn := rdV 2) (ms := rdC (.str "num")) (ρ := ρ w1) (w := w1) rfl rfl rfl rfl rfl
    obtain ⟨b, w3, eb, Nb, hb, wb, hhb, hNb⟩ := tcall hF g (by omega) num3 (mn := rdV 2) (ms := rdC (.str "num")) (ρ := ρ w2) (w := w2) rfl rfl rfl rfl rfl
    refine ⟨.tup [.str v, a, b], w3, sRet_ok (mTup_ok (mCons_ok ep2 (mCons_ok ea (mCons_ok eb rfl))) (by show 3 ≤ 16777216; decide)), _, _, wt_sum (h := e + 2) hv wa wb hha hhb (by omega), by omega, ?_⟩
    show Na + (Nb + 0) + 1 ≤ 3 * cb e + 1
    omega
  by_cases h10 : k = 10
  · rw [show (k == 10) = true by rw [h10]; rfl] at e10
    obtain ⟨a, w2, ea, Na, ha, wa, hha, hNa⟩ := tcall hF g (by omega) num3 (mn := rdV 2) (ms := rdC (.str "num")) (ρ := ρ w) (w := w) rfl rfl rfl rfl rfl
    exact ⟨.tup [.str "not", a], w2, sSeq_rt (sIf_t tn (sSeq_rt (sIf_rt e10 (mTup_ok (mCons_ok (x := .str "not") (xs := [a]) (ρ1 := ρ w) rfl (mCons_ok ea rfl)) (by show 2 ≤ 16777216; decide))))), _, _, wt_not wa (by omega), by omega, by show Na + 1 ≤ 3 * cb e + 1; omega⟩
  · rw [show (k == 10) = false from beq_eq_false_iff_ne.mpr h10] at e10
    by_cases h11 : k = 11
    · rw [show (k == 11) = true by rw [h11]; rfl] at e11
      obtain ⟨m, w1, em, m1, m2⟩ := takeT (z := z) (ps := ps) (s := "num") (dp := e + 1) w (.fr (.int k)) s6 s7 s8 s9 s10 s11 2 (by decide) (by decide)
      have em2 : (mCall F_law_take (aS 0 (aV (rdC (.int 2)) aNil))) (ρ w) = .ok (.int m) (ρ w1) := em
      have t2 : mTru (bin2 fEq (mCall F_law_take (aS 0 (aV (rdC (.int 2)) aNil))) (rdC (.int 0))) (ρ w) = .ok (m == 0) (ρ w1) := mTru_ok (bin2_ok em2 rfl rfl)
      cases hm : (m == 0) with
      | true =>
        rw [hm] at t2
        obtain ⟨a, w2, ea, Na, ha, wa, hha, hNa⟩ := tcall hF g (by omega) box3 (mn := rdV 2) (ms := rdC (.str "box")) (ρ := ρ w1) (w := w1) rfl rfl rfl rfl rfl
        exact ⟨.tup [.str "get", a], w2, sSeq_rt (sIf_t tn (sSeq_ok (sIf_f e10 rfl) (sSeq_rt (sIf_rt (mAndB_t e11 t2) (mTup_ok (mCons_ok (x := .str "get") (xs := [a]) (ρ1 := ρ w1) rfl (mCons_ok ea rfl)) (by show 2 ≤ 16777216; decide)))))), _, _, wt_get wa (by omega), by omega, by show Na + 1 ≤ 3 * cb e + 1; omega⟩
      | false =>
        rw [hm] at t2
        obtain ⟨d, w', ed, hd⟩ := last w1
        exact ⟨d, w', sSeq_rt (sIf_t tn (sSeq_ok (sIf_f e10 rfl) (sSeq_ok (sIf_f (mAndB_t e11 t2) rfl) ed))), hd⟩
    · rw [show (k == 11) = false from beq_eq_false_iff_ne.mpr h11] at e11
      obtain ⟨d, w', ed, hd⟩ := last w
      exact ⟨d, w', sSeq_rt (sIf_t tn (sSeq_ok (sIf_f e10 rfl) (sSeq_ok (sIf_f (mAndB_f e11) rfl) ed))), hd⟩
theorem endN_do {Fc F : PB.Env → FR} (hF : TOk F z e) {L : Nat} (g : NOk L ps) (hL : L + 1 + e < 50) (he : e ≤ 15) (w : Dw) (k : Int) (s6 s7 s8 s9 s10 s11 : Sl) : ∃ (d : D) (w' : Dw), endN Fc F (tE z ps "do" (e + 1) w (.fr (.int k)) s6 s7 s8 s9 s10 s11) = .ok (.rt d) (tE z ps "do" (e + 1) w' (.fr (.int k)) s6 s7 s8 s9 s10 s11) ∧ TermR z ps "do" (e + 1) d := by
  let ρ (w : Dw) := tE z ps "do" (e + 1) w (.fr (.int k)) s6 s7 s8 s9 s10 s11
  have tn : mTru (bin2 fEq (rdV 3) (rdC (.str "num"))) (ρ w) = .ok false (ρ w) := by kernel_rfl
  have e10 : mTru (bin2 fEq (rdV 5) (rdC (.int 10))) (ρ w) = .ok (k == 10) (ρ w) := rfl
  have e11 : mTru (bin2 fEq (rdV 5) (rdC (.int 11))) (ρ w) = .ok (k == 11) (ρ w) := rfl
  have c3 := cb_ge e
  by_cases h10 : k = 10
  · rw [show (k == 10) = true by rw [h10]; rfl] at e10
    obtain ⟨a, w1, ea, Na, ha, wa, hha, hNa⟩ := tcall hF g (by omega) num3 (mn := rdV 2) (ms := rdC (.str "num")) (ρ := ρ w) (w := w) rfl rfl rfl rfl rfl
    obtain ⟨b, w2, eb, Nb, hb, wb, hhb, hNb⟩ := tcall hF g (by omega) do3 (mn := rdV 2) (ms := rdC (.str "do")) (ρ := ρ w1) (w := w1) rfl rfl rfl rfl rfl
    refine ⟨.tup [.str "while", a, b], w2, sSeq_ok (sIf_f tn rfl) (sSeq_rt (sIf_rt e10 (mTup_ok (mCons_ok (x := .str "while") (xs := [a, b]) (ρ1 := ρ w) rfl (mCons_ok ea (mCons_ok eb rfl))) (by show 3 ≤ 16777216; decide)))), _, _, wt_while (h := e + 2) wa wb hha hhb (by omega), by omega, ?_⟩
    show Na + (Nb + 0) + 1 ≤ 3 * cb e + 1
    omega
  · rw [show (k == 10) = false from beq_eq_false_iff_ne.mpr h10] at e10
    by_cases h11 : k = 11
    · rw [show (k == 11) = true by rw [h11]; rfl] at e11
      obtain ⟨m, w1, em, m1, m2⟩ := takeT (z := z) (ps := ps) (s := "do") (dp := e + 1) w (.fr (.int k)) s6 s7 s8 s9 s10 s11 2 (by decide) (by decide)
      have em2 : (mCall F_law_take (aS 0 (aV (rdC (.int 2)) aNil))) (ρ w) = .ok (.int m) (ρ w1) := em
      have t2 : mTru (bin2 fEq (mCall F_law_take (aS 0 (aV (rdC (.int 2)) aNil))) (rdC (.int 0))) (ρ w) = .ok (m == 0) (ρ w1) := mTru_ok (bin2_ok em2 rfl rfl)
      cases hm : (m == 0) with
      | true =>
        rw [hm] at t2
        obtain ⟨a, w2, ea, Na, ha, wa, hha, hNa⟩ := tcall hF g (by omega) num3 (mn := rdV 2) (ms := rdC (.str "num")) (ρ := ρ w1) (w := w1) rfl rfl rfl rfl rfl
        exact ⟨.tup [.str "claim", a], w2, sSeq_ok (sIf_f tn rfl) (sSeq_ok (sIf_f e10 rfl) (sSeq_rt (sIf_rt e11 (bind_ok t2 (mTup_ok (mCons_ok (x := .str "claim") (xs := [a]) (ρ1 := ρ w1) rfl (mCons_ok ea rfl)) (by show 2 ≤ 16777216; decide)))))), _, _, wt_claim wa (by omega), by omega, by show Na + 1 ≤ 3 * cb e + 1; omega⟩
      | false =>
        rw [hm] at t2
        exact ⟨.tup [.str "never", .str "do"], w1, sSeq_ok (sIf_f tn rfl) (sSeq_ok (sIf_f e10 rfl) (sSeq_rt (sIf_rt e11 (bind_ok t2 (by kernel_rfl))))), _, _, wt_never, by omega, by show 1 ≤ 3 * cb e + 1; omega⟩
    · rw [show (k == 11) = false from beq_eq_false_iff_ne.mpr h11] at e11
      obtain ⟨a, w1, ea, Na, ha, wa, hha, hNa⟩ := tcall hF g (by omega) box3 (mn := rdV 2) (ms := rdC (.str "box")) (ρ := ρ w) (w := w) rfl rfl rfl rfl rfl
      obtain ⟨b, w2, eb, Nb, hb, wb, hhb, hNb⟩ := tcall hF g (by omega) num3 (mn := rdV 2) (ms := rdC (.str "num")) (ρ := ρ w1) (w := w1) rfl rfl rfl rfl rfl
      refine ⟨.tup [.str "set", a, b], w2, sSeq_ok (sIf_f tn rfl) (sSeq_ok (sIf_f e10 rfl) (sSeq_ok (sIf_f e11 rfl) (sRet_ok (mTup_ok (mCons_ok (x := .str "set") (xs := [a, b]) (ρ1 := ρ w) rfl (mCons_ok ea (mCons_ok eb rfl))) (by show 3 ≤ 16777216; decide))))), _, _, wt_set (h := e + 2) wa wb hha hhb (by omega), by omega, ?_⟩
      show Na + (Nb + 0) + 1 ≤ 3 * cb e + 1
      omega
end
end PB.Lk02
set_option maxRecDepth 100000
set_option maxHeartbeats 1000000
namespace PB.Lk02
open PySem PySem.Spec PyProof.Rows L2 PB
section
variable {z : Int}
theorem fin12 {mb : M Fl} {ps : List (Key × D)} {s : Str} {dp : Nat} {w w' : Dw} {d : D} {t5 t6 t7 t8 t9 t10 t11 : Sl} (h : mb (tE z ps s dp w .un .un .un .un .un .un .un) = .ok (.rt d) (tE z ps s dp w' t5 t6 t7 t8 t9 t10 t11)) : runF [0] 5 12 mb [io w, .fr (.int z), .fr (dctOf ps), .fr (.str s), .fr (.int (dp : Int))] = .ok d [io w', .un, .un, .un, .un] :=
  (runF_rt (ρ := tE z ps s dp w' t5 t6 t7 t8 t9 t10 t11) rfl (show mb (tE z ps s dp w .un .un .un .un .un .un .un) = _ from h)).trans rfl
theorem way_ok {Fc F : PB.Env → FR} {ps : List (Key × D)} {s : Str} {dp : Nat} (w : Dw) : ∃ (k : Int) (w' : Dw), a_law_term_0 Fc F (tE z ps s dp w .un .un .un .un .un .un .un) = .ok .nx (tE z ps s dp w' (.fr (.int k)) .un .un .un .un .un .un) ∧ 0 ≤ k ∧ k < 14 := by
  obtain ⟨k, w1, e, k1, k2⟩ := takeT (z := z) (ps := ps) (s := s) (dp := dp) w .un .un .un .un .un .un .un 14 (by decide) (by decide)
  exact ⟨k, w1, sAsg_ok e rfl, k1, k2⟩
theorem term_zero {Fc F : PB.Env → FR} (hz : 0 < z ∧ z < 1000) {L : Nat} {ps : List (Key × D)} {s : Str} (g : NOk L ps) (hL : L < 50) (hs : s ∈ sort3) (w : Dw) : ∃ (d : D) (w' : Dw), runF [0] 5 12 (m_law_term Fc F) [io w, .fr (.int z), .fr (dctOf ps), .fr (.str s), .fr (.int ((0 : Nat) : Int))] = .ok d [io w', .un, .un, .un, .un] ∧ TermR z ps s 0 d := by
  obtain ⟨k, w1, e0, k1, k2⟩ := way_ok (z := z) (ps := ps) (s := s) (dp := 0) (Fc := Fc) (F := F) w
  obtain ⟨d, w2, el, hd⟩ := tleaf (e := 0) g (by omega) hz hs (dp := 0) w1 (.fr (.int k)) .un .un .un .un .un .un
  exact ⟨d, w2, fin12 (sSeq_ok e0 (sSeq_rt (sIf_rt (mOrB_t (by kernel_rfl)) el))), hd⟩
theorem term_step {Fc F : PB.Env → FR} {e : Nat} (hF : TOk F z e) (hz : 0 < z ∧ z < 1000) {L : Nat} {ps : List (Key × D)} {s : Str} (hC : two s → CallP Fc z ps s e) (g : NOk L ps) (hL : L + (e + 1) < 50) (he : e ≤ 15) (hs : s ∈ sort3) (w : Dw) :
    ∃ (d : D) (w' : Dw), runF [0] 5 12 (m_law_term Fc F) [io w, .fr (.int z), .fr (dctOf ps), .fr (.str s), .fr (.int ((e + 1 : Nat) : Int))] = .ok d [io w', .un, .un, .un, .un] ∧ TermR z ps s (e + 1) d := by
  obtain ⟨k, w1, e0, k1, k2⟩ := way_ok (z := z) (ps := ps) (s := s) (dp := e + 1) (Fc := Fc) (F := F) w
  let ρ := tE z ps s (e + 1) w1 (.fr (.int k)) .un .un .un .un .un .un
  have z4 : mTru (bin2 fEq (rdV 4) (rdC (.int 0))) ρ = .ok false ρ := by
    have q : mTru (bin2 fEq (rdV 4) (rdC (.int 0))) ρ = .ok (((e + 1 : Nat) : Int) == 0) ρ := rfl
    rw [show (((e + 1 : Nat) : Int) == 0) = false from beq_eq_false_iff_ne.mpr (by omega)] at q
    exact q
  have l2 : mTru (bin2 fLt (rdV 5) (rdC (.int 2))) ρ = .ok (decide (k < 2)) ρ := rfl
  have l10 : mTru (bin2 fLt (rdV 5) (rdC (.int 10))) ρ = .ok (decide (k < 10)) ρ := rfl
  have leafy : (mOrB (mTru (bin2 fEq (rdV 4) (rdC (.int 0)))) (mOrB (mTru (bin2 fLt (rdV 5) (rdC (.int 2)))) (mAndB (mTru (bin2 fEq (rdV 3) (rdC (.str "box")))) (mTru (bin2 fLt (rdV 5) (rdC (.int 10))))))) ρ = .ok true ρ → ∃ (d : D) (w' : Dw), runF [0] 5 12 (m_law_term Fc F) [io w, .fr (.int z), .fr (dctOf ps), .fr (.str s), .fr (.int ((e + 1 : Nat) : Int))] = .ok d [io w', .un, .un, .un, .un] ∧ TermR z ps s (e + 1) d := fun h => by
    obtain ⟨d, w2, el, hd⟩ := tleaf (e := e + 1) g (by omega) hz hs (dp := e + 1) w1 (.fr (.int k)) .un .un .un .un .un .un
    exact ⟨d, w2, fin12 (sSeq_ok e0 (sSeq_rt (sIf_rt h el))), hd⟩
  by_cases h2 : k < 2
  · rw [decide_eq_true h2] at l2
    exact leafy (mOrB_f z4 (mOrB_t l2))
  · rw [decide_eq_false h2] at l2
    by_cases hb : s = "box"
    · subst hb
      have tb : mTru (bin2 fEq (rdV 3) (rdC (.str "box"))) ρ = .ok true ρ := by kernel_rfl
      by_cases h10 : k < 10
      · rw [decide_eq_true h10] at l10
        exact leafy (mOrB_f z4 (mOrB_f l2 (mAndB_t tb l10)))
      · rw [decide_eq_false h10] at l10
        obtain ⟨d, w2, t6, t7, eb, hd⟩ := box_ok (Fc := Fc) hF g (by omega) he w1 (.fr (.int k))
        exact ⟨d, w2, fin12 (sSeq_ok e0 (sSeq_ok (sIf_f (mOrB_f z4 (mOrB_f l2 (mAndB_t tb l10))) rfl) (sSeq_rt eb))), hd⟩
    · have ht : two s := by
        unfold sort3 at hs
        simp only [List.mem_cons, List.not_mem_nil, or_false] at hs
        rcases hs with h | h | h
        · exact .inl h
        · exact .inr h
        · exact absurd h hb
      have tb : ∀ w0 s5 s6 s7 s8 s9 s10 s11, mTru (bin2 fEq (rdV 3) (rdC (.str "box"))) (tE z ps s (e + 1) w0 s5 s6 s7 s8 s9 s10 s11) = .ok false (tE z ps s (e + 1) w0 s5 s6 s7 s8 s9 s10 s11) := by
        intro w0 s5 s6 s7 s8 s9 s10 s11
        rcases ht with h | h <;> (subst h; kernel_rfl)
      have s1 : a_law_term_1 Fc F ρ = .ok .nx ρ := sIf_f (mOrB_f z4 (mOrB_f l2 (mAndB_f (tb _ _ _ _ _ _ _ _)))) rfl
      have s2 : a_law_term_2 Fc F ρ = .ok .nx ρ := sIf_f (tb _ _ _ _ _ _ _ _) rfl
      -- what stands behind the call
      have tail : ∀ w0, ∃ (d : D) (w' : Dw) (t6 t7 t8 t9 t10 t11 : Sl), sSeq (a_law_term_5 Fc F) (sSeq (a_law_term_6 Fc F) (sSeq (a_law_term_7 Fc F) (endN Fc F))) (tE z ps s (e + 1) w0 (.fr (.int k)) .un .un (.fr .non) .un .un .un) = .ok (.rt d) (tE z ps s (e + 1) w' (.fr (.int k)) t6 t7 t8 t9 t10 t11) ∧ TermR z ps s (e + 1) d := fun w0 => by
        obtain ⟨p1, p2⟩ := both_ok (Fc := Fc) hF g (by omega) he hz ht w0 k .un .un (.fr .non) .un .un .un (endN Fc F)
        by_cases h9 : k ≤ 9
        · exact p1 ⟨h9, by omega⟩
        · rw [p2 (by omega)]
          rcases ht with h | h
          · subst h
            obtain ⟨d, w', ed, hd⟩ := endN_num (Fc := Fc) hF g (by omega) he w0 k .un .un (.fr .non) .un .un .un
            exact ⟨d, w', _, _, _, _, _, _, ed, hd⟩
          · subst h
            obtain ⟨d, w', ed, hd⟩ := endN_do (Fc := Fc) hF g (by omega) he w0 k .un .un (.fr .non) .un .un .un
            exact ⟨d, w', _, _, _, _, _, _, ed, hd⟩
      have l6 : mTru (bin2 fLt (rdV 5) (rdC (.int 6))) ρ = .ok (decide (k < 6)) ρ := rfl
      have non4 : ∀ w0, a_law_term_4 Fc F (tE z ps s (e + 1) w0 (.fr (.int k)) .un .un (.fr .non) .un .un .un) = .ok .nx (tE z ps s (e + 1) w0 (.fr (.int k)) .un .un (.fr .non) .un .un .un) := fun w0 => by kernel_rfl
      by_cases h6 : k < 6
      · rw [decide_eq_true h6] at l6
        obtain ⟨d, w2, ec, hd⟩ := hC ht w1
        have e3 : (mCall Fc (aS 0 (aV (rdV 1) (aV (rdV 2) (aV (rdV 3) (aV (rdV 4) aNil)))))) ρ = .ok d (tE z ps s (e + 1) w2 (.fr (.int k)) .un .un .un .un .un .un) := mCall_ok (ρ1 := ρ) (as := [.s 0, .v (.int z), .v (dctOf ps), .v (.str s), .v (.int ((e + 1 : Nat) : Int))]) rfl (callW (ds := [.int z, dctOf ps, .str s, .int ((e + 1 : Nat) : Int)]) (ρ := ρ) (j := 0) (.io w1) rfl ec rfl)
        have s3 : a_law_term_3 Fc F ρ = .ok .nx (tE z ps s (e + 1) w2 (.fr (.int k)) .un .un (.fr d) .un .un .un) := sAsg_ok (bind_ok l6 e3) rfl
        rcases hd with hd | ⟨⟨xs, hx⟩, hd⟩
        · subst hd
          obtain ⟨d, w', t6, t7, t8, t9, t10, t11, ed, hd⟩ := tail w2
          exact ⟨d, w', fin12 (sSeq_ok e0 (sSeq_ok s1 (sSeq_ok s2 (sSeq_ok s3 (sSeq_ok (non4 w2) ed))))), hd⟩
        · subst hx
          have s4 : a_law_term_4 Fc F (tE z ps s (e + 1) w2 (.fr (.int k)) .un .un (.fr (.tup xs)) .un .un .un) = .ok (.rt (.tup xs)) (tE z ps s (e + 1) w2 (.fr (.int k)) .un .un (.fr (.tup xs)) .un .un .un) := by kernel_rfl
          exact ⟨.tup xs, w2, fin12 (sSeq_ok e0 (sSeq_ok s1 (sSeq_ok s2 (sSeq_ok s3 (sSeq_rt s4))))), hd⟩
      · rw [decide_eq_false h6] at l6
        have s3 : a_law_term_3 Fc F ρ = .ok .nx (tE z ps s (e + 1) w1 (.fr (.int k)) .un .un (.fr .non) .un .un .un) := sAsg_ok (d := .non) (ρ1 := ρ) (bind_ok l6 rfl) rfl
        obtain ⟨d, w', t6, t7, t8, t9, t10, t11, ed, hd⟩ := tail w1
        exact ⟨d, w', fin12 (sSeq_ok e0 (sSeq_ok s1 (sSeq_ok s2 (sSeq_ok s3 (sSeq_ok (non4 w1) ed))))), hd⟩
theorem term_ok (hz : 0 < z ∧ z < 1000) : ∀ (e n : Nat), e ≤ 15 → 2 * e + 1 ≤ n → TOk (G_law_term n) z e
  | 0, n, _, hn => fun L ps s w g hL hs => by
    cases n with
    | zero => omega
    | succ n => exact term_zero hz g (by omega) hs w
  | e + 1, n, he, hn => fun L ps s w g hL hs => by
    cases n with
    | zero => omega
    | succ n =>
      cases n with
      | zero => omega
      | succ n =>
        have hF := term_ok hz e (n + 1) (by omega) (by omega)
        have hF2 := term_ok hz e n (by omega) (by omega)
        exact term_step (Fc := G_law_call (n + 1)) hF hz (fun ht w0 => call_ok (Fc := G_law_call n) hF2 g (by omega) (two3 ht) w0 (by omega)) g hL (by omega) hs w
end
end PB.Lk02
set_option maxRecDepth 100000
set_option maxHeartbeats 1000000
namespace PB.Lk02
open PySem PySem.Spec PyProof.Rows L2 PB
/-! ### sorts and names that are drawn -/
def P3 : List D := [.str "num", .str "do", .str "box"]
def P2 : List D := [.str "num", .str "do"]
def P4 : List D := [.str "num", .str "num", .str "do", .str "box"]
def sorts : List D := .tup [.tup [], .str "box"] :: (rowsU P3 3).flatMap fun a => P2.map fun p => .tup [.tup a, p]
theorem sorts_args {ys : List D} {p : D} (l : ys.length ≤ 3) (h : ∀ y ∈ ys, y ∈ P3) (hp : p ∈ P2) : .tup [.tup ys, p] ∈ sorts := List.mem_cons_of_mem _ (List.mem_flatMap.mpr ⟨ys, mem_rowsU l h, List.mem_map.mpr ⟨p, hp, rfl⟩⟩)
theorem sub43 {p : D} (h : p ∈ P4) : p ∈ P3 := by
  unfold P4 at h
  unfold P3
  simp only [List.mem_cons, List.not_mem_nil, or_false] at h ⊢
  rcases h with h | h | h | h
  · exact .inl h
  · exact .inl h
  · exact .inr (.inl h)
  · exact .inr (.inr h)
theorem sorts_one {p : D} (h : p ∈ P4) : .tup [.tup [], p] ∈ sorts := by
  unfold P4 at h
  simp only [List.mem_cons, List.not_mem_nil, or_false] at h
  rcases h with h | h | h | h
  · exact sorts_args (Nat.zero_le _) (fun _ h => nomatch h) (by rw [h]; exact List.mem_cons_self)
  · exact sorts_args (Nat.zero_le _) (fun _ h => nomatch h) (by rw [h]; exact List.mem_cons_self)
  · exact sorts_args (Nat.zero_le _) (fun _ h => nomatch h) (by rw [h]; exact List.mem_cons_of_mem _ List.mem_cons_self)
  · rw [h]; exact List.mem_cons_self
def tru (r : FR) : Bool := match r with
  | .ok (.bl true) [.un] => true
  | _ => false
theorem tru_ok {r : FR} (h : tru r = true) : r = .ok (.bl true) [.un] := by
  unfold tru at h
  split at h
  · rfl
  · cases h
theorem sorts_all : sorts.all (fun x => tru (F_is_sort [.fr x])) = true := by kernel_rfl
theorem sorts_ok (x : D) (hx : x ∈ sorts) : F_is_sort [.fr x] = .ok (.bl true) [.un] := tru_ok (List.all_eq_true.mp sorts_all x hx)
def W4 : List D := [.str "f", .str "x", .str "v", .str "go"]
def keysW : List Key := [.inr "f", .inr "x", .inr "v", .inr "go"]
theorem words_all : keysW.all (fun k => tru (F_is_word [.fr (keyDt k)])) = true := by kernel_rfl
theorem words_ok (k : Key) (hk : k ∈ keysW) : F_is_word [.fr (keyDt k)] = .ok (.bl true) [.un] := tru_ok (List.all_eq_true.mp words_all k hk)
def GoodP (ps : List (Key × D)) : Prop := ∀ p ∈ ps, p.1 ∈ keysW ∧ p.2 ∈ sorts
theorem names_ok {ps : List (Key × D)} (g : GoodP ps) (hl : ps.length ≤ 4) : F_is_names [.fr (dctOf ps)] = .ok (.bl true) [.un] := by
  refine (runF_rt (ρ := [.fr (dctOf ps), .un]) rfl (sSeq_ok (ρ1 := [.fr (dctOf ps), .un]) (sIf_f (ρ1 := [.fr (dctOf ps), .un]) ?_ rfl) (sRet_ok ?_))).trans rfl
  · refine Eq.trans (b := .ok (decide ((4 : Int) < ((ps.map (·.2)).length : Int))) [.fr (dctOf ps), .un]) (by kernel_rfl) ?_
    rw [decide_eq_false (by rw [List.length_map]; omega)]
  · have lc := lcL_map (own := [1]) (gb := bName 1) (me := e_is_names_0) (f := fun _ => .bl true) (ρ := [.fr (dctOf ps), .un]) (xs := (ps.map (·.1)).map keyDt) (acc := []) (fun x hx => by
      obtain ⟨k, hk, rfl⟩ := List.mem_map.mp hx
      obtain ⟨p, hp, ev⟩ := valD_mem hk
      have hw : k ∈ keysW := by
        obtain ⟨p', hp', rfl⟩ := List.mem_map.mp hk
        exact (g p' hp').1
      refine ⟨[.fr (dctOf ps), .fr (keyDt k)], [.fr (dctOf ps), .fr (keyDt k)], rfl, ?_, rfl⟩
      have e1 : (mCall F_is_word (aV (rdV 1) aNil)) [.fr (dctOf ps), .fr (keyDt k)] = .ok (.bl true) [.fr (dctOf ps), .fr (keyDt k)] := callV1 (words_ok k hw)
      have e2 : (bin2 fIxA (rdV 0) (rdV 1)) [.fr (dctOf ps), .fr (keyDt k)] = .ok p.2 [.fr (dctOf ps), .fr (keyDt k)] := bin2_ok rfl rfl (by
        have e3 : fIxA (dctOf ps) (keyDt k) = valD (ps.map (·.1)) (ps.map (·.2)) k := by cases k <;> rfl
        rw [e3, ev])
      have e4 : (mCall F_is_sort (aV (bin2 fIxA (rdV 0) (rdV 1)) aNil)) [.fr (dctOf ps), .fr (keyDt k)] = .ok (.bl true) [.fr (dctOf ps), .fr (keyDt k)] :=
        mCall_ok (as := [.v p.2]) (ρ1 := [.fr (dctOf ps), .fr (keyDt k)]) (bind_ok e2 rfl) (callV1 (sorts_ok p.2 (g p hp).2))
      unfold e_is_names_0 mAndV
      rw [e1]
      exact e4) (by rw [List.length_map, List.length_map]; show 0 + ps.length < 16777216; omega)
    refine bind_ok (a := [.lst (((ps.map (·.1)).map keyDt).map fun _ => .bl true)]) (ρ := [.fr (dctOf ps), .un]) (mCons_ok (ρ1 := [.fr (dctOf ps), .un]) (bind_ok (a := .lst (((ps.map (·.1)).map keyDt).map fun _ => .bl true)) (ρ := [.fr (dctOf ps), .un]) ?_ rfl) rfl) ?_
    · exact (show _ = lcL [1] (bName 1) mYes e_is_names_0 ((ps.map (·.1)).map keyDt) [] [.fr (dctOf ps), .un] from by kernel_rfl).trans lc
    · rw [all_true]
      rfl
theorem need_names_ok {ps : List (Key × D)} (g : GoodP ps) (hl : ps.length ≤ 4) : F_need_names [.fr (dctOf ps)] = .ok .non [.un] := by
  refine (runF_nx (ρ := [.fr (dctOf ps)]) rfl (sIf_f (ρ1 := [.fr (dctOf ps)]) ?_ rfl)).trans rfl
  exact bind_ok (a := true) (ρ := [.fr (dctOf ps)]) (bind_ok (a := .bl true) (ρ := [.fr (dctOf ps)]) (callV1 (names_ok g hl)) rfl) rfl
/-! ### names that are drawn -/
abbrev nE (w : Dw) (ps : List (Key × D)) (s4 s5 s6 s7 : Sl) : PB.Env := [io w, .fr (.int 4), .fr (.int 3), .ow (dctOf ps), s4, s5, s6, s7]
theorem pick4 (w : Dw) (ps : List (Key × D)) (s4 s5 s6 s7 : Sl) (xs : List D) (h : 0 < xs.length) (h2 : xs.length < 1000000) : ∃ (x : D) (w' : Dw), callR F_law_pick [.s 0, .v (.lst xs)] (nE w ps s4 s5 s6 s7) = .ok x (nE w' ps s4 s5 s6 s7) ∧ x ∈ xs := pick_at (ρ := nE w ps s4 s5 s6 s7) (j := 0) (.io w) rfl h h2
theorem take4 (w : Dw) (ps : List (Key × D)) (s4 s5 s6 s7 : Sl) (a : Int) (h : 0 < a) (h2 : a < 1000000) : ∃ (k : Int) (w' : Dw), callR F_law_take [.s 0, .v (.int a)] (nE w ps s4 s5 s6 s7) = .ok (.int k) (nE w' ps s4 s5 s6 s7) ∧ 0 ≤ k ∧ k < a := take_at (ρ := nE w ps s4 s5 s6 s7) (j := 0) (.io w) rfl h h2
theorem rng_len {k : Int} {n : Nat} (h : k < n) (h1 : 0 ≤ k) : (rngD 0 k.toNat).length < n := by
  rw [rngD_length]
  omega
theorem args_names (w : Dw) (ps : List (Key × D)) (s4 s5 s6 s7 : Sl) : ∃ (ys : List D) (w' : Dw), (mFn fTupOf (mCons (mFrz (mLc [7] (bName 7) (mItemsL asR1 (mCons (mCall F_law_take (aS 0 (aV (bin2 fAdd (rdV 2) (rdC (.int 1))) aNil))) mNil)) mYes e_law_names_0)) mNil)) (nE w ps s4 s5 s6 s7) = .ok (.tup ys) (nE w' ps s4 s5 s6 .un) ∧ ys.length ≤ 3 ∧ ∀ y ∈ ys, y ∈ P3 := by
  obtain ⟨k, w1, e1, k1, k2⟩ := take4 w ps s4 s5 s6 s7 4 (by omega) (by omega)
  obtain ⟨ys, ρ', e2, ⟨w2, er⟩, hl, hy⟩ := lcL_all (own := [7]) (gb := bName 7) (me := e_law_names_0) (J := fun ρ => ∃ w, ρ = nE w ps s4 s5 s6 .un) (P := fun y => y ∈ P3) (xs := rngD 0 k.toNat) (acc := []) (ρ := nE w1 ps s4 s5 s6 .un) (fun x _ ρ ⟨w, er⟩ => by
    subst er
    obtain ⟨y, w', e, hy⟩ := pick4 w ps s4 s5 s6 (.fr x) P4 (by decide) (by decide)
    exact ⟨nE w ps s4 s5 s6 (.fr x), y, nE w' ps s4 s5 s6 (.fr x), rfl, e, sub43 hy, w', rfl⟩) ⟨w1, rfl⟩ (by
      have := rng_len (n := 4) k2 k1
      show 0 + _ < 16777216
      omega) (fun _ h => nomatch h)
  subst er
  refine ⟨ys, w2, ?_, by
    rw [hl]
    have := rng_len (n := 4) k2 k1
    show 0 + _ ≤ 3
    omega, hy⟩
  have e3 : (mCall F_law_take (aS 0 (aV (bin2 fAdd (rdV 2) (rdC (.int 1))) aNil))) (nE w ps s4 s5 s6 s7) = .ok (.int k) (nE w1 ps s4 s5 s6 s7) := e1
  exact mFn_ok (mCons_ok (mFrz_ok (mLc_ok (mItemsL_ok (mCons_ok e3 rfl) (asR1_ok (by omega))) e2) rfl) rfl) rfl
theorem body_names (x : D) (hx : x ∈ W4) (n : Nat) (hn : n < 4) (w : Dw) (ps : List (Key × D)) (s4 s5 s6 s7 : Sl) (g : GoodP ps) (nd : (ps.map (·.1)).Nodup) (hl : ps.length ≤ n) : ∃ (ρ2 : PB.Env), b_law_names_1 (nE w ps (.fr x) s5 s6 s7) = .ok .nx ρ2 ∧ ∃ (w' : Dw) (ps' : List (Key × D)) (t4 t5 t6 t7 : Sl), ρ2 = nE w' ps' t4 t5 t6 t7 ∧ GoodP ps' ∧ (ps'.map (·.1)).Nodup ∧ ps'.length ≤ n + 1 := by
  obtain ⟨y, hy, ek⟩ : ∃ y, y ∈ keysW ∧ keyD x = some y := by
    unfold W4 at hx
    simp only [List.mem_cons, List.not_mem_nil, or_false] at hx
    rcases hx with h | h | h | h
    · exact ⟨.inr "f", by simp [keysW], by rw [h]; rfl⟩
    · exact ⟨.inr "x", by simp [keysW], by rw [h]; rfl⟩
    · exact ⟨.inr "v", by simp [keysW], by rw [h]; rfl⟩
    · exact ⟨.inr "go", by simp [keysW], by rw [h]; rfl⟩
  obtain ⟨k, w1, e1, k1, k2⟩ := take4 w ps (.fr x) s5 s6 s7 6 (by omega) (by omega)
  have lp : ps.length < lim := by show ps.length < 16777216; omega
  have s0 : b_law_names_1_0 (nE w ps (.fr x) s5 s6 s7) = .ok .nx (nE w1 ps (.fr x) (.fr (.int k)) s6 s7) := sAsg_ok e1 rfl
  have tt : mTru (bin2 fLt (rdV 5) (rdC (.int 3))) (nE w1 ps (.fr x) (.fr (.int k)) s6 s7) = .ok (decide (k < 3)) (nE w1 ps (.fr x) (.fr (.int k)) s6 s7) := rfl
  cases hk : decide (k < 3) with
  | true =>
    rw [hk] at tt
    obtain ⟨p, w2, e2, hp⟩ := pick4 w1 ps (.fr x) (.fr (.int k)) s6 s7 P4 (by decide) (by decide)
    obtain ⟨g2, l2⟩ := putKD_all (Q := fun a b => a ∈ keysW ∧ b ∈ sorts) (k := y) (d := .tup [.tup [], p]) g ⟨hy, sorts_one hp⟩
    refine ⟨_, sSeq_ok s0 (sIf_t tt (sDput_ok (ps := ps) (y := y) (v := .tup [.tup [], p]) (k := x) (ρ1 := nE w2 ps (.fr x) (.fr (.int k)) s6 s7) ?_ rfl rfl ek lp)), w2, _, _, _, _, _, rfl, g2, putKD_nodup nd, by omega⟩
    exact bind_ok (a := [.tup [], p]) (ρ := nE w2 ps (.fr x) (.fr (.int k)) s6 s7) (mCons_ok (ρ1 := nE w1 ps (.fr x) (.fr (.int k)) s6 s7) rfl (mCons_ok (ρ1 := nE w2 ps (.fr x) (.fr (.int k)) s6 s7) e2 rfl)) rfl
  | false =>
    rw [hk] at tt
    obtain ⟨ys, w2, e2, ly, hys⟩ := args_names w1 ps (.fr x) (.fr (.int k)) s6 s7
    obtain ⟨p, w3, e3, hp⟩ := pick4 w2 ps (.fr x) (.fr (.int k)) (.fr (.tup ys)) .un P2 (by decide) (by decide)
    obtain ⟨g2, l2⟩ := putKD_all (Q := fun a b => a ∈ keysW ∧ b ∈ sorts) (k := y) (d := .tup [.tup ys, p]) g ⟨hy, sorts_args ly hys hp⟩
    refine ⟨_, sSeq_ok s0 (sIf_f tt (sSeq_ok (ρ1 := nE w2 ps (.fr x) (.fr (.int k)) (.fr (.tup ys)) .un) (sAsg_ok e2 rfl) (sDput_ok (ps := ps) (y := y) (v := .tup [.tup ys, p]) (k := x) (ρ1 := nE w3 ps (.fr x) (.fr (.int k)) (.fr (.tup ys)) .un) ?_ rfl rfl ek lp))), w3, _, _, _, _, _, rfl, g2, putKD_nodup nd, by omega⟩
    exact bind_ok (a := [.tup ys, p]) (ρ := nE w3 ps (.fr x) (.fr (.int k)) (.fr (.tup ys)) .un) (mCons_ok (ρ1 := nE w2 ps (.fr x) (.fr (.int k)) (.fr (.tup ys)) .un) rfl (mCons_ok (ρ1 := nE w3 ps (.fr x) (.fr (.int k)) (.fr (.tup ys)) .un) e3 rfl)) rfl
theorem names_drawn (w : Dw) : ∃ (ps : List (Key × D)) (w' : Dw), F_law_names [io w, .fr (.int 4), .fr (.int 3)] = .ok (dctOf ps) [io w', .un, .un] ∧ GoodP ps ∧ (ps.map (·.1)).Nodup ∧ ps.length ≤ 4 := by
  obtain ⟨ys, w1, e1, py⟩ := shuffled_at (ρ := nE w [] .un .un .un .un) (j := 0) (xs := W4) (.io w) rfl (by decide) (by
    intro x hx
    unfold W4 at hx
    simp only [List.mem_cons, List.not_mem_nil, or_false] at hx
    rcases hx with h | h | h | h <;> (rw [h]; exact shp_str (by kernel_rfl)))
  obtain ⟨k, w2, e2, k1, k2⟩ := take4 w1 [] .un .un .un .un 5 (by omega) (by omega)
  have ly : ys.length = 4 := py.length_eq
  have lc : (cutL ys none (some k)).length ≤ 4 := by
    unfold cutL
    rw [List.length_take, List.length_drop]
    omega
  have sc : ∀ x ∈ cutL ys none (some k), x ∈ W4 := fun x hx => py.subset (List.mem_of_mem_drop (List.mem_of_mem_take hx))
  obtain ⟨ρ', e3, w3, ps, t4, t5, t6, t7, er, g, nd, lp⟩ := forL_cnt (gb := bName 4) (mb := b_law_names_1) (J := fun n ρ => ∃ w ps s4 s5 s6 s7, ρ = nE w ps s4 s5 s6 s7 ∧ GoodP ps ∧ (ps.map (·.1)).Nodup ∧ ps.length ≤ n) (m := 4) (xs := cutL ys none (some k)) (n := 0) (ρ := nE w2 [] .un .un .un .un) (fun x hx n ρ hn ⟨w, ps, s4, s5, s6, s7, er, g, nd, hl⟩ => by
    subst er
    obtain ⟨ρ2, e, h⟩ := body_names x (sc x hx) n hn w ps s4 s5 s6 s7 g nd hl
    exact ⟨nE w ps (.fr x) s5 s6 s7, ρ2, rfl, e, h⟩) (by omega) ⟨w2, [], .un, .un, .un, .un, rfl, (fun _ h => nomatch h : GoodP []), List.nodup_nil, Nat.le_refl _⟩
  subst er
  refine ⟨ps, w3, ?_, g, nd, by omega⟩
  refine (runF_rt (ρ := (nE w3 ps t4 t5 t6 t7).set 3 (.fr (dctOf ps))) rfl (sSeq_ok (ρ1 := nE w [] .un .un .un .un) rfl (sSeq_ok (ρ1 := nE w3 ps t4 t5 t6 t7) ?_ rfl))).trans rfl
  have f1 : (mCall F_law_shuffled (aS 0 (aV (mLst (mCons (rdC (.str "f")) (mCons (rdC (.str "x")) (mCons (rdC (.str "v")) (mCons (rdC (.str "go")) mNil))))) aNil))) (nE w [] .un .un .un .un) = .ok (.lst ys) (nE w1 [] .un .un .un .un) := e1
  have f2 : (mCall F_law_take (aS 0 (aV (bin2 fAdd (rdV 1) (rdC (.int 1))) aNil))) (nE w1 [] .un .un .un .un) = .ok (.int k) (nE w2 [] .un .un .un .un) := e2
  exact sFor_ok (mItems_ok (mSl_ok f1 (l := none) (ρ2 := nE w1 [] .un .un .un .un) rfl (mPart_ok f2) rfl) rfl) e3
/-! ### .. are names with sorts -/
theorem rowsU_mem {xs : List D} : ∀ {n : Nat} {ys : List D}, ys ∈ rowsU xs n → ys.length ≤ n ∧ ∀ y ∈ ys, y ∈ xs
  | 0, ys, h => by
    have e := List.mem_singleton.mp h
    rw [e]
    exact ⟨Nat.le_refl _, fun _ h => nomatch h⟩
  | n + 1, ys, h => by
    rcases List.mem_cons.mp h with e | h
    · rw [e]
      exact ⟨Nat.zero_le _, fun _ h => nomatch h⟩
    · obtain ⟨x, hx, h⟩ := List.mem_flatMap.mp h
      obtain ⟨zs, hz, e⟩ := List.mem_map.mp h
      obtain ⟨l, m⟩ := rowsU_mem hz
      rw [← e]
      exact ⟨Nat.succ_le_succ l, fun y hy => (List.mem_cons.mp hy).elim (fun e => by rw [e]; exact hx) (m y)⟩
theorem p3_strs : ∀ {ys : List D}, (∀ y ∈ ys, y ∈ P3) → ∃ as : List Str, ys = as.map D.str ∧ ∀ a ∈ as, a ∈ sort3
  | [], _ => ⟨[], rfl, fun _ h => nomatch h⟩
  | y :: ys, h => by
    obtain ⟨as, e, ha⟩ := p3_strs (ys := ys) fun x hx => h x (List.mem_cons_of_mem _ hx)
    have hy := h y List.mem_cons_self
    obtain ⟨a, ea, h3⟩ : ∃ a, y = .str a ∧ a ∈ sort3 := by
      unfold P3 at hy
      simp only [List.mem_cons, List.not_mem_nil, or_false] at hy
      rcases hy with h | h | h
      · exact ⟨_, h, num3⟩
      · exact ⟨_, h, do3⟩
      · exact ⟨_, h, box3⟩
    exact ⟨a :: as, by rw [List.map_cons, e, ea], fun b hb => (List.mem_cons.mp hb).elim (fun e => by rw [e]; exact h3) (ha b)⟩
theorem sorts_sok {d : D} (h : d ∈ sorts) : SOk d := by
  rcases List.mem_cons.mp h with e | h
  · rw [e]
    exact ⟨[], "box", rfl, Nat.zero_le _, (fun a (h : a ∈ ([] : List Str)) => nomatch h), box3⟩
  · obtain ⟨a, ha, h⟩ := List.mem_flatMap.mp h
    obtain ⟨p, hp, e⟩ := List.mem_map.mp h
    obtain ⟨l, m⟩ := rowsU_mem ha
    obtain ⟨as, ea, h3⟩ := p3_strs m
    subst ea
    rw [List.length_map] at l
    obtain ⟨t, et, ht⟩ : ∃ t, p = .str t ∧ t ∈ sort3 := by
      unfold P2 at hp
      simp only [List.mem_cons, List.not_mem_nil, or_false] at hp
      rcases hp with h | h
      · exact ⟨_, h, num3⟩
      · exact ⟨_, h, do3⟩
    exact ⟨as, t, by rw [← e, et], l, h3, ht⟩
theorem keys_okW {k : Key} (h : k ∈ keysW) : ∃ w, k = .inr w ∧ okW w := by
  unfold keysW at h
  simp only [List.mem_cons, List.not_mem_nil, or_false] at h
  rcases h with h | h | h | h
  · exact ⟨_, h, by kernel_rfl, by kernel_rfl⟩
  · exact ⟨_, h, by kernel_rfl, by kernel_rfl⟩
  · exact ⟨_, h, by kernel_rfl, by kernel_rfl⟩
  · exact ⟨_, h, by kernel_rfl, by kernel_rfl⟩
theorem GoodP.nok {ps : List (Key × D)} {L : Nat} (g : GoodP ps) (nd : (ps.map (·.1)).Nodup) (l : ps.length ≤ L) : NOk L ps := ⟨nd, l, fun p hp => by
  obtain ⟨h1, h2⟩ := g p hp
  obtain ⟨w, e, hw⟩ := keys_okW h1
  exact ⟨w, e, hw, sorts_sok h2⟩⟩
end PB.Lk02
set_option maxRecDepth 100000
set_option maxHeartbeats 1000000
namespace PB.Lk02
open PySem PySem.Spec PyProof.Rows L2 PB
/-! ### sort_of, is_term of well-sorted terms -/
section
variable {z : Int} {ps : List (Key × D)} {s : Str} {d : D} {N h : Nat}
abbrev uE (z : Int) (ps : List (Key × D)) (d : D) : PB.Env := [.fr (.int z), .fr (dctOf ps), .fr d]
theorem sorter_run (w : WT z ps s d N h) (hh : h ≤ 12) (hN : N ≤ 60) : (mMethT 4 "sort_at" F_Sorter_sort_at (mMakeO 4 F_Sorter_init (mCons (rdV 0) mNil)) (mCons (rdV 2) (mCons (rdV 1) (mCons (mTup mNil) (mCons (rdC (.int 1)) mNil))))) (uE z ps d) = .ok (.str s) (uE z ps d) := by
  have e1 : mMakeO 4 F_Sorter_init (mCons (rdV 0) mNil) (uE z ps d) = .ok (srt z 0) (uE z ps d) := by kernel_rfl
  have e2 : (mCons (rdV 2) (mCons (rdV 1) (mCons (mTup mNil) (mCons (rdC (.int 1)) mNil)))) (uE z ps d) = .ok [d, dctOf ps, .tup [], .int 1] (uE z ps d) := by kernel_rfl
  have e3 : callR F_Sorter_sort_at [.s 3, .v d, .v (dctOf ps), .v (.tup []), .v (.int 1)] (uE z ps d ++ [.ow (srt z 0)]) = .ok (.str s) (uE z ps d ++ [.ow (srt z (0 + N))]) :=
    callR_ok (as := [.s 3, .v d, .v (dctOf ps), .v (.tup []), .v (.int 1)]) (show ([3] : List Nat).Nodup by decide) rfl (sorter_ok w 40 0 [] 1 (by omega) (by omega) (by omega) (by omega) (by show 0 + 2 * h ≤ 100; omega)) rfl
  refine bind_ok e1 ?_
  show (if insOf 4 "sort_at" (srt z 0) = true then ((mCons (rdV 2) (mCons (rdV 1) (mCons (mTup mNil) (mCons (rdC (.int 1)) mNil)))) (uE z ps d)).bind (fun ds ρ2 => popR (callR F_Sorter_sort_at (.s ρ2.length :: ds.map .v) (ρ2 ++ [.ow (srt z 0)]))) else .bad) = _
  rw [if_pos (show insOf 4 "sort_at" (srt z 0) = true from by kernel_rfl), e2]
  show popR (callR F_Sorter_sort_at [.s 3, .v d, .v (dctOf ps), .v (.tup []), .v (.int 1)] (uE z ps d ++ [.ow (srt z 0)])) = _
  rw [e3]
  rfl
theorem size_ok (hz : 2 ≤ z ∧ z ≤ 4) : F_need_size [.fr (.int z)] = .ok .non [.un] := by
  have q : z = 2 ∨ z = 3 ∨ z = 4 := by omega
  rcases q with e | e | e <;> (subst e; kernel_rfl)
theorem pre_ok {X : M Fl} (hz : 2 ≤ z ∧ z ≤ 4) (g : GoodP ps) (hl : ps.length ≤ 4) : (sDo (mCall F_need_size (aV (rdV 0) aNil))) (uE z ps d) = .ok .nx (uE z ps d) ∧ (sDo (mCall F_need_names (aV (rdV 1) aNil))) (uE z ps d) = .ok .nx (uE z ps d) :=
  ⟨sDo_ok (mCall_ok (ρ1 := uE z ps d) (as := [.v (.int z)]) rfl (callV1 (size_ok hz))), sDo_ok (mCall_ok (ρ1 := uE z ps d) (as := [.v (dctOf ps)]) rfl (callV1 (need_names_ok g hl)))⟩
theorem sort_of_ok (hz : 2 ≤ z ∧ z ≤ 4) (g : GoodP ps) (hl : ps.length ≤ 4) (w : WT z ps s d N h) (hh : h ≤ 12) (hN : N ≤ 60) : F_sort_of (uE z ps d) = .ok (.str s) [.un, .un, .un] := by
  obtain ⟨p1, p2⟩ := pre_ok (d := d) (X := sNx) hz g hl
  exact (runF_rt (ρ := uE z ps d) rfl (show m_sort_of (uE z ps d) = _ from sSeq_ok p1 (sSeq_ok p2 (sRet_ok (sorter_run w hh hN))))).trans rfl
theorem is_term_ok (hz : 2 ≤ z ∧ z ≤ 4) (g : GoodP ps) (hl : ps.length ≤ 4) (w : WT z ps s d N h) (hh : h ≤ 12) (hN : N ≤ 60) : F_is_term (uE z ps d) = .ok (.bl true) [.un, .un, .un] := by
  obtain ⟨p1, p2⟩ := pre_ok (d := d) (X := sNx) hz g hl
  have e2 : a_is_term_2 (uE z ps d) = .ok .nx (uE z ps d) := by
    have q := sDo_ok (sorter_run w hh hN)
    unfold a_is_term_2 sTry
    rw [q]
  exact (runF_rt (ρ := uE z ps d) rfl (show m_is_term (uE z ps d) = _ from sSeq_ok p1 (sSeq_ok p2 (sSeq_ok e2 (sRet_ok (d := .bl true) rfl))))).trans rfl
/-- a drawn term of at most sixty nodes -/
theorem fine_ok (hz : 2 ≤ z ∧ z ≤ 4) {L : Nat} (g : NOk L ps) (hL : L < 40) (ht : two s) {e : Nat} (he : e ≤ 5) (w : Dw) : ∃ (d : D) (w' : Dw) (N h : Nat), F_law_fine_term [io w, .fr (.int z), .fr (dctOf ps), .fr (.str s), .fr (.int (e : Int))] = .ok d [io w', .un, .un, .un, .un] ∧ WT z ps s d N h ∧ h ≤ 12 ∧ N ≤ 60 := by
  obtain ⟨d, w1, ed, N, h, wt, hh, hN⟩ := term_ok (z := z) ⟨by omega, by omega⟩ e 40 (by omega) (by omega) L ps s w g (by omega) (two3 ht)
  have cbl : cb e ≤ 1000 := by
    have q : e = 0 ∨ e = 1 ∨ e = 2 ∨ e = 3 ∨ e = 4 ∨ e = 5 := by omega
    rcases q with h | h | h | h | h | h <;> (subst h; decide)
  let ρ (w : Dw) (s5 : Sl) : PB.Env := [io w, .fr (.int z), .fr (dctOf ps), .fr (.str s), .fr (.int (e : Int)), s5]
  have s0 : a_law_fine_term_0 (ρ w .un) = .ok .nx (ρ w1 (.fr d)) := sAsg_ok (mCall_ok (ρ1 := ρ w .un) (as := [.s 0, .v (.int z), .v (dctOf ps), .v (.str s), .v (.int (e : Int))]) rfl (callW (ds := [.int z, dctOf ps, .str s, .int (e : Int)]) (ρ := ρ w .un) (j := 0) (.io w) rfl ed rfl)) rfl
  have en : (mCall F_law_nodes (aV (rdV 5) aNil)) (ρ w1 (.fr d)) = .ok (.int N) (ρ w1 (.fr d)) := callV1 (nodes_ok 40 wt (by omega) (by omega))
  have t1 : mTru (bin2 fLe (mCall F_law_nodes (aV (rdV 5) aNil)) (rdC (.int 60))) (ρ w1 (.fr d)) = .ok (decide ((N : Int) ≤ 60)) (ρ w1 (.fr d)) := mTru_ok (bin2_ok en rfl rfl)
  have fin : ∀ x, a_law_fine_term_1 (ρ w1 (.fr d)) = .ok (.rt x) (ρ w1 (.fr d)) → F_law_fine_term [io w, .fr (.int z), .fr (dctOf ps), .fr (.str s), .fr (.int (e : Int))] = .ok x [io w1, .un, .un, .un, .un] := fun x hx =>
    (runF_rt (ρ := ρ w1 (.fr d)) rfl (show m_law_fine_term (ρ w .un) = _ from sSeq_ok s0 hx)).trans rfl
  by_cases h60 : (N : Int) ≤ 60
  · rw [decide_eq_true h60] at t1
    exact ⟨d, w1, N, h, fin d (sRet_ok (bind_ok t1 rfl)), wt, by omega, by omega⟩
  · rw [decide_eq_false h60] at t1
    rcases ht with q | q
    · subst q
      exact ⟨.tup [.str "number", .int 1], w1, 1, 1, fin _ (sRet_ok (bind_ok t1 (by kernel_rfl))), wt_number (by omega) (by omega), by omega, by omega⟩
    · subst q
      exact ⟨.tup [.str "skip"], w1, 1, 1, fin _ (sRet_ok (bind_ok t1 (by kernel_rfl))), wt_skip, by omega, by omega⟩
end
end PB.Lk02
set_option maxRecDepth 100000
set_option maxHeartbeats 1000000
namespace PB.Lk02
open PySem PySem.Spec PyProof.Rows L2 PB
section
variable (S : Sl)
abbrev lE (w : Dw) (s2 s3 s4 s5 s6 s7 s8 s9 s10 s11 s12 s13 : Sl) : PB.Env := [S, ow w, s2, s3, s4, s5, s6, s7, s8, s9, s10, s11, s12, s13]
def chD : Nat → D
  | 0 => .tup [.str "number", .int 1]
  | n + 1 => .tup [.str "not", chD n]
def fin (r : Res Fl) (w : Dw) : Prop := match r with
  | .ok .nx [a, b, _, _, _, _, _, _, _, _, _, _, _, _] => a = S ∧ b = ow w
  | _ => False
theorem fin_ok {r : Res Fl} {w : Dw} (h : fin S r w) : ∃ s2 s3 s4 s5 s6 s7 s8 s9 s10 s11 s12 s13, r = .ok .nx (lE S w s2 s3 s4 s5 s6 s7 s8 s9 s10 s11 s12 s13) := by
  unfold fin at h
  split at h
  · obtain ⟨rfl, rfl⟩ := h
    exact ⟨_, _, _, _, _, _, _, _, _, _, _, _, rfl⟩
  · exact h.elim
def isT (r : Res Fl) : Bool := match r with
  | .ok (.rt (.bl true)) _ => true
  | _ => false
theorem isT_ok {r : Res Fl} (h : isT r = true) : ∃ ρ', r = .ok (.rt (.bl true)) ρ' := by
  unfold isT at h
  split at h
  · exact ⟨_, rfl⟩
  · cases h
variable (w : Dw) (s2 s3 s4 s5 s6 s7 s8 s9 s10 s11 s12 s13 : Sl)
theorem mid : fin S (sSeq a_law_2 (sSeq a_law_3 (sSeq a_law_4 (sSeq a_law_5 a_law_6))) (lE S w s2 s3 s4 s5 s6 s7 s8 s9 s10 s11 s12 s13)) w = (S = S ∧ ow w = ow w) := by kernel_rfl
theorem end29 : isT (sSeq a_law_8 (sSeq a_law_9 (sSeq a_law_10 a_law_11)) (lE S w s2 s3 s4 s5 s6 s7 s8 s9 s10 s11 (.fr (.int 29)) s13)) = true := by kernel_rfl
theorem end30 : isT (sSeq a_law_8 (sSeq a_law_9 (sSeq a_law_10 a_law_11)) (lE S w s2 s3 s4 s5 s6 s7 s8 s9 s10 s11 (.fr (.int 30)) s13)) = true := by kernel_rfl
end
end PB.Lk02
set_option maxRecDepth 100000
set_option maxHeartbeats 1000000
namespace PB.Lk02
open PySem PySem.Spec PyProof.Rows L2 PB
section
variable (S : Sl) (w : Dw) (s2 s3 s4 s5 s6 s7 s8 s9 s10 s11 s12 s13 : Sl)
theorem takeL (a : Int) (h : 0 < a) (h2 : a < 1000000) : ∃ (k : Int) (w' : Dw), callR F_law_take [.s 1, .v (.int a)] (lE S w s2 s3 s4 s5 s6 s7 s8 s9 s10 s11 s12 s13) = .ok (.int k) (lE S w' s2 s3 s4 s5 s6 s7 s8 s9 s10 s11 s12 s13) ∧ 0 ≤ k ∧ k < a := take_at (ρ := lE S w s2 s3 s4 s5 s6 s7 s8 s9 s10 s11 s12 s13) (j := 1) (.ow w) rfl h h2
theorem namesL : ∃ (ps : List (Key × D)) (w' : Dw), callR F_law_names [.s 1, .v (.int 4), .v (.int 3)] (lE S w s2 s3 s4 s5 s6 s7 s8 s9 s10 s11 s12 s13) = .ok (dctOf ps) (lE S w' s2 s3 s4 s5 s6 s7 s8 s9 s10 s11 s12 s13) ∧ GoodP ps ∧ (ps.map (·.1)).Nodup ∧ ps.length ≤ 4 := by
  obtain ⟨ps, w', e, g, nd, l⟩ := names_drawn w
  exact ⟨ps, w', callW (ds := [.int 4, .int 3]) (ρ := lE S w s2 s3 s4 s5 s6 s7 s8 s9 s10 s11 s12 s13) (j := 1) (.ow w) rfl e rfl, g, nd, l⟩
theorem st0 : ∃ (z : Int) (ps : List (Key × D)) (w' : Dw), b_law_1_0 (lE S w s2 s3 s4 s5 s6 s7 s8 s9 s10 s11 s12 s13) = .ok .nx (lE S w' s2 (.fr (.int z)) (.fr (dctOf ps)) s5 s6 s7 s8 s9 s10 s11 s12 s13) ∧ (2 ≤ z ∧ z ≤ 4) ∧ GoodP ps ∧ (ps.map (·.1)).Nodup ∧ ps.length ≤ 4 := by
  obtain ⟨k, w1, e1, k1, k2⟩ := takeL S w s2 s3 s4 s5 s6 s7 s8 s9 s10 s11 s12 s13 3 (by decide) (by decide)
  obtain ⟨ps, w2, e2, g, nd, l⟩ := namesL S w1 s2 s3 s4 s5 s6 s7 s8 s9 s10 s11 s12 s13
  have c1 : (mCall F_law_take (aS 1 (aV (rdC (.int 3)) aNil))) (lE S w s2 s3 s4 s5 s6 s7 s8 s9 s10 s11 s12 s13) = .ok (.int k) (lE S w1 s2 s3 s4 s5 s6 s7 s8 s9 s10 s11 s12 s13) := e1
  have c2 : (mCall F_law_names (aS 1 (aV (rdC (.int 4)) (aV (rdC (.int 3)) aNil)))) (lE S w1 s2 s3 s4 s5 s6 s7 s8 s9 s10 s11 s12 s13) = .ok (dctOf ps) (lE S w2 s2 s3 s4 s5 s6 s7 s8 s9 s10 s11 s12 s13) := e2
  have em : (mCons (bin2 fAdd (rdC (.int 2)) (mCall F_law_take (aS 1 (aV (rdC (.int 3)) aNil)))) (mCons (mCall F_law_names (aS 1 (aV (rdC (.int 4)) (aV (rdC (.int 3)) aNil)))) mNil)) (lE S w s2 s3 s4 s5 s6 s7 s8 s9 s10 s11 s12 s13) = .ok [.int (2 + k), dctOf ps] (lE S w2 s2 s3 s4 s5 s6 s7 s8 s9 s10 s11 s12 s13) := mCons_ok (bin2_ok (x := .int 2) (ρ1 := lE S w s2 s3 s4 s5 s6 s7 s8 s9 s10 s11 s12 s13) rfl c1 addR) (mCons_ok c2 rfl)
  exact ⟨2 + k, ps, w2, bind_ok em rfl, by omega, g, nd, l⟩
theorem turn_ok : ∃ (w' : Dw) (t2 t3 t4 t5 t6 t7 t8 t9 t10 t11 t12 t13 : Sl), b_law_1 (lE S w s2 s3 s4 s5 s6 s7 s8 s9 s10 s11 s12 s13) = .ok .nx (lE S w' t2 t3 t4 t5 t6 t7 t8 t9 t10 t11 t12 t13) := by
  obtain ⟨z, ps, w1, e0, hz, g, nd, l⟩ := st0 S w s2 s3 s4 s5 s6 s7 s8 s9 s10 s11 s12 s13
  have n := g.nok nd l
  let Z : Sl := .fr (.int z)
  let P : Sl := .fr (dctOf ps)
  obtain ⟨x, w2, ep, hx⟩ := pick_at (ρ := lE S w1 s2 Z P s5 s6 s7 s8 s9 s10 s11 s12 s13) (j := 1) (xs := P2) (.ow w1) rfl (by decide) (by decide)
  obtain ⟨s, rfl, ht⟩ : ∃ s, x = .str s ∧ two s := by
    unfold P2 at hx
    simp only [List.mem_cons, List.not_mem_nil, or_false] at hx
    rcases hx with h | h
    · exact ⟨_, h, .inl rfl⟩
    · exact ⟨_, h, .inr rfl⟩
  have e1 : b_law_1_1 (lE S w1 s2 Z P s5 s6 s7 s8 s9 s10 s11 s12 s13) = .ok .nx (lE S w2 s2 Z P (.fr (.str s)) s6 s7 s8 s9 s10 s11 s12 s13) := sAsg_ok ep rfl
  obtain ⟨d, w3, N, h, ed, wt, hh, hN⟩ := fine_ok (z := z) (ps := ps) (s := s) hz n (by decide) ht (e := 3) (by decide) w2
  have e2 : b_law_1_2 (lE S w2 s2 Z P (.fr (.str s)) s6 s7 s8 s9 s10 s11 s12 s13) = .ok .nx (lE S w3 s2 Z P (.fr (.str s)) (.fr d) s7 s8 s9 s10 s11 s12 s13) := sAsg_ok (mCall_ok (ρ1 := lE S w2 s2 Z P (.fr (.str s)) s6 s7 s8 s9 s10 s11 s12 s13) (as := [.s 1, .v (.int z), .v (dctOf ps), .v (.str s), .v (.int 3)]) rfl (callW (ds := [.int z, dctOf ps, .str s, .int 3]) (ρ := lE S w2 s2 Z P (.fr (.str s)) s6 s7 s8 s9 s10 s11 s12 s13) (j := 1) (.ow w2) rfl ed rfl)) rfl
  let ρ := lE S w3 s2 Z P (.fr (.str s)) (.fr d) s7 s8 s9 s10 s11 s12 s13
  have it : callR F_is_term [.v (.int z), .v (dctOf ps), .v d] ρ = .ok (.bl true) ρ := callV3 (is_term_ok hz g l wt hh hN)
  have it1 : (mCall F_is_term (aV (rdV 3) (aV (rdV 4) (aV (rdV 6) aNil)))) ρ = .ok (.bl true) ρ := it
  have it2 : (mCallK [2, 1, 0] F_is_term aNil (aV (rdV 6) (aV (rdV 4) (aV (rdV 3) aNil)))) ρ = .ok (.bl true) ρ := it
  have e3 : b_law_1_3 ρ = .ok .nx ρ := sIf_f (mOrB_f (mTru_ok (bin2_ok it1 rfl rfl)) (mTru_ok (bin2_ok it2 rfl rfl))) rfl
  have so : callR F_sort_of [.v (.int z), .v (dctOf ps), .v d] ρ = .ok (.str s) ρ := callV3 (sort_of_ok hz g l wt hh hN)
  have so1 : (mCall F_sort_of (aV (rdV 3) (aV (rdV 4) (aV (rdV 6) aNil)))) ρ = .ok (.str s) ρ := so
  have so2 : (mCallK [2, 1, 0] F_sort_of aNil (aV (rdV 6) (aV (rdV 4) (aV (rdV 3) aNil)))) ρ = .ok (.str s) ρ := so
  have e4 : b_law_1_4 ρ = .ok .nx ρ := by
    obtain ⟨r, er, en⟩ : ∃ r, fRepA [.str s] = some (.str r) ∧ fNe (.str r) (.str r) = some (.bl false) := by
      rcases ht with h | h
      · subst h
        exact ⟨reprText "num", by kernel_rfl, by kernel_rfl⟩
      · subst h
        exact ⟨reprText "do", by kernel_rfl, by kernel_rfl⟩
    have r1 : (mFn fRepA (mCons (mCall F_sort_of (aV (rdV 3) (aV (rdV 4) (aV (rdV 6) aNil)))) mNil)) ρ = .ok (.str r) ρ := mFn_ok (mCons_ok so1 rfl) er
    have r2 : (mFn fRepA (mCons (rdV 5) mNil)) ρ = .ok (.str r) ρ := mFn_ok (ds := [.str s]) (ρ1 := ρ) rfl er
    exact sIf_f (mOrB_f (mTru_ok (bin2_ok r1 r2 en)) (mTru_ok (bin2_ok so2 (y := .str s) (ρ2 := ρ) rfl (two_ne ht)))) rfl
  obtain ⟨ws, eb, hb, hbl⟩ := boxes_ok n (by decide)
  obtain ⟨ρ', el, t7, er⟩ := forL_all (gb := bName 7) (mb := b_law_0) (J := fun r => ∃ t7, r = lE S w3 s2 Z P (.fr (.str s)) (.fr d) t7 s8 s9 s10 s11 s12 s13) (xs := ws.map D.str) (ρ := ρ) (fun x hx r ⟨t7, er⟩ => by
    subst er
    obtain ⟨v, hv, rfl⟩ := List.mem_map.mp hx
    let κ := lE S w3 s2 Z P (.fr (.str s)) (.fr d) (.fr (.str v)) s8 s9 s10 s11 s12 s13
    have c : callR F_sort_of [.v (.int z), .v (dctOf ps), .v (.tup [.str "name", .str v, .tup []])] κ = .ok (.str "box") κ := callV3 (sort_of_ok hz g l (wt_name0 (hb v hv).1 (hb v hv).2) (by decide) (by decide))
    have c1 : (mCall F_sort_of (aV (rdV 3) (aV (rdV 4) (aV (mTup (mCons (rdC (.str "name")) (mCons (rdV 7) (mCons (mTup mNil) mNil)))) aNil)))) κ = .ok (.str "box") κ := c
    exact ⟨κ, κ, rfl, sIf_f (mTru_ok (bin2_ok c1 (y := .str "box") (ρ2 := κ) rfl (by kernel_rfl))) rfl, _, rfl⟩) ⟨s7, rfl⟩
  subst er
  have cb : (mCall F_law_boxes (aV (rdV 4) aNil)) ρ = .ok (.lst (ws.map D.str)) ρ := mCall_ok (ρ1 := ρ) (as := [.v (dctOf ps)]) rfl (callV1 eb)
  exact ⟨w3, _, _, _, _, _, _, _, _, _, _, _, _, sSeq_ok e0 (sSeq_ok e1 (sSeq_ok e2 (sSeq_ok e3 (sSeq_ok e4 (sFor_ok (mItems_ok cb rfl) el)))))⟩
theorem midf : ∃ t2 t3 t4 t5 t6 t7 t8 t9 t10 t11 t12 t13, sSeq a_law_2 (sSeq a_law_3 (sSeq a_law_4 (sSeq a_law_5 a_law_6))) (lE S w s2 s3 s4 s5 s6 s7 s8 s9 s10 s11 s12 s13) = .ok .nx (lE S w t2 t3 t4 t5 t6 t7 t8 t9 t10 t11 t12 t13) := by
  have h := mid S w s2 s3 s4 s5 s6 s7 s8 s9 s10 s11 s12 s13
  revert h
  generalize sSeq a_law_2 (sSeq a_law_3 (sSeq a_law_4 (sSeq a_law_5 a_law_6))) (lE S w s2 s3 s4 s5 s6 s7 s8 s9 s10 s11 s12 s13) = r
  intro h
  have h2 : fin S r w := by
    rw [h]
    exact ⟨rfl, rfl⟩
  exact fin_ok S h2
end
theorem sSeq_nx {a b : M Fl} {ρ ρ2 : PB.Env} {c : M Fl} {r : Res Fl} (h : sSeq a b ρ = .ok .nx ρ2) (hc : c ρ2 = r) : sSeq a (sSeq b c) ρ = r := by
  unfold sSeq at h ⊢
  cases ea : a ρ with
  | bad => rw [ea] at h; cases h
  | ex x ρ' => rw [ea] at h; cases h
  | ok fl ρ1 =>
    rw [ea] at h
    cases fl with
    | nx =>
      simp only at h ⊢
      rw [h]
      exact hc
    | bk => cases h
    | ct => cases h
    | rt d => cases h
    | ro d => cases h
theorem sSeq_as (a b c : M Fl) (ρ : PB.Env) : sSeq (sSeq a b) c ρ = sSeq a (sSeq b c) ρ := by
  unfold sSeq
  cases a ρ with
  | bad => rfl
  | ex x ρ' => rfl
  | ok fl ρ1 => cases fl <;> rfl
theorem endk (S : Sl) (w : Dw) (s2 s3 s4 s5 s6 s7 s8 s9 s10 s11 s13 : Sl) (k : Int) (h : k = 29 ∨ k = 30) : isT (sSeq a_law_8 (sSeq a_law_9 (sSeq a_law_10 a_law_11)) (lE S w s2 s3 s4 s5 s6 s7 s8 s9 s10 s11 (.fr (.int k)) s13)) = true := by
  rcases h with h | h
  · rw [h, end29]
  · rw [h, end30]
def tailL : M Fl := sSeq a_law_8 (sSeq a_law_9 (sSeq a_law_10 a_law_11))
def midL : M Fl := sSeq a_law_2 (sSeq a_law_3 (sSeq a_law_4 (sSeq a_law_5 a_law_6)))
theorem close_ok (S : Sl) (w' : Dw) (t2 t3 t4 t5 t6 t7 t8 t9 t10 t11 t12 t13 : Sl) : ∃ ρ', sSeq midL (sSeq a_law_7 tailL) (lE S w' t2 t3 t4 t5 t6 t7 t8 t9 t10 t11 t12 t13) = .ok (.rt (.bl true)) ρ' := by
  obtain ⟨u2, u3, u4, u5, u6, u7, u8, u9, u10, u11, u12, u13, em⟩ := midf S w' t2 t3 t4 t5 t6 t7 t8 t9 t10 t11 t12 t13
  obtain ⟨k, w2, ek, k1, k2⟩ := takeL S w' u2 u3 u4 u5 u6 u7 u8 u9 u10 u11 u12 u13 2 (by decide) (by decide)
  have c7 : (mCall F_law_take (aS 1 (aV (rdC (.int 2)) aNil))) (lE S w' u2 u3 u4 u5 u6 u7 u8 u9 u10 u11 u12 u13) = .ok (.int k) (lE S w2 u2 u3 u4 u5 u6 u7 u8 u9 u10 u11 u12 u13) := ek
  have s7 : a_law_7 (lE S w' u2 u3 u4 u5 u6 u7 u8 u9 u10 u11 u12 u13) = .ok .nx (lE S w2 u2 u3 u4 u5 u6 u7 u8 u9 u10 u11 (.fr (.int (29 + k))) u13) := sAsg_ok (bin2_ok (x := .int 29) (ρ1 := lE S w' u2 u3 u4 u5 u6 u7 u8 u9 u10 u11 u12 u13) rfl c7 addR) rfl
  have f := isT_ok (endk S w2 u2 u3 u4 u5 u6 u7 u8 u9 u10 u11 u13 (29 + k) (by omega))
  obtain ⟨ρ', ef⟩ := f
  have ef2 : tailL (lE S w2 u2 u3 u4 u5 u6 u7 u8 u9 u10 u11 (.fr (.int (29 + k))) u13) = .ok (.rt (.bl true)) ρ' := by
    unfold tailL
    exact ef
  have em2 : midL (lE S w' t2 t3 t4 t5 t6 t7 t8 t9 t10 t11 t12 t13) = .ok .nx (lE S w' u2 u3 u4 u5 u6 u7 u8 u9 u10 u11 u12 u13) := by
    unfold midL
    exact em
  exact ⟨ρ', sSeq_ok em2 (sSeq_ok s7 ef2)⟩
theorem law_eq : m_law = sSeq a_law_0 (sSeq a_law_1 (sSeq midL (sSeq a_law_7 tailL))) := by
  have e : sSeq midL (sSeq a_law_7 tailL) = sSeq a_law_2 (sSeq a_law_3 (sSeq a_law_4 (sSeq a_law_5 (sSeq a_law_6 (sSeq a_law_7 tailL))))) := by
    unfold midL
    funext ρ
    rw [sSeq_as]
    congr 1
    funext ρ
    rw [sSeq_as]
    congr 1
    funext ρ
    rw [sSeq_as]
    congr 1
    funext ρ
    rw [sSeq_as]
  rw [e]
  rfl
theorem law_ok (ns : List Int) (h : ns.length ≤ 63) : ∃ ρ', m_law (.fr (.fls (ns.map D.int)) :: List.replicate 13 .un) = .ok (.rt (.bl true)) ρ' := by
  obtain ⟨w, eb⟩ := begun ns h
  let S : Sl := .fr (.fls (ns.map D.int))
  have e0 : a_law_0 (S :: List.replicate 13 .un) = .ok .nx (lE S w .un .un .un .un .un .un .un .un .un .un .un .un) := by
    refine bind_ok (a := w.d) (ρ := S :: List.replicate 13 .un) ?_ rfl
    show callO F_law_begun [.v (.fls (ns.map D.int))] (S :: List.replicate 13 .un) = _
    exact callO_ok (as := [.v (.fls (ns.map D.int))]) (show ([] : List Nat).Nodup from List.nodup_nil) rfl eb rfl
  have len : ((ns.map D.int).length : Int) ≤ 63 := by rw [List.length_map]; omega
  have len0 : (0 : Int) ≤ ((ns.map D.int).length : Int) := Int.natCast_nonneg _
  obtain ⟨ρ', e1, w', t2, t3, t4, t5, t6, t7, t8, t9, t10, t11, t12, t13, er⟩ := forL_all (gb := bName 2) (mb := b_law_1) (J := fun ρ => ∃ w t2 t3 t4 t5 t6 t7 t8 t9 t10 t11 t12 t13, ρ = lE S w t2 t3 t4 t5 t6 t7 t8 t9 t10 t11 t12 t13) (xs := rngD 0 ((2 : Int) + (if (6 : Int) < ((ns.map D.int).length : Int) then 6 else ((ns.map D.int).length : Int))).toNat) (ρ := lE S w .un .un .un .un .un .un .un .un .un .un .un .un) (fun x _ ρ ⟨w, t2, t3, t4, t5, t6, t7, t8, t9, t10, t11, t12, t13, er⟩ => by
    subst er
    obtain ⟨w', u2, u3, u4, u5, u6, u7, u8, u9, u10, u11, u12, u13, e⟩ := turn_ok S w (.fr x) t3 t4 t5 t6 t7 t8 t9 t10 t11 t12 t13
    exact ⟨lE S w (.fr x) t3 t4 t5 t6 t7 t8 t9 t10 t11 t12 t13, _, rfl, e, w', u2, u3, u4, u5, u6, u7, u8, u9, u10, u11, u12, u13, rfl⟩) ⟨w, .un, .un, .un, .un, .un, .un, .un, .un, .un, .un, .un, .un, rfl⟩
  subst er
  have s1 : a_law_1 (lE S w .un .un .un .un .un .un .un .un .un .un .un .un) = .ok .nx (lE S w' t2 t3 t4 t5 t6 t7 t8 t9 t10 t11 t12 t13) := sFor_ok (ρ1 := lE S w .un .un .un .un .un .un .un .un .un .un .un .un) (mItemsL_ok (ds := [.int ((2 : Int) + (if (6 : Int) < ((ns.map D.int).length : Int) then 6 else ((ns.map D.int).length : Int)))]) rfl (asR1_ok (by split <;> omega))) e1
  obtain ⟨ρ', ec⟩ := close_ok S w' t2 t3 t4 t5 t6 t7 t8 t9 t10 t11 t12 t13
  refine ⟨ρ', ?_⟩
  rw [law_eq]
  exact sSeq_ok e0 (sSeq_ok s1 ec)
end PB.Lk02
set_option maxRecDepth 100000
set_option maxHeartbeats 0
namespace PB.Lk02
open PySem PySem.Spec PyProof.Rows L2 PB
open PySem.W (Frag keepIn)
abbrev RR : PySem.W.OpenRow := PySem.W.OpenLaw.row PySem.Challenge.rw_playsalike_k02_terms_and_their_sorts
def ob (s : PySem.W.SharedT) : AlT := tx.obsG (HandSHeadRun.getT s)
theorem ob_eq (s : PySem.W.SharedT) : ob s = tx.hook.obs s.abs := Tx.obs_eq (HandSHeadRun.getT_eq s)
theorem run (w : World) : HandSHeadRun.RunEq RR (PySem.W.view RR.prog [55]) tx.hook ob 30000 looseN w :=
  PySem.W.byRow2 "special-get-raises" (P := fun w => HandSHeadRun.RunEq RR (PySem.W.view RR.prog [55]) tx.hook ob 30000 looseN w) (fun w => by
    intro os
    kernel_rfl) (fun w => by
    intro os
    kernel_rfl) w
theorem h0_of {w : World} {K : Frag} {mg : Str → Option Value} {base h : Heap} (X : K.In h) (G : h.Ns mainGlobals mg) (c : tx.obs K = tx.val w) : H0 w K mg base := by
  have ok : tx.Ok PW w K := Tx.ok_of rfl c
  exact ⟨ok, fun x hx => He.glo_ok X G (ok.glo x hx), fun x hx => He.free_ok X G (ok.free x hx), fun c hc => cstAt_of X G (ok.cst c hc)⟩
def spL (K : Frag) (cd P : Addr) : Sp := fun vs H Q _ => ∃ (a : Addr) (ns : List Int), vs = [.ref a] ∧ ns.length ≤ 63 ∧ SqL K H a (ns.map V.int) ∧ OnlyT [(cd, P)] H ∧ H P = some (.tbl #[]) ∧ ∀ H', Q (.bl true) H'
theorem start_ok {K : Frag} {a cd P : Addr} {ns : List Int} {H : Hp} {Q : VK} {E : XK} {lf : Nat → Addr → Addr → Heap → Prop} {qn : Str} (hl : ns.length ≤ 63) (hS : SqL K H a (ns.map V.int)) (hO : OnlyT [(cd, P)] H) (hP : H P = some (.tbl #[])) (hQ : ∀ H', Q (.bl true) H') :
    liftS (tx.gc K ⟨lf, qn, [(P, qn)]⟩) (fun c d _ H => E c d H) [] m_law { nx := fun _ H' => Q .non H', rt := Q } (L2.start N_law [.ref a]) H := by
  obtain ⟨ρ', e⟩ := law_ok ns hl
  refine ⟨fun b => ∃ o xs, H b = some (.frz o (.lst xs)), fun _ => [], .fr (.fls (ns.map D.int)) :: List.replicate 13 .un, ?_, ?_⟩
  · refine ⟨rfl, fun i s q => ?_, fun _ => List.nodup_nil, fun _ _ _ h => (nomatch h), fun _ _ h => (nomatch h), fun _ _ h => (nomatch h), fun b ⟨o, xs, z⟩ => ⟨_, z, fun ps q => (nomatch q)⟩, fun p hp => ?_, fun p hp ps e pos cv hc => ?_⟩
    · cases i with
      | zero =>
        cases q
        refine ⟨rfl, .ref a, rfl, a, ns.map V.int, rfl, ?_, rfl_ints ns⟩
        rcases hS with (q | ⟨o, q⟩) | q
        · rcases hO a with z | ⟨z, _⟩ | ⟨ob, xs, z⟩
          · rw [q] at z; cases z
          · rw [q] at z; cases z
          · rw [q] at z; cases z
        · exact .inl ⟨⟨o, _, q⟩, o, q⟩
        · exact .inr q
      | succ i =>
        have q : (List.replicate 13 Sl.un)[i]? = some s := by simpa using q
        rw [List.getElem?_replicate] at q
        split at q
        · cases q; exact trivial
        · cases q
    · rw [List.mem_singleton.mp hp]
      exact ⟨#[], hP, trivial, fun pos cv z => nomatch z⟩
    · rw [List.mem_singleton.mp hp] at e
      have e : H P = some (.tbl ps) := e
      rw [hP] at e
      cases e
      exact nomatch hc
  · rw [e]
    intro Z' O' σ' H' _ _ _ v hv
    have hv : v = .bl true := hv
    rw [hv]
    exact hQ H'
theorem runT {w : World} {K : Frag} {mg : Str → Option Value} {base : Heap} {fa cd P : Addr} (h : H0 w K mg base) (hfa : mg ("law" : Str) = some (.ref fa)) (hcd : ∃ oc od fd osl, K.lookup (He.ga K "law") = some ⟨oc, od, .func fd, osl⟩ ∧ fd.code = .ref cd) (TB : LamX.TabB base mg cd P) : RunA PW w K mg base (L2.CX PW w) fa (spL K cd P) := by
  have e : fa = He.ga K "law" := by
    have := hfa.symm.trans h.f_law_fn
    cases this
    rfl
  subst e
  obtain ⟨⟨oc, od, osl, kV, doc, pm, an, cdv, ct, lk, hcode⟩, kp⟩ := h.ok.fn (fnD "law" 55) (List.mem_of_getElem? (i := 34) rfl)
  have ecd : cdv = .ref cd := by
    obtain ⟨oc2, od2, fd, osl2, lk2, e⟩ := hcd
    have e3 := lk.symm.trans lk2
    cases e3
    exact e
  refine run_of (k := 47) lk hcode sc_law ⟨rfl, by decide, by decide⟩ (fun s u => .of_eq rfl) fun s H v Q E hr hsp => ?_
  obtain ⟨a, ns, ev, hl, hS, hO, hP, hQ⟩ := hsp
  cases ev
  obtain ⟨l, el⟩ : ∃ l : Lc, l = ⟨lamFn (PyProof.Rows.envOfC "law" (defScope s_law) s.heap.objs.size (He.ga K "law") cdv) lamsL, (PyProof.Rows.envOfC "law" (defScope s_law) s.heap.objs.size (He.ga K "law") cdv).qual ++ "<lambda>", [(P, (PyProof.Rows.envOfC "law" (defScope s_law) s.heap.objs.size (He.ga K "law") cdv).qual ++ "<lambda>")]⟩ := ⟨_, rfl⟩
  have c_is_word := d_is_word (l := l) h 
  have c_is_tuple := d_is_tuple (l := l) h 
  have c_is_plain := d_is_plain (l := l) h 
  have c_is_sort := d_is_sort (l := l) h c_is_tuple c_is_plain
  have c_is_names := d_is_names (l := l) h c_is_word c_is_sort
  have c_need_names := d_need_names (l := l) h c_is_names
  have c_is_number := d_is_number (l := l) h 
  have c_is_between := d_is_between (l := l) h c_is_number
  have c_need_between := d_need_between (l := l) h c_is_between
  have c_need_size := d_need_size (l := l) h c_need_between
  have c_Sorter_init := d_Sorter_init (l := l) h 
  have mk_Sorter := k_Sorter (l := l) h c_Sorter_init
  have c_parts_of := d_parts_of (l := l) h 
  have c_names_within := d_names_within (l := l) h c_parts_of
  have c_is_use := d_is_use (l := l) h 
  have c_is_shape := d_is_shape (l := l) h c_is_between c_is_word c_is_use
  have c_wanted_of := d_wanted_of (l := l) h 
  have c_sort_by := d_sort_by (l := l) h 
  have c_Sorter_sort_at := d_Sorter_sort_at (l := l) h c_parts_of c_names_within c_is_shape c_wanted_of c_sort_by
  have c_sort_of := d_sort_of (l := l) h c_need_names c_need_size c_Sorter_sort_at mk_Sorter
  have c_is_term := d_is_term (l := l) h c_need_names c_need_size c_Sorter_sort_at mk_Sorter
  have c_law_begun := d_law_begun (l := l) h 
  have c_law_mixed := d_law_mixed (l := l) h 
  have c_law_take := d_law_take (l := l) h c_law_mixed
  have c_law_pick := d_law_pick (l := l) h c_law_take
  have c_law_shuffled := d_law_shuffled (l := l) h c_law_take
  have c_law_names := d_law_names (l := l) h c_law_take c_law_pick c_law_shuffled
  have c_law_parts := d_law_parts (l := l) h 
  have c_law_nodes := d_law_nodes (l := l) h c_law_parts
  have c_law_boxes := d_law_boxes (l := l) h 
  have c_law_leaf := d_law_leaf (l := l) h c_law_take c_law_pick c_law_boxes
  have c_law_call := d_law_call (l := l) h c_law_pick c_law_take c_law_leaf
  have c_law_term := d_law_term (l := l) h c_law_pick c_law_take c_law_leaf
  have c_law_fine_term := d_law_fine_term (l := l) h c_law_nodes c_law_term
  have c_law_broad := d_law_broad (l := l) h 
  have c_law_spots := d_law_spots (l := l) h 
  have r := r_law (l := l) h c_sort_of c_is_term c_law_begun c_law_take c_law_pick c_law_names c_law_nodes c_law_boxes c_law_fine_term c_law_broad c_law_spots (He.ga K "law") cdv callerA rfl [] s H E hr cd P ecd TB el
  subst el
  exact ⟨_, r, start_ok hl hS hO hP hQ⟩
end PB.Lk02
open PySem PySem.W PySem.Calls PyProof.Rows
theorem PySem.Challenge.cw_playsalike_k02_terms_and_their_sorts_holds : PySem.Challenge.rw_playsalike_k02_terms_and_their_sorts.Holds := by
  w_on; o_law
  refine HandSHeadRun.head_any (r := OpenLaw.row PySem.Challenge.rw_playsalike_k02_terms_and_their_sorts) (q := view (OpenLaw.row PySem.Challenge.rw_playsalike_k02_terms_and_their_sorts).prog [55]) (H := PB.Lk02.tx.hook) (ob := PB.Lk02.ob) (M := 30000) (loose := PB.Lk02.looseN) (d := HandSHeadRun.topDef (OpenLaw.row PySem.Challenge.rw_playsalike_k02_terms_and_their_sorts).prog 55) (kwd := []) PB.Lk02.ob_eq
    (by kernel_rfl) (fun s => by kernel_rfl) PB.Lk02.run (by kernel_rfl) (by kernel_rfl) (by kernel_rfl) (by rfl) (by first | assumption | decide +kernel) (by decide +kernel) ⟨rfl, rfl, rfl, rfl, rfl, by decide +kernel⟩ ?hw ?hc
  case hw => w_witness2
  case hc =>
    refine PB.walk_T (l := PySem.Challenge.rw_playsalike_k02_terms_and_their_sorts) (n := 63) (CX := fun w => L2.CX PB.Lk02.PW w) rfl (by decide) (by kernel_rfl) ?F ?X
    case X =>
      intro w H s e s' h
      obtain ⟨_, _, _, _, _, _, _, _, _, _, _, _, z⟩ := h
      exact z.elim
    case F =>
      intro w mg fa h Y G hmg0
      obtain ⟨K, KX, c, ht⟩ := Y
      have hmg : mg ("law" : PySem.Str) = some (.ref fa) := by
        have e : (HandSHeadRun.topDef (OpenLaw.row PySem.Challenge.rw_playsalike_k02_terms_and_their_sorts).prog 55).name = ("law" : PySem.Str) := by kernel_rfl
        rw [← e]
        exact hmg0
      obtain ⟨P, hcd, hc1, hc2, hc3⟩ := ht "law" (List.mem_singleton.mpr rfl)
      exact ⟨K, [(PB.lamC K "law", P)], PB.Lk02.spL K (PB.lamC K "law") P, KX, fun p hp => by rw [List.mem_singleton.mp hp]; exact hc2, fun p hp => by rw [List.mem_singleton.mp hp]; exact hc3, fun p hp => by rw [List.mem_singleton.mp hp]; exact hc1,
        fun H a ns hl _ hO hT hS => ⟨a, ns, rfl, hl, hS, hO, hT _ (List.mem_singleton.mpr rfl), fun _ => rfl⟩, fun base _ _ hT => PB.Lk02.runT (PB.Lk02.h0_of KX G c) hmg hcd (hT _ (List.mem_singleton.mpr rfl))⟩
