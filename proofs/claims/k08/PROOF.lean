import PyProof.Rows.All
import Wide.All
import OpenK.AllK
import Wide.FinOn
import HandS.ForMost
import HandS.Exc
import HandS.ExcOwn
import HandS.ExcValue
import HandS.WordsExc
import HandS.Lambda
import HandS.CallLocal
import HandS.TupAny
import HandS.TupMul
import HandS.Wide
import HandS.Deep
import HandS.Small
import HandS.Style
import HandS.IsInst
import HandS.Zip
import HandS.SortInts
import HandS.SortKw
import HandS.DictComp
import HandS.DeepEq
import HandS.Flow
import HandS.ExcIs
import HandS.ExcField
import HandS.ExcSuper
import HandS.ListItems
import HandS.Conv
import HandS.RaiseMore
import KE.GoesEnum
import HandS.Walk
import HandS.Defaults
import HandS.HeadHook1
import KE.KRevSl
import HandS.Dict
import HandS.HeadHook4
import KE.IntBitsLaws
import HandS.Head2
import HandS.HeadWalk
import HandS.EndTab
import PySem.Challenge.RW_nocarry_k08_whole_numbers_that_share_not
set_option Elab.async false
set_option autoImplicit false
set_option linter.all false
set_option maxRecDepth 100000
set_option maxHeartbeats 2000000
/-! # A value layer: what a def does, told of values without a heap -/
namespace VL
open PySem PySem.Spec PyProof.Rows L2

/-- an error, by its class's name and its most -/
structure Er where
  cls : Str
  most : Option Int

/-- a value, whole -/
inductive D where
  | non | bl (b : Bool) | int (i : Int) | str (x : Str)
  | tup (ds : List D) | lst (ds : List D)
  | dct (ks : List Key) (ds : List D)
  | fn (x : Str) | draw | scr (ns : List Int) | exc (e : Er)
  deriving Inhabited

/-- the draws' dict, its list of cells -/
abbrev Dr := Addr × Addr
/-- what stays the same through the law: the written part, the module's names, the tables of code objects -/
structure Cn where
  K : PySem.W.Frag
  mg : Str → Option Value
  T : List (Addr × Str)

/-- an exception at a, of the class cls, its own dict d -/
def ExO2 (cls : Value) (d : Option Addr) (a : Addr) : HO := .ext fun h => ∃ (oe : Obj) (vs : Array Value), h.get? a = some oe ∧ Zc cls d oe ∧ oe.data = .fields vs
def most1 : Str := "most"
/-- cls, d tell the error e -/
def ErrIs (W : Cn) (e : Er) (cls : Value) (d : Option Addr) (H : Hp) : Prop :=
  ∃ C : Addr, W.mg e.cls = some (.ref C) ∧ cls = .ref C ∧ match e.most with
    | none => d = none
    | some m => ∃ dd, d = some dd ∧ H dd = some (.xd [(most1, .int m)])

section
variable (W : Cn) (dr : Dr) (A : Addr → Prop) (H : Hp)
mutual
/-- the value v stands for d; A: what others own -/
def Den : D → V → Prop
  | .non, v => v = .non
  | .bl b, v => v = .bl b
  | .int i, v => v = .int i
  | .str x, v => v = .str x
  | .tup ds, v => ∃ a vs, v = .ref a ∧ SqT W.K H a vs ∧ DenL ds vs
  | .lst ds, v => ∃ a vs, v = .ref a ∧ ¬ A a ∧ a ≠ dr.1 ∧ H a = some (.lst vs) ∧ DenL ds vs
  | .dct ks ds, v => ∃ a kvs, v = .ref a ∧ ¬ A a ∧ a ≠ dr.1 ∧ H a = some (.dK kvs) ∧ kvs.map (·.1) = ks ∧ DenL ds (kvs.map (·.2))
  | .fn x, v => ∃ f, W.mg x = some (.ref f) ∧ v = .ref f
  | .draw, v => v = .ref dr.1
  | .scr ns, v => ∃ a, v = .ref a ∧ ((H a = some (.lst (ns.map V.int)) ∧ ¬ A a ∧ a ≠ dr.1) ∨ (∃ o, H a = some (.frz o (.lst (ns.map V.int)))) ∨ ∀ H', SqL W.K H' a (ns.map V.int))
  | .exc e, v => ∃ a cls d, v = .ref a ∧ H a = some (ExO2 cls d a) ∧ ErrIs W e cls d H
def DenL : List D → List V → Prop
  | [], vs => vs = []
  | d :: ds, vs => ∃ v r, vs = v :: r ∧ Den d v ∧ DenL ds r
end
end

/-- the state of the draws -/
structure Gs where
  whole : Int
  cells : List Int
  count : Int
def kWhole : Key := .inr "whole"
def kCells : Key := .inr "cells"
def kCount : Key := .inr "count"
def DrawOk (W : Cn) (dr : Dr) (A : Addr → Prop) (G : Gs) (H : Hp) : Prop :=
  H dr.1 = some (.dK [(kWhole, .int G.whole), (kCells, .ref dr.2), (kCount, .int G.count)]) ∧ H dr.2 = some (.lst (G.cells.map V.int)) ∧ ¬ A dr.2 ∧ dr.2 ≠ dr.1

def NotTbl (o : HO) : Prop := ∀ ps, o ≠ .tbl ps
/-- all that is tracked stays, but the draws' dict and the tables -/
def Ext (dr : Dr) (H H' : Hp) : Prop := ∀ a o, H a = some o → a ≠ dr.1 → NotTbl o → H' a = some o
theorem Ext.refl (dr : Dr) (H : Hp) : Ext dr H H := fun _ _ h _ _ => h
theorem Ext.trans {dr : Dr} {H H1 H2 : Hp} (a : Ext dr H H1) (b : Ext dr H1 H2) : Ext dr H H2 := fun x o h n t => b x o (a x o h n t) n t
/-- behind an expression -/
structure Post (W : Cn) (dr : Dr) (A : Addr → Prop) (H H' : Hp) (G' : Gs) : Prop where
  ext : Ext dr H H'
  draw : DrawOk W dr A G' H'
  tabs : LamX.Tabs W.T H'
theorem Post.trans {W : Cn} {dr : Dr} {A : Addr → Prop} {H H1 H2 : Hp} {G1 G2 : Gs} (a : Post W dr A H H1 G1) (b : Post W dr A H1 H2 G2) : Post W dr A H H2 G2 :=
  ⟨a.ext.trans b.ext, b.draw, b.tabs⟩

/-! ### what stands for a value goes on standing for it -/
/-- H' keeps what H has: all that isn't owned, and what never changes -/
structure Kp (dr : Dr) (A : Addr → Prop) (H H' : Hp) : Prop where
  keep : ∀ a o, H a = some o → ¬ A a → a ≠ dr.1 → NotTbl o → H' a = some o
  tup : ∀ a xs, H a = some (.tup xs) → H' a = some (.tup xs)
  ext : ∀ a φ, H a = some (.ext φ) → H' a = some (.ext φ)
  xd : ∀ a fs, H a = some (.xd fs) → H' a = some (.xd fs)
  frz : ∀ a o u, H a = some (.frz o u) → H' a = some (.frz o u)
section
variable {W : Cn} {dr : Dr} {A A' : Addr → Prop} {H H' : Hp} {G G' : Gs}
theorem DrawOk.ne {a : Addr} {o : HO} (d : DrawOk W dr A G H) (h : H a = some o) (n : ∀ kvs, o ≠ .dK kvs) : a ≠ dr.1 := fun e => by
  obtain ⟨h1, _⟩ := d
  rw [e, h1] at h
  exact n _ (Option.some.inj h).symm
theorem Ext.kp (e : Ext dr H H') (d : DrawOk W dr A G H) : Kp dr A H H' where
  keep := fun a o h _ n t => e a o h n t
  tup := fun a xs h => e a _ h (d.ne h fun _ z => by cases z) fun _ z => by cases z
  ext := fun a xs h => e a _ h (d.ne h fun _ z => by cases z) fun _ z => by cases z
  xd := fun a xs h => e a _ h (d.ne h fun _ z => by cases z) fun _ z => by cases z
  frz := fun a o u h => e a _ h (d.ne h fun _ z => by cases z) fun _ z => by cases z
theorem Kp.sqT (k : Kp dr A H H') {a : Addr} {xs : List V} (h : SqT W.K H a xs) : SqT W.K H' a xs := by
  rcases h with (h | ⟨o, h⟩) | h
  · exact .inl (.inl (k.tup _ _ h))
  · exact .inl (.inr ⟨o, k.frz _ _ _ h⟩)
  · exact .inr h
theorem Kp.err (k : Kp dr A H H') {e : Er} {cls : Value} {d : Option Addr} (h : ErrIs W e cls d H) : ErrIs W e cls d H' := by
  obtain ⟨C, h1, h2, h3⟩ := h
  refine ⟨C, h1, h2, ?_⟩
  split at h3
  · exact h3
  · obtain ⟨dd, e1, e2⟩ := h3
    exact ⟨dd, e1, k.xd _ _ e2⟩
mutual
theorem Den.kp (k : Kp dr A H H') (hA : ∀ a, A' a → A a ∨ H a = none) : ∀ (d : D) (v : V), Den W dr A H d v → Den W dr A' H' d v
  | .non, v, h => by rw [Den] at h ⊢; exact h
  | .bl b, v, h => by rw [Den] at h ⊢; exact h
  | .int i, v, h => by rw [Den] at h ⊢; exact h
  | .str x, v, h => by rw [Den] at h ⊢; exact h
  | .tup ds, v, h => by
    rw [Den] at h ⊢
    obtain ⟨a, vs, e, h1, h2⟩ := h
    exact ⟨a, vs, e, k.sqT h1, DenL.kp k hA ds vs h2⟩
  | .lst ds, v, h => by
    rw [Den] at h ⊢
    obtain ⟨a, vs, e, n, nd, h1, h2⟩ := h
    exact ⟨a, vs, e, fun z => (hA a z).elim n fun q => by (rw [h1] at q; cases q), nd, k.keep _ _ h1 n nd (fun _ z => by cases z), DenL.kp k hA ds vs h2⟩
  | .dct ks ds, v, h => by
    rw [Den] at h ⊢
    obtain ⟨a, vs, e, n, nd, h1, h2, h3⟩ := h
    exact ⟨a, vs, e, fun z => (hA a z).elim n fun q => by (rw [h1] at q; cases q), nd, k.keep _ _ h1 n nd (fun _ z => by cases z), h2, DenL.kp k hA ds _ h3⟩
  | .fn x, v, h => by rw [Den] at h ⊢; exact h
  | .draw, v, h => by rw [Den] at h ⊢; exact h
  | .scr ns, v, h => by
    rw [Den] at h ⊢
    obtain ⟨a, e, h1⟩ := h
    refine ⟨a, e, ?_⟩
    rcases h1 with ⟨h1, n, nd⟩ | ⟨o, h1⟩ | h1
    · exact .inl ⟨k.keep _ _ h1 n nd (fun _ z => by cases z), fun z => (hA a z).elim n fun q => by (rw [h1] at q; cases q), nd⟩
    · exact .inr (.inl ⟨o, k.frz _ _ _ h1⟩)
    · exact .inr (.inr h1)
  | .exc x, v, h => by
    rw [Den] at h ⊢
    obtain ⟨a, cls, d, e, h1, h2⟩ := h
    exact ⟨a, cls, d, e, k.ext _ _ h1, k.err h2⟩
theorem DenL.kp (k : Kp dr A H H') (hA : ∀ a, A' a → A a ∨ H a = none) : ∀ (ds : List D) (vs : List V), DenL W dr A H ds vs → DenL W dr A' H' ds vs
  | [], vs, h => by rw [DenL] at h ⊢; exact h
  | d :: ds, vs, h => by
    rw [DenL] at h ⊢
    obtain ⟨v, r, e, h1, h2⟩ := h
    exact ⟨v, r, e, Den.kp k hA d v h1, DenL.kp k hA ds r h2⟩
end
theorem Den.post (p : Post W dr A H H' G') (dw : DrawOk W dr A G H) {d : D} {v : V} (h : Den W dr A H d v) : Den W dr A H' d v := Den.kp (p.ext.kp dw) (fun _ z => .inl z) d v h
theorem DenL.post (p : Post W dr A H H' G') (dw : DrawOk W dr A G H) {d : List D} {v : List V} (h : DenL W dr A H d v) : DenL W dr A H' d v := DenL.kp (p.ext.kp dw) (fun _ z => .inl z) d v h
theorem Kp.refl : Kp dr A H H := ⟨fun _ _ h _ _ _ => h, fun _ _ h => h, fun _ _ h => h, fun _ _ h => h, fun _ _ _ h => h⟩
theorem Den.sub (hA : ∀ a, A' a → A a) {d : D} {v : V} (h : Den W dr A H d v) : Den W dr A' H d v := Den.kp Kp.refl (fun a z => .inl (hA a z)) d v h
theorem DenL.sub (hA : ∀ a, A' a → A a) {d : List D} {v : List V} (h : DenL W dr A H d v) : DenL W dr A' H d v := DenL.kp Kp.refl (fun a z => .inl (hA a z)) d v h
theorem DenL.length : ∀ {ds : List D} {vs : List V}, DenL W dr A H ds vs → ds.length = vs.length
  | [], vs, h => by
    rw [DenL] at h
    rw [h] <;> rfl
  | d :: ds, vs, h => by
    rw [DenL] at h
    obtain ⟨v, r, e, h1, h2⟩ := h
    rw [e, List.length_cons, List.length_cons, DenL.length h2]
theorem DenL.nil : DenL W dr A H [] [] := by rw [DenL]
theorem DenL.cons {d : D} {v : V} {ds : List D} {vs : List V} (h : Den W dr A H d v) (t : DenL W dr A H ds vs) : DenL W dr A H (d :: ds) (v :: vs) := by
  rw [DenL]
  exact ⟨v, vs, rfl, h, t⟩
theorem DenL.get : ∀ {ds : List D} {vs : List V} {i : Nat} {d : D}, DenL W dr A H ds vs → ds[i]? = some d → ∃ v, vs[i]? = some v ∧ Den W dr A H d v
  | [], _, _, _, _, e => by simp at e
  | x :: xs, vs, 0, d, h, e => by
    rw [DenL] at h
    obtain ⟨v, r, rfl, h1, h2⟩ := h
    cases e
    exact ⟨v, rfl, h1⟩
  | x :: xs, vs, i + 1, d, h, e => by
    rw [DenL] at h
    obtain ⟨v, r, rfl, h1, h2⟩ := h
    obtain ⟨w, e1, e2⟩ := DenL.get (ds := xs) (vs := r) (i := i) h2 (by simpa using e)
    exact ⟨w, by simpa using e1, e2⟩
theorem DenL.getV : ∀ {ds : List D} {vs : List V} {i : Nat} {v : V}, DenL W dr A H ds vs → vs[i]? = some v → ∃ d, ds[i]? = some d ∧ Den W dr A H d v
  | [], vs, _, _, h, e => by
    rw [DenL] at h
    rw [h] at e
    simp at e
  | x :: xs, vs, 0, v', h, e => by
    rw [DenL] at h
    obtain ⟨v, r, rfl, h1, h2⟩ := h
    cases e
    exact ⟨x, rfl, h1⟩
  | x :: xs, vs, i + 1, v', h, e => by
    rw [DenL] at h
    obtain ⟨v, r, rfl, h1, h2⟩ := h
    obtain ⟨w, e1, e2⟩ := DenL.getV (ds := xs) (vs := r) (i := i) h2 (by simpa using e)
    exact ⟨w, by simpa using e1, e2⟩
theorem DenL.append : ∀ {ds es : List D} {vs us : List V}, DenL W dr A H ds vs → DenL W dr A H es us → DenL W dr A H (ds ++ es) (vs ++ us)
  | [], es, vs, us, h, t => by
    rw [DenL] at h
    rw [h]
    exact t
  | d :: ds, es, vs, us, h, t => by
    rw [DenL] at h
    obtain ⟨v, r, rfl, h1, h2⟩ := h
    exact .cons h1 (DenL.append h2 t)
theorem DenL.take : ∀ {ds : List D} {vs : List V} (n : Nat), DenL W dr A H ds vs → DenL W dr A H (ds.take n) (vs.take n)
  | _, _, 0, _ => by
    rw [List.take_zero, List.take_zero]
    exact .nil
  | [], vs, n + 1, h => by
    rw [DenL] at h
    rw [h]
    exact .nil
  | d :: ds, vs, n + 1, h => by
    rw [DenL] at h
    obtain ⟨v, r, rfl, h1, h2⟩ := h
    exact .cons h1 (DenL.take n h2)
theorem DenL.drop : ∀ {ds : List D} {vs : List V} (n : Nat), DenL W dr A H ds vs → DenL W dr A H (ds.drop n) (vs.drop n)
  | _, _, 0, h => h
  | [], vs, n + 1, h => by
    rw [DenL] at h
    rw [h]
    exact .nil
  | d :: ds, vs, n + 1, h => by
    rw [DenL] at h
    obtain ⟨v, r, rfl, h1, h2⟩ := h
    exact DenL.drop n h2
theorem DenL.set : ∀ {ds : List D} {vs : List V} {d : D} {v : V} (i : Nat), DenL W dr A H ds vs → Den W dr A H d v → DenL W dr A H (ds.set i d) (vs.set i v)
  | [], vs, _, _, i, h, _ => by
    rw [DenL] at h
    rw [h]
    exact .nil
  | x :: xs, vs, _, _, 0, h, t => by
    rw [DenL] at h
    obtain ⟨v, r, rfl, h1, h2⟩ := h
    exact .cons t h2
  | x :: xs, vs, _, _, i + 1, h, t => by
    rw [DenL] at h
    obtain ⟨v, r, rfl, h1, h2⟩ := h
    exact .cons h1 (DenL.set i h2 t)
theorem DenL.ints : ∀ (ns : List Int), DenL W dr A H (ns.map D.int) (ns.map V.int)
  | [] => .nil
  | n :: ns => .cons (by rw [Den]) (DenL.ints ns)
theorem DenL.intsV : ∀ {ns : List Int} {vs : List V}, DenL W dr A H (ns.map D.int) vs → vs = ns.map V.int
  | [], vs, h => by
    rw [List.map_nil, DenL] at h
    exact h
  | n :: ns, vs, h => by
    rw [List.map_cons, DenL] at h
    obtain ⟨v, r, rfl, h1, h2⟩ := h
    rw [Den] at h1
    rw [h1, DenL.intsV h2]
    rfl

/-! ### slots -/
/-- the content of an own list, an own dict at a -/
def Body (W : Cn) (dr : Dr) (A : Addr → Prop) (H : Hp) : D → Addr → Prop
  | .lst ds, a => ∃ vs, H a = some (.lst vs) ∧ DenL W dr A H ds vs
  | .dct ks ds, a => ∃ kvs, H a = some (.dK kvs) ∧ kvs.map (·.1) = ks ∧ DenL W dr A H ds (kvs.map (·.2))
  | _, _ => False
theorem Body.kp (k : Kp dr A H H') (hA : ∀ a, A' a → A a ∨ H a = none) {d : D} {a : Addr} (hk : ∀ o, H a = some o → H' a = some o) (h : Body W dr A H d a) : Body W dr A' H' d a := by
  cases d with
  | lst ds =>
    obtain ⟨vs, h1, h2⟩ := h
    exact ⟨vs, hk _ h1, DenL.kp k hA _ _ h2⟩
  | dct ks ds =>
    obtain ⟨vs, h1, h2, h3⟩ := h
    exact ⟨vs, hk _ h1, h2, DenL.kp k hA _ _ h3⟩
  | _ => exact h.elim
inductive Slot where
  /-- nothing is known | a value | a list (dict) of the def's own that it may change | the same while a loop walks it -/
  | no | val (d : D) | own (d : D) | lck (d : D)
  deriving Inhabited
abbrev Lo := List Slot
def isOwn : Slot → Prop
  | .own _ => True
  | .lck _ => True
  | _ => False
/-- a thing that must stay through a loop: a value, an own slot's address -/
inductive Tmp where
  | den (d : D) (v : V)
  | lock (i : Nat) (a : Addr) (d : D)
/-- what stays the same within a def's call: the draws' dict, the heap at the entry, what callers own, what loops walk -/
structure Ctx where
  dr : Dr
  He : Hp
  B : Addr → Prop
  T : List Tmp
/-- a is none of the entry's objects -/
def NewTo (c : Ctx) (a : Addr) : Prop := ¬ c.B a ∧ ∀ o, c.He a = some o → ¬ NotTbl o
def SlotOk (W : Cn) (c : Ctx) (A : Addr → Prop) (H : Hp) (x : Option (Option V)) : Slot → Prop
  | .no => True
  | .val d => ∃ v, x = some (some v) ∧ Den W c.dr A H d v
  | .own d => ∃ a, x = some (some (.ref a)) ∧ A a ∧ NewTo c a ∧ Body W c.dr A H d a
  | .lck d => ∃ a, x = some (some (.ref a)) ∧ A a ∧ NewTo c a ∧ Body W c.dr A H d a
def TmpOk (W : Cn) (c : Ctx) (A : Addr → Prop) (H : Hp) (L : Lo) (σ : L2.St) : Tmp → Prop
  | .den d v => Den W c.dr A H d v
  | .lock i a d => L[i]? = some (.lck d) ∧ σ[i]? = some (some (.ref a)) ∧ a ≠ c.dr.1
def MutO : HO → Prop
  | .lst _ => True
  | .dK _ => True
  | _ => False
structure Env (W : Cn) (c : Ctx) (A : Addr → Prop) (L : Lo) (G : Gs) (σ : L2.St) (H : Hp) : Prop where
  ext : Ext c.dr c.He H
  draw : DrawOk W c.dr A G H
  tabs : LamX.Tabs W.T H
  base : ∀ a, c.B a → A a
  bdom : ∀ a, c.B a → c.He a ≠ none
  own : ∀ a, A a → ∃ o, H a = some o ∧ MutO o
  adr : ¬ A c.dr.1
  len : L.length = σ.length
  slots : ∀ (i : Nat) (s : Slot), L[i]? = some s → SlotOk W c A H (σ[i]?) s
  inj : ∀ (i j : Nat) (s t : Slot) (a : Addr), L[i]? = some s → L[j]? = some t → isOwn s → isOwn t → σ[i]? = some (some (.ref a)) → σ[j]? = some (some (.ref a)) → i = j
  tmp : ∀ t ∈ c.T, TmpOk W c A H L σ t
end
section
variable {W : Cn} {c : Ctx} {A : Addr → Prop} {L : Lo} {G G' : Gs} {σ : L2.St} {H H' : Hp}
theorem Env.ne (E : Env W c A L G σ H) {a : Addr} (h : A a) : a ≠ c.dr.1 := fun e => E.adr (e ▸ h)
/-- all own objects and all else stay: the environment does -/
theorem Env.to (E : Env W c A L G σ H) (p : Post W c.dr A H H' G') : Env W c A L G' σ H' where
  ext := E.ext.trans p.ext
  draw := p.draw
  tabs := p.tabs
  base := E.base
  bdom := E.bdom
  own := fun a h => by
    obtain ⟨o, e, m⟩ := E.own a h
    exact ⟨o, p.ext a o e (E.ne h) (fun ps z => by rw [z] at m; exact m), m⟩
  adr := E.adr
  len := E.len
  slots := fun i s h => by
    have q := E.slots i s h
    have hk : ∀ {a : Addr} {d : D}, A a → Body W c.dr A H d a → Body W c.dr A H' d a := fun {a d} ha hb => by
      refine Body.kp (p.ext.kp E.draw) (fun _ z => .inl z) (fun o e => ?_) hb
      obtain ⟨u, e2, m⟩ := E.own a ha
      rw [e] at e2
      cases e2
      exact p.ext a o e (E.ne ha) (fun ps z => by rw [z] at m; exact m)
    cases s with
    | no => exact q
    | val d =>
      obtain ⟨v, e, h⟩ := q
      exact ⟨v, e, h.post p E.draw⟩
    | own d =>
      obtain ⟨a, e, h1, h2, h4⟩ := q
      exact ⟨a, e, h1, h2, hk h1 h4⟩
    | lck d =>
      obtain ⟨a, e, h1, h2, h4⟩ := q
      exact ⟨a, e, h1, h2, hk h1 h4⟩
  inj := E.inj
  tmp := fun t ht => by
    have q := E.tmp t ht
    cases t with
    | den d v => exact Den.post p E.draw (show Den W c.dr A H d v from q)
    | lock i a d => exact q
/-- a new object is laid -/
theorem Post.new (E : Env W c A L G σ H) {p : Addr} {o : HO} (h : H p = none) : Post W c.dr A H (upd H p o) G where
  ext := fun a u e _ _ => by
    rw [upd_ne (ne_of_none e h)]
    exact e
  draw := by
    obtain ⟨h1, h2, h3⟩ := E.draw
    exact ⟨by rw [upd_ne (ne_of_none h1 h)]; exact h1, by rw [upd_ne (ne_of_none h2 h)]; exact h2, h3⟩
  tabs := E.tabs.ext fun a u e => by
    rw [upd_ne (ne_of_none e h)]
    exact e
theorem Post.refl (E : Env W c A L G σ H) : Post W c.dr A H H G := ⟨Ext.refl _ _, E.draw, E.tabs⟩
end
end VL
set_option Elab.async false
set_option autoImplicit false
set_option linter.all false
set_option maxRecDepth 100000
set_option maxHeartbeats 2000000
namespace VL
open PySem PySem.Spec PyProof.Rows L2
abbrev EK := Er → Gs → Prop
abbrev VE := EK → Lo → Gs → (D → Gs → Prop) → Prop
abbrev VT := EK → Lo → Gs → (Bool → Gs → Prop) → Prop
abbrev VA := EK → Lo → Gs → (List D → Gs → Prop) → Prop
/-- a def's promise -/
abbrev SpD := List D → Gs → (D → Gs → Prop) → EK → Prop
/-- a two-place operation -/
abbrev V2 := D → D → (D → Prop) → Prop
abbrev cn (X : Cx) (T : List (Addr × Str)) : Cn := ⟨X.K, X.mg, T⟩
/-- what is wished of an exception, told of errors -/
def ErrOk (W : Cn) (c : Ctx) (E : XK) (Ev : EK) : Prop := ∀ er G cls d H, Post W c.dr c.B c.He H G → ErrIs W er cls d H → Ev er G → E cls d H
theorem ErrOk.none (W : Cn) (c : Ctx) (E : XK) : ErrOk W c E (fun _ _ => False) := fun _ _ _ _ _ _ _ h => h.elim

def SimE (W : Cn) (E : XK) (t : TE) (m : VE) : Prop :=
  ∀ (c : Ctx) (A : Addr → Prop) (Ev : EK) (L : Lo) (G : Gs) (σ : L2.St) (H : Hp) (Q : D → Gs → Prop) (Qh : VK), ErrOk W c E Ev → Env W c A L G σ H → m Ev L G Q →
    (∀ d v G' H', Post W c.dr A H H' G' → Den W c.dr A H' d v → Q d G' → Qh v H') → t σ H Qh
/-- a new list or dict -/
def SimF (W : Cn) (E : XK) (t : TE) (m : VE) : Prop :=
  ∀ (c : Ctx) (A : Addr → Prop) (Ev : EK) (L : Lo) (G : Gs) (σ : L2.St) (H : Hp) (Q : D → Gs → Prop) (Qh : VK), ErrOk W c E Ev → Env W c A L G σ H → m Ev L G Q →
    (∀ d p G1 H1 G' H', Post W c.dr A H H1 G1 → H1 p = none → Post W c.dr A H1 H' G' → Body W c.dr (fun a => A a ∨ a = p) H' d p → Q d G' → Qh (.ref p) H') → t σ H Qh
/-- what is read at once: an own list, too -/
def Rdn (W : Cn) (dr : Dr) (A : Addr → Prop) (H : Hp) (d : D) (v : V) : Prop := Den W dr A H d v ∨ ∃ a, v = .ref a ∧ A a ∧ a ≠ dr.1 ∧ Body W dr A H d a
def SimP (W : Cn) (E : XK) (t : TE) (m : VE) : Prop :=
  ∀ (c : Ctx) (A : Addr → Prop) (Ev : EK) (L : Lo) (G : Gs) (σ : L2.St) (H : Hp) (Q : D → Gs → Prop) (Qh : VK), ErrOk W c E Ev → Env W c A L G σ H → m Ev L G Q →
    (∀ d v G' H', Post W c.dr A H H' G' → Rdn W c.dr A H' d v → Q d G' → Qh v H') → t σ H Qh
def SimT (W : Cn) (E : XK) (t : TT) (m : VT) : Prop :=
  ∀ (c : Ctx) (A : Addr → Prop) (Ev : EK) (L : Lo) (G : Gs) (σ : L2.St) (H : Hp) (Q : Bool → Gs → Prop) (Qh : Bool → Hp → Prop), ErrOk W c E Ev → Env W c A L G σ H → m Ev L G Q →
    (∀ b G' H', Post W c.dr A H H' G' → Q b G' → Qh b H') → t σ H Qh
def SimA (W : Cn) (E : XK) (t : TA) (m : VA) : Prop :=
  ∀ (c : Ctx) (A : Addr → Prop) (Ev : EK) (L : Lo) (G : Gs) (σ : L2.St) (H : Hp) (Q : List D → Gs → Prop) (Qh : List V → Hp → Prop), ErrOk W c E Ev → Env W c A L G σ H → m Ev L G Q →
    (∀ ds vs G' H', Post W c.dr A H H' G' → DenL W c.dr A H' ds vs → Q ds G' → Qh vs H') → t σ H Qh
section
variable (X : Cx) (T : List (Addr × Str)) (E : XK)
structure JE (e : Expr) (m : VE) : Prop where
  ex : ∃ t, PE X e t ∧ SimE (cn X T) E t m
structure JF (e : Expr) (m : VE) : Prop where
  ex : ∃ t, PE X e t ∧ SimF (cn X T) E t m
structure JP (e : Expr) (m : VE) : Prop where
  ex : ∃ t, PE X e t ∧ SimP (cn X T) E t m
structure JT (e : Expr) (m : VT) : Prop where
  ex : ∃ t, PT X e t ∧ SimT (cn X T) E t m
/-- a test within and, or -/
structure JW (e : Expr) (m : VT) : Prop where
  ex : ∃ t, PW X e t ∧ SimT (cn X T) E t m
structure JA (es : List Expr) (m : VA) : Prop where
  ex : ∃ t, PA X es t ∧ SimA (cn X T) E t m
end
theorem Body.den {W : Cn} {dr : Dr} {A : Addr → Prop} {H : Hp} {d : D} {p : Addr} (h : Body W dr (fun a => A a ∨ a = p) H d p) (n : ¬ A p) (nd : p ≠ dr.1) : Den W dr A H d (.ref p) := by
  cases d with
  | lst ds =>
    obtain ⟨vs, h1, h2⟩ := h
    rw [Den]
    exact ⟨p, vs, rfl, n, nd, h1, h2.sub fun a z => .inl z⟩
  | dct ks ds =>
    obtain ⟨vs, h1, h2, h3⟩ := h
    rw [Den]
    exact ⟨p, vs, rfl, n, nd, h1, h2, h3.sub fun a z => .inl z⟩
  | _ => exact h.elim
section
variable {W : Cn} {c : Ctx} {A : Addr → Prop} {L : Lo} {G G' : Gs} {σ : L2.St} {H H' : Hp}
theorem Env.nA (E : Env W c A L G σ H) {p : Addr} (h : H p = none) : ¬ A p := fun z => by
  obtain ⟨o, e, _⟩ := E.own p z
  rw [h] at e
  cases e
theorem Env.nD (E : Env W c A L G σ H) {p : Addr} (h : H p = none) : p ≠ c.dr.1 := fun z => by
  obtain ⟨e, _⟩ := E.draw
  rw [z, e] at h
  cases h
end
section
variable {X : Cx} {T : List (Addr × Str)} {E : XK} {e a b : Expr} {es : List Expr} {m ma mb : VE} {pos : Pos}
theorem JF.je (h : JF X T E e m) : JE X T E e m := by
  obtain ⟨t, h1, h2⟩ := h.ex
  exact ⟨t, h1, fun c A Ev L G σ H Q Qh hE env hm k => h2 c A Ev L G σ H Q Qh hE env hm fun d p G1 H1 G' H' p1 hp p2 hb q => k d _ G' H' (p1.trans p2) (hb.den ((env.to p1).nA hp) ((env.to p1).nD hp)) q⟩
theorem JE.jp (h : JE X T E e m) : JP X T E e m := by
  obtain ⟨t, h1, h2⟩ := h.ex
  exact ⟨t, h1, fun c A Ev L G σ H Q Qh hE env hm k => h2 c A Ev L G σ H Q Qh hE env hm fun d v G' H' po hb q => k d v G' H' po (.inl hb) q⟩
/-! ### names, constants -/
def vVar (i : Nat) : VE := fun _ L G Q => match L[i]? with
  | some (.val d) => Q d G
  | _ => False
def vC (d : D) : VE := fun _ _ G Q => Q d G
theorem je_var (i : Nat) (h : PE X e (tVar i)) : JE X T E e (vVar i) := ⟨_, h, fun c A Ev L G σ H Q Qh hE env hm k => by
  unfold vVar at hm
  split at hm
  · rename_i d hd
    obtain ⟨v, e1, e2⟩ := env.slots i _ hd
    exact ⟨v, e1, k d v G H (.refl env) e2 hm⟩
  · exact hm.elim⟩
def vPk (i : Nat) : VE := fun _ L G Q => match L[i]? with
  | some (.val d) => Q d G
  | some (.own d) => Q d G
  | some (.lck d) => Q d G
  | _ => False
theorem jp_var (i : Nat) (h : PE X e (tVar i)) : JP X T E e (vPk i) := ⟨_, h, fun c A Ev L G σ H Q Qh hE env hm k => by
  unfold vPk at hm
  split at hm
  · rename_i d hd
    obtain ⟨v, e1, e2⟩ := env.slots i _ hd
    exact ⟨v, e1, k d v G H (.refl env) (.inl e2) hm⟩
  · rename_i d hd
    obtain ⟨a, e1, e2, e3, e5⟩ := env.slots i _ hd
    exact ⟨.ref a, e1, k d _ G H (.refl env) (.inr ⟨a, rfl, e2, env.ne e2, e5⟩) hm⟩
  · rename_i d hd
    obtain ⟨a, e1, e2, e3, e5⟩ := env.slots i _ hd
    exact ⟨.ref a, e1, k d _ G H (.refl env) (.inr ⟨a, rfl, e2, env.ne e2, e5⟩) hm⟩
  · exact hm.elim⟩
theorem Rdn.post {W : Cn} {c : Ctx} {A : Addr → Prop} {L : Lo} {G G' : Gs} {σ : L2.St} {H H' : Hp} {d : D} {v : V} (env : Env W c A L G σ H) (p : Post W c.dr A H H' G') (h : Rdn W c.dr A H d v) : Rdn W c.dr A H' d v := by
  rcases h with h | ⟨a, e, h1, h2, h3⟩
  · exact .inl (h.post p env.draw)
  · refine .inr ⟨a, e, h1, h2, Body.kp (p.ext.kp env.draw) (fun _ z => .inl z) (fun o q => ?_) h3⟩
    obtain ⟨u, e2, m⟩ := env.own a h1
    rw [q] at e2
    cases e2
    exact p.ext a o q h2 fun ps z => by rw [z] at m; exact m
theorem Rdn.int {W : Cn} {dr : Dr} {A : Addr → Prop} {H : Hp} {i : Int} {v : V} (h : Rdn W dr A H (.int i) v) : v = .int i := by
  rcases h with h | ⟨a, _, _, _, h⟩
  · rw [Den] at h
    exact h
  · exact h.elim
theorem Rdn.bl {W : Cn} {dr : Dr} {A : Addr → Prop} {H : Hp} {i : Bool} {v : V} (h : Rdn W dr A H (.bl i) v) : v = .bl i := by
  rcases h with h | ⟨a, _, _, _, h⟩
  · rw [Den] at h
    exact h
  · exact h.elim
theorem Rdn.tup {W : Cn} {dr : Dr} {A : Addr → Prop} {H : Hp} {ds : List D} {v : V} (h : Rdn W dr A H (.tup ds) v) : Den W dr A H (.tup ds) v := by
  rcases h with h | ⟨a, _, _, _, h⟩
  · exact h
  · exact h.elim
theorem Rdn.lst {W : Cn} {dr : Dr} {A : Addr → Prop} {H : Hp} {ds : List D} {v : V} (h : Rdn W dr A H (.lst ds) v) : ∃ a vs, v = .ref a ∧ a ≠ dr.1 ∧ H a = some (.lst vs) ∧ DenL W dr A H ds vs := by
  rcases h with h | ⟨a, e, _, n, vs, h1, h2⟩
  · rw [Den] at h
    obtain ⟨a, vs, e, _, n, h1, h2⟩ := h
    exact ⟨a, vs, e, n, h1, h2⟩
  · exact ⟨a, vs, e, n, h1, h2⟩
theorem je_c {d : D} {v : V} (h : PE X e (tC v)) (hd : ∀ dr A H, Den (cn X T) dr A H d v) : JE X T E e (vC d) := ⟨_, h, fun c A Ev L G σ H Q Qh hE env hm k => k d v G H (.refl env) (hd _ _ _) hm⟩
theorem je_int {i j} : JE X T E (.Constant (.int i) j pos) (vC (.int i)) := je_c pe_int fun _ _ _ => by rw [Den]
theorem je_bl {i j} : JE X T E (.Constant (.bool i) j pos) (vC (.bl i)) := je_c pe_bl fun _ _ _ => by rw [Den]
theorem je_non {j} : JE X T E (.Constant .none j pos) (vC .non) := je_c pe_non fun _ _ _ => by rw [Den]
theorem je_str {i j} : JE X T E (.Constant (.str i) j pos) (vC (.str i)) := je_c pe_str fun _ _ _ => by rw [Den]
theorem je_gint {x : Str} {i : Int} (hm : ∃ t, X.mg x = some (.int i t)) (hg : Gl X x := by rfl) (hd : (x == ("__debug__" : Str)) = false := by decide) : JE X T E (.Name x pos) (vC (.int i)) := by
  obtain ⟨t, hm⟩ := hm
  exact je_c (pe_glob (v := .int i) hg hm ⟨t, rfl⟩ hd) fun _ _ _ => by rw [Den]
theorem je_gfn {x : Str} {f : Addr} (hm : X.mg x = some (.ref f)) (hg : Gl X x := by rfl) (hd : (x == ("__debug__" : Str)) = false := by decide) : JE X T E (.Name x pos) (vC (.fn x)) :=
  je_c (pe_glob (v := .ref f) hg hm rfl hd) fun _ _ _ => by rw [Den]; exact ⟨f, hm, rfl⟩
theorem je_gtup {x : Str} {f : Addr} {ds : List D} {vs : List V} (hm : X.mg x = some (.ref f)) (hs : ∀ H, SqT X.K H f vs) (hv : ∀ dr A H, DenL (cn X T) dr A H ds vs) (hg : Gl X x := by rfl) (hd : (x == ("__debug__" : Str)) = false := by decide) : JE X T E (.Name x pos) (vC (.tup ds)) :=
  je_c (pe_glob (v := .ref f) hg hm rfl hd) fun _ _ _ => by rw [Den]; exact ⟨f, vs, rfl, hs _, hv _ _ _⟩

/-! ### two-place operations -/
def vOp (f : V2) (ma mb : VE) : VE := fun Ev L G Q => ma Ev L G fun x G1 => mb Ev L G1 fun y G2 => f x y fun z => Q z G2
/-- the operation r on values is f -/
def SimR (W : Cn) (r : R2) (f : V2) : Prop := ∀ (c : Ctx) (A : Addr → Prop) (L : Lo) (G : Gs) (σ : L2.St) (H : Hp) (x y : D) (u v : V) (Q : D → Prop) (Qh : VK), Env W c A L G σ H → Rdn W c.dr A H x u → Rdn W c.dr A H y v → f x y Q →
  (∀ d w H', Post W c.dr A H H' G → Den W c.dr A H' d w → Q d → Qh w H') → r u v H Qh
theorem sim_op {W : Cn} {r : R2} {f : V2} {ta tb : TE} (hr : SimR W r f) (ha : SimP W E ta ma) (hb : SimP W E tb mb) : SimE W E (tOp r ta tb) (vOp f ma mb) := fun c A Ev L G σ H Q Qh hE env hm k =>
  ha c A Ev L G σ H _ _ hE env hm fun x u G1 H1 p1 d1 q1 => hb c A Ev L G1 σ H1 _ _ hE (env.to p1) q1 fun y v G2 H2 p2 d2 q2 =>
    hr c A L G2 σ H2 x y u v (fun z => Q z G2) Qh ((env.to p1).to p2) (d1.post (env.to p1) p2) d2 q2 fun d w H3 p3 d3 q3 => k d w G2 H3 ((p1.trans p2).trans p3) d3 q3
theorem je_op {op : Operator} {r : R2} {f : V2} (ho : OpR X (binaryOp op) r) (hr : SimR (cn X T) r f) (ha : JP X T E a ma) (hb : JP X T E b mb) : JE X T E (.BinOp a op b pos) (vOp f ma mb) := by
  obtain ⟨ta, a1, a2⟩ := ha.ex
  obtain ⟨tb, b1, b2⟩ := hb.ex
  exact ⟨_, pe_op ho a1 b1, sim_op hr a2 b2⟩
theorem je_cmp {op : CmpOp} {r : R2} {f : V2} (ho : OpR X (compareOp op) r) (hr : SimR (cn X T) r f) (ha : JP X T E a ma) (hb : JP X T E b mb) (hm : behindInMarks op b = false) : JE X T E (.Compare a [op] [b] pos) (vOp f ma mb) := by
  obtain ⟨ta, a1, a2⟩ := ha.ex
  obtain ⟨tb, b1, b2⟩ := hb.ex
  exact ⟨_, pe_cmpR ho a1 b1 hm, sim_op hr a2 b2⟩
/-- a value that is a bool, as a test -/
def vB (m : VE) : VT := fun Ev L G Q => m Ev L G fun x G1 => match x with
  | .bl b => Q b G1
  | _ => False
theorem sim_test {W : Cn} {t : TE} (h : SimE W E t m) : SimT W E (tTest t) (vB m) := fun c A Ev L G σ H Q Qh hE env hm k =>
  h c A Ev L G σ H _ _ hE env hm fun x v G1 H1 p1 d1 q1 => by
    cases x with
    | bl b =>
      rw [Den] at d1
      exact ⟨b, d1, k b G1 H1 p1 q1⟩
    | _ => exact q1.elim
theorem jt_cmp {op : CmpOp} {r : R2} {f : V2} (ho : OpR X (compareOp op) r) (hr : SimR (cn X T) r f) (ha : JP X T E a ma) (hb : JP X T E b mb) (hm : behindInMarks op b = false) : JT X T E (.Compare a [op] [b] pos) (vB (vOp f ma mb)) := by
  obtain ⟨ta, a1, a2⟩ := ha.ex
  obtain ⟨tb, b1, b2⟩ := hb.ex
  exact ⟨_, pt_cmpR ho a1 b1 hm, sim_test (sim_op hr a2 b2)⟩
theorem jt_val (h : JE X T E e m) (he : ∀ whole, isTrue e X.env whole = (do let v ← whole; standAt e.pos; holding [v] (truthy v)) := by intro _; rfl) : JT X T E e (vB m) := by
  obtain ⟨t, h1, h2⟩ := h.ex
  exact ⟨_, pt_val h1 he, sim_test h2⟩
def lineN : Nat := 16777216
theorem line_eq : sizeLine = lineN := by rw [sizeLine_eq]; rfl
theorem line_le {n : Nat} (h : n ≤ lineN) : n ≤ sizeLine := by rw [line_eq]; exact h
def dAdd : V2 := fun x y k => match x, y with
  | .int i, .int j => k (.int (i + j))
  | .tup a, .tup b => a.length + b.length ≤ lineN ∧ k (.tup (a ++ b))
  | _, _ => False
def dSub : V2 := fun x y k => match x, y with
  | .int i, .int j => k (.int (i - j))
  | _, _ => False
def dMul : V2 := fun x y k => match x, y with
  | .int i, .int j => IntMulOk i j ∧ k (.int (i * j))
  | _, _ => False
def dMod : V2 := fun x y k => match x, y with
  | .int i, .int j => 0 < j ∧ k (.int (i % j))
  | _, _ => False
def dDiv : V2 := fun x y k => match x, y with
  | .int i, .int j => (0 < j ∧ j.natAbs.log2 < 9000) ∧ k (.int (i / j))
  | _, _ => False
def dPow : V2 := fun x y k => match x, y with
  | .int i, .int j => (0 ≤ j ∧ j ≤ 1000000 ∧ i.natAbs < 2 ^ 64) ∧ k (.int (i ^ j.toNat))
  | _, _ => False
def dCmp (p : Int → Int → Bool) : V2 := fun x y k => match x, y with
  | .int i, .int j => k (.bl (p i j))
  | _, _ => False
theorem sim_I0 {W : Cn} {g : Int → Int → D} {g' : Int → Int → V} (hg : ∀ i j dr A H, Den W dr A H (g i j) (g' i j)) : SimR W (rI0 g') (fun x y k => match x, y with
  | .int i, .int j => k (g i j)
  | _, _ => False) := fun c A L G σ H x y u v Q Qh env hx hy hf k => by
  cases x with
  | int i =>
    cases y with
    | int j =>
      exact ⟨i, j, hx.int, hy.int, k _ _ H (.refl env) (hg _ _ _ _ _) hf⟩
    | _ => exact hf.elim
  | _ => exact hf.elim
theorem sim_I {W : Cn} {C C' : Int → Int → Prop} {g : Int → Int → D} {g' : Int → Int → V} (hC : ∀ i j, C i j → C' i j) (hg : ∀ i j dr A H, Den W dr A H (g i j) (g' i j)) : SimR W (rI C' g') (fun x y k => match x, y with
  | .int i, .int j => C i j ∧ k (g i j)
  | _, _ => False) := fun c A L G σ H x y u v Q Qh env hx hy hf k => by
  cases x with
  | int i =>
    cases y with
    | int j =>
      exact ⟨i, j, hx.int, hy.int, hC _ _ hf.1, k _ _ H (.refl env) (hg _ _ _ _ _) hf.2⟩
    | _ => exact hf.elim
  | _ => exact hf.elim
theorem den_int {W : Cn} {dr : Dr} {A : Addr → Prop} {H : Hp} {i : Int} : Den W dr A H (.int i) (.int i) := by rw [Den]
theorem den_bl {W : Cn} {dr : Dr} {A : Addr → Prop} {H : Hp} {i : Bool} : Den W dr A H (.bl i) (.bl i) := by rw [Den]
theorem sim_sub {W : Cn} : SimR W (rI0 fun i j => .int (i - j)) dSub := sim_I0 fun _ _ _ _ _ => den_int
theorem sim_cmp {W : Cn} {p : Int → Int → Bool} : SimR W (rI0 fun i j => .bl (p i j)) (dCmp p) := sim_I0 fun _ _ _ _ _ => den_bl
theorem sim_mod {W : Cn} : SimR W (rI (fun _ j => 0 < j) fun i j => .int (i % j)) dMod := sim_I (C := fun _ j => 0 < j) (fun _ _ h => h) fun _ _ _ _ _ => den_int
theorem sim_div {W : Cn} : SimR W (rI CDivW fun i j => .int (i / j)) dDiv := sim_I (C := fun _ j => 0 < j ∧ j.natAbs.log2 < 9000) (fun _ _ h => h) fun _ _ _ _ _ => den_int
theorem sim_pow {W : Cn} : SimR W (rI CPow fun i j => .int (i ^ j.toNat)) dPow := sim_I (C := fun i j => 0 ≤ j ∧ j ≤ 1000000 ∧ i.natAbs < 2 ^ 64) (fun _ _ h => h) fun _ _ _ _ _ => den_int
theorem op_mulA {X : Cx} : OpR X (binaryOp .Mult) (rI IntMulOk fun i j => .int (i * j)) := opI fun _ _ _ _ _ _ _ hc q => mul_int q hc
theorem sim_mul {W : Cn} : SimR W (rI IntMulOk fun i j => .int (i * j)) dMul := sim_I (C := IntMulOk) (fun _ _ h => h) fun _ _ _ _ _ => den_int
theorem sim_or {W : Cn} {r r' : R2} {f : V2} (h : ∀ (c : Ctx) (A : Addr → Prop) (L : Lo) (G : Gs) (σ : L2.St) (H : Hp) (x y : D) (u v : V) (Q : D → Prop) (Qh : VK), Env W c A L G σ H → Rdn W c.dr A H x u → Rdn W c.dr A H y v → f x y Q →
  (∀ d w H', Post W c.dr A H H' G → Den W c.dr A H' d w → Q d → Qh w H') → r u v H Qh ∨ r' u v H Qh) : SimR W (fun x y H Q => r x y H Q ∨ r' x y H Q) f := fun c A L G σ H x y u v Q Qh env hx hy hf k => h c A L G σ H x y u v Q Qh env hx hy hf k
theorem sim_catT {W : Cn} {c : Ctx} {A : Addr → Prop} {L : Lo} {G : Gs} {σ : L2.St} {H : Hp} {as bs : List D} {u v : V} {Q : D → Prop} {Qh : VK} (env : Env W c A L G σ H) (hx : Den W c.dr A H (.tup as) u) (hy : Den W c.dr A H (.tup bs) v) (hl : as.length + bs.length ≤ lineN) (hq : Q (.tup (as ++ bs)))
    (k : ∀ d w H', Post W c.dr A H H' G → Den W c.dr A H' d w → Q d → Qh w H') : rCatA W.K u v H Qh := by
  have hx' := hx
  have hy' := hy
  rw [Den] at hx hy
  obtain ⟨p, xs, rfl, h1, h2⟩ := hx
  obtain ⟨q, ys, rfl, h3, h4⟩ := hy
  refine ⟨p, q, xs, ys, rfl, rfl, h1, h3, line_le (by rw [← h2.length, ← h4.length]; exact hl), fun e => ?_, fun n e => ?_, fun n1 n2 z hz => ?_⟩
  · have e1 : as = [] := List.length_eq_zero_iff.mp (by rw [h2.length, e]; rfl)
    exact k _ _ H (.refl env) hy' (by rw [e1] at hq; exact hq)
  · have e1 : bs = [] := List.length_eq_zero_iff.mp (by rw [h4.length, e]; rfl)
    exact k _ _ H (.refl env) hx' (by rw [e1, List.append_nil] at hq; exact hq)
  · have po := Post.new env (p := z) (o := .tup (xs ++ ys)) hz
    refine k _ _ _ po ?_ hq
    rw [Den]
    exact ⟨z, xs ++ ys, rfl, .of upd_same, (h2.post po env.draw).append (h4.post po env.draw)⟩
theorem sim_add {X : Cx} {T : List (Addr × Str)} : SimR (cn X T) (fun x y H Q => rI0 (fun i j => .int (i + j)) x y H Q ∨ rCatA X.K x y H Q) dAdd := sim_or fun c A L G σ H x y u v Q Qh env hx hy hf k => by
  cases x with
  | int i =>
    cases y with
    | int j =>
      exact .inl ⟨i, j, hx.int, hy.int, k _ _ H (.refl env) den_int hf⟩
    | _ => exact hf.elim
  | tup as =>
    cases y with
    | tup bs => exact .inr (sim_catT env hx.tup hy.tup hf.1 hf.2 k)
    | _ => exact hf.elim
  | _ => exact hf.elim
theorem je_add (ha : JP X T E a ma) (hb : JP X T E b mb) : JE X T E (.BinOp a .Add b pos) (vOp dAdd ma mb) := je_op (op_add.or op_catA) sim_add ha hb
theorem je_sub (ha : JP X T E a ma) (hb : JP X T E b mb) : JE X T E (.BinOp a .Sub b pos) (vOp dSub ma mb) := je_op op_sub sim_sub ha hb
theorem je_mul (ha : JP X T E a ma) (hb : JP X T E b mb) : JE X T E (.BinOp a .Mult b pos) (vOp dMul ma mb) := je_op op_mulA sim_mul ha hb
theorem je_mod (ha : JP X T E a ma) (hb : JP X T E b mb) : JE X T E (.BinOp a .Mod b pos) (vOp dMod ma mb) := je_op op_mod sim_mod ha hb
theorem je_div (ha : JP X T E a ma) (hb : JP X T E b mb) : JE X T E (.BinOp a .FloorDiv b pos) (vOp dDiv ma mb) := je_op op_fdivW sim_div ha hb
theorem je_pow (ha : JP X T E a ma) (hb : JP X T E b mb) : JE X T E (.BinOp a .Pow b pos) (vOp dPow ma mb) := je_op op_pow sim_pow ha hb
abbrev dLt : V2 := dCmp fun i j => decide (i < j)
abbrev dLe : V2 := dCmp fun i j => decide (i ≤ j)
abbrev dGt : V2 := dCmp fun i j => decide (j < i)
abbrev dGe : V2 := dCmp fun i j => decide (j ≤ i)
theorem je_lt (ha : JP X T E a ma) (hb : JP X T E b mb) : JE X T E (.Compare a [.Lt] [b] pos) (vOp dLt ma mb) := je_cmp op_lt sim_cmp ha hb (nomark _)
theorem je_le (ha : JP X T E a ma) (hb : JP X T E b mb) : JE X T E (.Compare a [.LtE] [b] pos) (vOp dLe ma mb) := je_cmp op_le sim_cmp ha hb (nomark _)
theorem je_gt (ha : JP X T E a ma) (hb : JP X T E b mb) : JE X T E (.Compare a [.Gt] [b] pos) (vOp dGt ma mb) := je_cmp op_gt sim_cmp ha hb (nomark _)
theorem je_ge (ha : JP X T E a ma) (hb : JP X T E b mb) : JE X T E (.Compare a [.GtE] [b] pos) (vOp dGe ma mb) := je_cmp op_ge sim_cmp ha hb (nomark _)
theorem jt_lt (ha : JP X T E a ma) (hb : JP X T E b mb) : JT X T E (.Compare a [.Lt] [b] pos) (vB (vOp dLt ma mb)) := jt_cmp op_lt sim_cmp ha hb (nomark _)
theorem jt_le (ha : JP X T E a ma) (hb : JP X T E b mb) : JT X T E (.Compare a [.LtE] [b] pos) (vB (vOp dLe ma mb)) := jt_cmp op_le sim_cmp ha hb (nomark _)
theorem jt_gt (ha : JP X T E a ma) (hb : JP X T E b mb) : JT X T E (.Compare a [.Gt] [b] pos) (vB (vOp dGt ma mb)) := jt_cmp op_gt sim_cmp ha hb (nomark _)
theorem jt_ge (ha : JP X T E a ma) (hb : JP X T E b mb) : JT X T E (.Compare a [.GtE] [b] pos) (vB (vOp dGe ma mb)) := jt_cmp op_ge sim_cmp ha hb (nomark _)
end
end VL
set_option Elab.async false
set_option autoImplicit false
set_option linter.all false
set_option maxRecDepth 100000
set_option maxHeartbeats 2000000
namespace VL
open PySem PySem.Spec PyProof.Rows L2
/-! ### equality of plain data -/
mutual
def toPy : D → Option PyData
  | .non => some .none
  | .bl b => some (.bool b)
  | .int i => some (.int i)
  | .str x => some (.str x)
  | .tup ds => (toPyL ds).map PyData.tuple
  | .lst ds => (toPyL ds).map PyData.list
  | .dct _ _ => none
  | .fn _ => none
  | .draw => none
  | .scr _ => none
  | .exc _ => none
def toPyL : List D → Option (List PyData)
  | [] => some []
  | d :: ds => match toPy d, toPyL ds with
    | some p, some ps => some (p :: ps)
    | _, _ => none
end
section
variable {W : Cn} {dr : Dr} {A : Addr → Prop} {H : Hp}
mutual
theorem den_dp : ∀ (d : D) (v : V) (p : PyData), Den W dr A H d v → toPy d = some p → Dp W.K H v p
  | .non, v, p, h, e => by
    rw [Den] at h
    rw [toPy] at e
    cases e
    rw [h]
    exact .non
  | .bl b, v, p, h, e => by
    rw [Den] at h
    rw [toPy] at e
    cases e
    rw [h]
    exact .bl b
  | .int b, v, p, h, e => by
    rw [Den] at h
    rw [toPy] at e
    cases e
    rw [h]
    exact .int b
  | .str b, v, p, h, e => by
    rw [Den] at h
    rw [toPy] at e
    cases e
    rw [h]
    exact .str b
  | .tup ds, v, p, h, e => by
    rw [Den] at h
    rw [toPy] at e
    obtain ⟨ps, e1, rfl⟩ := Option.map_eq_some_iff.mp e
    obtain ⟨a, vs, rfl, h1, h2⟩ := h
    exact .tup h1 (denL_dp ds vs ps h2 e1)
  | .lst ds, v, p, h, e => by
    rw [Den] at h
    rw [toPy] at e
    obtain ⟨ps, e1, rfl⟩ := Option.map_eq_some_iff.mp e
    obtain ⟨a, vs, rfl, _, _, h1, h2⟩ := h
    exact .lst (.of h1) (denL_dp ds vs ps h2 e1)
  | .dct _ _, _, _, _, e => by
    rw [toPy] at e
    cases e
  | .fn _, _, _, _, e => by
    rw [toPy] at e
    cases e
  | .draw, _, _, _, e => by
    rw [toPy] at e
    cases e
  | .scr _, _, _, _, e => by
    rw [toPy] at e
    cases e
  | .exc _, _, _, _, e => by
    rw [toPy] at e
    cases e
theorem denL_dp : ∀ (ds : List D) (vs : List V) (ps : List PyData), DenL W dr A H ds vs → toPyL ds = some ps → DpAll W.K H vs ps
  | [], vs, ps, h, e => by
    rw [DenL] at h
    rw [toPyL] at e
    cases e
    rw [h]
    exact .nil
  | d :: ds, vs, ps, h, e => by
    rw [DenL] at h
    obtain ⟨v, r, rfl, h1, h2⟩ := h
    rw [toPyL] at e
    split at e
    · rename_i p qs e1 e2
      cases e
      exact .cons (den_dp d v p h1 e1) (denL_dp ds r qs h2 e2)
    · cases e
end
theorem rdn_dp {d : D} {v : V} {p : PyData} (h : Rdn W dr A H d v) (e : toPy d = some p) : Dp W.K H v p := by
  rcases h with h | ⟨a, rfl, _, _, h⟩
  · exact den_dp d v p h e
  · cases d with
    | lst ds =>
      obtain ⟨vs, h1, h2⟩ := h
      rw [toPy] at e
      obtain ⟨ps, e1, rfl⟩ := Option.map_eq_some_iff.mp e
      exact .lst (.of h1) (denL_dp ds vs ps h2 e1)
    | dct _ _ =>
      rw [toPy] at e
      cases e
    | _ => exact h.elim
end
/-- x == y gives b -/
def EqD (x y : D) (b : Bool) : Prop := ∃ p q, toPy x = some p ∧ toPy y = some q ∧ SeqAt.shaped p = true ∧ SeqAt.shaped q = true ∧ PyData.eqv p q = b
def dEq : V2 := fun x y k => match x, y with
  | .int i, .int j => k (.bl (decide (i = j)))
  | .str i, .str j => k (.bl (decide (i = j)))
  | x, y => ∃ b, EqD x y b ∧ k (.bl b)
def dNe : V2 := fun x y k => match x, y with
  | .int i, .int j => k (.bl (!decide (i = j)))
  | .str i, .str j => k (.bl (!decide (i = j)))
  | x, y => ∃ b, EqD x y b ∧ k (.bl (!b))
theorem dec_V (i j : Int) : decide (V.int i = V.int j) = decide (i = j) := by
  by_cases h : i = j
  · rw [h, decide_eq_true rfl, decide_eq_true rfl]
  · rw [decide_eq_false h, decide_eq_false fun z => h (V.int.inj z)]
theorem dec_S (i j : Str) : decide (V.str i = V.str j) = decide (i = j) := by
  by_cases h : i = j
  · rw [h, decide_eq_true rfl, decide_eq_true rfl]
  · rw [decide_eq_false h, decide_eq_false fun z => h (V.str.inj z)]
theorem Rdn.str {W : Cn} {dr : Dr} {A : Addr → Prop} {H : Hp} {i : Str} {v : V} (h : Rdn W dr A H (.str i) v) : v = .str i := by
  rcases h with h | ⟨a, _, _, _, h⟩
  · rw [Den] at h
    exact h
  · exact h.elim
section
variable {X : Cx} {T : List (Addr × Str)}
theorem sim_eq : SimR (cn X T) (fun x y H Q => rEqD X.K x y H Q ∨ rEq x y H Q) dEq := sim_or fun c A L G σ H x y u v Q Qh env hx hy hf k => by
  unfold dEq at hf
  split at hf
  · rw [hx.int, hy.int]
    exact .inr ⟨rfl, k _ _ H (.refl env) den_bl (by rw [dec_V]; exact hf)⟩
  · rw [hx.str, hy.str]
    exact .inr ⟨rfl, k _ _ H (.refl env) den_bl (by rw [dec_S]; exact hf)⟩
  · obtain ⟨b, ⟨p, q, e1, e2, e3, e4, e5⟩, hq⟩ := hf
    exact .inl ⟨p, q, rdn_dp hx e1, rdn_dp hy e2, e3, e4, k _ _ H (.refl env) den_bl (by rw [e5]; exact hq)⟩
theorem sim_ne : SimR (cn X T) (fun x y H Q => rNeD X.K x y H Q ∨ rNe x y H Q) dNe := sim_or fun c A L G σ H x y u v Q Qh env hx hy hf k => by
  unfold dNe at hf
  split at hf
  · rw [hx.int, hy.int]
    exact .inr ⟨rfl, k _ _ H (.refl env) den_bl (by rw [dec_V]; exact hf)⟩
  · rw [hx.str, hy.str]
    exact .inr ⟨rfl, k _ _ H (.refl env) den_bl (by rw [dec_S]; exact hf)⟩
  · obtain ⟨b, ⟨p, q, e1, e2, e3, e4, e5⟩, hq⟩ := hf
    exact .inl ⟨p, q, rdn_dp hx e1, rdn_dp hy e2, e3, e4, k _ _ H (.refl env) den_bl (by rw [e5]; exact hq)⟩
end
section
variable {X : Cx} {T : List (Addr × Str)} {E : XK} {e a b : Expr} {es : List Expr} {m ma mb : VE} {pos : Pos} {kk : Nat}
theorem je_eq (hr : Room kk X.A) (ha : JP X T E a ma) (hb : JP X T E b mb) : JE X T E (.Compare a [.Eq] [b] pos) (vOp dEq ma mb) := je_cmp ((op_eqD hr.units).or op_eq) sim_eq ha hb (nomark _)
theorem je_ne (hr : Room kk X.A) (ha : JP X T E a ma) (hb : JP X T E b mb) : JE X T E (.Compare a [.NotEq] [b] pos) (vOp dNe ma mb) := je_cmp ((op_neD hr.units).or op_ne) sim_ne ha hb (nomark _)
theorem jt_eq (hr : Room kk X.A) (ha : JP X T E a ma) (hb : JP X T E b mb) : JT X T E (.Compare a [.Eq] [b] pos) (vB (vOp dEq ma mb)) := jt_cmp ((op_eqD hr.units).or op_eq) sim_eq ha hb (nomark _)
theorem jt_ne (hr : Room kk X.A) (ha : JP X T E a ma) (hb : JP X T E b mb) : JT X T E (.Compare a [.NotEq] [b] pos) (vB (vOp dNe ma mb)) := jt_cmp ((op_neD hr.units).or op_ne) sim_ne ha hb (nomark _)
/-! ### is None, in -/
def isNon : D → Bool
  | .non => true
  | _ => false
def dIs : V2 := fun x y k => match y with
  | .non => k (.bl (isNon x))
  | _ => False
def dIsN : V2 := fun x y k => match y with
  | .non => k (.bl (!isNon x))
  | _ => False
theorem rdn_non {W : Cn} {dr : Dr} {A : Addr → Prop} {H : Hp} {d : D} {v : V} (h : Rdn W dr A H d v) : decide (v = .non) = isNon d := by
  rcases h with h | ⟨a, rfl, _, _, h⟩
  · cases d <;> rw [Den] at h
    case non =>
      rw [h]
      rfl
    case bl b =>
      rw [h]
      rfl
    case int b =>
      rw [h]
      rfl
    case str b =>
      rw [h]
      rfl
    case tup b =>
      obtain ⟨_, _, rfl, _⟩ := h
      rfl
    case lst b =>
      obtain ⟨_, _, rfl, _⟩ := h
      rfl
    case dct b =>
      obtain ⟨_, _, rfl, _⟩ := h
      rfl
    case fn b =>
      obtain ⟨_, _, rfl⟩ := h
      rfl
    case draw =>
      rw [h]
      rfl
    case scr b =>
      obtain ⟨_, rfl, _⟩ := h
      rfl
    case exc b =>
      obtain ⟨_, _, _, rfl, _⟩ := h
      rfl
  · cases d <;> first | rfl | exact h.elim
theorem sim_is : SimR (cn X T) (fun x y H Q => y = .non ∧ Q (.bl (decide (x = .non))) H) dIs := fun c A L G σ H x y u v Q Qh env hx hy hf k => by
  cases y with
  | non =>
    have e : v = .non := by
      rcases hy with h | ⟨a, _, _, _, h⟩
      · rw [Den] at h
        exact h
      · exact h.elim
    exact ⟨e, k _ _ H (.refl env) den_bl (by rw [rdn_non hx]; exact hf)⟩
  | _ => exact hf.elim
theorem sim_isN : SimR (cn X T) (fun x y H Q => y = .non ∧ Q (.bl (!decide (x = .non))) H) dIsN := fun c A L G σ H x y u v Q Qh env hx hy hf k => by
  cases y with
  | non =>
    have e : v = .non := by
      rcases hy with h | ⟨a, _, _, _, h⟩
      · rw [Den] at h
        exact h
      · exact h.elim
    exact ⟨e, k _ _ H (.refl env) den_bl (by rw [rdn_non hx]; exact hf)⟩
  | _ => exact hf.elim
theorem je_is (ha : JP X T E a ma) (hb : JP X T E b mb) : JE X T E (.Compare a [.Is] [b] pos) (vOp dIs ma mb) := je_cmp op_isN sim_is ha hb (nomark _)
theorem je_isN (ha : JP X T E a ma) (hb : JP X T E b mb) : JE X T E (.Compare a [.IsNot] [b] pos) (vOp dIsN ma mb) := je_cmp op_notN sim_isN ha hb (nomark _)
theorem jt_is (ha : JP X T E a ma) (hb : JP X T E b mb) : JT X T E (.Compare a [.Is] [b] pos) (vB (vOp dIs ma mb)) := jt_cmp op_isN sim_is ha hb (nomark _)
theorem jt_isN (ha : JP X T E a ma) (hb : JP X T E b mb) : JT X T E (.Compare a [.IsNot] [b] pos) (vB (vOp dIsN ma mb)) := jt_cmp op_notN sim_isN ha hb (nomark _)
/-- x in a tuple, a list: ints among ints; a row among rows -/
def InD (x : D) (ds : List D) (b : Bool) : Prop := match x with
  | .int i => ∃ ns : List Int, ds = ns.map D.int ∧ b = decide (i ∈ ns)
  | x => ∃ p ps, toPy x = some p ∧ toPyL ds = some ps ∧ SeqAt.shaped p = true ∧ SeqAt.shaped (.list ps) = true ∧ b = ps.any fun z => PyData.eqv z p
def dIn (neg : Bool) : V2 := fun x y k => match x, y with
  | .int i, .tup ds => ∃ b, InD (.int i) ds b ∧ k (.bl (if neg then !b else b))
  | x, .lst ds => ∃ b, InD x ds b ∧ k (.bl (if neg then !b else b))
  | _, _ => False
theorem in_ints (i : Int) (ns : List Int) : inV (.int i) (ns.map V.int) = decide (i ∈ ns) := by
  unfold inV
  rw [List.any_map]
  induction ns with
  | nil => rfl
  | cons n ns ih =>
    rw [List.any_cons, ih]
    have e : (eqV (.int n) (.int i)) = decide (n = i) := by
      unfold eqV
      first
        | rfl
        | (rw [Bool.beq_eq_decide_eq])
        | simp
    show (eqV (.int n) (.int i) || _) = _
    rw [e]
    by_cases h : i = n
    · rw [h, decide_eq_true rfl, Bool.true_or]
      exact (decide_eq_true List.mem_cons_self).symm
    · rw [decide_eq_false fun z => h z.symm, Bool.false_or]
      by_cases h2 : i ∈ ns
      · rw [decide_eq_true h2, decide_eq_true (List.mem_cons_of_mem _ h2)]
      · rw [decide_eq_false h2, decide_eq_false fun z => (List.mem_cons.mp z).elim h h2]
theorem flat_ints : ∀ ns : List Int, (ns.map V.int).all flatV = true
  | [] => rfl
  | n :: ns => by
    rw [List.map_cons, List.all_cons, flat_ints ns]
    rfl
theorem if_ff {α : Type} {a b : α} : (if false = true then a else b) = b := rfl
theorem sim_in : SimR (cn X T) (fun x y H Q => rIn X.K false x y H Q ∨ rInD X.K x y H Q) (dIn false) := sim_or fun c A L G σ H x y u v Q Qh env hx hy hf k => by
  unfold dIn at hf
  split at hf
  · obtain ⟨b, ⟨ns, rfl, rfl⟩, hq⟩ := hf
    have hy := hy.tup
    rw [Den] at hy
    obtain ⟨a, vs, rfl, h1, h2⟩ := hy
    rw [h2.intsV] at h1
    rw [hx.int]
    exact .inl ⟨a, _, rfl, .inr h1, rfl, flat_ints ns, k _ _ H (.refl env) den_bl (by rw [in_ints]; exact hq)⟩
  · obtain ⟨b, hb, hq⟩ := hf
    obtain ⟨a, vs, rfl, _, h1, h2⟩ := hy.lst
    unfold InD at hb
    split at hb
    · obtain ⟨ns, rfl, rfl⟩ := hb
      rw [h2.intsV] at h1
      rw [hx.int]
      exact .inl ⟨a, _, rfl, .inl (.of h1), rfl, flat_ints ns, k _ _ H (.refl env) den_bl (by rw [in_ints]; exact hq)⟩
    · obtain ⟨p, ps, e1, e2, e3, e4, rfl⟩ := hb
      exact .inr ⟨p, ps, rdn_dp hx e1, .lst (.of h1) (denL_dp _ _ _ h2 e2), e3, e4, k _ _ H (.refl env) den_bl hq⟩
  · exact hf.elim
theorem sim_notIn : SimR (cn X T) (fun x y H Q => rIn X.K true x y H Q ∨ rNotInD X.K x y H Q) (dIn true) := sim_or fun c A L G σ H x y u v Q Qh env hx hy hf k => by
  unfold dIn at hf
  split at hf
  · obtain ⟨b, ⟨ns, rfl, rfl⟩, hq⟩ := hf
    have hy := hy.tup
    rw [Den] at hy
    obtain ⟨a, vs, rfl, h1, h2⟩ := hy
    rw [h2.intsV] at h1
    rw [hx.int]
    exact .inl ⟨a, _, rfl, .inr h1, rfl, flat_ints ns, k _ _ H (.refl env) den_bl (by rw [in_ints]; exact hq)⟩
  · obtain ⟨b, hb, hq⟩ := hf
    obtain ⟨a, vs, rfl, _, h1, h2⟩ := hy.lst
    unfold InD at hb
    split at hb
    · obtain ⟨ns, rfl, rfl⟩ := hb
      rw [h2.intsV] at h1
      rw [hx.int]
      exact .inl ⟨a, _, rfl, .inl (.of h1), rfl, flat_ints ns, k _ _ H (.refl env) den_bl (by rw [in_ints]; exact hq)⟩
    · obtain ⟨p, ps, e1, e2, e3, e4, rfl⟩ := hb
      exact .inr ⟨p, ps, rdn_dp hx e1, .lst (.of h1) (denL_dp _ _ _ h2 e2), e3, e4, k _ _ H (.refl env) den_bl hq⟩
  · exact hf.elim
theorem je_in (hr : Room kk X.A) (ha : JP X T E a ma) (hb : JP X T E b mb) (hm : behindInMarks .In b = false := by rfl) : JE X T E (.Compare a [.In] [b] pos) (vOp (dIn false) ma mb) := je_cmp (op_in_seq.or (op_inD (by have := hr.un; omega))) sim_in ha hb hm
theorem je_notIn (hr : Room kk X.A) (ha : JP X T E a ma) (hb : JP X T E b mb) (hm : behindInMarks .NotIn b = false := by rfl) : JE X T E (.Compare a [.NotIn] [b] pos) (vOp (dIn true) ma mb) := je_cmp (op_notIn_seq.or (op_notInD (by have := hr.un; omega))) sim_notIn ha hb hm
theorem jt_in (hr : Room kk X.A) (ha : JP X T E a ma) (hb : JP X T E b mb) (hm : behindInMarks .In b = false := by rfl) : JT X T E (.Compare a [.In] [b] pos) (vB (vOp (dIn false) ma mb)) := jt_cmp (op_in_seq.or (op_inD (by have := hr.un; omega))) sim_in ha hb hm
theorem jt_notIn (hr : Room kk X.A) (ha : JP X T E a ma) (hb : JP X T E b mb) (hm : behindInMarks .NotIn b = false := by rfl) : JT X T E (.Compare a [.NotIn] [b] pos) (vB (vOp (dIn true) ma mb)) := jt_cmp (op_notIn_seq.or (op_notInD (by have := hr.un; omega))) sim_notIn ha hb hm
end
end VL
set_option Elab.async false
set_option autoImplicit false
set_option linter.all false
set_option maxRecDepth 100000
set_option maxHeartbeats 2000000
namespace VL
open PySem PySem.Spec PyProof.Rows L2
section
variable {X : Cx} {T : List (Addr × Str)} {E : XK} {e a b c' : Expr} {es rest : List Expr} {m ma mb mc : VE} {n na nb : VT} {pos : Pos} {kk : Nat}
/-! ### and, or, not, if -/
def vAndT (t u : VT) : VT := fun Ev L G Q => t Ev L G fun b G1 => match b with
  | true => u Ev L G1 Q
  | false => Q false G1
def vOrT (t u : VT) : VT := fun Ev L G Q => t Ev L G fun b G1 => match b with
  | true => Q true G1
  | false => u Ev L G1 Q
def vNotT (t : VT) : VT := fun Ev L G Q => t Ev L G fun b G1 => Q (!b) G1
theorem JW.jt (h : JW X T E e n) : JT X T E e n := by
  obtain ⟨t, h1, h2⟩ := h.ex
  exact ⟨t, h1.pt, h2⟩
theorem jw_and1 (h : JT X T E a n) : JW X T E (.BoolOp .And [a] pos) n := by
  obtain ⟨t, h1, h2⟩ := h.ex
  exact ⟨t, pw_and1 h1, h2⟩
theorem jw_or1 (h : JT X T E a n) : JW X T E (.BoolOp .Or [a] pos) n := by
  obtain ⟨t, h1, h2⟩ := h.ex
  exact ⟨t, pw_or1 h1, h2⟩
theorem jw_and (ha : JT X T E a na) (hb : JW X T E (.BoolOp .And (b :: rest) pos) nb) : JW X T E (.BoolOp .And (a :: b :: rest) pos) (vAndT na nb) := by
  obtain ⟨ta, a1, a2⟩ := ha.ex
  obtain ⟨tb, b1, b2⟩ := hb.ex
  refine ⟨_, pw_and a1 b1, fun c A Ev L G σ H Q Qh hE env hm k => a2 c A Ev L G σ H _ _ hE env hm fun x G1 H1 p1 q1 => ?_⟩
  cases x with
  | true => exact b2 c A Ev L G1 σ H1 _ _ hE (env.to p1) q1 fun y G2 H2 p2 q2 => k y G2 H2 (p1.trans p2) q2
  | false => exact k false G1 H1 p1 q1
theorem jw_or (ha : JT X T E a na) (hb : JW X T E (.BoolOp .Or (b :: rest) pos) nb) : JW X T E (.BoolOp .Or (a :: b :: rest) pos) (vOrT na nb) := by
  obtain ⟨ta, a1, a2⟩ := ha.ex
  obtain ⟨tb, b1, b2⟩ := hb.ex
  refine ⟨_, pw_or a1 b1, fun c A Ev L G σ H Q Qh hE env hm k => a2 c A Ev L G σ H _ _ hE env hm fun x G1 H1 p1 q1 => ?_⟩
  cases x with
  | false => exact b2 c A Ev L G1 σ H1 _ _ hE (env.to p1) q1 fun y G2 H2 p2 q2 => k y G2 H2 (p1.trans p2) q2
  | true => exact k true G1 H1 p1 q1
theorem jt_not (h : JT X T E a n) : JT X T E (.UnaryOp .Not a pos) (vNotT n) := by
  obtain ⟨t, h1, h2⟩ := h.ex
  exact ⟨_, pt_not h1, fun c A Ev L G σ H Q Qh hE env hm k => h2 c A Ev L G σ H _ _ hE env hm fun x G1 H1 p1 q1 => k (!x) G1 H1 p1 q1⟩
/-- as values -/
def vAnd (ma mb : VE) : VE := fun Ev L G Q => ma Ev L G fun x G1 => match x with
  | .bl true => mb Ev L G1 Q
  | .bl false => Q (.bl false) G1
  | _ => False
def vOr (ma mb : VE) : VE := fun Ev L G Q => ma Ev L G fun x G1 => match x with
  | .bl true => Q (.bl true) G1
  | .bl false => mb Ev L G1 Q
  | _ => False
def vNot (ma : VE) : VE := fun Ev L G Q => ma Ev L G fun x G1 => match x with
  | .bl b => Q (.bl (!b)) G1
  | _ => False
theorem je_one {op : BoolOp} (h : JE X T E a m) : JE X T E (.BoolOp op [a] pos) m := by
  obtain ⟨t, h1, h2⟩ := h.ex
  exact ⟨t, pe_one h1, h2⟩
theorem je_and (ha : JE X T E a ma) (hb : JE X T E (.BoolOp .And (b :: rest) pos) mb) : JE X T E (.BoolOp .And (a :: b :: rest) pos) (vAnd ma mb) := by
  obtain ⟨ta, a1, a2⟩ := ha.ex
  obtain ⟨tb, b1, b2⟩ := hb.ex
  refine ⟨_, pe_and a1 b1, fun c A Ev L G σ H Q Qh hE env hm k => a2 c A Ev L G σ H _ _ hE env hm fun x v G1 H1 p1 d1 q1 => ?_⟩
  split at q1
  · rw [Den] at d1
    exact ⟨true, d1, b2 c A Ev L G1 σ H1 _ _ hE (env.to p1) q1 fun y v G2 H2 p2 d2 q2 => k y v G2 H2 (p1.trans p2) d2 q2⟩
  · rw [Den] at d1
    exact ⟨false, d1, k _ _ G1 H1 p1 den_bl q1⟩
  · exact q1.elim
theorem je_or (ha : JE X T E a ma) (hb : JE X T E (.BoolOp .Or (b :: rest) pos) mb) : JE X T E (.BoolOp .Or (a :: b :: rest) pos) (vOr ma mb) := by
  obtain ⟨ta, a1, a2⟩ := ha.ex
  obtain ⟨tb, b1, b2⟩ := hb.ex
  refine ⟨_, pe_or a1 b1, fun c A Ev L G σ H Q Qh hE env hm k => a2 c A Ev L G σ H _ _ hE env hm fun x v G1 H1 p1 d1 q1 => ?_⟩
  split at q1
  · rw [Den] at d1
    exact ⟨true, d1, k _ _ G1 H1 p1 den_bl q1⟩
  · rw [Den] at d1
    exact ⟨false, d1, b2 c A Ev L G1 σ H1 _ _ hE (env.to p1) q1 fun y v G2 H2 p2 d2 q2 => k y v G2 H2 (p1.trans p2) d2 q2⟩
  · exact q1.elim
theorem je_not (ha : JE X T E a m) : JE X T E (.UnaryOp .Not a pos) (vNot m) := by
  obtain ⟨ta, a1, a2⟩ := ha.ex
  refine ⟨_, pe_not a1, fun c A Ev L G σ H Q Qh hE env hm k => a2 c A Ev L G σ H _ _ hE env hm fun x v G1 H1 p1 d1 q1 => ?_⟩
  split at q1
  · rename_i b
    rw [Den] at d1
    exact ⟨b, d1, k _ _ G1 H1 p1 den_bl q1⟩
  · exact q1.elim
def vIf (t : VT) (ma mb : VE) : VE := fun Ev L G Q => t Ev L G fun b G1 => match b with
  | true => ma Ev L G1 Q
  | false => mb Ev L G1 Q
theorem je_if (ht : JT X T E c' n) (ha : JE X T E a ma) (hb : JE X T E b mb) : JE X T E (.IfExp c' a b pos) (vIf n ma mb) := by
  obtain ⟨tt, t1, t2⟩ := ht.ex
  obtain ⟨ta, a1, a2⟩ := ha.ex
  obtain ⟨tb, b1, b2⟩ := hb.ex
  refine ⟨_, pe_ifExp t1 a1 b1, fun c A Ev L G σ H Q Qh hE env hm k => t2 c A Ev L G σ H _ _ hE env hm fun x G1 H1 p1 q1 => ?_⟩
  cases x with
  | true => exact a2 c A Ev L G1 σ H1 _ _ hE (env.to p1) q1 fun y v G2 H2 p2 d2 q2 => k y v G2 H2 (p1.trans p2) d2 q2
  | false => exact b2 c A Ev L G1 σ H1 _ _ hE (env.to p1) q1 fun y v G2 H2 p2 d2 q2 => k y v G2 H2 (p1.trans p2) d2 q2
/-- a list by its truth -/
def vTru (m : VE) : VT := fun Ev L G Q => m Ev L G fun x G1 => match x with
  | .lst ds => Q (!ds.isEmpty) G1
  | .tup ds => Q (!ds.isEmpty) G1
  | .bl b => Q b G1
  | _ => False
theorem empty_den {W : Cn} {dr : Dr} {A : Addr → Prop} {H : Hp} {ds : List D} {vs : List V} (h : DenL W dr A H ds vs) : ds.isEmpty = vs.isEmpty := by
  cases ds with
  | nil =>
    rw [DenL] at h
    rw [h] <;> rfl
  | cons d ds =>
    rw [DenL] at h
    obtain ⟨v, r, rfl, _⟩ := h
    rfl
theorem jt_truth (h : JP X T E a m) (he : ∀ whole, isTrue a X.env whole = (do let v ← whole; standAt a.pos; holding [v] (truthy v)) := by intro _; rfl) : JT X T E a (vTru m) := by
  obtain ⟨t, h1, h2⟩ := h.ex
  refine ⟨_, pt_truth h1 he, fun c A Ev L G σ H Q Qh hE env hm k => h2 c A Ev L G σ H _ _ hE env hm fun x v G1 H1 p1 d1 q1 => ?_⟩
  split at q1
  · obtain ⟨a, vs, rfl, _, e1, e2⟩ := d1.lst
    exact ⟨_, .inl ⟨vs, .of e1, rfl⟩, k _ G1 H1 p1 (by rw [← empty_den e2]; exact q1)⟩
  · have d1 := d1.tup
    rw [Den] at d1
    obtain ⟨a, vs, rfl, e1, e2⟩ := d1
    exact ⟨_, .inr (.inl ⟨vs, e1, rfl⟩), k _ G1 H1 p1 (by rw [← empty_den e2]; exact q1)⟩
  · rw [d1.bl]
    exact ⟨_, rfl, k _ G1 H1 p1 q1⟩
  · exact q1.elim
/-! ### items -/
def dIx : V2 := fun x y k => match x, y with
  | .tup ds, .int i => ∃ d, atI ds i = some d ∧ k d
  | .lst ds, .int i => ∃ d, atI ds i = some d ∧ k d
  | _, _ => False
theorem atI_den {W : Cn} {dr : Dr} {A : Addr → Prop} {H : Hp} {ds : List D} {vs : List V} {i : Int} {d : D} (h : DenL W dr A H ds vs) (e : atI ds i = some d) : ∃ v, atI vs i = some v ∧ Den W dr A H d v := by
  unfold atI at e ⊢
  obtain ⟨j, e1, e2⟩ := Option.bind_eq_some_iff.mp e
  obtain ⟨v, e3, e4⟩ := h.get e2
  exact ⟨v, by rw [← h.length, e1]; exact e3, e4⟩
theorem sim_ix : SimR (cn X T) (fun x y H Q => rIxT X.K x y H Q ∨ rIxL X.K x y H Q) dIx := sim_or fun c A L G σ H x y u v Q Qh env hx hy hf k => by
  unfold dIx at hf
  split at hf
  · obtain ⟨d, e, q⟩ := hf
    have hx := hx.tup
    rw [Den] at hx
    obtain ⟨p, vs, rfl, h1, h2⟩ := hx
    obtain ⟨v, e3, e4⟩ := atI_den h2 e
    exact .inl ⟨p, vs, _, v, rfl, hy.int, h1, e3, k _ _ H (.refl env) e4 q⟩
  · obtain ⟨d, e, q⟩ := hf
    obtain ⟨p, vs, rfl, _, h1, h2⟩ := hx.lst
    obtain ⟨v, e3, e4⟩ := atI_den h2 e
    exact .inr ⟨p, vs, _, v, rfl, hy.int, .of h1, e3, k _ _ H (.refl env) e4 q⟩
  · exact hf.elim
theorem je_ix (ha : JP X T E a ma) (hb : JP X T E b mb) (hs : PlainIx b := by exact fun _ _ => rfl) : JE X T E (.Subscript a b pos) (vOp dIx ma mb) := by
  obtain ⟨ta, a1, a2⟩ := ha.ex
  obtain ⟨tb, b1, b2⟩ := hb.ex
  exact ⟨_, pe_ix (ix_tup.or ix_list) a1 b1 hs, sim_op sim_ix a2 b2⟩
/-! ### slices of tuples -/
abbrev VO := EK → Lo → Gs → (Option Int → Gs → Prop) → Prop
def SimO (W : Cn) (E : XK) (t : TO) (m : VO) : Prop :=
  ∀ (c : Ctx) (A : Addr → Prop) (Ev : EK) (L : Lo) (G : Gs) (σ : L2.St) (H : Hp) (Q : Option Int → Gs → Prop) (Qh : Option Int → Hp → Prop), ErrOk W c E Ev → Env W c A L G σ H → m Ev L G Q →
    (∀ o G' H', Post W c.dr A H H' G' → Q o G' → Qh o H') → t σ H Qh
structure JO (X : Cx) (T : List (Addr × Str)) (E : XK) (e : Option Expr) (m : VO) : Prop where
  ex : ∃ t, PO X e t ∧ SimO (cn X T) E t m
def vNo : VO := fun _ _ G Q => Q none G
def vPart (m : VE) : VO := fun Ev L G Q => m Ev L G fun x G1 => match x with
  | .int i => Q (some i) G1
  | _ => False
theorem jo_none : JO X T E none vNo := ⟨_, po_none, fun c A Ev L G σ H Q Qh hE env hm k => k none G H (.refl env) hm⟩
theorem jo_some (h : JP X T E e m) : JO X T E (some e) (vPart m) := by
  obtain ⟨t, h1, h2⟩ := h.ex
  refine ⟨_, po_some h1, fun c A Ev L G σ H Q Qh hE env hm k => h2 c A Ev L G σ H _ _ hE env hm fun x v G1 H1 p1 d1 q1 => ?_⟩
  split at q1
  · exact ⟨_, d1.int, k _ G1 H1 p1 q1⟩
  · exact q1.elim
def cutD (ds : List D) (lo hi : Option Int) : List D := (ds.drop (HT.sIx ds.length 0 lo)).take (HT.sIx ds.length ds.length hi - HT.sIx ds.length 0 lo)
theorem cut_den {W : Cn} {dr : Dr} {A : Addr → Prop} {H : Hp} {ds : List D} {vs : List V} (h : DenL W dr A H ds vs) (lo hi : Option Int) : DenL W dr A H (cutD ds lo hi) (cutV vs lo hi) := by
  unfold cutD cutV
  rw [h.length]
  exact (h.drop _).take _
/-- x[lo:hi], of a tuple a tuple -/
def vSl (m : VE) (lo hi : VO) : VE := fun Ev L G Q => m Ev L G fun x G1 => lo Ev L G1 fun l G2 => hi Ev L G2 fun h G3 => match x with
  | .tup ds => Q (.tup (cutD ds l h)) G3
  | _ => False
theorem cut_whole (ds : List D) (lo hi : Option Int) (h1 : HT.sIx ds.length 0 lo = 0) (h2 : HT.sIx ds.length ds.length hi = ds.length) : cutD ds lo hi = ds := by
  unfold cutD
  rw [h1, h2, List.drop_zero, Nat.sub_zero, List.take_length]
theorem je_slT {lo hi : Option Expr} {l h : VO} {p2 : Pos} (ha : JE X T E a m) (hl : JO X T E lo l) (hh : JO X T E hi h) : JE X T E (.Subscript a (.Slice lo hi none p2) pos) (vSl m l h) := by
  obtain ⟨ta, a1, a2⟩ := ha.ex
  obtain ⟨tl, l1, l2⟩ := hl.ex
  obtain ⟨th, h1, h2⟩ := hh.ex
  refine ⟨_, pe_slice sl_tupA a1 l1 h1, fun c A Ev L G σ H Q Qh hE env hm k => a2 c A Ev L G σ H _ _ hE env hm fun x v G1 H1 p1 d1 q1 =>
    l2 c A Ev L G1 σ H1 _ _ hE (env.to p1) q1 fun lo G2 H2 p2 q2 => h2 c A Ev L G2 σ H2 _ _ hE ((env.to p1).to p2) q2 fun hi G3 H3 p3 q3 => ?_⟩
  split at q3
  · have env3 := ((env.to p1).to p2).to p3
    have d3 := (d1.post p2 (env.to p1).draw).post p3 ((env.to p1).to p2).draw
    have d3' := d3
    rw [Den] at d3
    obtain ⟨p, vs, rfl, e1, e2⟩ := d3
    refine ⟨p, vs, rfl, e1, fun w => ?_, fun w z hz => ?_⟩
    · rw [← e2.length] at w
      rw [cut_whole _ _ _ w.1 w.2] at q3
      exact k _ _ G3 H3 ((p1.trans p2).trans p3) d3' q3
    · have po := Post.new env3 (p := z) (o := .tup (cutV vs lo hi)) hz
      refine k _ _ G3 _ (((p1.trans p2).trans p3).trans po) ?_ q3
      rw [Den]
      exact ⟨z, _, rfl, .of upd_same, (cut_den e2 lo hi).post po env3.draw⟩
  · exact q3.elim
/-! ### arguments, displays -/
def vNil : VA := fun _ _ G Q => Q [] G
def vCons (m : VE) (r : VA) : VA := fun Ev L G Q => m Ev L G fun x G1 => r Ev L G1 fun xs G2 => Q (x :: xs) G2
theorem ja_nil : JA X T E [] vNil := ⟨_, pa_nil, fun c A Ev L G σ H Q Qh hE env hm k => k [] [] G H (.refl env) .nil hm⟩
theorem ja_cons {r : VA} (h : JE X T E e m) (hr : JA X T E es r) (hs : starEach (e :: es) X.env = (false, eval e X.env) :: starEach es X.env := by rfl) : JA X T E (e :: es) (vCons m r) := by
  obtain ⟨t, h1, h2⟩ := h.ex
  obtain ⟨tr, r1, r2⟩ := hr.ex
  exact ⟨_, pa_cons h1 r1 hs, fun c A Ev L G σ H Q Qh hE env hm k => h2 c A Ev L G σ H _ _ hE env hm fun x v G1 H1 p1 d1 q1 =>
    r2 c A Ev L G1 σ H1 _ _ hE (env.to p1) q1 fun ds vs G2 H2 p2 d2 q2 => k _ _ G2 H2 (p1.trans p2) (.cons (d1.post p2 (env.to p1).draw) d2) q2⟩
def vTup (r : VA) : VE := fun Ev L G Q => r Ev L G fun xs G1 => xs.length ≤ lineN ∧ Q (.tup xs) G1
def vLst (r : VA) : VE := fun Ev L G Q => r Ev L G fun xs G1 => xs.length ≤ lineN ∧ Q (.lst xs) G1
theorem je_tup {r : VA} {k0 : Nat} (h : JA X T E es r) : JE X T E (.Tuple es k0 pos) (vTup r) := by
  obtain ⟨t, h1, h2⟩ := h.ex
  refine ⟨_, pe_tup h1, fun c A Ev L G σ H Q Qh hE env hm k => h2 c A Ev L G σ H _ _ hE env hm fun ds vs G1 H1 p1 d1 q1 => ⟨line_le (by rw [← d1.length]; exact q1.1), fun z hz => ?_⟩⟩
  have po := Post.new (env.to p1) (p := z) (o := .tup vs) hz
  refine k _ _ G1 _ (p1.trans po) ?_ q1.2
  rw [Den]
  exact ⟨z, vs, rfl, .of upd_same, d1.post po (env.to p1).draw⟩
theorem jf_lst {r : VA} (h : JA X T E es r) : JF X T E (.List es pos) (vLst r) := by
  obtain ⟨t, h1, h2⟩ := h.ex
  refine ⟨_, pe_lst h1, fun c A Ev L G σ H Q Qh hE env hm k => h2 c A Ev L G σ H _ _ hE env hm fun ds vs G1 H1 p1 d1 q1 => ⟨line_le (by rw [← d1.length]; exact q1.1), fun z hz => ?_⟩⟩
  have po := Post.new (env.to p1) (p := z) (o := .lst vs) hz
  refine k (.lst ds) z G1 H1 G1 _ p1 hz po ⟨vs, upd_same, ?_⟩ q1.2
  exact DenL.kp (po.ext.kp (env.to p1).draw) (fun a ha => ha.elim .inl fun q => .inr (by rw [q]; exact hz)) _ _ d1
end
end VL
set_option Elab.async false
set_option autoImplicit false
set_option linter.all false
set_option maxRecDepth 100000
set_option maxHeartbeats 2000000
namespace VL
open PySem PySem.Spec PyProof.Rows L2
/-! ### calls by values -/
abbrev VC := List D → (D → Prop) → Prop
def RdnL (W : Cn) (dr : Dr) (A : Addr → Prop) (H : Hp) (ds : List D) (vs : List V) : Prop := Paired (fun d v => Rdn W dr A H d v) ds vs
/-- arguments that are read at once -/
def SimR' (W : Cn) (E : XK) (t : TA) (m : VA) : Prop :=
  ∀ (c : Ctx) (A : Addr → Prop) (Ev : EK) (L : Lo) (G : Gs) (σ : L2.St) (H : Hp) (Q : List D → Gs → Prop) (Qh : List V → Hp → Prop), ErrOk W c E Ev → Env W c A L G σ H → m Ev L G Q →
    (∀ ds vs G' H', Post W c.dr A H H' G' → RdnL W c.dr A H' ds vs → Q ds G' → Qh vs H') → t σ H Qh
structure JR (X : Cx) (T : List (Addr × Str)) (E : XK) (es : List Expr) (m : VA) : Prop where
  ex : ∃ t, PA X es t ∧ SimR' (cn X T) E t m
def SimC (W : Cn) (r : List V → Hp → VK → Prop) (f : VC) : Prop := ∀ (c : Ctx) (A : Addr → Prop) (L : Lo) (G : Gs) (σ : L2.St) (H : Hp) (ds : List D) (vs : List V) (Q : D → Prop) (Qh : VK), Env W c A L G σ H → RdnL W c.dr A H ds vs → f ds Q →
  (∀ d w H', Post W c.dr A H H' G → Den W c.dr A H' d w → Q d → Qh w H') → r vs H Qh
/-- the same, for a new list -/
def SimCF (W : Cn) (r : List V → Hp → VK → Prop) (f : VC) : Prop := ∀ (c : Ctx) (A : Addr → Prop) (L : Lo) (G : Gs) (σ : L2.St) (H : Hp) (ds : List D) (vs : List V) (Q : D → Prop) (Qh : VK), Env W c A L G σ H → RdnL W c.dr A H ds vs → f ds Q →
  (∀ d p H', H p = none → Post W c.dr A H H' G → Body W c.dr (fun a => A a ∨ a = p) H' d p → Q d → Qh (.ref p) H') → r vs H Qh
def vCall (f : VC) (r : VA) : VE := fun Ev L G Q => r Ev L G fun ds G1 => f ds fun d => Q d G1
section
variable {X : Cx} {T : List (Addr × Str)} {E : XK} {e a b c' : Expr} {es rest : List Expr} {m ma mb mc : VE} {n na nb : VT} {r : VA} {p pos : Pos} {kk : Nat}
theorem jr_nil : JR X T E [] vNil := ⟨_, pa_nil, fun c A Ev L G σ H Q Qh hE env hm k => k [] [] G H (.refl env) .nil hm⟩
theorem RdnL.post {W : Cn} {c : Ctx} {A : Addr → Prop} {L : Lo} {G G' : Gs} {σ : L2.St} {H H' : Hp} (env : Env W c A L G σ H) (p : Post W c.dr A H H' G') : ∀ {ds : List D} {vs : List V}, RdnL W c.dr A H ds vs → RdnL W c.dr A H' ds vs
  | _, _, .nil => .nil
  | _, _, .cons h t => .cons (h.post env p) (RdnL.post env p t)
theorem jr_cons (h : JP X T E e m) (hr : JR X T E es r) (hs : starEach (e :: es) X.env = (false, eval e X.env) :: starEach es X.env := by rfl) : JR X T E (e :: es) (vCons m r) := by
  obtain ⟨t, h1, h2⟩ := h.ex
  obtain ⟨tr, r1, r2⟩ := hr.ex
  exact ⟨_, pa_cons h1 r1 hs, fun c A Ev L G σ H Q Qh hE env hm k => h2 c A Ev L G σ H _ _ hE env hm fun x v G1 H1 p1 d1 q1 =>
    r2 c A Ev L G1 σ H1 _ _ hE (env.to p1) q1 fun ds vs G2 H2 p2 d2 q2 => k _ _ G2 H2 (p1.trans p2) (.cons (d1.post (env.to p1) p2) d2) q2⟩
theorem sim_call {W : Cn} {t : TA} {rr : List V → Hp → VK → Prop} {f : VC} (ht : SimR' W E t r) (hf : SimC W rr f) : SimE W E (tCB rr t) (vCall f r) := fun c A Ev L G σ H Q Qh hE env hm k =>
  ht c A Ev L G σ H _ _ hE env hm fun ds vs G1 H1 p1 d1 q1 => hf c A L G1 σ H1 ds vs (fun d => Q d G1) Qh (env.to p1) d1 q1 fun d w H2 p2 d2 q2 => k d w G1 H2 (p1.trans p2) d2 q2
theorem sim_callF {W : Cn} {t : TA} {rr : List V → Hp → VK → Prop} {f : VC} (ht : SimR' W E t r) (hf : SimCF W rr f) : SimF W E (tCB rr t) (vCall f r) := fun c A Ev L G σ H Q Qh hE env hm k =>
  ht c A Ev L G σ H _ _ hE env hm fun ds vs G1 H1 p1 d1 q1 => hf c A L G1 σ H1 ds vs (fun d => Q d G1) Qh (env.to p1) d1 q1 fun d w H2 hp p2 d2 q2 => k d w G1 H1 G1 H2 p1 hp p2 d2 q2
section
variable {id Ty : String} {x : Str} {rr : List V → Hp → VK → Prop} {f : VC}
theorem je_callB (hc : CallR X (.builtin id) rr) (hf : SimC (cn X T) rr f) (hm : X.mg x = none) (hv : bootBuiltins x = some (.builtin id)) (ha : JR X T E (e :: es) r) (hg : Gl X x := by rfl) (hn : x ≠ "__name__" := by decide) (hdb : (x == ("__debug__" : Str)) = false := by decide)
    (he : starEach (e :: es) X.env = (false, eval e X.env) :: starEach es X.env := by rfl) (hpl : (backTo pos (starEach es X.env)).any (·.1) = false := by rfl) : JE X T E (.Call (.Name x p) (e :: es) [] pos) (vCall f r) := by
  obtain ⟨t, h1, h2⟩ := ha.ex
  exact ⟨_, pe_callB hc hg hm hv h1 hn hdb he hpl, sim_call h2 hf⟩
theorem je_callTy (hc : CallR X (.type Ty) rr) (hf : SimC (cn X T) rr f) (hm : X.mg x = none) (hv : bootBuiltins x = some (.type Ty)) (ha : JR X T E (e :: es) r) (hg : Gl X x := by rfl) (hn : x ≠ "__name__" := by decide) (hdb : (x == ("__debug__" : Str)) = false := by decide)
    (he : starEach (e :: es) X.env = (false, eval e X.env) :: starEach es X.env := by rfl) (hpl : (backTo pos (starEach es X.env)).any (·.1) = false := by rfl) : JE X T E (.Call (.Name x p) (e :: es) [] pos) (vCall f r) := by
  obtain ⟨t, h1, h2⟩ := ha.ex
  exact ⟨_, pe_callTy hc hg hm hv h1 hn hdb he hpl, sim_call h2 hf⟩
theorem jf_callTy (hc : CallR X (.type Ty) rr) (hf : SimCF (cn X T) rr f) (hm : X.mg x = none) (hv : bootBuiltins x = some (.type Ty)) (ha : JR X T E (e :: es) r) (hg : Gl X x := by rfl) (hn : x ≠ "__name__" := by decide) (hdb : (x == ("__debug__" : Str)) = false := by decide)
    (he : starEach (e :: es) X.env = (false, eval e X.env) :: starEach es X.env := by rfl) (hpl : (backTo pos (starEach es X.env)).any (·.1) = false := by rfl) : JF X T E (.Call (.Name x p) (e :: es) [] pos) (vCall f r) := by
  obtain ⟨t, h1, h2⟩ := ha.ex
  exact ⟨_, pe_callTy hc hg hm hv h1 hn hdb he hpl, sim_callF h2 hf⟩
theorem jf_callB (hc : CallR X (.builtin id) rr) (hf : SimCF (cn X T) rr f) (hm : X.mg x = none) (hv : bootBuiltins x = some (.builtin id)) (ha : JR X T E (e :: es) r) (hg : Gl X x := by rfl) (hn : x ≠ "__name__" := by decide) (hdb : (x == ("__debug__" : Str)) = false := by decide)
    (he : starEach (e :: es) X.env = (false, eval e X.env) :: starEach es X.env := by rfl) (hpl : (backTo pos (starEach es X.env)).any (·.1) = false := by rfl) : JF X T E (.Call (.Name x p) (e :: es) [] pos) (vCall f r) := by
  obtain ⟨t, h1, h2⟩ := ha.ex
  exact ⟨_, pe_callB hc hg hm hv h1 hn hdb he hpl, sim_callF h2 hf⟩
end
/-! ### len -/
def dLen : VC := fun ds k => match ds with
  | [.lst ds] => k (.int (ds.length : Int))
  | [.tup ds] => k (.int (ds.length : Int))
  | [.scr ns] => k (.int (ns.length : Int))
  | _ => False
theorem RdnL.one {W : Cn} {dr : Dr} {A : Addr → Prop} {H : Hp} {d : D} {vs : List V} (h : RdnL W dr A H [d] vs) : ∃ v, vs = [v] ∧ Rdn W dr A H d v := by
  cases h with
  | cons a b =>
    cases b
    exact ⟨_, rfl, a⟩
theorem RdnL.two {W : Cn} {dr : Dr} {A : Addr → Prop} {H : Hp} {d d2 : D} {vs : List V} (h : RdnL W dr A H [d, d2] vs) : ∃ v v2, vs = [v, v2] ∧ Rdn W dr A H d v ∧ Rdn W dr A H d2 v2 := by
  cases h with
  | cons a b =>
    cases b with
    | cons a2 b =>
      cases b
      exact ⟨_, _, rfl, a, a2⟩
theorem Rdn.scr {W : Cn} {dr : Dr} {A : Addr → Prop} {H : Hp} {ns : List Int} {v : V} (h : Rdn W dr A H (.scr ns) v) : ∃ a, v = .ref a ∧ SqL W.K H a (ns.map V.int) := by
  rcases h with h | ⟨a, _, _, _, h⟩
  · rw [Den] at h
    obtain ⟨a, e, h⟩ := h
    refine ⟨a, e, ?_⟩
    rcases h with ⟨h, _⟩ | ⟨o, h⟩ | h
    · exact .of h
    · exact .inl (.inr ⟨o, h⟩)
    · exact h H
  · exact h.elim
theorem sim_len : SimC (cn X T) (fun xs H Q => ∃ x n, xs = [x] ∧ LenV X.K x H n ∧ Q (.int n) H) dLen := fun c A L G σ H ds vs Q Qh env hd hf k => by
  unfold dLen at hf
  split at hf
  · obtain ⟨v, rfl, h⟩ := hd.one
    obtain ⟨a, vs, rfl, _, e1, e2⟩ := h.lst
    exact ⟨_, _, rfl, .inl ⟨vs, .of e1, rfl⟩, k _ _ H (.refl env) (by rw [e2.length]; exact den_int) hf⟩
  · obtain ⟨v, rfl, h⟩ := hd.one
    have h := h.tup
    rw [Den] at h
    obtain ⟨a, vs, rfl, e1, e2⟩ := h
    exact ⟨_, _, rfl, .inr ⟨vs, e1, rfl⟩, k _ _ H (.refl env) (by rw [e2.length]; exact den_int) hf⟩
  · obtain ⟨v, rfl, h⟩ := hd.one
    obtain ⟨a, rfl, e1⟩ := h.scr
    exact ⟨_, _, rfl, .inl ⟨_, e1, rfl⟩, k _ _ H (.refl env) (by rw [List.length_map]; exact den_int) hf⟩
  · exact hf.elim
theorem je_len (hm : X.mg "len" = none) (ha : JR X T E [e] r) (hg : Gl X "len" := by rfl) (he : starEach (e :: []) X.env = (false, eval e X.env) :: starEach [] X.env := by rfl) (hpl : (backTo pos (starEach [] X.env)).any (·.1) = false := by rfl) :
    JE X T E (.Call (.Name "len" p) [e] [] pos) (vCall dLen r) := je_callB call_len sim_len hm boot_len ha hg (by decide) (by decide) he hpl
/-! ### int, max, min -/
def dInt : VC := fun ds k => match ds with
  | [.int i] => k (.int i)
  | _ => False
theorem sim_int : SimC (cn X T) (fun xs H Q => (∃ i, xs = [.int i] ∧ Q (.int i) H) ∨ ∃ k, xs = [.bl k] ∧ Q (.int (if k then 1 else 0)) H) dInt := fun c A L G σ H ds vs Q Qh env hd hf k => by
  unfold dInt at hf
  split at hf
  · obtain ⟨v, rfl, h⟩ := hd.one
    rw [h.int]
    exact .inl ⟨_, rfl, k _ _ H (.refl env) den_int hf⟩
  · exact hf.elim
theorem je_toInt (hm : X.mg "int" = none) (ha : JR X T E [e] r) (hg : Gl X "int" := by rfl) (he : starEach (e :: []) X.env = (false, eval e X.env) :: starEach [] X.env := by rfl) (hpl : (backTo pos (starEach [] X.env)).any (·.1) = false := by rfl) :
    JE X T E (.Call (.Name "int" p) [e] [] pos) (vCall dInt r) := je_callTy call_int1 sim_int hm boot_int ha hg (by decide) (by decide) he hpl
def dMax2 : VC := fun ds k => match ds with
  | [.int i, .int j] => k (.int (if j > i then j else i))
  | _ => False
def dMin2 : VC := fun ds k => match ds with
  | [.int i, .int j] => k (.int (if j < i then j else i))
  | _ => False
theorem sim_max2 : SimC (cn X T) (fun xs H Q => ∃ i j, xs = [.int i, .int j] ∧ Q (.int (if j > i then j else i)) H) dMax2 := fun c A L G σ H ds vs Q Qh env hd hf k => by
  unfold dMax2 at hf
  split at hf
  · obtain ⟨v, w, rfl, h, h2⟩ := hd.two
    rw [h.int, h2.int]
    exact ⟨_, _, rfl, k _ _ H (.refl env) den_int hf⟩
  · exact hf.elim
theorem sim_min2 : SimC (cn X T) (fun xs H Q => ∃ i j, xs = [.int i, .int j] ∧ Q (.int (if j < i then j else i)) H) dMin2 := fun c A L G σ H ds vs Q Qh env hd hf k => by
  unfold dMin2 at hf
  split at hf
  · obtain ⟨v, w, rfl, h, h2⟩ := hd.two
    rw [h.int, h2.int]
    exact ⟨_, _, rfl, k _ _ H (.refl env) den_int hf⟩
  · exact hf.elim
theorem je_max2 (hc : X.calm = true) (hm : X.mg "max" = none) (ha : JR X T E [a, b] r) (hg : Gl X "max" := by rfl) (he : starEach (a :: [b]) X.env = (false, eval a X.env) :: starEach [b] X.env := by rfl) (hpl : (backTo pos (starEach [b] X.env)).any (·.1) = false := by rfl) :
    JE X T E (.Call (.Name "max" p) [a, b] [] pos) (vCall dMax2 r) := je_callB (call_max2 hc) sim_max2 hm (by decide +kernel) ha hg (by decide) (by decide) he hpl
theorem je_min2 (hc : X.calm = true) (hm : X.mg "min" = none) (ha : JR X T E [a, b] r) (hg : Gl X "min" := by rfl) (he : starEach (a :: [b]) X.env = (false, eval a X.env) :: starEach [b] X.env := by rfl) (hpl : (backTo pos (starEach [b] X.env)).any (·.1) = false := by rfl) :
    JE X T E (.Call (.Name "min" p) [a, b] [] pos) (vCall dMin2 r) := je_callB (call_min2 hc) sim_min2 hm (by decide +kernel) ha hg (by decide) (by decide) he hpl
/-! ### tuple, list -/
def dTupOf : VC := fun ds k => match ds with
  | [.lst ds] => k (.tup ds)
  | [.tup ds] => k (.tup ds)
  | _ => False
theorem sim_tupOf : SimC (cn X T) (fun xs H Q => ∃ p ys, xs = [.ref p] ∧ ((SqL X.K H p ys ∧ ∀ l, H l = none → Q (.ref l) (upd H l (.tup ys))) ∨ (SqT X.K H p ys ∧ Q (.ref p) H))) dTupOf := fun c A L G σ H ds vs Q Qh env hd hf k => by
  unfold dTupOf at hf
  split at hf
  · obtain ⟨v, rfl, h⟩ := hd.one
    obtain ⟨a, vs, rfl, _, e1, e2⟩ := h.lst
    refine ⟨a, vs, rfl, .inl ⟨.of e1, fun l hl => ?_⟩⟩
    have po := Post.new env (p := l) (o := .tup vs) hl
    refine k _ _ _ po ?_ hf
    rw [Den]
    exact ⟨l, vs, rfl, .of upd_same, e2.post po env.draw⟩
  · obtain ⟨v, rfl, h⟩ := hd.one
    have h := h.tup
    have h' := h
    rw [Den] at h
    obtain ⟨a, vs, rfl, e1, e2⟩ := h
    exact ⟨a, vs, rfl, .inr ⟨e1, k _ _ H (.refl env) h' hf⟩⟩
  · exact hf.elim
theorem je_tupOf (hm : X.mg "tuple" = none) (ha : JR X T E [e] r) (hg : Gl X "tuple" := by rfl) (he : starEach (e :: []) X.env = (false, eval e X.env) :: starEach [] X.env := by rfl) (hpl : (backTo pos (starEach [] X.env)).any (·.1) = false := by rfl) :
    JE X T E (.Call (.Name "tuple" p) [e] [] pos) (vCall dTupOf r) := je_callTy call_tuple_of sim_tupOf hm (by decide +kernel) ha hg (by decide) (by decide) he hpl
def dLstOf : VC := fun ds k => match ds with
  | [.lst ds] => k (.lst ds)
  | [.tup ds] => k (.lst ds)
  | _ => False
theorem body_new {W : Cn} {c : Ctx} {A : Addr → Prop} {L : Lo} {G : Gs} {σ : L2.St} {H : Hp} {ds : List D} {vs : List V} {p : Addr} (env : Env W c A L G σ H) (hp : H p = none) (h : DenL W c.dr A H ds vs) : Body W c.dr (fun a => A a ∨ a = p) (upd H p (.lst vs)) (.lst ds) p :=
  ⟨vs, upd_same, DenL.kp ((Post.new env (o := .lst vs) hp).ext.kp env.draw) (fun a ha => ha.elim .inl fun q => .inr (by rw [q]; exact hp)) _ _ h⟩
theorem sim_lstOf : SimCF (cn X T) (fun xs H Q => ∃ p ys, xs = [.ref p] ∧ (SqL X.K H p ys ∨ SqT X.K H p ys) ∧ ∀ l, H l = none → Q (.ref l) (upd H l (.lst ys))) dLstOf := fun c A L G σ H ds vs Q Qh env hd hf k => by
  unfold dLstOf at hf
  split at hf
  · obtain ⟨v, rfl, h⟩ := hd.one
    obtain ⟨a, vs, rfl, _, e1, e2⟩ := h.lst
    exact ⟨a, vs, rfl, .inl (.of e1), fun l hl => k _ l _ hl (Post.new env hl) (body_new env hl e2) hf⟩
  · obtain ⟨v, rfl, h⟩ := hd.one
    have h := h.tup
    rw [Den] at h
    obtain ⟨a, vs, rfl, e1, e2⟩ := h
    exact ⟨a, vs, rfl, .inr e1, fun l hl => k _ l _ hl (Post.new env hl) (body_new env hl e2) hf⟩
  · exact hf.elim
theorem jf_lstOf (hm : X.mg "list" = none) (ha : JR X T E [e] r) (hg : Gl X "list" := by rfl) (he : starEach (e :: []) X.env = (false, eval e X.env) :: starEach [] X.env := by rfl) (hpl : (backTo pos (starEach [] X.env)).any (·.1) = false := by rfl) :
    JF X T E (.Call (.Name "list" p) [e] [] pos) (vCall dLstOf r) := jf_callTy call_list_of sim_lstOf hm (by decide +kernel) ha hg (by decide) (by decide) he hpl
/-! ### sum, any, all, max of a list -/
def dSum : VC := fun ds k => match ds with
  | [.lst ds] => ∃ ns : List Int, ds = ns.map D.int ∧ k (.int ns.sum)
  | _ => False
theorem sim_sum : SimC (cn X T) (rSum X.K) dSum := fun c A L G σ H ds vs Q Qh env hd hf k => by
  unfold dSum at hf
  split at hf
  · obtain ⟨ns, rfl, hq⟩ := hf
    obtain ⟨v, rfl, h⟩ := hd.one
    obtain ⟨a, vs, rfl, _, e1, e2⟩ := h.lst
    rw [e2.intsV] at e1
    exact ⟨a, ns, rfl, .of e1, k _ _ H (.refl env) den_int hq⟩
  · exact hf.elim
theorem je_sum (hc : X.calm = true) (hm : X.mg "sum" = none) (ha : JR X T E [e] r) (hg : Gl X "sum" := by rfl) (he : starEach (e :: []) X.env = (false, eval e X.env) :: starEach [] X.env := by rfl) (hpl : (backTo pos (starEach [] X.env)).any (·.1) = false := by rfl) :
    JE X T E (.Call (.Name "sum" p) [e] [] pos) (vCall dSum r) := je_callB (cr_sum hc) sim_sum hm (by decide +kernel) ha hg (by decide) (by decide) he hpl
theorem DenL.blsV {W : Cn} {dr : Dr} {A : Addr → Prop} {H : Hp} : ∀ {ns : List Bool} {vs : List V}, DenL W dr A H (ns.map D.bl) vs → vs = ns.map V.bl
  | [], vs, h => by
    rw [List.map_nil, DenL] at h
    exact h
  | n :: ns, vs, h => by
    rw [List.map_cons, DenL] at h
    obtain ⟨v, r, rfl, h1, h2⟩ := h
    rw [Den] at h1
    rw [h1, DenL.blsV h2]
    rfl
def dAny : VC := fun ds k => match ds with
  | [.lst ds] => ∃ bs : List Bool, ds = bs.map D.bl ∧ k (.bl (bs.any id))
  | _ => False
def dAll : VC := fun ds k => match ds with
  | [.lst ds] => ∃ bs : List Bool, ds = bs.map D.bl ∧ k (.bl (bs.all id))
  | _ => False
theorem sim_any : SimC (cn X T) (rAny X.K) dAny := fun c A L G σ H ds vs Q Qh env hd hf k => by
  unfold dAny at hf
  split at hf
  · obtain ⟨ns, rfl, hq⟩ := hf
    obtain ⟨v, rfl, h⟩ := hd.one
    obtain ⟨a, vs, rfl, _, e1, e2⟩ := h.lst
    rw [e2.blsV] at e1
    exact ⟨a, ns, rfl, .of e1, k _ _ H (.refl env) den_bl hq⟩
  · exact hf.elim
theorem sim_all : SimC (cn X T) (rAll X.K) dAll := fun c A L G σ H ds vs Q Qh env hd hf k => by
  unfold dAll at hf
  split at hf
  · obtain ⟨ns, rfl, hq⟩ := hf
    obtain ⟨v, rfl, h⟩ := hd.one
    obtain ⟨a, vs, rfl, _, e1, e2⟩ := h.lst
    rw [e2.blsV] at e1
    exact ⟨a, ns, rfl, .of e1, k _ _ H (.refl env) den_bl hq⟩
  · exact hf.elim
theorem je_any (hc : X.calm = true) (hm : X.mg "any" = none) (ha : JR X T E [e] r) (hg : Gl X "any" := by rfl) (he : starEach (e :: []) X.env = (false, eval e X.env) :: starEach [] X.env := by rfl) (hpl : (backTo pos (starEach [] X.env)).any (·.1) = false := by rfl) :
    JE X T E (.Call (.Name "any" p) [e] [] pos) (vCall dAny r) := je_callB (cr_any hc) sim_any hm (by decide +kernel) ha hg (by decide) (by decide) he hpl
theorem je_all (hc : X.calm = true) (hm : X.mg "all" = none) (ha : JR X T E [e] r) (hg : Gl X "all" := by rfl) (he : starEach (e :: []) X.env = (false, eval e X.env) :: starEach [] X.env := by rfl) (hpl : (backTo pos (starEach [] X.env)).any (·.1) = false := by rfl) :
    JE X T E (.Call (.Name "all" p) [e] [] pos) (vCall dAll r) := je_callB (cr_all hc) sim_all hm (by decide +kernel) ha hg (by decide) (by decide) he hpl
def dMaxL : VC := fun ds k => match ds with
  | [.lst ds] => ∃ ns : List Int, ds = ns.map D.int ∧ 0 < ns.length ∧ ∀ m, m ∈ ns → (∀ y, y ∈ ns → y ≤ m) → k (.int m)
  | _ => False
theorem sim_maxL : SimC (cn X T) (rMax X.K) dMaxL := fun c A L G σ H ds vs Q Qh env hd hf k => by
  unfold dMaxL at hf
  split at hf
  · obtain ⟨ns, rfl, h0, hq⟩ := hf
    obtain ⟨v, rfl, h⟩ := hd.one
    obtain ⟨a, vs, rfl, _, e1, e2⟩ := h.lst
    rw [e2.intsV] at e1
    exact ⟨a, ns, rfl, .of e1, h0, fun m h1 h2 => k _ _ H (.refl env) den_int (hq m h1 h2)⟩
  · exact hf.elim
theorem je_maxL (hc : X.calm = true) (hm : X.mg "max" = none) (ha : JR X T E [e] r) (hg : Gl X "max" := by rfl) (he : starEach (e :: []) X.env = (false, eval e X.env) :: starEach [] X.env := by rfl) (hpl : (backTo pos (starEach [] X.env)).any (·.1) = false := by rfl) :
    JE X T E (.Call (.Name "max" p) [e] [] pos) (vCall dMaxL r) := je_callB (cr_max hc) sim_maxL hm (by decide +kernel) ha hg (by decide) (by decide) he hpl
/-! ### isinstance of a built-in type -/
def tyOfD : D → Option String
  | .non => some "NoneType"
  | .bl _ => some "bool"
  | .int _ => some "int"
  | .str _ => some "str"
  | .tup _ => some "tuple"
  | .lst _ => some "list"
  | .dct _ _ => some "dict"
  | _ => none
def isTyS (a t : String) : Bool := a == t || (a == "bool" && t == "int")
/-- whether d is of the type -/
def isTy (d : D) (t : String) : Bool := match d with
  | .non => isTyS "NoneType" t
  | .bl _ => isTyS "bool" t
  | .int _ => isTyS "int" t
  | .str _ => isTyS "str" t
  | .tup _ => isTyS "tuple" t
  | .lst _ => isTyS "list" t
  | .dct _ _ => isTyS "dict" t
  | _ => false
def vIsTy (t : String) (m : VE) : VE := fun Ev L G Q => m Ev L G fun x G1 => match tyOfD x with
  | some _ => Q (.bl (isTy x t)) G1
  | none => False
theorem rdn_ty {W : Cn} {dr : Dr} {A : Addr → Prop} {H : Hp} {d : D} {v : V} {t : String} (h : Rdn W dr A H d v) (e : tyOfD d = some t) : TyX W.K H v (.type t) := by
  cases d with
  | non =>
    cases e
    rcases h with h | ⟨_, _, _, _, h⟩
    · rw [Den] at h
      rw [h]
      exact .base .non
    · exact h.elim
  | bl b =>
    cases e
    rw [h.bl]
    exact .base (.bl b)
  | int b =>
    cases e
    rw [h.int]
    exact .base (.int b)
  | str b =>
    cases e
    rw [h.str]
    exact .base (.str b)
  | tup ds =>
    cases e
    have h := h.tup
    rw [Den] at h
    obtain ⟨a, vs, rfl, h1, _⟩ := h
    rcases h1 with (h1 | ⟨o, h1⟩) | ⟨o, its, n, h1, h2, _⟩
    · exact .base (.tup h1)
    · exact .fTuple h1
    · exact .kTuple h1 h2
  | lst ds =>
    cases e
    obtain ⟨a, vs, rfl, _, h1, _⟩ := h.lst
    exact .base (.lst h1)
  | dct ks ds =>
    cases e
    rcases h with h | ⟨a, rfl, _, _, h⟩
    · rw [Den] at h
      obtain ⟨a, vs, rfl, _, _, h1, _⟩ := h
      exact .base (.dK h1)
    · obtain ⟨kvs, h1, _⟩ := h
      exact .base (.dK h1)
  | _ => cases e
theorem kit_isTy {K : PySem.W.Frag} {d : D} {t u : String} (e : tyOfD d = some t) (hu : u ∈ ["int", "bool", "str", "list", "tuple", "dict"]) : PySem.W.kitOne K (.type t) (.type u) = some (isTy d u) := by
  refine kit_ty ?_
  simp only [List.mem_cons, List.not_mem_nil, or_false] at hu
  have key : ∀ a ∈ ["NoneType", "bool", "int", "str", "tuple", "list", "dict"], ∀ b ∈ ["int", "bool", "str", "list", "tuple", "dict"], kitB a b = some (isTyS a b) := by decide +kernel
  have hu' : u ∈ ["int", "bool", "str", "list", "tuple", "dict"] := by simpa using hu
  cases d <;> cases e <;> exact key _ (by decide) u hu'
theorem je_isTy {x : Str} {u : String} (hm : X.mg "isinstance" = none) (hm2 : X.mg x = none) (hv : bootBuiltins x = some (.type u)) (hu : u ∈ ["int", "bool", "str", "list", "tuple", "dict"]) (ha : JP X T E a m) {p2 : Pos} (hg : Gl X "isinstance" := by rfl) (hg2 : Gl X x := by rfl)
    (hn : x ≠ "__name__" := by decide) (hdb : (x == ("__debug__" : Str)) = false := by decide) (he : starEach (a :: [.Name x p2]) X.env = (false, eval a X.env) :: starEach [.Name x p2] X.env := by rfl) (hs2 : starEach (.Name x p2 :: []) X.env = (false, eval (.Name x p2) X.env) :: starEach [] X.env := by rfl)
    (hpl : (backTo pos (starEach [.Name x p2] X.env)).any (·.1) = false := by rfl) :
    JE X T E (.Call (.Name "isinstance" p) [a, .Name x p2] [] pos) (vIsTy u m) := by
  obtain ⟨t, h1, h2⟩ := ha.ex
  refine ⟨_, pe_callB call_isi hg hm (by decide +kernel) (pa_cons h1 (pa_cons (pe_bltn (v := .ty u) hg2 hm2 hv rfl hn hdb) pa_nil hs2) he) (by decide) (by decide) he hpl, fun c A Ev L G σ H Q Qh hE env hm k => h2 c A Ev L G σ H _ _ hE env hm fun x v G1 H1 p1 d1 q1 => ?_⟩
  split at q1
  · rename_i t et
    exact ⟨v, .ty u, .type t, .type u, isTy x u, rfl, .ty u, rdn_ty d1 et, kit_isTy et hu, k _ _ G1 H1 p1 den_bl q1⟩
  · exact q1.elim
end
end VL
set_option Elab.async false
set_option autoImplicit false
set_option linter.all false
set_option maxRecDepth 100000
set_option maxHeartbeats 4000000
namespace VL
open PySem PySem.Spec PyProof.Rows L2
theorem tmul_one (l : Addr) (items : Array Value) (n : Nat) (dd : Option Addr) (sl : Array (Option Value)) (u : Tok) :
    Meets (Builtin.«tuple.__mul__» ⟨[.ref l, .int 1 u], []⟩) (fun _ R s => s.heap.get? l = some { cls := .type "tuple", dict := dd, data := .seq items n, slots := sl } ∧ R (.ok (.ret (Value.ref l))) s) :=
  .of_wp fun prog w A R s h => by
    obtain ⟨hp, g, d, tk, os⟩ := s
    obtain ⟨hl, h⟩ := h
    have f1 := AutoSeq1.idx_int
    wp_walk using wpAny_loadPart' hl
    exact ⟨_, rfl, h⟩
theorem tmul_zero (l : Addr) (items : Array Value) (n : Nat) (dd : Option Addr) (sl : Array (Option Value)) (u : Tok) (hi : items.isEmpty = false) :
    Meets (Builtin.«tuple.__mul__» ⟨[.ref l, .int 0 u], []⟩) (fun _ R s => s.heap.get? l = some { cls := .type "tuple", dict := dd, data := .seq items n, slots := sl } ∧
      R (.ok (.ret (Value.ref s.heap.objs.size))) { s with heap := s.heap.push { cls := Value.type "tuple", data := Data.seq #[] }, toks := s.toks }) :=
  .of_wp fun prog w A R s h => by
    obtain ⟨hp, g, d, tk, os⟩ := s
    obtain ⟨hl, h⟩ := h
    have f1 := AutoSeq1.idx_int
    wp_walk using wpAny_loadPart' hl
    exact ⟨_, rfl, h⟩
/-- a tuple times 0, 1 or more -/
def rRepA (K : PySem.W.Frag) : R2 := fun x y H Q => ∃ l k xs, x = .ref l ∧ y = .int k ∧ SqT K H l xs ∧ xs ≠ [] ∧ 0 ≤ k ∧ k ≤ 1000 ∧ xs.length ≤ 1000 ∧ (k = 1 → Q (.ref l) H) ∧ (k ≠ 1 → ∀ p, H p = none → Q (.ref p) (upd H p (.tup (List.replicate k.toNat xs).flatten)))
theorem op_repA {X : Cx} : OpR X (binaryOp .Mult) (rRepA X.K) := by
  intro pins s σ H x y v u Q I rx ry h
  obtain ⟨l, k, xs, rfl, rfl, hT, hne, h1, h2, hz, q1, q2⟩ := h
  by_cases k2 : 2 ≤ k
  · exact op_repT pins s σ H _ _ v u Q I rx ry ⟨l, k, xs, rfl, rfl, hT, hne, k2, h2, hz, q2 (by omega)⟩
  · cases rx
    obtain ⟨t, rfl⟩ := ry
    obtain ⟨its, r, ⟨⟨cls, dd, data, sl⟩, ho, hc, n, hd⟩, hs⟩ := I.tuple hT
    simp only at hc hd
    subst hc hd
    have hi : its.toArray.isEmpty = false := by
      cases its with
      | nil =>
        cases r
        exact absurd rfl hne
      | cons a b => rfl
    by_cases k1 : k = 1
    · subst k1
      exact wpAny_binaryOp_repeat_ref (T := "tuple") (U := "int") (by decide) ⟨_, ho, rfl⟩ (fun s' => typeIs_int s' 1 t) noFill_tuple_mul F.fills_int_mul F.slot_int_rmul repeat_tuple F.slot_int_index.lookup
        (call_meets F.slot_int_rmul (typeIs_int s 1 t) F.entry_int_rmul (F.args_int_rmul_2 _ _) (int_rmul_tuple 1 t l its.toArray n dd sl)
          ⟨ho, rfl, ⟨_, ho, rfl⟩, call_meets F.slot_tuple_mul ⟨_, ho, rfl⟩ F.entry_tuple_mul (F.args_tuple_mul_2 _ _) (tmul_one l its.toArray n dd sl t) ⟨ho, ⟨.ref l, H, I, rfl, q1 rfl⟩⟩⟩)
    · have k0 : k = 0 := by omega
      subst k0
      refine wpAny_binaryOp_repeat_ref (T := "tuple") (U := "int") (by decide) ⟨_, ho, rfl⟩ (fun s' => typeIs_int s' 0 t) noFill_tuple_mul F.fills_int_mul F.slot_int_rmul repeat_tuple F.slot_int_index.lookup
        (call_meets F.slot_int_rmul (typeIs_int s 0 t) F.entry_int_rmul (F.args_int_rmul_2 _ _) (int_rmul_tuple 0 t l its.toArray n dd sl)
          ⟨ho, rfl, ⟨_, ho, rfl⟩, call_meets F.slot_tuple_mul ⟨_, ho, rfl⟩ F.entry_tuple_mul (F.args_tuple_mul_2 _ _) (tmul_zero l its.toArray n dd sl t hi) ⟨ho, ?_⟩⟩)
      refine ⟨.ref s.heap.objs.size, _, I.laid (t' := s.toks) (o := .tup (List.replicate (0 : Int).toNat xs).flatten) (fun b ob q => Heap.get?_push_of_some _ q) (Nat.le_refl _) ?_, rfl, q2 (by decide) _ (I.hok.fresh (Nat.le_refl _))⟩
      exact ⟨Nat.zero_le _, [], .nil, IsTup.new _ _⟩
/-- * of ints, a tuple times an int -/
def dMulT : V2 := fun x y k => match x, y with
  | .tup a, .int i => (a ≠ [] ∧ 0 ≤ i ∧ i ≤ 1000 ∧ a.length ≤ 1000) ∧ k (.tup (List.replicate i.toNat a).flatten)
  | _, _ => False
theorem DenL.rep {W : Cn} {dr : Dr} {A : Addr → Prop} {H : Hp} {ds : List D} {vs : List V} (h : DenL W dr A H ds vs) : ∀ k : Nat, DenL W dr A H (List.replicate k ds).flatten (List.replicate k vs).flatten
  | 0 => .nil
  | k + 1 => by
    rw [List.replicate_succ, List.replicate_succ, List.flatten_cons, List.flatten_cons]
    exact h.append (DenL.rep h k)
theorem sim_repA {X : Cx} {T : List (Addr × Str)} : SimR (cn X T) (rRepA X.K) dMulT := fun c A L G σ H x y u v Q Qh env hx hy hf k => by
  unfold dMulT at hf
  split at hf
  · rename_i a i
    obtain ⟨⟨h1, h2, h3, h4⟩, hq⟩ := hf
    have hx := hx.tup
    have hx' := hx
    rw [Den] at hx
    obtain ⟨p, vs, rfl, e1, e2⟩ := hx
    refine ⟨p, i, vs, rfl, hy.int, e1, fun z => h1 (List.length_eq_zero_iff.mp (by rw [e2.length, z]; rfl)), h2, h3, by rw [← e2.length]; exact h4, fun z => ?_, fun z p hp => ?_⟩
    · subst z
      refine k _ _ H (.refl env) hx' ?_
      have e : (List.replicate (1 : Int).toNat a).flatten = a := by
        show (List.replicate 1 a).flatten = a
        simp
      rw [e] at hq
      exact hq
    · have po := Post.new env (p := p) (o := .tup (List.replicate i.toNat vs).flatten) hp
      refine k _ _ _ po ?_ hq
      rw [Den]
      exact ⟨p, _, rfl, .of upd_same, (e2.rep _).post po env.draw⟩
  · exact hf.elim
theorem je_mulT {X : Cx} {T : List (Addr × Str)} {E : XK} {a b : Expr} {ma mb : VE} {pos : Pos} (ha : JP X T E a ma) (hb : JP X T E b mb) : JE X T E (.BinOp a .Mult b pos) (vOp dMulT ma mb) := je_op op_repA sim_repA ha hb
end VL
set_option Elab.async false
set_option autoImplicit false
set_option linter.all false
set_option maxRecDepth 100000
set_option maxHeartbeats 2000000
namespace VL
open PySem PySem.Spec PyProof.Rows L2
section
variable {X : Cx} {T : List (Addr × Str)} {E : XK} {e a b c' : Expr} {es rest : List Expr} {m ma mb mc : VE} {n na nb : VT} {r : VA} {p pos : Pos} {kk : Nat}
/-! ### new lists: sums, multiples, cuts -/
/-- an operation that gives a new list -/
def SimRF (W : Cn) (r : R2) (f : V2) : Prop := ∀ (c : Ctx) (A : Addr → Prop) (L : Lo) (G : Gs) (σ : L2.St) (H : Hp) (x y : D) (u v : V) (Q : D → Prop) (Qh : VK), Env W c A L G σ H → Rdn W c.dr A H x u → Rdn W c.dr A H y v → f x y Q →
  (∀ d p H', H p = none → Post W c.dr A H H' G → Body W c.dr (fun a => A a ∨ a = p) H' d p → Q d → Qh (.ref p) H') → r u v H Qh
theorem sim_opF {W : Cn} {r : R2} {f : V2} {ta tb : TE} (hr : SimRF W r f) (ha : SimP W E ta ma) (hb : SimP W E tb mb) : SimF W E (tOp r ta tb) (vOp f ma mb) := fun c A Ev L G σ H Q Qh hE env hm k =>
  ha c A Ev L G σ H _ _ hE env hm fun x u G1 H1 p1 d1 q1 => hb c A Ev L G1 σ H1 _ _ hE (env.to p1) q1 fun y v G2 H2 p2 d2 q2 =>
    hr c A L G2 σ H2 x y u v (fun z => Q z G2) Qh ((env.to p1).to p2) (d1.post (env.to p1) p2) d2 q2 fun d w H3 hw p3 d3 q3 => k d w G2 H2 G2 H3 (p1.trans p2) hw p3 d3 q3
def dCat : V2 := fun x y k => match x, y with
  | .lst a, .lst b => a.length + b.length ≤ lineN ∧ k (.lst (a ++ b))
  | _, _ => False
theorem sim_cat {W : Cn} : SimRF W rCat dCat := fun c A L G σ H x y u v Q Qh env hx hy hf k => by
  unfold dCat at hf
  split at hf
  · obtain ⟨p, vs, rfl, _, h1, h2⟩ := hx.lst
    obtain ⟨q, ws, rfl, _, h3, h4⟩ := hy.lst
    exact ⟨p, q, vs, ws, rfl, rfl, h1, h3, line_le (by rw [← h2.length, ← h4.length]; exact hf.1), fun z hz => k _ z _ hz (Post.new env hz) (body_new env hz (h2.append h4)) hf.2⟩
  · exact hf.elim
theorem jf_cat (ha : JP X T E a ma) (hb : JP X T E b mb) : JF X T E (.BinOp a .Add b pos) (vOp dCat ma mb) := by
  obtain ⟨ta, a1, a2⟩ := ha.ex
  obtain ⟨tb, b1, b2⟩ := hb.ex
  exact ⟨_, pe_op op_cat a1 b1, sim_opF sim_cat a2 b2⟩
def dRep : V2 := fun x y k => match x, y with
  | .lst a, .int i => (-(2 ^ 62) ≤ i ∧ i < 2 ^ 62 ∧ a.length * i.toNat ≤ lineN) ∧ k (.lst (List.replicate i.toNat a).flatten)
  | _, _ => False
theorem sim_rep {W : Cn} : SimRF W rRep dRep := fun c A L G σ H x y u v Q Qh env hx hy hf k => by
  unfold dRep at hf
  split at hf
  · rename_i a i
    obtain ⟨p, vs, rfl, _, h1, h2⟩ := hx.lst
    obtain ⟨⟨h3, h4, h5⟩, hq⟩ := hf
    exact ⟨p, i, vs, rfl, hy.int, h1, by omega, by omega, line_le (by rw [← h2.length]; exact h5), fun z hz => k _ z _ hz (Post.new env hz) (body_new env hz (h2.rep _)) hq⟩
  · exact hf.elim
theorem jf_rep (ha : JP X T E a ma) (hb : JP X T E b mb) : JF X T E (.BinOp a .Mult b pos) (vOp dRep ma mb) := by
  obtain ⟨ta, a1, a2⟩ := ha.ex
  obtain ⟨tb, b1, b2⟩ := hb.ex
  exact ⟨_, pe_op op_rep a1 b1, sim_opF sim_rep a2 b2⟩
/-- x[lo:hi] of a list: a new list -/
def vSlL (m : VE) (lo hi : VO) : VE := fun Ev L G Q => m Ev L G fun x G1 => lo Ev L G1 fun l G2 => hi Ev L G2 fun h G3 => match x with
  | .lst ds => Q (.lst (cutD ds l h)) G3
  | _ => False
theorem jf_sl {lo hi : Option Expr} {l h : VO} {p2 : Pos} (ha : JP X T E a m) (hl : JO X T E lo l) (hh : JO X T E hi h) : JF X T E (.Subscript a (.Slice lo hi none p2) pos) (vSlL m l h) := by
  obtain ⟨ta, a1, a2⟩ := ha.ex
  obtain ⟨tl, l1, l2⟩ := hl.ex
  obtain ⟨th, h1, h2⟩ := hh.ex
  refine ⟨_, pe_slice sl_list a1 l1 h1, fun c A Ev L G σ H Q Qh hE env hm k => a2 c A Ev L G σ H _ _ hE env hm fun x v G1 H1 p1 d1 q1 =>
    l2 c A Ev L G1 σ H1 _ _ hE (env.to p1) q1 fun lo G2 H2 p2 q2 => h2 c A Ev L G2 σ H2 _ _ hE ((env.to p1).to p2) q2 fun hi G3 H3 p3 q3 => ?_⟩
  split at q3
  · have env2 := (env.to p1).to p2
    have env3 := env2.to p3
    obtain ⟨p, vs, rfl, _, e1, e2⟩ := ((d1.post (env.to p1) p2).post env2 p3).lst
    exact ⟨p, vs, rfl, .of e1, fun z hz => k _ z G3 H3 G3 _ ((p1.trans p2).trans p3) hz (Post.new env3 hz) (body_new env3 hz (cut_den e2 lo hi)) q3⟩
  · exact q3.elim
/-! ### calls of defs -/
/-- the promise of a def on values, as one over the heap -/
def spOf (W : Cn) (sp : SpD) : Sp := fun vs H Q E => ∃ (dr : Dr) (A : Addr → Prop) (G : Gs) (ds : List D) (Qd : D → Gs → Prop) (Ed : EK), DrawOk W dr A G H ∧ LamX.Tabs W.T H ∧ (∀ a, A a → ∃ o, H a = some o ∧ MutO o) ∧ ¬ A dr.1 ∧ DenL W dr A H ds vs ∧
  sp ds G Qd Ed ∧ (∀ d G' v H', Qd d G' → Post W dr A H H' G' → Den W dr A H' d v → Q v H') ∧ (∀ er G' cls dd H', Ed er G' → Post W dr A H H' G' → ErrIs W er cls dd H' → E cls dd H')
def vDef (sp : SpD) (r : VA) : VE := fun Ev L G Q => r Ev L G fun ds G1 => sp ds G1 Q Ev
/-- what is wished of an exception, from behind some expressions -/
theorem ErrOk.at {W : Cn} {c : Ctx} {A : Addr → Prop} {L : Lo} {G : Gs} {σ : L2.St} {H : Hp} {Ev : EK} (hE : ErrOk W c E Ev) (env : Env W c A L G σ H) : ∀ er G' cls dd H', Ev er G' → Post W c.dr A H H' G' → ErrIs W er cls dd H' → E cls dd H' := fun er G' cls dd H' q po he => by
  have env2 := env.to po
  refine hE er G' cls dd H' ⟨env2.ext, ?_, env2.tabs⟩ he q
  obtain ⟨e1, e2, e3, e4⟩ := env2.draw
  exact ⟨e1, e2, fun z => e3 (env2.base _ z), e4⟩
theorem spOf_at {W : Cn} {sp : SpD} {c : Ctx} {A : Addr → Prop} {L : Lo} {G : Gs} {σ : L2.St} {H : Hp} {ds : List D} {vs : List V} {Q : D → Gs → Prop} {Ev : EK} {Qh : VK} (hE : ErrOk W c E Ev) (env : Env W c A L G σ H) (hd : DenL W c.dr A H ds vs) (h : sp ds G Q Ev)
    (k : ∀ d v G' H', Post W c.dr A H H' G' → Den W c.dr A H' d v → Q d G' → Qh v H') : spOf W sp vs H Qh E :=
  ⟨c.dr, A, G, ds, Q, Ev, env.draw, env.tabs, env.own, env.adr, hd, h, fun d G' v H' q po dv => k d v G' H' po dv q, hE.at env⟩
theorem sim_def {W : Cn} {sp : SpD} {ta : TA} (ha : SimA W E ta r) : SimE W E (tCall (spOf W sp) [] E ta) (vDef sp r) := fun c A Ev L G σ H Q Qh hE env hm k =>
  ha c A Ev L G σ H _ _ hE env hm fun ds vs G1 H1 p1 d1 q1 => by
    show spOf W sp (vs ++ []) H1 Qh E
    rw [List.append_nil]
    exact spOf_at hE (env.to p1) d1 q1 fun d v G' H' po dv q => k d v G' H' (p1.trans po) dv q
abbrev CXe (X : Cx) : CXT := L2.CX X.prog X.w
theorem je_call {f : Addr} {fd : FuncData} {ps : List Str} {sp : SpD} {k : Nat} {x : Str} (F : FnOk X.prog X.w X.K X.mg X.base (CXe X) k f fd ps (spOf (cn X T) sp)) (hr : Room k X.A) (hm : X.mg x = some (.ref f)) (hk : PySem.W.keepIn X.K (.ref f) = true) (hb : Binds X.K fd ps []) (hx : Passes (CXe X) X E)
    (ha : JA X T E (e :: es) r) (hg : Gl X x := by rfl) (hdb : (x == ("__debug__" : Str)) = false := by decide) (he : starEach (e :: es) X.env = (false, eval e X.env) :: starEach es X.env := by rfl) (hpl : (backTo pos (starEach es X.env)).any (·.1) = false := by rfl) :
    JE X T E (.Call (.Name x p) (e :: es) [] pos) (vDef sp r) := by
  obtain ⟨t, h1, h2⟩ := ha.ex
  exact ⟨_, pe_call F hr hg hm hk hb .nil hx h1 hdb he hpl, sim_def h2⟩
structure JK (X : Cx) (T : List (Addr × Str)) (E : XK) (kws : List Keyword) (m : VA) : Prop where
  ex : ∃ t, PK X kws t ∧ SimA (cn X T) E t m
theorem jk_nil : JK X T E [] vNil := ⟨_, pk_nil, fun c A Ev L G σ H Q Qh hE env hm k => k [] [] G H (.refl env) .nil hm⟩
theorem jk_cons {kws : List Keyword} {nm : Option Str} {kpos : Pos} (h : JE X T E e m) (hr : JK X T E kws r) : JK X T E (⟨nm, e, kpos⟩ :: kws) (vCons m r) := by
  obtain ⟨t, h1, h2⟩ := h.ex
  obtain ⟨tr, r1, r2⟩ := hr.ex
  exact ⟨_, pk_cons h1 r1, fun c A Ev L G σ H Q Qh hE env hm k => h2 c A Ev L G σ H _ _ hE env hm fun x v G1 H1 p1 d1 q1 =>
    r2 c A Ev L G1 σ H1 _ _ hE (env.to p1) q1 fun ds vs G2 H2 p2 d2 q2 => k _ _ G2 H2 (p1.trans p2) (.cons (d1.post p2 (env.to p1).draw) d2) q2⟩
/-- the j-th of the parameters is the (perm j)-th of the keywords -/
def permD {α : Type} (perm : List Nat) (xs : List α) : List α := perm.filterMap fun i => xs[i]?
theorem perm_den {W : Cn} {dr : Dr} {A : Addr → Prop} {H : Hp} {ds : List D} {vs : List V} (h : DenL W dr A H ds vs) : ∀ perm : List Nat, DenL W dr A H (permD perm ds) (permD perm vs)
  | [] => .nil
  | i :: perm => by
    unfold permD
    rw [List.filterMap_cons, List.filterMap_cons]
    cases e : ds[i]? with
    | none =>
      have e2 : vs[i]? = none := by
        rw [List.getElem?_eq_none_iff] at e ⊢
        rw [← h.length]
        exact e
      rw [e2]
      exact perm_den h perm
    | some d =>
      obtain ⟨v, e2, e3⟩ := h.get e
      rw [e2]
      exact .cons e3 (perm_den h perm)
def vDefK (sp : SpD) (perm : List Nat) (r : VA) : VE := fun Ev L G Q => r Ev L G fun ds G1 => sp (permD perm ds) G1 Q Ev
theorem perm_vals : ∀ (perm : List Nat) {zs : List V} {ws : List Value}, Vals zs ws → Vals (permD perm zs) (permD perm ws)
  | [], _, _, _ => .nil
  | i :: perm, zs, ws, h => by
    unfold permD
    rw [List.filterMap_cons, List.filterMap_cons]
    cases e : zs[i]? with
    | none =>
      rw [h.none_of e]
      exact perm_vals perm h
    | some d =>
      obtain ⟨v, e2, e3⟩ := h.get e
      rw [e2]
      exact .cons e3 (perm_vals perm h)
theorem je_callK {f : Addr} {fd : FuncData} {ps ks : List Str} {sp : SpD} {k : Nat} {x : Str} {kws : List Keyword} {perm : List Nat} (F : FnOk X.prog X.w X.K X.mg X.base (CXe X) k f fd ps (spOf (cn X T) sp)) (hr : Room k X.A) (hm : X.mg x = some (.ref f)) (hk : PySem.W.keepIn X.K (.ref f) = true)
    (hb : ∀ (s : Shared) (us ws : List Value), us = [] → (permD perm ws).length = ps.length → BindsTo s fd ⟨us, ks.zip ws⟩ (ps.zip (permD perm ws))) (hx : Passes (CXe X) X E) (hkw : JK X T E kws r) (hg : Gl X x := by rfl) (hall : (backToKw pos (keywordEach kws X.env)).all (·.1.isSome) = true := by rfl) (hks : (backToKw pos (keywordEach kws X.env)).filterMap (·.1) = ks := by rfl)
    (hdb : (x == ("__debug__" : Str)) = false := by decide) (hpl : ((backTo pos (starEach [] X.env)).any (·.1) || (backToKw pos (keywordEach kws X.env)).any (·.1.isNone)) = false := by rfl) :
    JE X T E (.Call (.Name x p) [] kws pos) (vDefK sp perm r) := by
  obtain ⟨t, h1, h2⟩ := hkw.ex
  refine ⟨fun σ H Q => t σ H fun zs H2 => spOf (cn X T) sp (permD perm zs) H2 Q E, ⟨fun pins s σ H Q I h => ?_⟩, fun c A Ev L G σ H Q Qh hE env hm k => h2 c A Ev L G σ H _ _ hE env hm fun ds vs G1 H1 p1 d1 q1 => spOf_at hE (env.to p1) (perm_den d1 perm) q1 fun d v G' H' po dv q => k d v G' H' (p1.trans po) dv q⟩
  refine wpAny_Call_Name_kw (ld_glob I hg hm ?_ hdb)
  refine PySem.W.callWith_KW0 (h₀ := X.base) I.ok.mod.kin hk hall (thn (h1.run pos pins s σ H _ I h) fun ws s2 ⟨zs, H2, I2, rz, q2⟩ => ⟨I2.kIn, ?_⟩) hpl
  rw [hks]
  have rp := perm_vals perm rz
  have hl : (permD perm ws).length = ps.length := by
    rw [← rp.length]
    exact F.len _ _ _ _ q2
  refine wpAny_call (codeAny_mono (F.run X.A X.stack s2 H2 ⟨[], ks.zip ws⟩ (permD perm ws) (permD perm zs) Q E hr I2.env0 (hb s2 [] ws rfl hl) rp q2) fun r s' hq => ?_)
  cases r with
  | error e => exact hx pins σ H2 s2 e s' I2 hq
  | ok fl =>
    cases fl with
    | ret u => exact I2.after hq
    | next => exact False.elim hq
    | brk => exact False.elim hq
    | cont => exact False.elim hq
end
end VL
set_option Elab.async false
set_option autoImplicit false
set_option linter.all false
set_option maxRecDepth 100000
set_option maxHeartbeats 2000000
namespace VL
open PySem PySem.Spec PyProof.Rows L2
/-! ### statements -/
structure VEnds where
  nx : Lo → Gs → Prop
  rt : D → Gs → Prop
  bk : Lo → Gs → Prop := fun _ _ => False
  ct : Lo → Gs → Prop := fun _ _ => False
abbrev VS := EK → VEnds → Lo → Gs → Prop
structure EndsOk (W : Cn) (c : Ctx) (Dv : VEnds) (D : Ends) : Prop where
  nx : ∀ A L G σ H, Env W c A L G σ H → Dv.nx L G → D.nx σ H
  bk : ∀ A L G σ H, Env W c A L G σ H → Dv.bk L G → D.bk σ H
  ct : ∀ A L G σ H, Env W c A L G σ H → Dv.ct L G → D.ct σ H
  rt : ∀ d v G H, Post W c.dr c.B c.He H G → Den W c.dr c.B H d v → Dv.rt d G → D.rt v H
def SimS (W : Cn) (E : XK) (t : TS) (m : VS) : Prop := ∀ (c : Ctx) (A : Addr → Prop) (Ev : EK) (L : Lo) (G : Gs) (σ : L2.St) (H : Hp) (Dv : VEnds) (D : Ends), ErrOk W c E Ev → EndsOk W c Dv D → Env W c A L G σ H → m Ev Dv L G → t D σ H
structure JS (X : Cx) (T : List (Addr × Str)) (E : XK) (st : Stmt) (m : VS) : Prop where
  ex : ∃ t, PS X st t ∧ SimS (cn X T) E t m
structure JSs (X : Cx) (T : List (Addr × Str)) (E : XK) (sts : List Stmt) (m : VS) : Prop where
  ex : ∃ t, PSs X sts t ∧ SimS (cn X T) E t m
section
variable {W : Cn} {c : Ctx} {A : Addr → Prop} {L L' : Lo} {G G' : Gs} {σ σ' : L2.St} {H H' : Hp}
/-- other slots, each an old one or nothing -/
theorem Env.reslot (E : Env W c A L G σ H) (f : Nat → Nat) (hl : L'.length = σ'.length) (hs : ∀ (i : Nat) (s : Slot), L'[i]? = some s → s = .no ∨ (L[f i]? = some s ∧ σ'[i]? = σ[f i]?)) (hi : ∀ (i j : Nat) (s t : Slot), L'[i]? = some s → L'[j]? = some t → isOwn s → isOwn t → f i = f j → i = j)
    (hk : ∀ (i : Nat) (a : Addr) (d : D), L[i]? = some (.lck d) → σ[i]? = some (some (.ref a)) → L'[i]? = some (.lck d) ∧ σ'[i]? = some (some (.ref a))) : Env W c A L' G σ' H where
  ext := E.ext
  draw := E.draw
  tabs := E.tabs
  base := E.base
  bdom := E.bdom
  own := E.own
  adr := E.adr
  len := hl
  slots := fun i s h => by
    rcases hs i s h with e | ⟨e1, e2⟩
    · rw [e]
      exact True.intro
    · rw [e2]
      exact E.slots (f i) s e1
  inj := fun i j s t a h1 h2 o1 o2 e1 e2 => by
    rcases hs i s h1 with e | ⟨q1, q2⟩
    · rw [e] at o1
      exact o1.elim
    · rcases hs j t h2 with e | ⟨q3, q4⟩
      · rw [e] at o2
        exact o2.elim
      · exact hi i j s t h1 h2 o1 o2 (E.inj (f i) (f j) s t a q1 q3 o1 o2 (q2 ▸ e1) (q4 ▸ e2))
  tmp := fun t ht => by
    have q := E.tmp t ht
    cases t with
    | den d v => exact q
    | lock i a d =>
      obtain ⟨q1, q2, q3⟩ := q
      obtain ⟨r1, r2⟩ := hk i a d q1 q2
      exact ⟨r1, r2, q3⟩
def noLck (L : Lo) (i : Nat) : Prop := ∀ d, L[i]? ≠ some (.lck d)
/-- a value is stored -/
theorem Env.setVal (E : Env W c A L G σ H) {i : Nat} {d : D} {v : V} (hn : noLck L i) (hd : Den W c.dr A H d v) : Env W c A (L.set i (.val d)) G (σ.set i (some v)) H where
  ext := E.ext
  draw := E.draw
  tabs := E.tabs
  base := E.base
  bdom := E.bdom
  own := E.own
  adr := E.adr
  len := by rw [List.length_set, List.length_set]; exact E.len
  slots := fun j s h => by
    by_cases e : i = j
    · subst e
      have hl : i < L.length := by
        have q := (List.getElem?_eq_some_iff.mp h).1
        rw [List.length_set] at q
        exact q
      rw [List.getElem?_set_self hl] at h
      cases h
      exact ⟨v, List.getElem?_set_self (by rw [← E.len]; exact hl), hd⟩
    · rw [List.getElem?_set_ne e] at h
      rw [List.getElem?_set_ne e]
      exact E.slots j s h
  inj := fun j k s t a h1 h2 o1 o2 e1 e2 => by
    have ne : ∀ {j : Nat} {s : Slot}, (L.set i (.val d))[j]? = some s → isOwn s → i ≠ j := fun {j s} h o e => by
      subst e
      have hl : i < L.length := by
        have q := (List.getElem?_eq_some_iff.mp h).1
        rw [List.length_set] at q
        exact q
      rw [List.getElem?_set_self hl] at h
      cases h
      exact o
    have n1 := ne h1 o1
    have n2 := ne h2 o2
    rw [List.getElem?_set_ne n1] at h1 e1
    rw [List.getElem?_set_ne n2] at h2 e2
    exact E.inj j k s t a h1 h2 o1 o2 e1 e2
  tmp := fun t ht => by
    have q := E.tmp t ht
    cases t with
    | den d v => exact q
    | lock j a d =>
      obtain ⟨q1, q2, q3⟩ := q
      have ne : i ≠ j := fun e => hn d (e ▸ q1)
      exact ⟨by rw [List.getElem?_set_ne ne]; exact q1, by rw [List.getElem?_set_ne ne]; exact q2, q3⟩
/-- a new list or dict becomes one's own, in a hidden slot -/
theorem Env.push (E : Env W c A L G σ H) {p : Addr} {H1 H2 : Hp} {G1 G2 : Gs} {d : D} (p1 : Post W c.dr A H H1 G1) (hp : H1 p = none) (p2 : Post W c.dr A H1 H2 G2) (hb : Body W c.dr (fun a => A a ∨ a = p) H2 d p) : Env W c (fun a => A a ∨ a = p) (L ++ [.own d]) G2 (σ ++ [some (.ref p)]) H2 := by
  have E1 := E.to p1
  have E2 := E1.to p2
  have nA := E1.nA hp
  have nD := E1.nD hp
  have nB : ¬ c.B p := fun z => nA (E1.base p z)
  have kp : Kp c.dr A H1 H2 := p2.ext.kp E1.draw
  have hA : ∀ a, (A a ∨ a = p) → A a ∨ H1 a = none := fun a h => h.elim .inl fun e => .inr (e ▸ hp)
  have hNew : NewTo c p := ⟨nB, fun o q t => by
    have z := E1.ext p o q nD t
    rw [hp] at z
    cases z⟩
  have hB : ∀ {a : Addr} {e : D}, A a → Body W c.dr A H1 e a → Body W c.dr (fun a => A a ∨ a = p) H2 e a := fun {a e} ha hb => Body.kp kp hA (fun o q => by
    obtain ⟨u, e2, m⟩ := E1.own a ha
    rw [q] at e2
    cases e2
    exact p2.ext a o q (E1.ne ha) fun ps z => by rw [z] at m; exact m) hb
  have hi : ∀ {i : Nat} {s : Slot}, (L ++ [.own d])[i]? = some s → (i < L.length ∧ L[i]? = some s ∧ (σ ++ [some (.ref p)])[i]? = σ[i]?) ∨ (i = L.length ∧ s = .own d ∧ (σ ++ [some (.ref p)])[i]? = some (some (.ref p))) := fun {i s} h => by
    by_cases hl : i < L.length
    · rw [List.getElem?_append_left hl] at h
      exact .inl ⟨hl, h, List.getElem?_append_left (by rw [← E.len]; exact hl)⟩
    · have hl2 := (List.getElem?_eq_some_iff.mp h).1
      rw [List.length_append] at hl2
      have e : i = L.length := by
        simp only [List.length_cons, List.length_nil] at hl2
        omega
      subst e
      rw [List.getElem?_append_right (Nat.le_refl _), Nat.sub_self] at h
      cases h
      refine .inr ⟨rfl, rfl, ?_⟩
      rw [E.len, List.getElem?_append_right (Nat.le_refl _), Nat.sub_self]
      rfl
  have ownA : ∀ {i : Nat} {s : Slot} {a : Addr}, L[i]? = some s → isOwn s → σ[i]? = some (some (.ref a)) → A a := fun {i s a} h o e => by
    have q := E.slots i s h
    cases s with
    | no => exact o.elim
    | val _ => exact o.elim
    | own d =>
      obtain ⟨b, e1, e2, _⟩ := q
      rw [e] at e1
      cases e1
      exact e2
    | lck d =>
      obtain ⟨b, e1, e2, _⟩ := q
      rw [e] at e1
      cases e1
      exact e2
  exact {
    ext := E2.ext
    draw := by
      obtain ⟨e1, e2, e3, e4⟩ := E2.draw
      obtain ⟨f1, f2, f3, f4⟩ := E1.draw
      refine ⟨e1, e2, fun z => z.elim e3 fun e => ?_, e4⟩
      rw [e, hp] at f2
      cases f2
    tabs := E2.tabs
    base := fun a h => .inl (E2.base a h)
    bdom := E2.bdom
    own := fun a h => h.elim (E2.own a) fun e => by
      subst e
      cases d with
      | lst ds =>
        obtain ⟨vs, h1, _⟩ := hb
        exact ⟨_, h1, True.intro⟩
      | dct ks ds =>
        obtain ⟨vs, h1, _⟩ := hb
        exact ⟨_, h1, True.intro⟩
      | _ => exact hb.elim
    adr := fun h => h.elim E2.adr fun e => nD e.symm
    len := by
      rw [List.length_append, List.length_append, E2.len]
      rfl
    slots := fun i s h => by
      rcases hi h with ⟨_, h1, e⟩ | ⟨_, rfl, e⟩
      · rw [e]
        have q := E1.slots i s h1
        cases s with
        | no => exact q
        | val d =>
          obtain ⟨v, e1, h2⟩ := q
          exact ⟨v, e1, Den.kp kp hA _ _ h2⟩
        | own d =>
          obtain ⟨a, e1, h2, h3, h4⟩ := q
          exact ⟨a, e1, .inl h2, h3, hB h2 h4⟩
        | lck d =>
          obtain ⟨a, e1, h2, h3, h4⟩ := q
          exact ⟨a, e1, .inl h2, h3, hB h2 h4⟩
      · exact ⟨p, e, .inr rfl, hNew, hb⟩
    inj := fun i j s t a h1 h2 o1 o2 e1 e2 => by
      rcases hi h1 with ⟨_, q1, r1⟩ | ⟨l1, rfl, r1⟩
      · rcases hi h2 with ⟨_, q2, r2⟩ | ⟨l2, rfl, r2⟩
        · exact E.inj i j s t a q1 q2 o1 o2 (r1 ▸ e1) (r2 ▸ e2)
        · have z := ownA q1 o1 (r1 ▸ e1)
          rw [r2] at e2
          cases e2
          exact (nA z).elim
      · rcases hi h2 with ⟨_, q2, r2⟩ | ⟨l2, rfl, r2⟩
        · have z := ownA q2 o2 (r2 ▸ e2)
          rw [r1] at e1
          cases e1
          exact (nA z).elim
        · rw [l1, l2]
    tmp := fun t ht => by
      have q := E1.tmp t ht
      cases t with
      | den d v => exact Den.kp kp hA _ _ (show Den W c.dr A H1 d v from q)
      | lock i a d =>
        obtain ⟨q1, q2, q3⟩ := q
        have hl := (List.getElem?_eq_some_iff.mp q1).1
        exact ⟨by rw [List.getElem?_append_left hl]; exact q1, by rw [List.getElem?_append_left (by rw [← E.len]; exact hl)]; exact q2, q3⟩ }
/-- a value, in a hidden slot -/
theorem Env.pushVal (E : Env W c A L G σ H) {d : D} {v : V} (hd : Den W c.dr A H d v) : Env W c A (L ++ [.val d]) G (σ ++ [some v]) H := by
  have hi : ∀ {i : Nat} {s : Slot}, (L ++ [.val d])[i]? = some s → (i < L.length ∧ L[i]? = some s ∧ (σ ++ [some v])[i]? = σ[i]?) ∨ (i = L.length ∧ s = .val d ∧ (σ ++ [some v])[i]? = some (some v)) := fun {i s} h => by
    by_cases hl : i < L.length
    · rw [List.getElem?_append_left hl] at h
      exact .inl ⟨hl, h, List.getElem?_append_left (by rw [← E.len]; exact hl)⟩
    · have hl2 := (List.getElem?_eq_some_iff.mp h).1
      rw [List.length_append] at hl2
      have e : i = L.length := by
        simp only [List.length_cons, List.length_nil] at hl2
        omega
      subst e
      rw [List.getElem?_append_right (Nat.le_refl _), Nat.sub_self] at h
      cases h
      refine .inr ⟨rfl, rfl, ?_⟩
      rw [E.len, List.getElem?_append_right (Nat.le_refl _), Nat.sub_self]
      rfl
  exact {
    ext := E.ext
    draw := E.draw
    tabs := E.tabs
    base := E.base
    bdom := E.bdom
    own := E.own
    adr := E.adr
    len := by
      rw [List.length_append, List.length_append, E.len]
      rfl
    slots := fun i s h => by
      rcases hi h with ⟨_, h1, e⟩ | ⟨_, rfl, e⟩
      · rw [e]
        exact E.slots i s h1
      · exact ⟨v, e, hd⟩
    inj := fun i j s t a h1 h2 o1 o2 e1 e2 => by
      rcases hi h1 with ⟨_, q1, r1⟩ | ⟨l1, rfl, r1⟩
      · rcases hi h2 with ⟨_, q2, r2⟩ | ⟨l2, rfl, r2⟩
        · exact E.inj i j s t a q1 q2 o1 o2 (r1 ▸ e1) (r2 ▸ e2)
        · exact o2.elim
      · exact o1.elim
    tmp := fun t ht => by
      have q := E.tmp t ht
      cases t with
      | den d v => exact q
      | lock i a d =>
        obtain ⟨q1, q2, q3⟩ := q
        have hl := (List.getElem?_eq_some_iff.mp q1).1
        exact ⟨by rw [List.getElem?_append_left hl]; exact q1, by rw [List.getElem?_append_left (by rw [← E.len]; exact hl)]; exact q2, q3⟩ }
/-- without the hidden slots -/
theorem Env.pop {M : Lo} {τ : L2.St} (E : Env W c A (L ++ M) G (σ ++ τ) H) (hl : L.length = σ.length) (hk : ∀ s ∈ M, ¬ ∃ d, s = .lck d) : Env W c A L G σ H :=
  E.reslot id hl (fun i s h => .inr ⟨by rw [id, List.getElem?_append_left (List.getElem?_eq_some_iff.mp h).1]; exact h, by rw [id, List.getElem?_append_left (by rw [← hl]; exact (List.getElem?_eq_some_iff.mp h).1)]⟩)
    (fun i j s t _ _ _ _ e => e) fun i a d h1 h2 => by
      have hi : i < L.length := by
        refine Classical.byContradiction fun z => ?_
        rw [List.getElem?_append_right (by omega)] at h1
        exact hk _ (List.mem_of_getElem? h1) ⟨d, rfl⟩
      rw [List.getElem?_append_left hi] at h1
      rw [List.getElem?_append_left (by rw [← hl]; exact hi)] at h2
      exact ⟨h1, h2⟩
/-- an own list, an own dict is changed -/
theorem Env.mut (E : Env W c A L G σ H) {i : Nat} {d d' : D} {a : Addr} {o : HO} (hs : L[i]? = some (.own d)) (hσ : σ[i]? = some (some (.ref a))) (hm : MutO o) (hb : Body W c.dr A (upd H a o) d' a) : Env W c A (L.set i (.own d')) G σ (upd H a o) := by
  obtain ⟨b, e0, hA, hN, hB0⟩ := E.slots i _ hs
  rw [hσ] at e0
  cases e0
  obtain ⟨o0, ho0, hm0⟩ := E.own a hA
  have nd := E.ne hA
  have neM : ∀ {b : Addr} {u : HO}, H b = some u → ¬ MutO u → b ≠ a := fun {b u} h n e => by
    rw [e, ho0] at h
    cases h
    exact n hm0
  have kp : Kp c.dr A H (upd H a o) := ⟨fun b u h n _ _ => by rw [upd_ne (show b ≠ a from fun e => n (by rw [e]; exact hA))]; exact h, fun b xs h => by rw [upd_ne (neM h id)]; exact h, fun b xs h => by rw [upd_ne (neM h id)]; exact h, fun b xs h => by rw [upd_ne (neM h id)]; exact h, fun b xs u h => by rw [upd_ne (neM h id)]; exact h⟩
  have hl := (List.getElem?_eq_some_iff.mp hs).1
  have hB : ∀ {b : Addr} {e : D}, b ≠ a → Body W c.dr A H e b → Body W c.dr A (upd H a o) e b := fun {b e} n h => Body.kp kp (fun _ z => .inl z) (fun u q => by rw [upd_ne n]; exact q) h
  have other : ∀ {j : Nat} {s : Slot} {b : Addr}, i ≠ j → L[j]? = some s → isOwn s → σ[j]? = some (some (.ref b)) → b ≠ a := fun {j s b} n h os e z => n (E.inj i j _ s a hs h True.intro os hσ (z ▸ e))
  refine ⟨fun b u h n t => ?_, ?_, ?_, E.base, E.bdom, fun b hb => ?_, E.adr, by rw [List.length_set]; exact E.len, fun j s h => ?_, fun j k s t b h1 h2 o1 o2 e1 e2 => ?_, fun t ht => ?_⟩
  · have ne : b ≠ a := fun e => hN.2 u (e ▸ h) t
    rw [upd_ne ne]
    exact E.ext b u h n t
  · obtain ⟨e1, e2, e3, e4⟩ := E.draw
    exact ⟨by rw [upd_ne (Ne.symm nd)]; exact e1, by rw [upd_ne (show c.dr.2 ≠ a from fun e => e3 (by rw [e]; exact hA))]; exact e2, e3, e4⟩
  · intro p hp
    obtain ⟨ps, h1, h2, h3⟩ := E.tabs p hp
    refine ⟨ps, by rw [upd_ne (neM h1 id)]; exact h1, h2, fun pos cv hc => ?_⟩
    obtain ⟨c', e1, e2⟩ := h3 pos cv hc
    exact ⟨c', e1, by rw [upd_ne (neM e2 id)]; exact e2⟩
  · by_cases e : b = a
    · subst e
      exact ⟨o, upd_same, hm⟩
    · rw [upd_ne e]
      exact E.own b hb
  · by_cases e : i = j
    · subst e
      rw [List.getElem?_set_self hl] at h
      cases h
      exact ⟨a, hσ, hA, hN, hb⟩
    · rw [List.getElem?_set_ne e] at h
      have q := E.slots j s h
      cases s with
      | no => exact q
      | val d =>
        obtain ⟨v, e1, h2⟩ := q
        exact ⟨v, e1, Den.kp kp (fun _ z => .inl z) _ _ h2⟩
      | own d =>
        obtain ⟨b, e1, h2, h3, h4⟩ := q
        exact ⟨b, e1, h2, h3, hB (other e h True.intro e1) h4⟩
      | lck d =>
        obtain ⟨b, e1, h2, h3, h4⟩ := q
        exact ⟨b, e1, h2, h3, hB (other e h True.intro e1) h4⟩
  · have back : ∀ {j : Nat} {s : Slot}, (L.set i (.own d'))[j]? = some s → isOwn s → ∃ s', L[j]? = some s' ∧ isOwn s' := fun {j s} h os => by
      by_cases e : i = j
      · subst e
        exact ⟨_, hs, True.intro⟩
      · rw [List.getElem?_set_ne e] at h
        exact ⟨s, h, os⟩
    obtain ⟨s1, q1, r1⟩ := back h1 o1
    obtain ⟨s2, q2, r2⟩ := back h2 o2
    exact E.inj j k s1 s2 b q1 q2 r1 r2 e1 e2
  · have q := E.tmp t ht
    cases t with
    | den d v => exact Den.kp kp (fun _ z => .inl z) _ _ (show Den W c.dr A H d v from q)
    | lock j b d =>
      obtain ⟨q1, q2, q3⟩ := q
      have ne : i ≠ j := fun e => by
        rw [← e, hs] at q1
        cases q1
      exact ⟨by rw [List.getElem?_set_ne ne]; exact q1, q2, q3⟩
/-- an own list is shared from now on -/
theorem Env.share (E : Env W c A L G σ H) {i : Nat} {d : D} (hs : L[i]? = some (.own d)) : ∃ A' : Addr → Prop, Env W c A' (L.set i (.val d)) G σ H := by
  obtain ⟨a, hσ, hA, hN, hB⟩ := E.slots i _ hs
  have hl := (List.getElem?_eq_some_iff.mp hs).1
  have sub : ∀ b, (A b ∧ b ≠ a) → A b := fun b h => h.1
  have hden : Den W c.dr (fun b => A b ∧ b ≠ a) H d (.ref a) := by
    have nd := E.ne hA
    cases d with
    | lst ds =>
      obtain ⟨vs, h1, h2⟩ := hB
      rw [Den]
      exact ⟨a, vs, rfl, fun z => z.2 rfl, nd, h1, h2.sub sub⟩
    | dct ks ds =>
      obtain ⟨vs, h1, h2, h3⟩ := hB
      rw [Den]
      exact ⟨a, vs, rfl, fun z => z.2 rfl, nd, h1, h2, h3.sub sub⟩
    | _ => exact hB.elim
  have back : ∀ {j : Nat} {s : Slot}, (L.set i (.val d))[j]? = some s → isOwn s → i ≠ j ∧ L[j]? = some s := fun {j s} h os => by
    by_cases e : i = j
    · subst e
      rw [List.getElem?_set_self hl] at h
      cases h
      exact os.elim
    · rw [List.getElem?_set_ne e] at h
      exact ⟨e, h⟩
  have sB : ∀ {b : Addr} {e : D}, Body W c.dr A H e b → Body W c.dr (fun b => A b ∧ b ≠ a) H e b := fun {b e} h => Body.kp Kp.refl (fun b z => .inl z.1) (fun _ q => q) h
  refine ⟨fun b => A b ∧ b ≠ a, ⟨E.ext, ?_, E.tabs, fun b h => ⟨E.base b h, fun e => hN.1 (e ▸ h)⟩, E.bdom, fun b h => E.own b h.1, fun h => E.adr h.1, by rw [List.length_set]; exact E.len, fun j s h => ?_, fun j k s t b h1 h2 o1 o2 e1 e2 => ?_, fun t ht => ?_⟩⟩
  · obtain ⟨e1, e2, e3, e4⟩ := E.draw
    exact ⟨e1, e2, fun z => e3 z.1, e4⟩
  · by_cases e : i = j
    · subst e
      rw [List.getElem?_set_self hl] at h
      cases h
      exact ⟨.ref a, hσ, hden⟩
    · rw [List.getElem?_set_ne e] at h
      have q := E.slots j s h
      cases s with
      | no => exact q
      | val d =>
        obtain ⟨v, e1, h2⟩ := q
        exact ⟨v, e1, h2.sub sub⟩
      | own d =>
        obtain ⟨b, e1, h2, h3, h4⟩ := q
        exact ⟨b, e1, ⟨h2, fun z => e (E.inj i j _ _ a hs h True.intro True.intro hσ (z ▸ e1))⟩, h3, sB h4⟩
      | lck d =>
        obtain ⟨b, e1, h2, h3, h4⟩ := q
        exact ⟨b, e1, ⟨h2, fun z => e (E.inj i j _ _ a hs h True.intro True.intro hσ (z ▸ e1))⟩, h3, sB h4⟩
  · exact E.inj j k s t b (back h1 o1).2 (back h2 o2).2 o1 o2 e1 e2
  · have q := E.tmp t ht
    cases t with
    | den d v => exact Den.sub sub (show Den W c.dr A H d v from q)
    | lock j b d =>
      obtain ⟨q1, q2, q3⟩ := q
      have ne : i ≠ j := fun e => by
        rw [← e, hs] at q1
        cases q1
      exact ⟨by rw [List.getElem?_set_ne ne]; exact q1, q2, q3⟩
end
end VL
set_option Elab.async false
set_option autoImplicit false
set_option linter.all false
set_option maxRecDepth 100000
set_option maxHeartbeats 2000000
namespace VL
open PySem PySem.Spec PyProof.Rows L2
/-- store a slot, unless a loop walks it -/
def setL (L : Lo) (i : Nat) (s : Slot) (k : Lo → Prop) : Prop := match L[i]? with
  | some (.lck _) => False
  | _ => k (L.set i s)
theorem setL_of {L : Lo} {i : Nat} {s : Slot} {k : Lo → Prop} (h : setL L i s k) : noLck L i ∧ k (L.set i s) := by
  unfold setL at h
  split at h
  · exact h.elim
  · rename_i hn
    exact ⟨fun d e => hn d e, h⟩
section
variable {X : Cx} {T : List (Addr × Str)} {E : XK} {e a b c' : Expr} {es rest : List Expr} {m ma mb mc : VE} {n na nb : VT} {r : VA} {p pos pos' : Pos} {kk : Nat} {st : Stmt} {sts : List Stmt} {ms mt mu : VS} {x y : Str} {i j : Nat}
theorem EndsOk.seq {W : Cn} {c : Ctx} {Dv : VEnds} {D : Ends} {u : TS} {mu : VS} {Ev : EK} (hD : EndsOk W c Dv D) (h : ∀ A L G σ H, Env W c A L G σ H → mu Ev Dv L G → u D σ H) : EndsOk W c { Dv with nx := mu Ev Dv } { D with nx := u D } := ⟨h, hD.bk, hD.ct, hD.rt⟩
def vNext : VS := fun _ D L G => D.nx L G
def vSeq (s t : VS) : VS := fun Ev D L G => s Ev { D with nx := t Ev D } L G
theorem js_nil : JSs X T E [] vNext := ⟨_, pss_nil, fun c A Ev L G σ H Dv D hE hD env h => hD.nx A L G σ H env h⟩
theorem js_cons (h1 : JS X T E st ms) (h2 : JSs X T E sts mt) : JSs X T E (st :: sts) (vSeq ms mt) := by
  obtain ⟨t, a1, a2⟩ := h1.ex
  obtain ⟨u, b1, b2⟩ := h2.ex
  exact ⟨_, pss_cons a1 b1, fun c A Ev L G σ H Dv D hE hD env h => a2 c A Ev L G σ H _ _ hE (hD.seq fun A L G σ H env q => b2 c A Ev L G σ H Dv D hE hD env q) env h⟩
theorem js_one (h1 : JS X T E st ms) : JSs X T E [st] ms := by
  obtain ⟨t, a1, a2⟩ := h1.ex
  exact ⟨t, pss_one a1, a2⟩
/-- a list of one's own is a value from now on -/
def vShare (i : Nat) (t : VS) : VS := fun Ev D L G => match L[i]? with
  | some (.own d) => t Ev D (L.set i (.val d)) G
  | some (.val _) => t Ev D L G
  | _ => False
theorem js_share (i : Nat) (h : JSs X T E sts ms) : JSs X T E sts (vShare i ms) := by
  obtain ⟨t, a1, a2⟩ := h.ex
  refine ⟨t, a1, fun c A Ev L G σ H Dv D hE hD env h => ?_⟩
  unfold vShare at h
  split at h
  · rename_i d hs
    obtain ⟨A', env'⟩ := env.share hs
    exact a2 c A' Ev _ G σ H Dv D hE hD env' h
  · exact a2 c A Ev L G σ H Dv D hE hD env h
  · exact h.elim
def vAsg (i : Nat) (m : VE) : VS := fun Ev D L G => m Ev L G fun d G1 => setL L i (.val d) fun L1 => D.nx L1 G1
theorem js_asg (hN : X.N.Nodup) (hi : X.N[i]? = some x) (hx : L2.Loc X.env.scope x) (h : JE X T E e m) (hs : swapsWith e (some (.Name x pos')) pos.line X.env = pure false := by rfl) (hf : X.fn x = true ∨ X.env.scope.names.lookup x = some .local := by first | exact .inl rfl | exact .inr rfl) :
    JS X T E (.Assign [.Name x pos'] e pos) (vAsg i m) := by
  obtain ⟨t, a1, a2⟩ := h.ex
  refine ⟨_, ps_set hN hi hx a1 hs hf, fun c A Ev L G σ H Dv D hE hD env h => a2 c A Ev L G σ H _ _ hE env h fun d v G1 H1 p1 d1 q1 => ?_⟩
  obtain ⟨q2, q3⟩ := setL_of q1
  exact hD.nx A _ G1 _ H1 ((env.to p1).setVal q2 d1) q3
/-- a new list: the name owns it -/
def vOwn (i : Nat) (m : VE) : VS := fun Ev D L G => m Ev L G fun d G1 => setL L i (.own d) fun L1 => D.nx L1 G1
section
variable {W : Cn} {c : Ctx} {A : Addr → Prop} {L : Lo} {G : Gs} {σ : L2.St} {H : Hp}
/-- from the hidden slot to i -/
theorem Env.take1 {d : D} {v : V} {s : Slot} (E : Env W c A (L ++ [s]) G (σ ++ [some v]) H) (hl : L.length = σ.length) (hn : noLck L i) (hs : ∀ d, s ≠ .lck d) : Env W c A (L.set i s) G (σ.set i (some v)) H := by
  refine E.reslot (fun j => if j = i then L.length else j) (by rw [List.length_set, List.length_set]; exact hl) (fun j t h => .inr ?_) (fun j k t u h1 h2 o1 o2 ef => ?_) fun j b e h1 h2 => ?_
  · have hj := (List.getElem?_eq_some_iff.mp h).1
    rw [List.length_set] at hj
    by_cases e : j = i
    · subst e
      rw [List.getElem?_set_self hj] at h
      rw [if_pos rfl, List.getElem?_append_right (Nat.le_refl _), Nat.sub_self, List.getElem?_set_self (by rw [← hl]; exact hj)]
      refine ⟨h, ?_⟩
      rw [hl, List.getElem?_append_right (Nat.le_refl _), Nat.sub_self]
      rfl
    · rw [List.getElem?_set_ne (Ne.symm e)] at h
      rw [if_neg e, List.getElem?_append_left hj, List.getElem?_set_ne (Ne.symm e), List.getElem?_append_left (by rw [← hl]; exact hj)]
      exact ⟨h, rfl⟩
  · have hj := (List.getElem?_eq_some_iff.mp h1).1
    have hk := (List.getElem?_eq_some_iff.mp h2).1
    rw [List.length_set] at hj hk
    by_cases e1 : j = i
    · by_cases e2 : k = i
      · rw [e1, e2]
      · simp only [e1, e2, if_true, if_false] at ef
        omega
    · by_cases e2 : k = i
      · simp only [e1, e2, if_true, if_false] at ef
        omega
      · simp only [e1, e2, if_false] at ef
        exact ef
  · have hj : j < L.length := by
      refine Classical.byContradiction fun z => ?_
      have hj2 := (List.getElem?_eq_some_iff.mp h1).1
      rw [List.length_append] at hj2
      have ej : j = L.length := by
        simp only [List.length_cons, List.length_nil] at hj2
        omega
      rw [ej, List.getElem?_append_right (Nat.le_refl _), Nat.sub_self] at h1
      cases h1
      exact hs _ rfl
    rw [List.getElem?_append_left hj] at h1
    rw [List.getElem?_append_left (by rw [← hl]; exact hj)] at h2
    have ne : i ≠ j := fun e => hn _ (e ▸ h1)
    exact ⟨by rw [List.getElem?_set_ne ne]; exact h1, by rw [List.getElem?_set_ne ne]; exact h2⟩
end
theorem js_own (hN : X.N.Nodup) (hi : X.N[i]? = some x) (hx : L2.Loc X.env.scope x) (h : JF X T E e m) (hs : swapsWith e (some (.Name x pos')) pos.line X.env = pure false := by rfl) (hf : X.fn x = true ∨ X.env.scope.names.lookup x = some .local := by first | exact .inl rfl | exact .inr rfl) :
    JS X T E (.Assign [.Name x pos'] e pos) (vOwn i m) := by
  obtain ⟨t, a1, a2⟩ := h.ex
  refine ⟨_, ps_set hN hi hx a1 hs hf, fun c A Ev L G σ H Dv D hE hD env h => a2 c A Ev L G σ H _ _ hE env h fun d p G1 H1 G2 H2 p1 hp p2 hb q1 => ?_⟩
  obtain ⟨q2, q3⟩ := setL_of q1
  exact hD.nx _ _ G2 _ H2 ((env.push p1 hp p2 hb).take1 (d := d) env.len q2 (fun _ z => by cases z)) q3
def vRet (m : VE) : VS := fun Ev D L G => m Ev L G D.rt
theorem Env.out {W : Cn} {c : Ctx} {A : Addr → Prop} {L : Lo} {G : Gs} {σ : L2.St} {H : Hp} (env : Env W c A L G σ H) : Post W c.dr c.B c.He H G := by
  obtain ⟨e1, e2, e3, e4⟩ := env.draw
  exact ⟨env.ext, ⟨e1, e2, fun z => e3 (env.base _ z), e4⟩, env.tabs⟩
theorem js_ret (h : JE X T E e m) : JS X T E (.Return (some e) pos) (vRet m) := by
  obtain ⟨t, a1, a2⟩ := h.ex
  refine ⟨_, ps_ret a1, fun c A Ev L G σ H Dv D hE hD env h => a2 c A Ev L G σ H _ _ hE env h fun d v G1 H1 p1 d1 q1 => ?_⟩
  exact hD.rt d v G1 H1 (env.to p1).out (d1.sub env.base) q1
def vRetN : VS := fun _ D _ G => D.rt .non G
theorem js_retN : JS X T E (.Return none pos) vRetN := ⟨_, ps_retN, fun c A Ev L G σ H Dv D hE hD env h => hD.rt .non _ G H env.out (by rw [Den]) h⟩
def vDrop (m : VE) : VS := fun Ev D L G => m Ev L G fun _ G1 => D.nx L G1
theorem js_expr (h : JE X T E e m) (hs : swapsWith e none pos.line X.env = pure false := by rfl) : JS X T E (.Expr e pos) (vDrop m) := by
  obtain ⟨t, a1, a2⟩ := h.ex
  exact ⟨_, ps_expr a1 hs, fun c A Ev L G σ H Dv D hE hD env h => a2 c A Ev L G σ H _ _ hE env h fun d v G1 H1 p1 d1 q1 => hD.nx A L G1 σ H1 (env.to p1) q1⟩
def vIfS (t : VT) (s u : VS) : VS := fun Ev D L G => t Ev L G fun b G1 => match b with
  | true => s Ev D L G1
  | false => u Ev D L G1
theorem js_if {sa sb : List Stmt} (ht : JT X T E c' n) (ha : JSs X T E sa mt) (hb : JSs X T E sb mu) : JS X T E (.If c' sa sb pos) (vIfS n mt mu) := by
  obtain ⟨tt, t1, t2⟩ := ht.ex
  obtain ⟨ta, a1, a2⟩ := ha.ex
  obtain ⟨tb, b1, b2⟩ := hb.ex
  refine ⟨_, ps_if t1 a1 b1, fun c A Ev L G σ H Dv D hE hD env h => t2 c A Ev L G σ H _ _ hE env h fun x G1 H1 p1 q1 => ?_⟩
  cases x with
  | true => exact a2 c A Ev L G1 σ H1 Dv D hE hD (env.to p1) q1
  | false => exact b2 c A Ev L G1 σ H1 Dv D hE hD (env.to p1) q1
def vBrk : VS := fun _ D L G => D.bk L G
def vCnt : VS := fun _ D L G => D.ct L G
theorem js_brk : JS X T E (.Break pos) vBrk := ⟨_, ps_break, fun c A Ev L G σ H Dv D hE hD env h => hD.bk A L G σ H env h⟩
theorem js_cnt : JS X T E (.Continue pos) vCnt := ⟨_, ps_continue, fun c A Ev L G σ H Dv D hE hD env h => hD.ct A L G σ H env h⟩
theorem js_pass : JS X T E (.Pass pos) vNext := ⟨_, ps_pass, fun c A Ev L G σ H Dv D hE hD env h => hD.nx A L G σ H env h⟩
/-- a statement that is never come to -/
def vNever : VS := fun _ _ _ _ => False
theorem js_never : JS X T E st vNever := ⟨_, ps_never, fun c A Ev L G σ H Dv D hE hD env h => h⟩
theorem jss_never : JSs X T E sts vNever := ⟨_, pss_never, fun c A Ev L G σ H Dv D hE hD env h => h⟩
/-! ### own lists changed -/
def ownLst (L : Lo) (i : Nat) (k : List D → Prop) : Prop := match L[i]? with
  | some (.own (.lst ds)) => k ds
  | _ => False
theorem ownLst_of {L : Lo} {i : Nat} {k : List D → Prop} (h : ownLst L i k) : ∃ ds, L[i]? = some (.own (.lst ds)) ∧ k ds := by
  unfold ownLst at h
  split at h
  · rename_i ds e
    exact ⟨ds, e, h⟩
  · exact h.elim
/-- x.append(e) -/
def vApp (i : Nat) (m : VE) : VS := fun Ev D L G => ownLst L i fun ds => m Ev L G fun d G1 => ds.length < lineN ∧ D.nx (L.set i (.own (.lst (ds ++ [d])))) G1
theorem Env.atOwn {W : Cn} {c : Ctx} {A : Addr → Prop} {L : Lo} {G : Gs} {σ : L2.St} {H : Hp} (env : Env W c A L G σ H) {ds : List D} (h : L[i]? = some (.own (.lst ds))) : ∃ a vs, σ[i]? = some (some (.ref a)) ∧ A a ∧ a ≠ c.dr.1 ∧ H a = some (.lst vs) ∧ DenL W c.dr A H ds vs := by
  obtain ⟨a, e, hA, hN, vs, h1, h2⟩ := env.slots i _ h
  exact ⟨a, vs, e, hA, env.ne hA, h1, h2⟩
/-- the body of the list that is changed -/
theorem body_mut {W : Cn} {c : Ctx} {A : Addr → Prop} {L : Lo} {G : Gs} {σ : L2.St} {H : Hp} (env : Env W c A L G σ H) {a : Addr} {ds : List D} {vs : List V} (hA : A a) (h : DenL W c.dr A H ds vs) : Body W c.dr A (upd H a (.lst vs)) (.lst ds) a := by
  obtain ⟨o0, ho0, hm0⟩ := env.own a hA
  have neM : ∀ {b : Addr} {u : HO}, H b = some u → ¬ MutO u → b ≠ a := fun {b u} h n e => by
    rw [e, ho0] at h
    cases h
    exact n hm0
  have kp : Kp c.dr A H (upd H a (.lst vs)) := ⟨fun b u h n _ _ => by rw [upd_ne (show b ≠ a from fun e => n (by rw [e]; exact hA))]; exact h, fun b xs h => by rw [upd_ne (neM h id)]; exact h, fun b xs h => by rw [upd_ne (neM h id)]; exact h, fun b xs h => by rw [upd_ne (neM h id)]; exact h, fun b xs u h => by rw [upd_ne (neM h id)]; exact h⟩
  exact ⟨vs, upd_same, DenL.kp kp (fun _ z => .inl z) _ _ h⟩
theorem DenL.len_lt {W : Cn} {dr : Dr} {A : Addr → Prop} {H : Hp} {ds : List D} {vs : List V} (h : DenL W dr A H ds vs) (hl : ds.length < lineN) : vs.length < sizeLine := by
  rw [line_eq, ← h.length]
  exact hl
theorem js_app {ap cp : Pos} (hv : PE X a (tVar i)) (h : JE X T E e m) (hbase : attributeBase a "append" X.env (eval a X.env) = eval a X.env := by rfl)
    (hfew : ((backTo cp (starEach (e :: []) X.env)).all (fun x => !x.1) && (backToKw cp (keywordEach [] X.env)).all (fun x => x.1.isSome)
      && decide ((e :: ([] : List Expr)).length + ([] : List Keyword).length + (if ([] : List Keyword).isEmpty then 0 else 1) < 30)) = true := by rfl)
    (hline : (ap.endLine == cp.line) = true := by rfl) (hss : starEach (e :: []) X.env = (false, eval e X.env) :: starEach [] X.env := by rfl) (hplain : (backTo cp (starEach [] X.env)).any (·.1) = false := by rfl)
    (hs : swapsWith (.Call (.Attribute a "append" ap) [e] [] cp) none pos.line X.env = pure false := by rfl) : JS X T E (.Expr (.Call (.Attribute a "append" ap) [e] [] cp) pos) (vApp i m) := by
  obtain ⟨t, a1, a2⟩ := h.ex
  refine ⟨_, ps_expr (pe_bm PySem.F.plainAttrs_list PySem.F.slot_list_append PySem.F.type_list_append mt_append hv (pa_cons a1 pa_nil hss) hbase hfew hline hss hplain) hs, fun c A Ev L G σ H Dv D hE hD env h => ?_⟩
  obtain ⟨ds, hi, h⟩ := ownLst_of h
  obtain ⟨l, vs, el, hA, nd, h1, h2⟩ := env.atOwn hi
  refine ⟨.ref l, el, .inl ⟨rfl, vs, .of h1⟩, a2 c A Ev L G σ H _ _ hE env h fun d v G1 H1 p1 d1 q1 => ?_⟩
  have env1 := env.to p1
  obtain ⟨l', vs', el', hA', nd', h1', h2'⟩ := env1.atOwn hi
  rw [el] at el'
  cases el'
  refine ⟨l, vs', v, rfl, rfl, h1', h2'.len_lt q1.1, ?_⟩
  have hb := body_mut env1 hA' (h2'.append (.cons d1 .nil))
  exact hD.nx A _ G1 σ _ (env1.mut hi el (o := .lst (vs' ++ [v])) True.intro hb) q1.2
/-- x[i] = e -/
def vSetIx (i : Nat) (mi m : VE) : VS := fun Ev D L G => ownLst L i fun ds => m Ev L G fun d G1 => mi Ev L G1 fun y G2 => match y with
  | .int k => ∃ j, ixN ds.length k = some j ∧ D.nx (L.set i (.own (.lst (ds.set j d)))) G2
  | _ => False
theorem js_setIx {o : Expr} {mi : VE} {p2 : Pos} (hv : PE X o (tVar i)) (hix : JP X T E b mi) (h : JE X T E e m)
    (ha : ∀ v, assign (.Subscript o b p2) X.env v = (do
      let ov ← holding [v] (eval o X.env)
      let iv ← holding [v, ov] (eval b X.env)
      standAt p2
      holding [v, ov, iv] (setItem ov iv v)
      release [v, ov, iv] []) := by intro _; rfl)
    (hs : swapsWithSole [.Subscript o b p2] e pos.line X.env = pure false := by rfl) (hw : swappedStores [.Subscript o b p2] e X.env = pure none := by rfl) (h1 : (assignEach [.Subscript o b p2] X.env).map (·.2) = [assign (.Subscript o b p2) X.env] := by rfl) :
    JS X T E (.Assign [.Subscript o b p2] e pos) (vSetIx i mi m) := by
  obtain ⟨t, a1, a2⟩ := h.ex
  obtain ⟨ti, b1, b2⟩ := hix.ex
  refine ⟨_, ps_asg a1 (pg_sub hv b1 set_list ha) hs hw h1, fun c A Ev L G σ H Dv D hE hD env h => ?_⟩
  obtain ⟨ds, hi, h⟩ := ownLst_of h
  obtain ⟨l, vs, el, hA, nd, h1, h2⟩ := env.atOwn hi
  refine a2 c A Ev L G σ H _ _ hE env h fun d v G1 H1 p1 d1 q1 => ⟨.ref l, el, b2 c A Ev L G1 σ H1 _ _ hE (env.to p1) q1 fun y u G2 H2 p2 d2 q2 => ?_⟩
  have env2 := (env.to p1).to p2
  split at q2
  · obtain ⟨j, e1, q3⟩ := q2
    obtain ⟨l', vs', el', hA', nd', h1', h2'⟩ := env2.atOwn hi
    rw [el] at el'
    cases el'
    refine ⟨l, vs', _, j, rfl, d2.int, h1', by rw [← h2'.length]; exact e1, ?_⟩
    have hb := body_mut env2 hA' (h2'.set j (d1.post p2 (env.to p1).draw))
    exact hD.nx A _ G2 σ _ (env2.mut hi el (o := .lst (vs'.set j v)) True.intro hb) q3
  · exact q2.elim
end
end VL
set_option Elab.async false
set_option autoImplicit false
set_option linter.all false
set_option maxRecDepth 100000
set_option maxHeartbeats 2000000
namespace VL
open PySem PySem.Spec PyProof.Rows L2
/-! ### several names at once -/
abbrev VX := EK → Lo → Gs → (List Slot → Gs → Prop) → Prop
def SimX (W : Cn) (E : XK) (t : TA) (m : VX) : Prop :=
  ∀ (c : Ctx) (A : Addr → Prop) (Ev : EK) (L M : Lo) (G : Gs) (σ τ : L2.St) (H : Hp) (Q : List Slot → Gs → Prop) (Qh : List V → Hp → Prop), ErrOk W c E Ev → L.length = σ.length → (∀ s ∈ M, ∀ d, s ≠ .lck d) → Env W c A (L ++ M) G (σ ++ τ) H → m Ev L G Q →
    (∀ (ss : List Slot) (vs : List V) (A' : Addr → Prop) (G' : Gs) (H' : Hp), (∀ s ∈ ss, ∀ d, s ≠ .lck d) → ss.length = vs.length → Env W c A' (L ++ (M ++ ss)) G' (σ ++ (τ ++ vs.map some)) H' → Q ss G' → Qh vs H') → t σ H Qh
structure JX (X : Cx) (T : List (Addr × Str)) (E : XK) (es : List Expr) (m : VX) : Prop where
  ex : ∃ t, PA X es t ∧ SimX (cn X T) E t m
section
variable {X : Cx} {T : List (Addr × Str)} {E : XK} {e a b c' : Expr} {es rest : List Expr} {m ma mb mc : VE} {n na nb : VT} {r : VX} {p pos pos' : Pos} {kk : Nat} {st : Stmt} {sts : List Stmt} {ms mt mu : VS} {x y : Str} {i j : Nat}
def xNil : VX := fun _ _ G Q => Q [] G
def xVal (m : VE) (r : VX) : VX := fun Ev L G Q => m Ev L G fun d G1 => r Ev L G1 fun ss G2 => Q (.val d :: ss) G2
def xOwn (m : VE) (r : VX) : VX := fun Ev L G Q => m Ev L G fun d G1 => r Ev L G1 fun ss G2 => Q (.own d :: ss) G2
theorem jx_nil : JX X T E [] xNil := ⟨_, pa_nil, fun c A Ev L M G σ τ H Q Qh hE hl hM env hm k => k [] [] A G H (fun _ h => by simp at h) rfl (by rw [List.append_nil, List.map_nil, List.append_nil]; exact env) hm⟩
theorem jx_val (h : JE X T E e m) (hr : JX X T E es r) (hs : starEach (e :: es) X.env = (false, eval e X.env) :: starEach es X.env := by rfl) : JX X T E (e :: es) (xVal m r) := by
  obtain ⟨t, h1, h2⟩ := h.ex
  obtain ⟨tr, r1, r2⟩ := hr.ex
  refine ⟨_, pa_cons h1 r1 hs, fun c A Ev L M G σ τ H Q Qh hE hl hM env hm k => ?_⟩
  have e0 := env.pop hl fun s hs ⟨d, e⟩ => hM s hs d e
  refine h2 c A Ev L G σ H _ _ hE e0 hm fun x v G1 H1 p1 d1 q1 => ?_
  have env1 := (env.to p1).pushVal d1
  rw [List.append_assoc, List.append_assoc] at env1
  refine r2 c A Ev L (M ++ [.val x]) G1 σ (τ ++ [some v]) H1 _ _ hE hl (fun s hs d z => ?_) env1 q1 fun ss vs A' G' H' hss hln env2 q2 => ?_
  · rcases List.mem_append.mp hs with q | q
    · exact hM s q d z
    · rw [List.mem_singleton.mp q] at z
      cases z
  · refine k (.val x :: ss) (v :: vs) A' G' H' (fun s hs d z => ?_) (by rw [List.length_cons, List.length_cons, hln]) ?_ q2
    · rcases List.mem_cons.mp hs with q | q
      · rw [q] at z
        cases z
      · exact hss s q d z
    · rw [List.append_assoc, List.append_assoc] at env2
      exact env2
theorem jx_own (h : JF X T E e m) (hr : JX X T E es r) (hs : starEach (e :: es) X.env = (false, eval e X.env) :: starEach es X.env := by rfl) : JX X T E (e :: es) (xOwn m r) := by
  obtain ⟨t, h1, h2⟩ := h.ex
  obtain ⟨tr, r1, r2⟩ := hr.ex
  refine ⟨_, pa_cons h1 r1 hs, fun c A Ev L M G σ τ H Q Qh hE hl hM env hm k => ?_⟩
  have e0 := env.pop hl fun s hs ⟨d, e⟩ => hM s hs d e
  refine h2 c A Ev L G σ H _ _ hE e0 hm fun x v G1 H1 G2 H2 p1 hp p2 hb q1 => ?_
  have env1 := env.push p1 hp p2 hb
  rw [List.append_assoc, List.append_assoc] at env1
  refine r2 c _ Ev L (M ++ [.own x]) G2 σ (τ ++ [some (.ref v)]) H2 _ _ hE hl (fun s hs d z => ?_) env1 q1 fun ss vs A' G' H' hss hln env2 q2 => ?_
  · rcases List.mem_append.mp hs with q | q
    · exact hM s q d z
    · rw [List.mem_singleton.mp q] at z
      cases z
  · refine k (.own x :: ss) (.ref v :: vs) A' G' H' (fun s hs d z => ?_) (by rw [List.length_cons, List.length_cons, hln]) ?_ q2
    · rcases List.mem_cons.mp hs with q | q
      · rw [q] at z
        cases z
      · exact hss s q d z
    · rw [List.append_assoc, List.append_assoc] at env2
      exact env2
section
variable {W : Cn} {c : Ctx} {A : Addr → Prop} {L : Lo} {G : Gs} {σ : L2.St} {H : Hp}
/-- the first hidden slot goes to i, the others stay hidden -/
theorem Env.takeF {v : V} {s : Slot} {M : Lo} {τ : L2.St} (E : Env W c A (L ++ (s :: M)) G (σ ++ (some v :: τ)) H) (hl : L.length = σ.length) (hM : M.length = τ.length) (hn : noLck L i) (hs : ∀ d, s ≠ .lck d) (hMl : ∀ t ∈ M, ∀ d, t ≠ .lck d) : Env W c A (L.set i s ++ M) G (σ.set i (some v) ++ τ) H := by
  have gl : ∀ {j : Nat}, j < L.length → (L ++ (s :: M))[j]? = L[j]? ∧ (σ ++ (some v :: τ))[j]? = σ[j]? := fun {j} h => ⟨List.getElem?_append_left h, List.getElem?_append_left (by rw [← hl]; exact h)⟩
  refine E.reslot (fun j => if j = i ∧ j < L.length then L.length else if j < L.length then j else j + 1) (by rw [List.length_append, List.length_append, List.length_set, List.length_set, hl, hM]) (fun j t h => .inr ?_) (fun j k t u h1 h2 o1 o2 ef => ?_) fun j b e h1 h2 => ?_
  · by_cases hj : j < L.length
    · rw [List.getElem?_append_left (by rw [List.length_set]; exact hj)] at h
      by_cases e : j = i
      · subst e
        rw [List.getElem?_set_self hj] at h
        simp only [hj, and_self, if_true]
        rw [List.getElem?_append_right (Nat.le_refl _), Nat.sub_self, List.getElem?_append_left (by rw [List.length_set, ← hl]; exact hj), List.getElem?_set_self (by rw [← hl]; exact hj), hl, List.getElem?_append_right (Nat.le_refl _), Nat.sub_self]
        exact ⟨h, rfl⟩
      · rw [List.getElem?_set_ne (Ne.symm e)] at h
        simp only [e, hj, false_and, if_false, if_true]
        rw [(gl hj).1, (gl hj).2, List.getElem?_append_left (by rw [List.length_set, ← hl]; exact hj), List.getElem?_set_ne (Ne.symm e)]
        exact ⟨h, rfl⟩
    · simp only [hj, and_false, if_false]
      rw [List.getElem?_append_right (by rw [List.length_set]; omega), List.length_set] at h
      rw [List.getElem?_append_right (by omega), List.getElem?_append_right (by rw [List.length_set]; omega), List.getElem?_append_right (by omega), List.length_set]
      have e1 : j + 1 - L.length = (j - L.length) + 1 := by omega
      have e2 : j + 1 - σ.length = (j - σ.length) + 1 := by omega
      rw [e1, e2, List.getElem?_cons_succ, List.getElem?_cons_succ]
      exact ⟨h, rfl⟩
  · have ef : (if j = i ∧ j < L.length then L.length else if j < L.length then j else j + 1) = (if k = i ∧ k < L.length then L.length else if k < L.length then k else k + 1) := ef
    split at ef <;> split at ef <;> (try split at ef) <;> (try split at ef) <;> omega
  · have hj : j < L.length := by
      refine Classical.byContradiction fun z => ?_
      rw [List.getElem?_append_right (by omega)] at h1
      have hm := List.mem_of_getElem? h1
      rcases List.mem_cons.mp hm with q | q
      · exact hs _ q.symm
      · exact hMl _ q _ rfl
    rw [(gl hj).1] at h1
    rw [(gl hj).2] at h2
    have ne : i ≠ j := fun e => hn _ (e ▸ h1)
    exact ⟨by rw [List.getElem?_append_left (by rw [List.length_set]; exact hj), List.getElem?_set_ne ne]; exact h1, by rw [List.getElem?_append_left (by rw [List.length_set, ← hl]; exact hj), List.getElem?_set_ne ne]; exact h2⟩
end
/-- slots to places, one after another -/
def setAll : List Nat → List Slot → Lo → (Lo → Prop) → Prop
  | i :: is, s :: ss, L, k => setL L i s fun L1 => setAll is ss L1 k
  | [], [], L, k => k L
  | _, _, _, _ => False
def setSt : List Nat → List V → L2.St → L2.St
  | i :: is, v :: vs, σ => setSt is vs (σ.set i (some v))
  | _, _, σ => σ
theorem Env.takeAll {W : Cn} {c : Ctx} {A : Addr → Prop} {G : Gs} {H : Hp} {k : Lo → Prop} : ∀ (is : List Nat) (ss : List Slot) (vs : List V) (L : Lo) (σ : L2.St), ss.length = vs.length → L.length = σ.length → (∀ s ∈ ss, ∀ d, s ≠ .lck d) → Env W c A (L ++ ss) G (σ ++ vs.map some) H → setAll is ss L k → ∃ L', k L' ∧ Env W c A L' G (setSt is vs σ) H
  | [], [], [], L, σ, _, _, _, E, h => ⟨L, h, by rw [List.append_nil, List.map_nil, List.append_nil] at E; exact E⟩
  | i :: is, s :: ss, v :: vs, L, σ, hl, hL, hs, E, h => by
    obtain ⟨h1, h2⟩ := setL_of (show setL L i s (fun L1 => setAll is ss L1 k) from h)
    have hl' : ss.length = vs.length := by simpa using hl
    have E2 := E.takeF hL (by rw [List.length_map]; exact hl') h1 (hs s List.mem_cons_self) fun t ht => hs t (List.mem_cons_of_mem _ ht)
    exact Env.takeAll is ss vs (L.set i s) (σ.set i (some v)) hl' (by rw [List.length_set, List.length_set]; exact hL) (fun t ht => hs t (List.mem_cons_of_mem _ ht)) E2 h2
  | [], _ :: _, _, _, _, _, _, _, _, h => h.elim
  | _ :: _, [], _, _, _, _, _, _, _, h => h.elim
  | [], [], _ :: _, _, _, hl, _, _, _, _ => by simp at hl
  | _ :: _, _ :: _, [], _, _, hl, _, _, _, _ => by simp at hl
/-- a, b = e1, e2 -/
def vPar (is : List Nat) (r : VX) : VS := fun Ev D L G => r Ev L G fun ss G1 => setAll is ss L fun L1 => D.nx L1 G1
theorem SimX.go {W : Cn} {t : TA} (h : SimX W E t r) {c : Ctx} {A : Addr → Prop} {Ev : EK} {L : Lo} {G : Gs} {σ : L2.St} {H : Hp} {Q : List Slot → Gs → Prop} {Qh : List V → Hp → Prop} (hE : ErrOk W c E Ev) (env : Env W c A L G σ H) (hm : r Ev L G Q)
    (k : ∀ (ss : List Slot) (vs : List V) (A' : Addr → Prop) (G' : Gs) (H' : Hp), (∀ s ∈ ss, ∀ d, s ≠ .lck d) → ss.length = vs.length → Env W c A' (L ++ ss) G' (σ ++ vs.map some) H' → Q ss G' → Qh vs H') : t σ H Qh :=
  h c A Ev L [] G σ [] H Q Qh hE env.len (fun _ h => by simp at h) (by rw [List.append_nil, List.append_nil]; exact env) hm fun ss vs A' G' H' h1 h2 env2 q => k ss vs A' G' H' h1 h2 env2 q
theorem js_par2 {px py pt : Pos} {kt k2 : Nat} {pt2 : Pos} (hc : X.calm = true) (hN : X.N.Nodup) (hi : X.N[i]? = some x) (hj : X.N[j]? = some y) (hij : i ≠ j) (hx : X.env.scope.names.lookup x = some .local) (hy : X.env.scope.names.lookup y = some .local) (ha : JX X T E [a, b] r)
    (hw : swappedStores [.Tuple [.Name x px, .Name y py] kt pt] (.Tuple [a, b] k2 pt2) X.env = pure (some [x, y]) := by rfl) (hs : swapsWithSole [.Tuple [.Name x px, .Name y py] kt pt] (.Tuple [a, b] k2 pt2) pos.line X.env = pure false := by rfl) :
    JS X T E (.Assign [.Tuple [.Name x px, .Name y py] kt pt] (.Tuple [a, b] k2 pt2) pos) (vPar [i, j] r) := by
  obtain ⟨t, a1, a2⟩ := ha.ex
  refine ⟨_, ps_par hc hN hi hj hij hx hy a1 hw hs, fun c A Ev L G σ H Dv D hE hD env h => a2.go hE env h fun ss vs A' G' H' h1 h2 env2 q => ?_⟩
  obtain ⟨L', q1, env3⟩ := Env.takeAll [i, j] ss vs L σ h2 env.len h1 env2 q
  match ss, vs, h2, q with
  | [s1, s2], [v1, v2], _, _ => exact ⟨v1, v2, rfl, hD.nx _ _ _ _ _ env3 q1⟩
  | [], _, _, q => exact q.elim
  | [_], _, _, q => exact ((setL_of (show setL _ _ _ _ from q)).2 : False).elim
  | _ :: _ :: _ :: _, _, _, q =>
    obtain ⟨_, q⟩ := setL_of (show setL _ _ _ _ from q)
    obtain ⟨_, q⟩ := setL_of (show setL _ _ _ _ from q)
    exact (q : False).elim
theorem js_par3 {z : Str} {l : Nat} {px py pz pt : Pos} {kt k2 : Nat} {pt2 : Pos} {e3 : Expr} (hc : X.calm = true) (hN : X.N.Nodup) (hi : X.N[i]? = some x) (hj : X.N[j]? = some y) (hl : X.N[l]? = some z) (hij : i ≠ j) (hil : i ≠ l) (hjl : j ≠ l) (hx : X.env.scope.names.lookup x = some .local) (hy : X.env.scope.names.lookup y = some .local) (hz : X.env.scope.names.lookup z = some .local)
    (ha : JX X T E [a, b, e3] r) (hw : swappedStores [.Tuple [.Name x px, .Name y py, .Name z pz] kt pt] (.Tuple [a, b, e3] k2 pt2) X.env = pure (some [x, y, z]) := by rfl) (hs : swapsWithSole [.Tuple [.Name x px, .Name y py, .Name z pz] kt pt] (.Tuple [a, b, e3] k2 pt2) pos.line X.env = pure false := by rfl) :
    JS X T E (.Assign [.Tuple [.Name x px, .Name y py, .Name z pz] kt pt] (.Tuple [a, b, e3] k2 pt2) pos) (vPar [i, j, l] r) := by
  obtain ⟨t, a1, a2⟩ := ha.ex
  refine ⟨_, ps_par3 hc hN hi hj hl hij hil hjl hx hy hz a1 hw hs, fun c A Ev L G σ H Dv D hE hD env h => a2.go hE env h fun ss vs A' G' H' h1 h2 env2 q => ?_⟩
  obtain ⟨L', q1, env3⟩ := Env.takeAll [i, j, l] ss vs L σ h2 env.len h1 env2 q
  match ss, vs, h2, q with
  | [s1, s2, s3], [v1, v2, v3], _, _ => exact ⟨v1, v2, v3, rfl, hD.nx _ _ _ _ _ env3 q1⟩
  | [], _, _, q => exact q.elim
  | [_], _, _, q => exact ((setL_of (show setL _ _ _ _ from q)).2 : False).elim
  | [_, _], _, _, q =>
    obtain ⟨_, q⟩ := setL_of (show setL _ _ _ _ from q)
    obtain ⟨_, q⟩ := setL_of (show setL _ _ _ _ from q)
    exact (q : False).elim
  | _ :: _ :: _ :: _ :: _, _, _, q =>
    obtain ⟨_, q⟩ := setL_of (show setL _ _ _ _ from q)
    obtain ⟨_, q⟩ := setL_of (show setL _ _ _ _ from q)
    obtain ⟨_, q⟩ := setL_of (show setL _ _ _ _ from q)
    exact (q : False).elim
end
end VL
set_option Elab.async false
set_option autoImplicit false
set_option linter.all false
set_option maxRecDepth 100000
set_option maxHeartbeats 2000000
/-! enumerate over a tuple -/
namespace PySem
open Sem (wp)
theorem VL_new1 {v : Value} {o : Obj} {H : Heap → Prop} (B : Begins v o H) :
    Meets (Builtin.«enumerate.__new__» ⟨[.type "enumerate", v], []⟩) (fun _ R s => H s.heap ∧
      R (.ok (.ret (.ref (s.heap.push o).objs.size))) { s with heap := (s.heap.push o).push { cls := .type "enumerate", data := .fields #[.none, .bool false, .ref s.heap.objs.size, rawInt 0, .none, .none] } }) :=
  .of_wp fun prog w A R s h => by
    obtain ⟨hp, g, d, tk, os⟩ := s
    obtain ⟨h1, h⟩ := h
    have hsub := sub_enumerate
    have q1 : ∀ {A' : Around} {E : Value → Shared → Prop} {Q : Value → Shared → Prop}, Q (.ref hp.objs.size) ⟨hp.push o, g, d, tk, os⟩ → wpAny (model prog w) A' (pyIter v) Q E ⟨hp, g, d, tk, os⟩ :=
      fun q => B.iter prog w _ _ ⟨hp, g, d, tk, os⟩ _ h1 q
    wp_walk using q1
    refine wpAny_stack_any fun st => wpAny_pure ?_
    split
    · rename_i c _ _ _ _ _
      cases (c == Value.type "enumerate")
      · wp_walk using q1
        exact ⟨_, rfl, h⟩
      · wp_walk using q1
        exact ⟨_, rfl, h⟩
    · wp_walk using q1
      exact ⟨_, rfl, h⟩
theorem VL_enumB {prog : Program} {w : World} {A : Around} {E : Value → Shared → Prop} {s : Shared} {v : Value} {o : Obj} {H : Heap → Prop} {Q : Value → Shared → Prop} (B : Begins v o H) (h1 : H s.heap)
    (h : ∀ h', IsEnum h' (s.heap.objs.size + 1) s.heap.objs.size 0 .none → h'.get? s.heap.objs.size = some o → h'.objs.size = s.heap.objs.size + 2 → (∀ b o, s.heap.get? b = some o → h'.get? b = some o) → Q (.ref (s.heap.objs.size + 1)) { s with heap := h' }) :
    wpAny (model prog w) A (call (.type "enumerate") [v]) Q E s := by
  refine callType_new F.called_enumerate (by decide) (F.typeCall_enumerate_1 _) (F.newCall_enumerate_1 _) (fun obj => F.args_object_init_2 obj _) F.entry_enumerate_new (VL_new1 B) ⟨h1, ?_⟩
  have hz : (s.heap.push o).objs.size = s.heap.objs.size + 1 := Heap.size_push ..
  show _ ∧ _
  rw [hz]
  have he : IsEnum ((s.heap.push o).push { cls := .type "enumerate", data := .fields #[.none, .bool false, .ref s.heap.objs.size, rawInt 0, .none, .none] }) (s.heap.objs.size + 1) s.heap.objs.size 0 .none := by
    have := Heap.get?_push_size (s.heap.push o) (o := { cls := .type "enumerate", data := .fields #[.none, .bool false, .ref s.heap.objs.size, rawInt 0, .none, .none] }) rfl
    rw [hz] at this
    exact this
  exact ⟨⟨_, he, rfl⟩, h _ he (Heap.get?_push_of_some _ (Heap.get?_push_size _ B.free)) (by rw [Heap.size_push, hz]) fun b o x => Heap.get?_push_of_some _ (Heap.get?_push_of_some _ x)⟩
end PySem
namespace VL
open PySem PySem.Spec PyProof.Rows L2
/-- the tuple at a, each item in a new pair with its index -/
def IteT (K : PySem.W.Frag) (a : Addr) : It :=
  ⟨fun i H => ∃ (xs : List V) (x : V), SqT K H a xs ∧ xs[i]? = some x, fun i H v H' => ∃ T x, v = .ref T ∧ H T = none ∧ H' = upd H T (.tup [.int (i : Nat), x]) ∧ ∀ xs, SqT K H a xs → xs[i]? = some x, fun i H => ∃ xs : List V, SqT K H a xs ∧ xs.length ≤ i⟩
theorem turn_enumT {P : Program} {w : World} {K : PySem.W.Frag} {elts : List Expr} {kk : Nat} {tpos : Pos} (a e it : Addr) :
    L2.Turn P w K (.Tuple elts kk tpos) (IteT K a) [e, it] e (fun i h => (∃ old, IsEnum h e it ((i : Nat) : Int) old) ∧ h.IsTupleIter it a i ∧ e ≠ it ∧ a ≠ e ∧ a ≠ it) where
  mem := by simp
  obj := fun i h st b hb => by
    obtain ⟨⟨old, he⟩, ⟨o, ho, hc, hd⟩, _⟩ := st
    have e' : b = e ∨ b = it := by simpa using hb
    rcases e' with z | z
    · rw [z]
      exact ⟨_, he, fun v q => nomatch q⟩
    · rw [z]
      exact ⟨o, ho, fun v q => by rw [hd] at q; cases q⟩
  keep := fun i h h' st k => by
    obtain ⟨⟨old, he⟩, hi, hne, n1, n2⟩ := st
    exact ⟨⟨old, k e (by simp) _ he⟩, hi.at fun o q => k it (by simp) o q, hne, n1, n2⟩
  item := by
    intro X hP hw hK hc i pins s σ H E I hf st hg
    subst hP hw hK
    obtain ⟨⟨old, he⟩, hit, hne, n1, n2⟩ := st
    obtain ⟨xs, x, hq, hx⟩ := hg
    obtain ⟨its, rv, p, hz⟩ := I.tuple hq
    obtain ⟨u, hu, ru⟩ := rv.get hx
    have hel : e < s.heap.objs.size := Heap.lt_size he
    have hil : it < s.heap.objs.size := by
      obtain ⟨_, q, _⟩ := hit
      exact Heap.lt_size q
    have hi : i < its.toArray.size := by
      have z : its[i]? = some u := hu
      have := (List.getElem?_eq_some_iff.mp z).1
      simpa using this
    have Dr := Draws.tuple (prog := X.prog) (w := X.w) (A := X.A.in1) (I.ok.hd hc) it a n2 its.toArray
    refine wpAny_pyNext_enum_itemD Dr he ⟨hit, p⟩ hi hne (by simp [hne, Ne.symm n1]) fun x' h' tk hx' ho st' hT hsz hk => ?_
    have ex : x' = u := by
      have z : its.toArray[i]? = some x' := hx'
      have z2 : its[i]? = some u := hu
      rw [List.getElem?_toArray] at z
      rw [z2] at z
      exact (Option.some.inj z).symm
    subst ex
    have hit' := st'.1
    refine ⟨_, rfl, wpAny_letOwnedTupleGo_enum (s := { s with heap := h', toks := tk + 1 }) ho fun h'' he' sb => ?_⟩
    have hT2 : h''.get? s.heap.objs.size = some { cls := .type "tuple", data := .seq #[.int i tk, x'] } := (sb.2 _ (Nat.ne_of_gt hel)).trans hT
    have new : ObjOk X.prog X.w (upd H s.heap.objs.size (.tup [.int (i : Nat), x])) h'' s.heap.objs.size (.tup [.int (i : Nat), x]) :=
      ⟨by show 2 ≤ sizeLine; decide, [.int i tk, x'], .cons ⟨_, rfl⟩ (.cons ru .nil), ⟨_, hT2, rfl, _, rfl⟩⟩
    have I1 : Inv X pins σ (upd H s.heap.objs.size (.tup [.int (i : Nat), x])) { s with heap := h'', toks := tk + 1 } :=
      I.turnedNew (ch := [e, it]) (fun b ob hb q => (sb.2 b (fun z => hb (by simp [z]))).trans (hk b ob (fun z => hb (by simp [z])) (fun z => hb (by simp [z])) q)) hf (Nat.le_refl _) new
    refine ⟨.ref s.heap.objs.size, _, I1, rfl, ⟨_, x, rfl, I.hok.fresh (Nat.le_refl _), rfl, fun ys hy => by rw [I.tuple_inj hy hq]; exact hx⟩, ⟨⟨x', ?_⟩, hit'.at fun o q => (sb.2 it (Ne.symm hne)).trans q, hne, n1, n2⟩, fun b hb => ?_⟩
    · have e1 : ((i + 1 : Nat) : Int) = (i : Int) + 1 := by omega
      rw [e1]
      exact he'
    · have hb' : b < s.heap.objs.size := by
        have e' : b = e ∨ b = it := by simpa using hb
        rcases e' with z | z
        · rw [z]
          exact hel
        · rw [z]
          exact hil
      rw [upd_ne (Nat.ne_of_lt hb')]
      exact (hf b hb).1
  done := by
    intro X hP hw hK hc i pins s σ H E I hf st hg
    subst hP hw hK
    obtain ⟨⟨old, he⟩, hit, hne, n1, n2⟩ := st
    obtain ⟨xs, hq, hx⟩ := hg
    obtain ⟨its, rv, p, hz⟩ := I.tuple hq
    obtain ⟨f0, f1, f2, f3, f4, f5⟩ := hf it (by simp)
    have hl := rv.length
    have hge : its.toArray[i]? = none := by
      rw [List.getElem?_toArray]
      exact List.getElem?_eq_none (by omega)
    have hT : s.TypeIs (.ref e) "enumerate" := ⟨_, he, rfl⟩
    unfold pyNext
    refine wpAny_bind (wpAny_attempt (wpAny_callSpecial?_slot (name := Str.ofString "__next__") hT F.slot_enumerate_next
      (wpAny_call_entry F.slot_enumerate_next hT F.entry_enumerate_next ?_ (F.args_enumerate_next_1 _))))
    show wpAny _ _ (PySem.field (.ref e) 2 >>= _) _ _ _
    refine wpAny_bind (wpAny_field he rfl (x := .ref it) rfl ?_)
    refine wpAny_bind (wpAny_nextOf_tuple_end (I.ok.hd hc) hit (show s.heap.IsTuple a its.toArray from p) hge fun h' x he' hx' => ?_)
    obtain ⟨o, ho, hcl⟩ := hx'
    refine wpAny_bind (wpAny_isInstance (T := "StopIteration") (b := true) ⟨o, ho, hcl⟩ isSubtype_stop ?_)
    exact wpAny_pure ⟨rfl, I.turned (t' := s.toks) (fun b o hb q => he' b o hb q) f0 f1 f3 f4 f5⟩
  self := fun A i s Q E st h => by
    obtain ⟨⟨_, he⟩, _⟩ := st
    exact wpAny_pyIter_enum he h
def iEnumT (K : PySem.W.Frag) (ta : TA) : TI := fun σ H R => ta σ H fun vs H1 => ∃ a xs, vs = [.ref a] ∧ SqT K H1 a xs ∧ R (IteT K a) H1
theorem pi_enumT {X : Cx} {e : Expr} {ta : TA} {p pos tpos : Pos} {elts : List Expr} {kk : Nat} (hg : Gl X "enumerate") (hm : X.mg "enumerate" = none) (ha : PA X [e] ta) (hs : starEach [e] X.env = [(false, eval e X.env)] := by rfl) :
    PI X (.Tuple elts kk tpos) (.Call (.Name "enumerate" p) [e] [] pos) (iEnumT X.K ta) := by
  refine ⟨fun pins s σ H R I h => ?_⟩
  refine Call_ (ld_blt I hg hm boot_enumerate (PyProof.Rows.callWith_type1 (thn (ha.run pos pins s σ H _ I h) fun us s1 ⟨vs, H1, I1, r1, q1⟩ => ?_) hs rfl))
  obtain ⟨a, xs, ex, hq, q⟩ := q1
  subst ex
  cases r1 with
  | cons r rr =>
    cases rr
    cases r
    obtain ⟨its, rv, p', hz⟩ := I1.tuple hq
    have p2 : s1.heap.IsTuple a its.toArray := p'
    refine VL_enumB (begins_tuple a its.toArray) p2 fun h' he hit hsz hk => wpAny_pyIter_enum he ?_
    have I2 : Inv X pins σ H1 { s1 with heap := h' } := I1.kept (t' := s1.toks) hk
    have la : a < s1.heap.objs.size := by
      obtain ⟨o, ho, _⟩ := p2
      exact Heap.lt_size ho
    refine ⟨s1.heap.objs.size + 1, [s1.heap.objs.size + 1, s1.heap.objs.size], _, _, H1, rfl, I2, turn_enumT a (s1.heap.objs.size + 1) s1.heap.objs.size, ⟨⟨.none, he⟩, ⟨_, hit, rfl, rfl⟩, Nat.succ_ne_self _, Nat.ne_of_lt (Nat.lt_succ_of_lt la), Nat.ne_of_lt la⟩, fun b hb => ?_, q⟩
    have e' : b = s1.heap.objs.size + 1 ∨ b = s1.heap.objs.size := by simpa using hb
    have hle : s1.heap.objs.size ≤ b := by
      rcases e' with z | z
      · rw [z]
        exact Nat.le_add_right _ _
      · rw [z]
        exact Nat.le_refl _
    exact I1.fpOk hle (I1.hok.fresh hle)
end VL
set_option Elab.async false
set_option autoImplicit false
set_option linter.all false
set_option maxRecDepth 100000
set_option maxHeartbeats 2000000
namespace VL
open PySem PySem.Spec PyProof.Rows L2
/-! ### targets of loops -/
abbrev VG := D → Lo → (Lo → Prop) → Prop
abbrev VGs := List D → Lo → (Lo → Prop) → Prop
/-- is: the slots it stores at -/
def SimG (W : Cn) (is : List Nat) (g : TG) (m : VG) : Prop := ∀ (c : Ctx) (A : Addr → Prop) (L : Lo) (G : Gs) (σ : L2.St) (H : Hp) (d : D) (v : V) (k : Lo → Prop) (Qh : L2.St → Hp → Prop), Env W c A L G σ H → Den W c.dr A H d v → m d L k →
  (∀ L' σ', Env W c A L' G σ' H → (∀ vs : List Nat, (∀ i ∈ is, i ∈ vs) → wipe σ' vs = wipe σ vs) → k L' → Qh σ' H) → g v σ H Qh
def SimGs (W : Cn) (is : List Nat) (g : TGs) (m : VGs) : Prop := ∀ (c : Ctx) (A : Addr → Prop) (L : Lo) (G : Gs) (σ : L2.St) (H : Hp) (d : List D) (v : List V) (k : Lo → Prop) (Qh : L2.St → Hp → Prop), Env W c A L G σ H → DenL W c.dr A H d v → m d L k →
  (∀ L' σ', Env W c A L' G σ' H → (∀ vs : List Nat, (∀ i ∈ is, i ∈ vs) → wipe σ' vs = wipe σ vs) → k L' → Qh σ' H) → g v σ H Qh
structure JG (X : Cx) (T : List (Addr × Str)) (is : List Nat) (tg : Expr) (m : VG) : Prop where
  ex : ∃ g, PG X tg g ∧ SimG (cn X T) is g m
structure JGs (X : Cx) (T : List (Addr × Str)) (is : List Nat) (tgs : List Expr) (m : VGs) : Prop where
  ex : ∃ g, PGs X tgs g ∧ SimGs (cn X T) is g m
def vgName (i : Nat) : VG := fun d L k => setL L i (.val d) k
def vgNil : VGs := fun ds L k => match ds with
  | [] => k L
  | _ => False
def vgCons (m : VG) (r : VGs) : VGs := fun ds L k => match ds with
  | d :: ds => m d L fun L1 => r ds L1 k
  | [] => False
def vgTup (n : Nat) (r : VGs) : VG := fun d L k => match d with
  | .tup ds => ds.length = n ∧ r ds L k
  | _ => False
theorem wipe_set {σ : L2.St} {i : Nat} {x : Option V} : ∀ {vs : List Nat}, i ∈ vs → wipe (σ.set i x) vs = wipe σ vs
  | [], h => by simp at h
  | v :: vs, h => by
    unfold wipe
    by_cases e : i ∈ vs
    · rw [wipe_set e]
    · have e2 : i = v := by
        rcases List.mem_cons.mp h with q | q
        · exact q
        · exact (e q).elim
      subst e2
      have cm : ∀ (ws : List Nat), i ∉ ws → wipe (σ.set i x) ws = (wipe σ ws).set i x := fun ws => by
        induction ws with
        | nil => intro _; rfl
        | cons w ws ih =>
          intro hn
          unfold wipe
          have ne : i ≠ w := fun z => hn (by rw [z]; exact List.mem_cons_self)
          rw [ih fun z => hn (List.mem_cons_of_mem _ z), List.set_comm _ _ ne]
      rw [cm vs e, List.set_set]
section
variable {X : Cx} {T : List (Addr × Str)} {E : XK} {e e2 a b c' tg iter : Expr} {es rest tgs : List Expr} {m ma mb mc : VE} {n na nb : VT} {r : VA} {p pos pos' : Pos} {kk : Nat} {st : Stmt} {sts body : List Stmt} {ms mt mu : VS} {x y : Str} {i j : Nat} {g : VG} {gs : VGs} {is js : List Nat}
theorem jg_name (i : Nat) (hN : X.N.Nodup) (hi : X.N[i]? = some x) (hx : L2.Loc X.env.scope x) (hf : X.fn x = true ∨ X.env.scope.names.lookup x = some .local := by first | exact .inl rfl | exact .inr rfl) : JG X T [i] (.Name x pos) (vgName i) :=
  ⟨_, pg_name hN hi hx hf, fun c A L G σ H d v k Qh env hd hm hk => by
    obtain ⟨h1, h2⟩ := setL_of hm
    exact hk _ _ (env.setVal h1 hd) (fun vs hv => wipe_set (hv i (by simp))) h2⟩
theorem jgs_nil : JGs X T [] [] vgNil := ⟨_, pgs_nil, fun c A L G σ H d v k Qh env hd hm hk => by
  unfold vgNil at hm
  split at hm
  · rw [DenL] at hd
    exact ⟨hd, hk L σ env (fun _ _ => rfl) hm⟩
  · exact hm.elim⟩
theorem jgs_cons (h1 : JG X T is tg g) (h2 : JGs X T js tgs gs) (hs : (assignEach (tg :: tgs) X.env).map (·.2) = assign tg X.env :: (assignEach tgs X.env).map (·.2) := by rfl) : JGs X T (is ++ js) (tg :: tgs) (vgCons g gs) := by
  obtain ⟨t, a1, a2⟩ := h1.ex
  obtain ⟨u, b1, b2⟩ := h2.ex
  refine ⟨_, pgs_cons a1 b1 hs, fun c A L G σ H d v k Qh env hd hm hk => ?_⟩
  unfold vgCons at hm
  split at hm
  · rename_i d ds
    rw [DenL] at hd
    obtain ⟨w, r, e, d1, d2⟩ := hd
    refine ⟨w, r, e, a2 c A L G σ H d w _ _ env d1 hm fun L1 σ1 env1 w1 q1 => b2 c A L1 G σ1 H ds r _ _ env1 d2 q1 fun L2 σ2 env2 w2 q2 => hk L2 σ2 env2 (fun vs hv => ?_) q2⟩
    rw [w2 vs fun i h => hv i (List.mem_append_right _ h), w1 vs fun i h => hv i (List.mem_append_left _ h)]
  · exact hm.elim
theorem jg_tup {nn : Nat} (hc : X.calm = true) (h : JGs X T is tgs gs) (hn : (assignEach tgs X.env).length = nn := by rfl) (hst : (assignEach tgs X.env).findIdx? (·.1) = none := by rfl) : JG X T is (.Tuple tgs kk pos) (vgTup nn gs) := by
  obtain ⟨t, a1, a2⟩ := h.ex
  refine ⟨_, pg_tup hc a1 hn hst, fun c A L G σ H d v k Qh env hd hm hk => ?_⟩
  unfold vgTup at hm
  split at hm
  · rw [Den] at hd
    obtain ⟨a, vs, e, h1, h2⟩ := hd
    exact ⟨a, vs, e, h1, by rw [← h2.length]; exact hm.1, a2 c A L G σ H _ _ _ _ env h2 hm.2 hk⟩
  · exact hm.elim
/-- a, b = e -/
def vUnp (g : VG) (m : VE) : VS := fun Ev D L G => m Ev L G fun d G1 => g d L fun L1 => D.nx L1 G1
theorem js_unp (hg : JG X T is tg g) (h : JE X T E e m) (hs : swapsWithSole [tg] e pos.line X.env = pure false := by rfl) (hw : swappedStores [tg] e X.env = pure none := by rfl) (h1 : (assignEach [tg] X.env).map (·.2) = [assign tg X.env] := by rfl) : JS X T E (.Assign [tg] e pos) (vUnp g m) := by
  obtain ⟨t, a1, a2⟩ := h.ex
  obtain ⟨u, b1, b2⟩ := hg.ex
  exact ⟨_, ps_asg a1 b1 hs hw h1, fun c A Ev L G σ H Dv D hE hD env h => a2 c A Ev L G σ H _ _ hE env h fun d v G1 H1 p1 d1 q1 => b2 c A L G1 σ H1 d v _ _ (env.to p1) d1 q1 fun L1 σ1 env1 _ q2 => hD.nx A L1 G1 σ1 H1 env1 q2⟩
/-! ### what is walked -/
/-- the items, the own slots that are locked -/
abbrev VI := EK → Lo → Gs → (List D → List Nat → Gs → Prop) → Prop
def lock1 (i : Nat) (L : Lo) : Lo := match L[i]? with
  | some (.own d) => L.set i (.lck d)
  | _ => L
def unl1 (i : Nat) (L : Lo) : Lo := match L[i]? with
  | some (.lck d) => L.set i (.own d)
  | _ => L
def lockL : List Nat → Lo → Lo
  | [], L => L
  | i :: is, L => lockL is (lock1 i L)
def unlL : List Nat → Lo → Lo
  | [], L => L
  | i :: is, L => unl1 i (unlL is L)
theorem lockL_append : ∀ (is js : List Nat) (L : Lo), lockL (is ++ js) L = lockL js (lockL is L)
  | [], _, _ => rfl
  | i :: is, js, L => lockL_append is js (lock1 i L)
theorem unlL_append : ∀ (is js : List Nat) (L : Lo), unlL (is ++ js) L = unlL is (unlL js L)
  | [], _, _ => rfl
  | i :: is, js, L => by
    show unl1 i (unlL (is ++ js) L) = unl1 i (unlL is (unlL js L))
    rw [unlL_append]
abbrev Ctx.wt (c : Ctx) (T : List Tmp) : Ctx := { c with T := T }
/-- back to the loop's own context -/
def Back (W : Cn) (c : Ctx) (T : List Tmp) (lks : List Nat) : Prop := ∀ A L G σ H, Env W (c.wt T) A L G σ H → Env W c A (unlL lks L) G σ H
/-- what the iterator gives -/
structure Wk (W : Cn) (c : Ctx) (J : It) (items : List D) : Prop where
  goes : ∀ (i : Nat) A L G σ H, Env W c A L G σ H → i < items.length → J.go i H
  stops : ∀ A L G σ H, Env W c A L G σ H → J.stop items.length H
  yields : ∀ (i : Nat) A L G σ H x H', Env W c A L G σ H → i < items.length → J.yld i H x H' → ∃ d, items[i]? = some d ∧ Post W c.dr A H H' G ∧ Den W c.dr A H' d x
def SimI (W : Cn) (E : XK) (wi : TI) (m : VI) : Prop := ∀ (c : Ctx) (A : Addr → Prop) (Ev : EK) (L : Lo) (G : Gs) (σ : L2.St) (H : Hp) (Q : List D → List Nat → Gs → Prop) (R : It → Hp → Prop), ErrOk W c E Ev → Env W c A L G σ H → m Ev L G Q →
  (∀ items lks T' G' H' J, Post W c.dr A H H' G' → Env W (c.wt T') A (lockL lks L) G' σ H' → Back W c T' lks → Wk W (c.wt T') J items → Q items lks G' → R J H') → wi σ H R
structure JI (X : Cx) (T : List (Addr × Str)) (E : XK) (tg e : Expr) (m : VI) : Prop where
  ex : ∃ wi, PI X tg e wi ∧ SimI (cn X T) E wi m
def SqK (K : PySem.W.Frag) (H : Hp) (a : Addr) (vs : List V) : Bool → Prop
  | true => SqL K H a vs
  | false => SqT K H a vs
/-- v is a list (k: true) or a tuple of ds, as long as the environment stands -/
def SeqAt (W : Cn) (c : Ctx) (k : Bool) (v : V) (ds : List D) : Prop := ∃ a, v = .ref a ∧ ∀ A L G σ H, Env W c A L G σ H → ∃ vs, SqK W.K H a vs k ∧ DenL W c.dr A H ds vs
def SimQ (W : Cn) (E : XK) (te : TE) (m : VI) : Prop := ∀ (c : Ctx) (A : Addr → Prop) (Ev : EK) (L : Lo) (G : Gs) (σ : L2.St) (H : Hp) (Q : List D → List Nat → Gs → Prop) (Qh : VK), ErrOk W c E Ev → Env W c A L G σ H → m Ev L G Q →
  (∀ k ds lks T' v G' H', Post W c.dr A H H' G' → Env W (c.wt T') A (lockL lks L) G' σ H' → Back W c T' lks → SeqAt W (c.wt T') k v ds → Q ds lks G' → Qh v H') → te σ H Qh
structure JQ (X : Cx) (T : List (Addr × Str)) (E : XK) (e : Expr) (m : VI) : Prop where
  ex : ∃ te, PE X e te ∧ SimQ (cn X T) E te m
theorem SeqAt.wk {W : Cn} {c : Ctx} {T' : List Tmp} {k : Bool} {v : V} {ds : List D} (h : SeqAt W (c.wt T') k v ds) : ∀ T2, (∀ A L G σ H, Env W (c.wt T2) A L G σ H → ∃ L2, Env W (c.wt T') A L2 G σ H) → SeqAt W (c.wt T2) k v ds := fun T2 hb => by
  obtain ⟨a, e, h⟩ := h
  refine ⟨a, e, fun A L G σ H env => ?_⟩
  obtain ⟨L2, env2⟩ := hb A L G σ H env
  exact h A L2 G σ H env2
end
section
variable {W : Cn} {c : Ctx} {A : Addr → Prop} {L : Lo} {G G' : Gs} {σ : L2.St} {H H' : Hp} {T' : List Tmp} {t : Tmp} {i : Nat} {a : Addr} {d : D}
/-- one thing more to stay -/
theorem Env.add (E : Env W c A L G σ H) (h : TmpOk W c A H L σ t) : Env W (c.wt (t :: c.T)) A L G σ H where
  ext := E.ext
  draw := E.draw
  tabs := E.tabs
  base := E.base
  bdom := E.bdom
  own := E.own
  adr := E.adr
  len := E.len
  slots := E.slots
  inj := E.inj
  tmp := fun u hu => by
    rcases List.mem_cons.mp hu with e | e
    · subst e
      cases u with
      | den d v => exact h
      | lock i a d => exact h
    · have q := E.tmp u e
      cases u with
      | den d v => exact q
      | lock i a d => exact q
theorem Env.less (E : Env W (c.wt (t :: c.T)) A L G σ H) : Env W c A L G σ H where
  ext := E.ext
  draw := E.draw
  tabs := E.tabs
  base := E.base
  bdom := E.bdom
  own := E.own
  adr := E.adr
  len := E.len
  slots := E.slots
  inj := E.inj
  tmp := fun u hu => by
    have q := E.tmp u (List.mem_cons_of_mem _ hu)
    cases u with
    | den d v => exact q
    | lock i a d => exact q
/-- another mark at a slot -/
theorem Env.mark (E : Env W c A L G σ H) {s s' : Slot} (hs : L[i]? = some s) (ho : isOwn s) (ho' : isOwn s') (hv : ∀ A H x, SlotOk W c A H x s → SlotOk W c A H x s') (hn : ∀ a d, .lock i a d ∉ c.T) : Env W c A (L.set i s') G σ H where
  ext := E.ext
  draw := E.draw
  tabs := E.tabs
  base := E.base
  bdom := E.bdom
  own := E.own
  adr := E.adr
  len := by rw [List.length_set]; exact E.len
  slots := fun j u h => by
    by_cases e : i = j
    · subst e
      rw [List.getElem?_set_self (List.getElem?_eq_some_iff.mp hs).1] at h
      cases h
      exact hv _ _ _ (E.slots i s hs)
    · rw [List.getElem?_set_ne e] at h
      exact E.slots j u h
  inj := fun j k u w b h1 h2 o1 o2 e1 e2 => by
    have bk : ∀ {j : Nat} {u : Slot}, (L.set i s')[j]? = some u → isOwn u → ∃ u', L[j]? = some u' ∧ isOwn u' := fun {j u} h o => by
      by_cases e : i = j
      · subst e
        exact ⟨s, hs, ho⟩
      · rw [List.getElem?_set_ne e] at h
        exact ⟨u, h, o⟩
    obtain ⟨u', q1, r1⟩ := bk h1 o1
    obtain ⟨w', q2, r2⟩ := bk h2 o2
    exact E.inj j k u' w' b q1 q2 r1 r2 e1 e2
  tmp := fun u hu => by
    have q := E.tmp u hu
    cases u with
    | den d v => exact q
    | lock j a d =>
      obtain ⟨q1, q2, q3⟩ := q
      have ne : i ≠ j := fun e => hn a d (e ▸ hu)
      exact ⟨by rw [List.getElem?_set_ne ne]; exact q1, q2, q3⟩
/-- an own slot is locked -/
theorem Env.lock (E : Env W c A L G σ H) (hs : L[i]? = some (.own d)) : ∃ a, σ[i]? = some (some (.ref a)) ∧ Env W (c.wt (.lock i a d :: c.T)) A (lockL [i] L) G σ H ∧ Back W c (.lock i a d :: c.T) [i] := by
  have no : ∀ a d, Tmp.lock i a d ∉ c.T := fun a d z => by
    obtain ⟨q, _⟩ := E.tmp _ z
    rw [hs] at q
    cases q
  obtain ⟨a, e, h1, h2, h3⟩ := E.slots i _ hs
  have el : lockL [i] L = L.set i (.lck d) := by
    show lock1 i L = _
    unfold lock1
    rw [hs]
  refine ⟨a, e, ?_, fun A L G σ H env => ?_⟩
  · rw [el]
    have E1 := E.mark (s' := .lck d) hs True.intro True.intro (fun _ _ _ z => z) no
    exact E1.add ⟨List.getElem?_set_self (List.getElem?_eq_some_iff.mp hs).1, e, E.ne h1⟩
  · obtain ⟨q, _⟩ := env.tmp (.lock i a d) List.mem_cons_self
    show Env W c A (unl1 i L) G σ H
    unfold unl1
    rw [q]
    exact env.less.mark (s' := .own d) q True.intro True.intro (fun _ _ _ z => z) no
end
end VL
set_option Elab.async false
set_option autoImplicit false
set_option linter.all false
set_option maxRecDepth 100000
set_option maxHeartbeats 2000000
namespace VL
open PySem PySem.Spec PyProof.Rows L2
/-! ### lists or tuples, by what comes -/
def iSeq (K : PySem.W.Frag) (tl : TE) : TI := fun σ H R => tl σ H fun x H1 => ∃ a, x = .ref a ∧ (((∃ xs, SqL K H1 a xs) ∧ R (Itl K a) H1) ∨ ((∃ xs, SqT K H1 a xs) ∧ R (Itt K a) H1))
theorem pi_seq {X : Cx} {tg l : Expr} {tl : TE} (hl : PE X l tl) : PI X tg l (iSeq X.K tl) := by
  refine ⟨fun pins s σ H R I h => ?_⟩
  refine thn (hl.run pins s σ H _ I h) fun v s1 ⟨x, H1, I1, r1, a, e, q1⟩ => ?_
  subst e
  cases r1
  have fp : ∀ b ∈ [s1.heap.objs.size], FpOk X pins H1 b := fun b hb => by
    have e : b = s1.heap.objs.size := by simpa using hb
    subst e
    exact I1.fpOk (Nat.le_refl _) (I1.hok.fresh (Nat.le_refl _))
  rcases q1 with ⟨⟨xs, hq⟩, q⟩ | ⟨⟨xs, hq⟩, q⟩
  · obtain ⟨its, rv, p, hz⟩ := I1.list hq
    exact wpAny_pyIter_list p.isList ⟨s1.heap.objs.size, [s1.heap.objs.size], _, _, H1, rfl, I1.kept (t' := s1.toks) fun b o e => Heap.get?_push_of_some _ e, turn_list a _, ⟨_, Heap.get?_push_size _ rfl, rfl, rfl⟩, fp, q⟩
  · obtain ⟨its, rv, p, hz⟩ := I1.tuple hq
    exact wpAny_pyIter_tuple (show s1.heap.IsTuple a its.toArray from p) ⟨s1.heap.objs.size, [s1.heap.objs.size], _, _, H1, rfl, I1.kept (t' := s1.toks) fun b o e => Heap.get?_push_of_some _ e, turn_tuple a _, ⟨_, Heap.get?_push_size _ rfl, rfl, rfl⟩, fp, q⟩
def iEnumA (K : PySem.W.Frag) (ta : TA) : TI := fun σ H R => ta σ H fun vs H1 => ∃ a xs, vs = [.ref a] ∧ ((SqL K H1 a xs ∧ R (Ite K a) H1) ∨ (SqT K H1 a xs ∧ R (IteT K a) H1))
theorem pi_enumA {X : Cx} {e : Expr} {ta : TA} {p pos tpos : Pos} {elts : List Expr} {kk : Nat} (hg : Gl X "enumerate") (hm : X.mg "enumerate" = none) (ha : PA X [e] ta) (hs : starEach [e] X.env = [(false, eval e X.env)] := by rfl) :
    PI X (.Tuple elts kk tpos) (.Call (.Name "enumerate" p) [e] [] pos) (iEnumA X.K ta) := by
  refine ⟨fun pins s σ H R I h => ?_⟩
  refine Call_ (ld_blt I hg hm boot_enumerate (PyProof.Rows.callWith_type1 (thn (ha.run pos pins s σ H _ I h) fun us s1 ⟨vs, H1, I1, r1, q1⟩ => ?_) hs rfl))
  obtain ⟨a, xs, ex, q1⟩ := q1
  subst ex
  cases r1 with
  | cons r rr =>
    cases rr
    cases r
    have fp : ∀ b ∈ [s1.heap.objs.size + 1, s1.heap.objs.size], FpOk X pins H1 b := fun b hb => by
      have e' : b = s1.heap.objs.size + 1 ∨ b = s1.heap.objs.size := by simpa using hb
      have hle : s1.heap.objs.size ≤ b := by
        rcases e' with z | z
        · rw [z]
          exact Nat.le_add_right _ _
        · rw [z]
          exact Nat.le_refl _
      exact I1.fpOk hle (I1.hok.fresh hle)
    rcases q1 with ⟨hq, q⟩ | ⟨hq, q⟩
    · obtain ⟨its, rv, p', hz⟩ := I1.list hq
      refine call_enumerate_list p'.isList fun h' he hit hsz hk => wpAny_pyIter_enum he ?_
      have I2 : Inv X pins σ H1 { s1 with heap := h' } := I1.kept (t' := s1.toks) hk
      exact ⟨s1.heap.objs.size + 1, [s1.heap.objs.size + 1, s1.heap.objs.size], _, _, H1, rfl, I2, turn_enum a (s1.heap.objs.size + 1) s1.heap.objs.size, ⟨⟨.none, he⟩, hit, Nat.succ_ne_self _⟩, fp, q⟩
    · obtain ⟨its, rv, p', hz⟩ := I1.tuple hq
      have p2 : s1.heap.IsTuple a its.toArray := p'
      refine VL_enumB (begins_tuple a its.toArray) p2 fun h' he hit hsz hk => wpAny_pyIter_enum he ?_
      have I2 : Inv X pins σ H1 { s1 with heap := h' } := I1.kept (t' := s1.toks) hk
      have la : a < s1.heap.objs.size := by
        obtain ⟨o, ho, _⟩ := p2
        exact Heap.lt_size ho
      exact ⟨s1.heap.objs.size + 1, [s1.heap.objs.size + 1, s1.heap.objs.size], _, _, H1, rfl, I2, turn_enumT a (s1.heap.objs.size + 1) s1.heap.objs.size, ⟨⟨.none, he⟩, ⟨_, hit, rfl, rfl⟩, Nat.succ_ne_self _, Nat.ne_of_lt (Nat.lt_succ_of_lt la), Nat.ne_of_lt la⟩, fp, q⟩
/-! ### sequences to walk -/
def seqD : D → Option (List D)
  | .lst ds => some ds
  | .tup ds => some ds
  | .scr ns => some (ns.map D.int)
  | _ => none
def seqK : D → Bool
  | .tup _ => false
  | _ => true
theorem Den.seq {W : Cn} {dr : Dr} {A : Addr → Prop} {H : Hp} {d : D} {ds : List D} {v : V} (h : Den W dr A H d v) (e : seqD d = some ds) : ∃ a vs, v = .ref a ∧ SqK W.K H a vs (seqK d) ∧ DenL W dr A H ds vs := by
  cases d with
  | lst l =>
    cases e
    rw [Den] at h
    obtain ⟨a, vs, e, _, _, h1, h2⟩ := h
    exact ⟨a, vs, e, SqL.of h1, h2⟩
  | tup l =>
    cases e
    rw [Den] at h
    obtain ⟨a, vs, e, h1, h2⟩ := h
    exact ⟨a, vs, e, h1, h2⟩
  | scr l =>
    cases e
    obtain ⟨a, e, h1⟩ := Rdn.scr (.inl h)
    exact ⟨a, _, e, h1, .ints l⟩
  | _ => cases e
theorem SeqAt.den {W : Cn} {c : Ctx} {A : Addr → Prop} {L : Lo} {G : Gs} {σ : L2.St} {H : Hp} {d : D} {ds : List D} {v : V} (env : Env W c A L G σ H) (h : Den W c.dr A H d v) (e : seqD d = some ds) :
    Env W (c.wt (.den d v :: c.T)) A L G σ H ∧ Back W c (.den d v :: c.T) [] ∧ SeqAt W (c.wt (.den d v :: c.T)) (seqK d) v ds := by
  refine ⟨env.add h, fun A L G σ H env => env.less, ?_⟩
  obtain ⟨a, vs, ev, _, _⟩ := h.seq e
  refine ⟨a, ev, fun A L G σ H env => ?_⟩
  obtain ⟨a', vs, ev', h1, h2⟩ := Den.seq (show Den W c.dr A H d v from env.tmp (.den d v) List.mem_cons_self) e
  rw [ev] at ev'
  cases ev'
  exact ⟨vs, h1, h2⟩
def vqVar (i : Nat) : VI := fun _ L G Q => match L[i]? with
  | some (.val d) => (match seqD d with
    | some ds => Q ds [] G
    | none => False)
  | some (.own (.lst ds)) => Q ds [i] G
  | some (.lck (.lst ds)) => Q ds [] G
  | _ => False
def vqVal (m : VE) : VI := fun Ev L G Q => m Ev L G fun d G1 => match seqD d with
  | some ds => Q ds [] G1
  | none => False
section
variable {X : Cx} {T : List (Addr × Str)} {E : XK} {e e2 a b c' tg iter : Expr} {es rest tgs : List Expr} {m ma mb mc : VE} {n na nb : VT} {r : VA} {p pos pos' tpos : Pos} {kk : Nat} {st : Stmt} {sts body : List Stmt} {ms mt mu : VS} {x y : Str} {i j : Nat} {g : VG} {gs : VGs} {is js : List Nat} {q q1 q2 : VI} {elts : List Expr}
theorem SeqAt.lck {W : Cn} {c : Ctx} {T' : List Tmp} {ds : List D} {a : Addr} (h : .lock i a (.lst ds) ∈ T') : SeqAt W (c.wt T') true (.ref a) ds := ⟨a, rfl, fun A L G σ H env => by
  obtain ⟨t1, t2, t3⟩ := env.tmp _ h
  obtain ⟨b, e1, h1, h2, vs, h3, h4⟩ := env.slots i _ t1
  rw [t2] at e1
  cases e1
  exact ⟨vs, SqL.of h3, h4⟩⟩
theorem jq_var (i : Nat) (h : PE X e (tVar i)) : JQ X T E e (vqVar i) := ⟨_, h, fun c A Ev L G σ H Q Qh hE env hm k => by
  unfold vqVar at hm
  split at hm
  · rename_i d hd
    split at hm
    · rename_i ds es
      obtain ⟨v, e1, e2⟩ := env.slots i _ hd
      obtain ⟨h1, h2, h3⟩ := SeqAt.den env e2 es
      exact ⟨v, e1, k _ ds [] _ v G H (.refl env) h1 h2 h3 hm⟩
    · exact hm.elim
  · rename_i ds hd
    obtain ⟨a, e1, h1, h2⟩ := env.lock hd
    exact ⟨.ref a, e1, k true ds [i] _ (.ref a) G H (.refl env) h1 h2 (SeqAt.lck List.mem_cons_self) hm⟩
  · rename_i ds hd
    obtain ⟨a, e1, h1, h2, h3⟩ := env.slots i _ hd
    exact ⟨.ref a, e1, k true ds [] (.lock i a (.lst ds) :: c.T) (.ref a) G H (.refl env) (env.add ⟨hd, e1, env.ne h1⟩) (fun A L G σ H env => env.less) (SeqAt.lck List.mem_cons_self) hm⟩
  · exact hm.elim⟩
theorem jq_val (h : JE X T E e m) : JQ X T E e (vqVal m) := by
  obtain ⟨t, a1, a2⟩ := h.ex
  refine ⟨t, a1, fun c A Ev L G σ H Q Qh hE env hm k => a2 c A Ev L G σ H _ _ hE env hm fun d v G1 H1 p1 d1 q1 => ?_⟩
  split at q1
  · rename_i ds es
    obtain ⟨h1, h2, h3⟩ := SeqAt.den (env.to p1) d1 es
    exact k _ ds [] _ v G1 H1 p1 h1 h2 h3 q1
  · exact q1.elim
/-! ### sources -/
def ItA (K : PySem.W.Frag) (a : Addr) : Bool → It
  | true => Itl K a
  | false => Itt K a
def IteA (K : PySem.W.Frag) (a : Addr) : Bool → It
  | true => Ite K a
  | false => IteT K a
theorem Wk.seq {W : Cn} {c : Ctx} {ds : List D} {a : Addr} {k : Bool} (h : SeqAt W c k (.ref a) ds) : Wk W c (ItA W.K a k) ds := by
  obtain ⟨a', e, h⟩ := h
  cases e
  cases k with
  | true =>
    refine ⟨fun i A L G σ H env hi => ?_, fun A L G σ H env => ?_, fun i A L G σ H x H' env hi hy => ?_⟩
    · obtain ⟨vs, h1, h2⟩ := h A L G σ H env
      exact ⟨vs, vs[i]'(by rw [← h2.length]; exact hi), h1, by simp [← h2.length, hi]⟩
    · obtain ⟨vs, h1, h2⟩ := h A L G σ H env
      exact ⟨vs, h1, by rw [h2.length]; exact Nat.le_refl _⟩
    · obtain ⟨vs, h1, h2⟩ := h A L G σ H env
      obtain ⟨y1, y2⟩ := hy
      subst y1
      obtain ⟨d, e1, e2⟩ := h2.getV (y2 vs h1)
      exact ⟨d, e1, .refl env, e2⟩
  | false =>
    refine ⟨fun i A L G σ H env hi => ?_, fun A L G σ H env => ?_, fun i A L G σ H x H' env hi hy => ?_⟩
    · obtain ⟨vs, h1, h2⟩ := h A L G σ H env
      exact ⟨vs, vs[i]'(by rw [← h2.length]; exact hi), h1, by simp [← h2.length, hi]⟩
    · obtain ⟨vs, h1, h2⟩ := h A L G σ H env
      exact ⟨vs, h1, by rw [h2.length]; exact Nat.le_refl _⟩
    · obtain ⟨vs, h1, h2⟩ := h A L G σ H env
      obtain ⟨y1, y2⟩ := hy
      subst y1
      obtain ⟨d, e1, e2⟩ := h2.getV (y2 vs h1)
      exact ⟨d, e1, .refl env, e2⟩
theorem ji_seq (h : JQ X T E iter q) : JI X T E tg iter q := by
  obtain ⟨t, a1, a2⟩ := h.ex
  refine ⟨_, pi_seq a1, fun c A Ev L G σ H Q R hE env hm k => a2 c A Ev L G σ H _ _ hE env hm fun kd ds lks T' v G1 H1 p1 env1 bk sq q1 => ?_⟩
  obtain ⟨a, e, hs⟩ := id sq
  subst e
  have wk := Wk.seq sq
  obtain ⟨vs, h1, h2⟩ := hs _ _ _ _ _ env1
  cases kd with
  | true => exact ⟨a, rfl, .inl ⟨⟨vs, h1⟩, k _ _ _ _ _ _ p1 env1 bk wk q1⟩⟩
  | false => exact ⟨a, rfl, .inr ⟨⟨vs, h1⟩, k _ _ _ _ _ _ p1 env1 bk wk q1⟩⟩
/-- a new pair -/
theorem den_pair {W : Cn} {c : Ctx} {A : Addr → Prop} {L : Lo} {G : Gs} {σ : L2.St} {H : Hp} (env : Env W c A L G σ H) {p : Addr} {d1 d2 : D} {v1 v2 : V} (hp : H p = none) (h1 : Den W c.dr A H d1 v1) (h2 : Den W c.dr A H d2 v2) :
    Post W c.dr A H (upd H p (.tup [v1, v2])) G ∧ Den W c.dr A (upd H p (.tup [v1, v2])) (.tup [d1, d2]) (.ref p) := by
  have po := Post.new env (o := .tup [v1, v2]) hp
  refine ⟨po, ?_⟩
  rw [Den]
  exact ⟨p, _, rfl, .of upd_same, .cons (h1.post po env.draw) (.cons (h2.post po env.draw) .nil)⟩
def enumD : Nat → List D → List D
  | _, [] => []
  | n, d :: ds => .tup [.int (n : Int), d] :: enumD (n + 1) ds
theorem enumD_get : ∀ (ds : List D) (n i : Nat) {d : D}, ds[i]? = some d → (enumD n ds)[i]? = some (.tup [.int ((n + i : Nat) : Int), d])
  | [], _, _, _, h => by simp at h
  | e :: ds, n, 0, d, h => by
    cases h
    rfl
  | e :: ds, n, i + 1, d, h => by
    have := enumD_get ds (n + 1) i (d := d) (by simpa using h)
    rw [show n + 1 + i = n + (i + 1) by omega] at this
    simpa [enumD] using this
theorem enumD_length : ∀ (ds : List D) (n : Nat), (enumD n ds).length = ds.length
  | [], _ => rfl
  | _ :: ds, n => by rw [enumD, List.length_cons, List.length_cons, enumD_length ds]
theorem Wk.enum {W : Cn} {c : Ctx} {ds : List D} {a : Addr} {k : Bool} (h : SeqAt W c k (.ref a) ds) : Wk W c (IteA W.K a k) (enumD 0 ds) := by
  obtain ⟨a', e, h⟩ := h
  cases e
  have key : ∀ {A L G σ H} (env : Env W c A L G σ H) {i : Nat} {vs : List V} {T : Addr} {x : V}, DenL W c.dr A H ds vs → vs[i]? = some x → H T = none → ∃ d, (enumD 0 ds)[i]? = some d ∧ Post W c.dr A H (upd H T (.tup [.int (i : Nat), x])) G ∧ Den W c.dr A (upd H T (.tup [.int (i : Nat), x])) d (.ref T) := fun {A L G σ H} env {i vs T x} h2 hx hT => by
    obtain ⟨d, e1, e2⟩ := h2.getV hx
    obtain ⟨g1, g2⟩ := den_pair env hT (den_int (i := (i : Int))) e2
    exact ⟨_, by rw [enumD_get ds 0 i e1, Nat.zero_add], g1, g2⟩
  cases k with
  | true =>
    refine ⟨fun i A L G σ H env hi => ?_, fun A L G σ H env => ?_, fun i A L G σ H x H' env hi hy => ?_⟩
    · obtain ⟨vs, h1, h2⟩ := h A L G σ H env
      rw [enumD_length] at hi
      exact ⟨vs, vs[i]'(by rw [← h2.length]; exact hi), h1, by simp [← h2.length, hi]⟩
    · obtain ⟨vs, h1, h2⟩ := h A L G σ H env
      exact ⟨vs, h1, by rw [enumD_length, h2.length]; exact Nat.le_refl _⟩
    · obtain ⟨vs, h1, h2⟩ := h A L G σ H env
      obtain ⟨T, y, rfl, y1, rfl, y2⟩ := hy
      exact key env h2 (y2 vs h1) y1
  | false =>
    refine ⟨fun i A L G σ H env hi => ?_, fun A L G σ H env => ?_, fun i A L G σ H x H' env hi hy => ?_⟩
    · obtain ⟨vs, h1, h2⟩ := h A L G σ H env
      rw [enumD_length] at hi
      exact ⟨vs, vs[i]'(by rw [← h2.length]; exact hi), h1, by simp [← h2.length, hi]⟩
    · obtain ⟨vs, h1, h2⟩ := h A L G σ H env
      exact ⟨vs, h1, by rw [enumD_length, h2.length]; exact Nat.le_refl _⟩
    · obtain ⟨vs, h1, h2⟩ := h A L G σ H env
      obtain ⟨T, y, rfl, y1, rfl, y2⟩ := hy
      exact key env h2 (y2 vs h1) y1
def viEnum (q : VI) : VI := fun Ev L G Q => q Ev L G fun ds lks G1 => Q (enumD 0 ds) lks G1
theorem ji_enum (h : JQ X T E e q) (hm : X.mg "enumerate" = none) (hg : Gl X "enumerate" := by rfl) (hs : starEach [e] X.env = [(false, eval e X.env)] := by rfl) : JI X T E (.Tuple elts kk tpos) (.Call (.Name "enumerate" p) [e] [] pos) (viEnum q) := by
  obtain ⟨t, a1, a2⟩ := h.ex
  refine ⟨_, pi_enumA hg hm (pa_cons a1 pa_nil hs) hs, fun c A Ev L G σ H Q R hE env hm k => a2 c A Ev L G σ H _ _ hE env hm fun kd ds lks T' v G1 H1 p1 env1 bk sq q1 => ?_⟩
  obtain ⟨a, e, hs⟩ := id sq
  subst e
  have wk := Wk.enum sq
  obtain ⟨vs, h1, h2⟩ := hs _ _ _ _ _ env1
  cases kd with
  | true => exact ⟨a, vs, rfl, .inl ⟨h1, k _ _ _ _ _ _ p1 env1 bk wk q1⟩⟩
  | false => exact ⟨a, vs, rfl, .inr ⟨h1, k _ _ _ _ _ _ p1 env1 bk wk q1⟩⟩
end
end VL
set_option Elab.async false
set_option autoImplicit false
set_option linter.all false
set_option maxRecDepth 100000
set_option maxHeartbeats 2000000
namespace VL
open PySem PySem.Spec PyProof.Rows L2
section
variable {X : Cx} {T : List (Addr × Str)} {E : XK} {e e2 a b c' tg iter : Expr} {es rest tgs : List Expr} {m ma mb mc : VE} {n na nb : VT} {r : VA} {p pos pos' tpos : Pos} {kk : Nat} {st : Stmt} {sts body : List Stmt} {ms mt mu : VS} {x y : Str} {i j : Nat} {g : VG} {gs : VGs} {is js : List Nat} {q q1 q2 : VI} {q3 q4 : Bool → VI} {elts : List Expr}
/-! ### ranges -/
def rangeD (lo c : Int) (n : Nat) : List D := (List.range n).map fun i : Nat => .int (lo + (i : Int) * c)
theorem rangeD_length {lo c : Int} {n : Nat} : (rangeD lo c n).length = n := by simp [rangeD]
theorem rangeD_get {lo c : Int} {n i : Nat} (h : i < n) : (rangeD lo c n)[i]? = some (.int (lo + (i : Int) * c)) := by simp [rangeD, h]
def sm62 (i : Int) : Prop := -(2 ^ 62) ≤ i ∧ i < 2 ^ 62
def viRng1 (r : VA) : VI := fun Ev L G Q => r Ev L G fun ds G1 => match ds with
  | [.int j] => sm62 j ∧ Q (rangeD 0 1 j.toNat) [] G1
  | _ => False
def viRng2 (r : VA) : VI := fun Ev L G Q => r Ev L G fun ds G1 => match ds with
  | [.int i, .int j] => sm62 i ∧ sm62 j ∧ Q (rangeD i 1 (j - i).toNat) [] G1
  | _ => False
/-- range(i, j, -1) -/
def viRng3 (r : VA) : VI := fun Ev L G Q => r Ev L G fun ds G1 => match ds with
  | [.int i, .int j, .int (-1)] => sm62 i ∧ sm62 j ∧ Q (rangeD i (-1) (i - j).toNat) [] G1
  | _ => False
theorem DenL.one' {W : Cn} {dr : Dr} {A : Addr → Prop} {H : Hp} {i : Int} {vs : List V} (h : DenL W dr A H [.int i] vs) : vs = [.int i] := by
  have := DenL.intsV (ns := [i]) h
  exact this
theorem DenL.two' {W : Cn} {dr : Dr} {A : Addr → Prop} {H : Hp} {i j : Int} {vs : List V} (h : DenL W dr A H [.int i, .int j] vs) : vs = [.int i, .int j] := DenL.intsV (ns := [i, j]) h
theorem DenL.three' {W : Cn} {dr : Dr} {A : Addr → Prop} {H : Hp} {i j k : Int} {vs : List V} (h : DenL W dr A H [.int i, .int j, .int k] vs) : vs = [.int i, .int j, .int k] := DenL.intsV (ns := [i, j, k]) h
theorem Wk.rng {W : Cn} {c : Ctx} {lo : Int} {n : Nat} : Wk W c (Itr lo n) (rangeD lo 1 n) :=
  ⟨fun i A L G σ H env hi => by rw [rangeD_length] at hi; exact hi, fun A L G σ H env => by rw [rangeD_length]; exact Nat.le_refl _, fun i A L G σ H x H' env hi hy => by
    rw [rangeD_length] at hi
    obtain ⟨y1, y2⟩ := hy
    subst y1 y2
    exact ⟨_, rangeD_get hi, .refl env, by rw [Int.mul_one]; exact den_int⟩⟩
theorem Wk.rngC {W : Cn} {c : Ctx} {lo s : Int} {n : Nat} : Wk W c (Itc lo s n) (rangeD lo s n) :=
  ⟨fun i A L G σ H env hi => by rw [rangeD_length] at hi; exact hi, fun A L G σ H env => by rw [rangeD_length]; exact Nat.le_refl _, fun i A L G σ H x H' env hi hy => by
    rw [rangeD_length] at hi
    obtain ⟨y1, y2⟩ := hy
    subst y1 y2
    exact ⟨_, rangeD_get hi, .refl env, den_int⟩⟩
theorem wt_same {W : Cn} {c : Ctx} {A : Addr → Prop} {L : Lo} {G : Gs} {σ : L2.St} {H : Hp} (env : Env W c A L G σ H) : Env W (c.wt c.T) A (lockL [] L) G σ H := env
theorem ji_rng1 (h : JA X T E [a] r) (hm : X.mg "range" = none) (hg : Gl X "range" := by rfl) (hs : starEach [a] X.env = [(false, eval a X.env)] := by rfl) : JI X T E tg (.Call (.Name "range" p) [a] [] pos) (viRng1 r) := by
  obtain ⟨t, a1, a2⟩ := h.ex
  refine ⟨_, pi_range1 hg hm a1 hs, fun c A Ev L G σ H Q R hE env hm k => a2 c A Ev L G σ H _ _ hE env hm fun ds vs G1 H1 p1 d1 q1 => ?_⟩
  split at q1
  · rename_i j
    obtain ⟨⟨s1, s2⟩, q2⟩ := q1
    have ev := DenL.one' d1
    subst ev
    exact ⟨j, rfl, s1, s2, k _ [] c.T G1 H1 _ p1 (env.to p1) (fun _ _ _ _ _ z => z) Wk.rng q2⟩
  · exact q1.elim
theorem ji_rng2 (h : JA X T E [a, b] r) (hm : X.mg "range" = none) (hg : Gl X "range" := by rfl) (hs : starEach [a, b] X.env = [(false, eval a X.env), (false, eval b X.env)] := by rfl) (hs2 : starEach [b] X.env = [(false, eval b X.env)] := by rfl) : JI X T E tg (.Call (.Name "range" p) [a, b] [] pos) (viRng2 r) := by
  obtain ⟨t, a1, a2⟩ := h.ex
  refine ⟨_, pi_range2 hg hm a1 hs hs2, fun c A Ev L G σ H Q R hE env hm k => a2 c A Ev L G σ H _ _ hE env hm fun ds vs G1 H1 p1 d1 q1 => ?_⟩
  split at q1
  · rename_i i j
    obtain ⟨⟨s1, s2⟩, ⟨s3, s4⟩, q2⟩ := q1
    have ev := DenL.two' d1
    subst ev
    exact ⟨i, j, rfl, ⟨s1, s2, s3, s4⟩, k _ [] c.T G1 H1 _ p1 (env.to p1) (fun _ _ _ _ _ z => z) Wk.rng q2⟩
  · exact q1.elim
theorem ji_rng3 {a3 : Expr} (h : JA X T E [a, b, a3] r) (hm : X.mg "range" = none) (hg : Gl X "range" := by rfl) (hs : starEach [a, b, a3] X.env = (false, eval a X.env) :: starEach [b, a3] X.env := by rfl) (hpl : (backTo pos (starEach [b, a3] X.env)).any (·.1) = false := by rfl) : JI X T E tg (.Call (.Name "range" p) [a, b, a3] [] pos) (viRng3 r) := by
  obtain ⟨t, a1, a2⟩ := h.ex
  refine ⟨_, pi_range3 hg hm a1 hs hpl, fun c A Ev L G σ H Q R hE env hm k => a2 c A Ev L G σ H _ _ hE env hm fun ds vs G1 H1 p1 d1 q1 => ?_⟩
  split at q1
  · rename_i i j
    obtain ⟨⟨s1, s2⟩, ⟨s3, s4⟩, q2⟩ := q1
    have ev := DenL.three' d1
    subst ev
    exact ⟨i, j, -1, _, rfl, RgC.neg s1 s2 s3 s4, k _ [] c.T G1 H1 _ p1 (env.to p1) (fun _ _ _ _ _ z => z) Wk.rngC q2⟩
  · exact q1.elim
/-! ### zip -/
def zipD : List D → List D → List D
  | x :: xs, y :: ys => .tup [x, y] :: zipD xs ys
  | _, _ => []
theorem zipD_get : ∀ (xs ys : List D) (i : Nat) {d e : D}, xs[i]? = some d → ys[i]? = some e → (zipD xs ys)[i]? = some (.tup [d, e])
  | [], _, _, _, _, h, _ => by simp at h
  | _ :: _, [], _, _, _, _, h => by simp at h
  | x :: xs, y :: ys, 0, d, e, h1, h2 => by
    cases h1
    cases h2
    rfl
  | x :: xs, y :: ys, i + 1, d, e, h1, h2 => by
    have := zipD_get xs ys i (d := d) (e := e) (by simpa using h1) (by simpa using h2)
    simpa [zipD] using this
theorem zipD_length : ∀ (xs ys : List D), (zipD xs ys).length = min xs.length ys.length
  | [], _ => by simp [zipD]
  | _ :: _, [] => by simp [zipD]
  | x :: xs, y :: ys => by
    rw [zipD, List.length_cons, zipD_length xs ys, List.length_cons, List.length_cons]
    omega
/-- a sequence of the kind k -/
def SimQk (W : Cn) (E : XK) (te : TE) (k : Bool) (m : VI) : Prop := ∀ (c : Ctx) (A : Addr → Prop) (Ev : EK) (L : Lo) (G : Gs) (σ : L2.St) (H : Hp) (Q : List D → List Nat → Gs → Prop) (Qh : VK), ErrOk W c E Ev → Env W c A L G σ H → m Ev L G Q →
  (∀ ds lks T' v G' H', Post W c.dr A H H' G' → Env W (c.wt T') A (lockL lks L) G' σ H' → Back W c T' lks → SeqAt W (c.wt T') k v ds → Q ds lks G' → Qh v H') → te σ H Qh
structure JQk (X : Cx) (T : List (Addr × Str)) (E : XK) (e : Expr) (m : Bool → VI) : Prop where
  ex : ∃ te, PE X e te ∧ ∀ k, SimQk (cn X T) E te k (m k)
def vqVarK (i : Nat) (k : Bool) : VI := fun _ L G Q => match L[i]? with
  | some (.val d) => (match seqD d with
    | some ds => seqK d = k ∧ Q ds [] G
    | none => False)
  | some (.own (.lst ds)) => k = true ∧ Q ds [i] G
  | some (.lck (.lst ds)) => k = true ∧ Q ds [] G
  | _ => False
def vqValK (m : VE) (k : Bool) : VI := fun Ev L G Q => m Ev L G fun d G1 => match seqD d with
  | some ds => seqK d = k ∧ Q ds [] G1
  | none => False
theorem jqk_var (i : Nat) (h : PE X e (tVar i)) : JQk X T E e (vqVarK i) := ⟨_, h, fun kd c A Ev L G σ H Q Qh hE env hm k => by
  unfold vqVarK at hm
  split at hm
  · rename_i d hd
    split at hm
    · rename_i ds es
      obtain ⟨rfl, hm⟩ := hm
      obtain ⟨v, e1, e2⟩ := env.slots i _ hd
      obtain ⟨h1, h2, h3⟩ := SeqAt.den env e2 es
      exact ⟨v, e1, k ds [] _ v G H (.refl env) h1 h2 h3 hm⟩
    · exact hm.elim
  · rename_i ds hd
    obtain ⟨rfl, hm⟩ := hm
    obtain ⟨a, e1, h1, h2⟩ := env.lock hd
    exact ⟨.ref a, e1, k ds [i] _ (.ref a) G H (.refl env) h1 h2 (SeqAt.lck List.mem_cons_self) hm⟩
  · rename_i ds hd
    obtain ⟨rfl, hm⟩ := hm
    obtain ⟨a, e1, h1, h2, h3⟩ := env.slots i _ hd
    exact ⟨.ref a, e1, k ds [] (.lock i a (.lst ds) :: c.T) (.ref a) G H (.refl env) (env.add ⟨hd, e1, env.ne h1⟩) (fun A L G σ H env => env.less) (SeqAt.lck List.mem_cons_self) hm⟩
  · exact hm.elim⟩
theorem jqk_val (h : JE X T E e m) : JQk X T E e (vqValK m) := by
  obtain ⟨t, a1, a2⟩ := h.ex
  refine ⟨t, a1, fun kd c A Ev L G σ H Q Qh hE env hm k => a2 c A Ev L G σ H _ _ hE env hm fun d v G1 H1 p1 d1 q1 => ?_⟩
  split at q1
  · rename_i ds es
    obtain ⟨rfl, q1⟩ := q1
    obtain ⟨h1, h2, h3⟩ := SeqAt.den (env.to p1) d1 es
    exact k ds [] _ v G1 H1 p1 h1 h2 h3 q1
  · exact q1.elim
def viZip (q1 q2 : Bool → VI) : VI := fun Ev L G Q => ∃ k, q1 k Ev L G fun ds lks G1 => q2 k Ev (lockL lks L) G1 fun es lks2 G2 => Q (zipD ds es) (lks ++ lks2) G2
def ItzA (K : PySem.W.Frag) (a b : Addr) : Bool → It
  | true => Itz K a b
  | false => RZ.ItzT K a b
theorem Wk.zip {W : Cn} {c : Ctx} {ds es : List D} {a b : Addr} {k : Bool} (h : SeqAt W c k (.ref a) ds) (h2 : SeqAt W c k (.ref b) es) : Wk W c (ItzA W.K a b k) (zipD ds es) := by
  obtain ⟨a', e, h⟩ := h
  cases e
  obtain ⟨b', e, h2⟩ := h2
  cases e
  have key : ∀ {A L G σ H} (env : Env W c A L G σ H) {i : Nat} {vs us : List V} {T : Addr} {x y : V}, DenL W c.dr A H ds vs → DenL W c.dr A H es us → vs[i]? = some x → us[i]? = some y → H T = none → ∃ d, (zipD ds es)[i]? = some d ∧ Post W c.dr A H (upd H T (.tup [x, y])) G ∧ Den W c.dr A (upd H T (.tup [x, y])) d (.ref T) := fun {A L G σ H} env {i vs us T x y} d1 d2 hx hy hT => by
    obtain ⟨d, e1, e2⟩ := d1.getV hx
    obtain ⟨d', e1', e2'⟩ := d2.getV hy
    obtain ⟨g1, g2⟩ := den_pair env hT e2 e2'
    exact ⟨_, zipD_get ds es i e1 e1', g1, g2⟩
  cases k with
  | true =>
    refine ⟨fun i A L G σ H env hi => ?_, fun A L G σ H env => ?_, fun i A L G σ H x H' env hi hy => ?_⟩
    · obtain ⟨vs, h1, d1⟩ := h A L G σ H env
      obtain ⟨us, h1', d1'⟩ := h2 A L G σ H env
      rw [zipD_length, d1.length, d1'.length] at hi
      exact ⟨vs, us, vs[i]'(by omega), us[i]'(by omega), h1, h1', List.getElem?_eq_getElem _, List.getElem?_eq_getElem _⟩
    · obtain ⟨vs, h1, d1⟩ := h A L G σ H env
      obtain ⟨us, h1', d1'⟩ := h2 A L G σ H env
      exact ⟨vs, us, h1, h1', by rw [zipD_length, d1.length, d1'.length]; omega⟩
    · obtain ⟨vs, h1, d1⟩ := h A L G σ H env
      obtain ⟨us, h1', d1'⟩ := h2 A L G σ H env
      obtain ⟨T, x1, y1, rfl, hT, rfl, hx, hy⟩ := hy
      exact key env d1 d1' (hx vs h1) (hy us h1') hT
  | false =>
    refine ⟨fun i A L G σ H env hi => ?_, fun A L G σ H env => ?_, fun i A L G σ H x H' env hi hy => ?_⟩
    · obtain ⟨vs, h1, d1⟩ := h A L G σ H env
      obtain ⟨us, h1', d1'⟩ := h2 A L G σ H env
      rw [zipD_length, d1.length, d1'.length] at hi
      exact ⟨vs, us, vs[i]'(by omega), us[i]'(by omega), h1, h1', List.getElem?_eq_getElem _, List.getElem?_eq_getElem _⟩
    · obtain ⟨vs, h1, d1⟩ := h A L G σ H env
      obtain ⟨us, h1', d1'⟩ := h2 A L G σ H env
      exact ⟨vs, us, h1, h1', by rw [zipD_length, d1.length, d1'.length]; omega⟩
    · obtain ⟨vs, h1, d1⟩ := h A L G σ H env
      obtain ⟨us, h1', d1'⟩ := h2 A L G σ H env
      obtain ⟨T, x1, y1, rfl, hT, rfl, hx, hy⟩ := hy
      exact key env d1 d1' (hx vs h1) (hy us h1') hT
theorem ji_zip (h : JQk X T E e q3) (h' : JQk X T E e2 q4) (hm : X.mg "zip" = none) (hg : Gl X "zip" := by rfl) (hs : starEach [e, e2] X.env = (false, eval e X.env) :: starEach [e2] X.env := by rfl) (hs2 : starEach [e2] X.env = (false, eval e2 X.env) :: starEach [] X.env := by rfl) (hpl : (backTo pos (starEach [e2] X.env)).any (·.1) = false := by rfl) :
    JI X T E (.Tuple elts kk tpos) (.Call (.Name "zip" p) [e, e2] [] pos) (viZip q3 q4) := by
  obtain ⟨t, a1, a2⟩ := h.ex
  obtain ⟨u, b1, b2⟩ := h'.ex
  refine ⟨_, RZ.pi_zipA hg hm (pa_cons a1 (pa_cons b1 pa_nil hs2) hs) hs hpl, fun c A Ev L G σ H Q R hE env hm k => ?_⟩
  obtain ⟨kd, hm⟩ := hm
  refine a2 kd c A Ev L G σ H _ _ hE env hm fun ds lks T' v G1 H1 p1 env1 bk sq q1 => ?_
  refine b2 kd (c.wt T') A Ev _ G1 σ H1 _ _ (fun er G cls d H po he hh => hE er G cls d H po he hh) env1 q1 fun es lks2 T2 w G2 H2 p2 env2 bk2 sq2 q2 => ?_
  obtain ⟨a, e, hs1⟩ := id sq
  subst e
  obtain ⟨b, e, hs2⟩ := id sq2
  subst e
  have bkk : Back (cn X T) c T2 (lks ++ lks2) := fun A L G σ H env => by
    rw [unlL_append]
    exact bk _ _ _ _ _ (bk2 _ _ _ _ _ env)
  have sq' : SeqAt (cn X T) (c.wt T2) kd (.ref a) ds := sq.wk T2 fun A L G σ H env => ⟨_, bk2 _ _ _ _ _ env⟩
  have sq2' : SeqAt (cn X T) (c.wt T2) kd (.ref b) es := sq2
  have wk := Wk.zip sq' sq2'
  have env2' : Env (cn X T) (c.wt T2) A (lockL (lks ++ lks2) L) G2 σ H2 := by
    rw [lockL_append]
    exact env2
  have po : Post (cn X T) c.dr A H H2 G2 := p1.trans p2
  obtain ⟨_, e, hs1'⟩ := sq'
  cases e
  obtain ⟨_, e, hs2'⟩ := sq2'
  cases e
  obtain ⟨vs, h1, d1⟩ := hs1' _ _ _ _ _ env2'
  obtain ⟨us, h1', d1'⟩ := hs2' _ _ _ _ _ env2'
  cases kd with
  | true => exact ⟨a, b, vs, us, rfl, .inl ⟨h1, h1', k _ _ _ _ _ _ po env2' bkk wk q2⟩⟩
  | false => exact ⟨a, b, vs, us, rfl, .inr ⟨h1, h1', k _ _ _ _ _ _ po env2' bkk wk q2⟩⟩
end
end VL
set_option Elab.async false
set_option autoImplicit false
set_option linter.all false
set_option maxRecDepth 100000
set_option maxHeartbeats 2000000
namespace VL
open PySem PySem.Spec PyProof.Rows L2
/-! ### for -/
/-- the turns, item by item -/
def forV (g : VG) (body : VS) (lks : List Nat) (Ev : EK) (D : VEnds) : List VL.D → Lo → Gs → Prop
  | [], L, G => D.nx (unlL lks L) G
  | d :: ds, L, G => g d L fun L1 => body Ev ⟨forV g body lks Ev D ds, D.rt, fun L2 G2 => D.nx (unlL lks L2) G2, forV g body lks Ev D ds⟩ L1 G
def vFor (q : VI) (g : VG) (body : VS) : VS := fun Ev D L G => q Ev L G fun items lks G1 => forV g body lks Ev D items (lockL lks L) G1
/-- the invariant by what is left to walk -/
theorem forV_ind {g : VG} {body : VS} {lks : List Nat} {Ev : EK} {D : VEnds} (P : List VL.D → Lo → Gs → Prop) {items : List VL.D} {L : Lo} {G : Gs} (h0 : P items L G) (hn : ∀ L G, P [] L G → D.nx (unlL lks L) G)
    (hs : ∀ (d : VL.D) (ds : List VL.D) (L : Lo) (G : Gs) (N : Lo → Gs → Prop), P (d :: ds) L G → (∀ L' G', P ds L' G' → N L' G') → g d L fun L1 => body Ev ⟨N, D.rt, fun L2 G2 => D.nx (unlL lks L2) G2, N⟩ L1 G) : forV g body lks Ev D items L G := by
  induction items generalizing L G with
  | nil => exact hn L G h0
  | cons d ds ih => exact hs d ds L G _ h0 fun L' G' p => ih p
section
variable {X : Cx} {T : List (Addr × Str)} {E : XK} {e e2 a b c' tg iter : Expr} {es rest tgs : List Expr} {m ma mb mc : VE} {n na nb : VT} {r : VA} {p pos pos' tpos : Pos} {kk : Nat} {st : Stmt} {sts body : List Stmt} {ms mt mu : VS} {x y : Str} {i j : Nat} {g : VG} {gs : VGs} {is js : List Nat} {q q1 q2 : VI} {elts : List Expr}
theorem Wk.walk {W : Cn} {c : Ctx} {J : It} {items : List D} (h : Wk W c J items) : Walk J items.length (fun H => ∃ A L G σ, Env W c A L G σ H) (fun i H x H' => ∀ A L G σ, Env W c A L G σ H → ∃ d, items[i]? = some d ∧ Post W c.dr A H H' G ∧ Den W c.dr A H' d x) where
  goes := fun i H hi ⟨A, L, G, σ, env⟩ => h.goes i A L G σ H env hi
  stops := fun H ⟨A, L, G, σ, env⟩ => h.stops A L G σ H env
  yields := fun i H x H' hi _ hy A L G σ env => h.yields i A L G σ H x H' env hi hy
theorem ErrOk.wt {W : Cn} {c : Ctx} {T' : List Tmp} {Ev : EK} (h : ErrOk W c E Ev) : ErrOk W (c.wt T') E Ev := h
theorem js_for (hp : PassesOwn (model X.prog X.w) X.A X.env X.xe) (hc : X.calm = true) (hi : JI X T E tg iter q) (hg : JG X T is tg g) (hb : JSs X T E body ms) (hs : ∀ x, foldedSetIterable iter X.env x = pure x := by intro _; rfl) : JS X T E (.For tg iter body [] pos) (vFor q g ms) := by
  obtain ⟨wi, a1, a2⟩ := hi.ex
  obtain ⟨gt, b1, b2⟩ := hg.ex
  obtain ⟨tb, c1, c2⟩ := hb.ex
  refine ⟨_, ps_for hp hc a1 b1 c1 hs, fun c A Ev L G σ H Dv D hE hD env h => a2 c A Ev L G σ H _ _ hE env h fun items lks T' G1 H1 J p1 env1 bk wk q1 => ?_⟩
  refine for_it wk.walk (fun i σ H => ∃ A L G, Env (cn X T) (c.wt T') A L G σ H ∧ forV g ms lks Ev Dv (items.drop i) L G) ⟨A, _, G1, env1, q1⟩ (fun i σ H _ ⟨A, L, G, env, _⟩ => ⟨A, L, G, σ, env⟩) (fun i x σ H H' hi ⟨A, L, G, env, hv⟩ hy => ?_) fun σ H ⟨A, L, G, env, hv⟩ => ?_
  · obtain ⟨d, e1, p2, d2⟩ := hy A L G σ env
    have ed : items.drop i = d :: items.drop (i + 1) := by
      obtain ⟨hl, e3⟩ := List.getElem?_eq_some_iff.mp e1
      rw [← e3]
      exact List.drop_eq_getElem_cons hl
    rw [ed] at hv
    refine b2 (c.wt T') A L G σ H' d x _ _ (env.to p2) d2 hv fun L1 σ1 env3 _ q3 => ?_
    exact c2 (c.wt T') A Ev L1 G σ1 H' ⟨forV g ms lks Ev Dv (items.drop (i + 1)), Dv.rt, fun L2 G2 => Dv.nx (unlL lks L2) G2, forV g ms lks Ev Dv (items.drop (i + 1))⟩ _ hE ⟨fun A L G σ H e h => ⟨A, L, G, e, h⟩, fun A L G σ H e h => hD.nx A _ G σ H (bk _ _ _ _ _ e) h, fun A L G σ H e h => ⟨A, L, G, e, h⟩, fun d v G H po dd h => hD.rt d v G H po dd h⟩ env3 q3
  · rw [List.drop_length] at hv
    exact hD.nx A _ G σ H (bk _ _ _ _ _ env) hv
/-! ### while -/
def vWhile (t : VT) (body : VS) : VS := fun Ev D L G => ∃ I : Nat → Lo → Gs → Prop, (∃ n, I n L G) ∧ ∀ n L G, I n L G → t Ev L G fun b G1 => match b with
  | true => body Ev ⟨fun L G => ∃ m, m < n ∧ I m L G, D.rt, D.nx, fun L G => ∃ m, m < n ∧ I m L G⟩ L G1
  | false => D.nx L G1
theorem js_while (hp : PassesOwn (model X.prog X.w) X.A X.env X.xe) (ht : JT X T E c' n) (hb : JSs X T E body ms) : JS X T E (.While c' body [] pos) (vWhile n ms) := by
  obtain ⟨tt, a1, a2⟩ := ht.ex
  obtain ⟨tb, c1, c2⟩ := hb.ex
  refine ⟨_, ps_while hp a1 c1, fun c A Ev L G σ H Dv D hE hD env h => ?_⟩
  obtain ⟨I, ⟨n0, h0⟩, h⟩ := h
  refine ⟨fun k σ H => ∃ A L G, Env (cn X T) c A L G σ H ∧ I k L G, ⟨n0, A, L, G, env, h0⟩, fun k σ H ⟨A, L, G, env, hk⟩ => ?_⟩
  refine a2 c A Ev L G σ H _ _ hE env (h k L G hk) fun b G1 H1 p1 q1 => ?_
  cases b with
  | false =>
    rw [if_neg Bool.false_ne_true]
    exact hD.nx A L G1 σ H1 (env.to p1) q1
  | true =>
    rw [if_pos rfl]
    refine ⟨fun σ' H' => ∃ k', k' < k ∧ ∃ A L G, Env (cn X T) c A L G σ' H' ∧ I k' L G, fun σ' H' z => z, ?_⟩
    exact c2 c A Ev L G1 σ H1 ⟨fun L G => ∃ m, m < k ∧ I m L G, Dv.rt, Dv.nx, fun L G => ∃ m, m < k ∧ I m L G⟩ _ hE ⟨fun A L G σ H e ⟨k', h1, h2⟩ => ⟨k', h1, A, L, G, e, h2⟩, fun A L G σ H e h => hD.nx A L G σ H e h, fun A L G σ H e ⟨k', h1, h2⟩ => ⟨k', h1, A, L, G, e, h2⟩, hD.rt⟩ (env.to p1) q1
/-! ### list comprehensions -/
/-- nothing may be raised within -/
def E0 : XK := fun _ _ _ => False
def Ev0 : EK := fun _ _ => False
theorem ErrOk.zero {W : Cn} {c : Ctx} : ErrOk W c E0 Ev0 := fun _ _ _ _ _ _ _ h => h
def wipeV : List Nat → Lo → (Lo → Prop) → Prop
  | [], L, k => k L
  | i :: is, L, k => wipeV is L fun L1 => setL L1 i .no k
def compV (g : VG) (tt : VT) (te : VE) (L : Lo) : List D → List D → Gs → (D → Gs → Prop) → Prop
  | [], acc, G, Q => Q (.lst acc) G
  | d :: ds, acc, G, Q => g d L fun L2 => tt Ev0 L2 G fun b G1 => match b with
    | true => te Ev0 L2 G1 fun y G2 => acc.length < lineN ∧ compV g tt te L ds (acc ++ [y]) G2 Q
    | false => compV g tt te L ds acc G1 Q
def vComp (q : VI) (g : VG) (vs : List Nat) (tt : VT) (te : VE) : VE := fun Ev L G Q => q Ev L G fun items lks G1 => wipeV vs (lockL lks L) fun L1 => compV g tt te L1 items [] G1 Q
theorem compV_ind {g : VG} {tt : VT} {te : VE} {L : Lo} {Q : D → Gs → Prop} (P : List D → List D → Gs → Prop) {items acc : List D} {G : Gs} (h0 : P items acc G) (hn : ∀ acc G, P [] acc G → Q (.lst acc) G)
    (hs : ∀ (d : D) (ds acc : List D) (G : Gs) (N : List D → Gs → Prop), P (d :: ds) acc G → (∀ acc' G', P ds acc' G' → N acc' G') → g d L fun L2 => tt Ev0 L2 G fun b G1 => match b with
    | true => te Ev0 L2 G1 fun y G2 => acc.length < lineN ∧ N (acc ++ [y]) G2
    | false => N acc G1) : compV g tt te L items acc G Q := by
  induction items generalizing acc G with
  | nil => exact hn acc G h0
  | cons d ds ih => exact hs d ds acc G (fun acc' G' => compV g tt te L ds acc' G' Q) h0 fun acc' G' p => ih p
/-- the weakest transformer -/
def tOfE (W : Cn) (E : XK) (m : VE) : TE := fun σ H Qh => ∃ (c : Ctx) (A : Addr → Prop) (Ev : EK) (L : Lo) (G : Gs) (Q : D → Gs → Prop), ErrOk W c E Ev ∧ Env W c A L G σ H ∧ m Ev L G Q ∧ ∀ d v G' H', Post W c.dr A H H' G' → Den W c.dr A H' d v → Q d G' → Qh v H'
def tOfT (W : Cn) (E : XK) (m : VT) : TT := fun σ H Qh => ∃ (c : Ctx) (A : Addr → Prop) (Ev : EK) (L : Lo) (G : Gs) (Q : Bool → Gs → Prop), ErrOk W c E Ev ∧ Env W c A L G σ H ∧ m Ev L G Q ∧ ∀ b G' H', Post W c.dr A H H' G' → Q b G' → Qh b H'
def tOfG (W : Cn) (is : List Nat) (m : VG) : TG := fun v σ H Qh => ∃ (c : Ctx) (A : Addr → Prop) (L : Lo) (G : Gs) (d : D) (k : Lo → Prop), Env W c A L G σ H ∧ Den W c.dr A H d v ∧ m d L k ∧ ∀ L' σ', Env W c A L' G σ' H → (∀ vs : List Nat, (∀ i ∈ is, i ∈ vs) → wipe σ' vs = wipe σ vs) → k L' → Qh σ' H
theorem JE.can (h : JE X T E e m) : PE X e (tOfE (cn X T) E m) := by
  obtain ⟨t, a1, a2⟩ := h.ex
  refine ⟨fun pins s σ H Q I hq => a1.run pins s σ H Q I ?_⟩
  obtain ⟨c, A, Ev, L, G, Qd, hE, env, hm, k⟩ := hq
  exact a2 c A Ev L G σ H Qd Q hE env hm k
theorem JG.can (h : JG X T is tg g) : PG X tg (tOfG (cn X T) is g) := by
  obtain ⟨t, a1, a2⟩ := h.ex
  refine ⟨fun pins s σ H v u Q I r hq => a1.run pins s σ H v u Q I r ?_⟩
  obtain ⟨c, A, L, G, d, kd, env, hd, hm, k⟩ := hq
  exact a2 c A L G σ H d v kd Q env hd hm k
/-- the tests of a clause -/
structure JTs (X : Cx) (T : List (Addr × Str)) (E : XK) (ifs : List Expr) (m : VT) : Prop where
  ex : ∃ t, PTs X ifs t ∧ SimT (cn X T) E t m
def vYes : VT := fun _ _ G Q => Q true G
theorem jts_nil : JTs X T E [] vYes := ⟨_, pts_nil, fun c A Ev L G σ H Q Qh hE env hm k => k true G H (.refl env) hm⟩
theorem jts_one (h : JT X T E e n) : JTs X T E [e] n := by
  obtain ⟨t, a1, a2⟩ := h.ex
  exact ⟨t, pts_one a1, a2⟩
theorem JTs.can (h : JTs X T E es n) : PTs X es (tOfT (cn X T) E n) := by
  obtain ⟨t, a1, a2⟩ := h.ex
  refine ⟨fun pins s σ H Q I hq => a1.run pins s σ H Q I ?_⟩
  obtain ⟨c, A, Ev, L, G, Qd, hE, env, hm, k⟩ := hq
  exact a2 c A Ev L G σ H Qd Q hE env hm k
end
end VL
set_option Elab.async false
set_option autoImplicit false
set_option linter.all false
set_option maxRecDepth 100000
set_option maxHeartbeats 2000000
namespace VL
open PySem PySem.Spec PyProof.Rows L2
section
variable {W : Cn} {c : Ctx} {A : Addr → Prop} {L : Lo} {G G' : Gs} {σ : L2.St} {H H' : Hp} {i : Nat}
theorem Env.setNo (E : Env W c A L G σ H) (hn : noLck L i) : Env W c A (L.set i .no) G (σ.set i none) H :=
  E.reslot id (by rw [List.length_set, List.length_set]; exact E.len) (fun j s h => by
    by_cases e : i = j
    · subst e
      have hl := (List.getElem?_eq_some_iff.mp h).1
      rw [List.length_set] at hl
      rw [List.getElem?_set_self hl] at h
      exact .inl (Option.some.inj h).symm
    · rw [List.getElem?_set_ne e] at h
      exact .inr ⟨h, List.getElem?_set_ne e⟩) (fun _ _ _ _ _ _ _ _ e => e) fun j a d h1 h2 => by
    have ne : i ≠ j := fun e => hn d (e ▸ h1)
    exact ⟨by rw [List.getElem?_set_ne ne]; exact h1, by rw [List.getElem?_set_ne ne]; exact h2⟩
theorem Env.wipe : ∀ (vs : List Nat) {k : Lo → Prop} (E : Env W c A L G σ H) (h : wipeV vs L k), ∃ L', k L' ∧ Env W c A L' G (L2.wipe σ vs) H
  | [], k, E, h => ⟨L, h, E⟩
  | i :: is, k, E, h => by
    obtain ⟨L1, h1, E1⟩ := Env.wipe is E h
    obtain ⟨h2, h3⟩ := setL_of h1
    exact ⟨_, h3, E1.setNo h2⟩
end
theorem wipe_wipe {σ : L2.St} : ∀ (vs us : List Nat), (∀ i ∈ vs, i ∈ us) → L2.wipe (L2.wipe σ vs) us = L2.wipe σ us
  | [], _, _ => rfl
  | v :: vs, us, h => by
    show L2.wipe ((L2.wipe σ vs).set v none) us = _
    rw [wipe_set (h v List.mem_cons_self), wipe_wipe vs us fun i hi => h i (List.mem_cons_of_mem _ hi)]
theorem set_last {α : Type} (L : List α) (x y : α) : (L ++ [x]).set L.length y = L ++ [y] := by
  rw [List.set_append_right _ _ (Nat.le_refl _), Nat.sub_self]
  rfl
theorem get_last {α : Type} (L : List α) (x : α) : (L ++ [x])[L.length]? = some x := by
  rw [List.getElem?_append_right (Nat.le_refl _), Nat.sub_self]
  rfl
section
variable {X : Cx} {T : List (Addr × Str)} {E : XK} {e e2 a b c' tg iter elt : Expr} {es rest tgs ifs : List Expr} {m ma mb mc : VE} {n na nb : VT} {r : VA} {p pos pos' tpos : Pos} {kk : Nat} {st : Stmt} {sts body : List Stmt} {ms mt mu : VS} {x y : Str} {i j : Nat} {g : VG} {gs : VGs} {is js : List Nat} {q q1 q2 : VI} {elts : List Expr}
/-- the turns of a comprehension -/
theorem sim_comp {W : Cn} {wi : TI} {vs : List Nat} (hi : SimI W E wi q) (hsub : ∀ i ∈ is, i ∈ vs) : SimF W E (tLc wi (tOfG W is g) (tOfT W E0 n) (tOfE W E0 m) vs) (vComp q g vs n m) := fun c A Ev L G σ H Q Qh hE env hm k =>
  hi c A Ev L G σ H _ _ hE env hm fun items lks T' G1 H1 J p1 env1 bk wk q1 D hD => by
    obtain ⟨Lw, hw, envw⟩ := Env.wipe vs env1 q1
    have hlw : Lw.length = (L2.wipe σ vs).length := envw.len
    have p0 := Post.new envw (o := .lst []) hD
    have hb0 : Body W c.dr (fun a => A a ∨ a = D) (upd H1 D (.lst [])) (.lst []) D := ⟨[], upd_same, .nil⟩
    have envh := envw.push (Post.refl envw) hD p0 hb0
    refine lc_it wk.walk (fun i H => ∃ acc G, Env W (c.wt T') (fun a => A a ∨ a = D) (Lw ++ [.own (.lst acc)]) G (L2.wipe σ vs ++ [some (.ref D)]) H ∧ Ext c.dr H1 H ∧ compV g n m Lw (items.drop i) acc G Q) ⟨[], G1, envh, fun a o h _ _ => by rw [upd_ne (ne_of_none h hD)]; exact h, hw⟩ (fun i H _ ⟨acc, G, e, _⟩ => ⟨_, _, G, _, e⟩) (fun i x H H' hi ⟨acc, G, e, hx, hv⟩ hy => ?_) fun H ⟨acc, G, e, hx, hv⟩ => ?_
    · obtain ⟨d, e1, p2, d2⟩ := hy _ _ G _ e
      have ed : items.drop i = d :: items.drop (i + 1) := by
        obtain ⟨hl, e3⟩ := List.getElem?_eq_some_iff.mp e1
        rw [← e3]
        exact List.drop_eq_getElem_cons hl
      rw [ed] at hv
      have nl : ∀ s ∈ [Slot.own (.lst acc)], ¬ ∃ d, s = .lck d := fun s hs ⟨d, z⟩ => by
        rw [List.mem_singleton.mp hs] at z
        cases z
      have ep := (e.to p2).pop hlw nl
      refine ⟨_, _, Lw, G, d, _, ep, d2, hv, fun L2 σ2 env2 hwp q2 => ⟨(hwp vs hsub).trans (wipe_wipe vs vs fun _ z => z), ?_⟩⟩
      refine ⟨_, _, Ev0, L2, G, _, .zero, env2, q2, fun bb G3 H3 p3 q3 => ?_⟩
      have e3 := (e.to p2).to p3
      have x3 : Ext c.dr H1 H3 := (hx.trans p2.ext).trans p3.ext
      cases bb with
      | false =>
        show if false = true then _ else _
        rw [if_neg Bool.false_ne_true]
        exact ⟨acc, G3, e3, x3, q3⟩
      | true =>
        show if true = true then _ else _
        rw [if_pos rfl]
        refine ⟨_, _, Ev0, L2, G3, _, .zero, env2.to p3, q3, fun y v G4 H4 p4 d4 q4 => ?_⟩
        have e4 := e3.to p4
        obtain ⟨a', e5, hA, hN, us, h5, h6⟩ := e4.slots Lw.length _ (get_last Lw _)
        rw [hlw, get_last] at e5
        cases e5
        refine ⟨us, h5, by rw [← h6.length]; exact (show acc.length < sizeLine from by rw [line_eq]; exact q4.1), acc ++ [y], G4, ?_, fun a o h h1 h2 => ?_, q4.2⟩
        · have hb := body_mut e4 hA (h6.append (.cons d4 .nil))
          have em := e4.mut (i := Lw.length) (get_last Lw _) (by rw [hlw]; exact get_last _ _) (o := .lst (us ++ [v])) True.intro hb
          rw [set_last] at em
          exact em
        · rw [upd_ne (ne_of_none h hD)]
          exact p4.ext a o (x3 a o h h1 h2) h1 h2
    · rw [List.drop_length] at hv
      obtain ⟨a', e5, hA, hN, us, h5, h6⟩ := e.slots Lw.length _ (get_last Lw _)
      rw [hlw, get_last] at e5
      cases e5
      obtain ⟨g1, g2, g3, g4⟩ := e.draw
      exact k (.lst acc) D G1 H1 G H p1 hD ⟨hx, ⟨g1, g2, fun z => g3 (.inl z), g4⟩, e.tabs⟩ ⟨us, h5, h6⟩ hv
/-- [elt for tg in iter if ..] -/
theorem jf_comp {scope : Scope} {own : List (Str × Nat)} (hc : X.calm = true) (hN : X.N.Nodup) (hi : JI X T E tg iter q) (ok : BlkOk X.N X.env.scope scope own)
    (hg : ∀ (s : Shared) (H : Hp) (C : Addr) (cl : List (Str × Addr)) (fp : List Addr), JG (X.blk s H scope (compEnvC scope cl C X.env) fp) T is tg g) (ht : ∀ (s : Shared) (H : Hp) (C : Addr) (cl : List (Str × Addr)) (fp : List Addr), JTs (X.blk s H scope (compEnvC scope cl C X.env) fp) T E0 ifs n)
    (he : ∀ (s : Shared) (H : Hp) (C : Addr) (cl : List (Str × Addr)) (fp : List Addr), JE (X.blk s H scope (compEnvC scope cl C X.env) fp) T E0 elt m) (hsub : ∀ i ∈ is, i ∈ own.map (·.2) := by decide) (hs : ∀ x, foldedSetIterable iter X.env x = pure x := by intro _; rfl) :
    JF X T E (.ListComp elt [⟨tg, iter, ifs, 0⟩] scope pos) (vComp q g (own.map (·.2)) n m) := by
  obtain ⟨wi, a1, a2⟩ := hi.ex
  exact ⟨_, pe_lc hc hN a1 ok (fun s H C cl fp => (hg s H C cl fp).can) (fun s H C cl fp => (ht s H C cl fp).can) (fun s H C cl fp => (he s H C cl fp).can) hs, sim_comp a2 hsub⟩
/-- name = [..], the name a local -/
theorem js_ownC {scope : Scope} {own : List (Str × Nat)} {spos : Pos} (hc : X.calm = true) (hN : X.N.Nodup) (hx : X.N[i]? = some x) (hxl : X.env.scope.names.lookup x = some .local) (hsw : swapsWith (.ListComp elt [⟨tg, iter, ifs, 0⟩] scope pos) (some (.Name x pos')) spos.line X.env = pure true) (hi : JI X T E tg iter q) (ok : BlkOk X.N X.env.scope scope own)
    (hg : ∀ (s : Shared) (H : Hp) (C : Addr) (cl : List (Str × Addr)) (fp : List Addr), JG (X.blk s H scope (compEnvC scope cl C X.env) fp) T is tg g) (ht : ∀ (s : Shared) (H : Hp) (C : Addr) (cl : List (Str × Addr)) (fp : List Addr), JTs (X.blk s H scope (compEnvC scope cl C X.env) fp) T E0 ifs n)
    (he : ∀ (s : Shared) (H : Hp) (C : Addr) (cl : List (Str × Addr)) (fp : List Addr), JE (X.blk s H scope (compEnvC scope cl C X.env) fp) T E0 elt m) (hsub : ∀ i ∈ is, i ∈ own.map (·.2) := by decide) (hs : ∀ x, foldedSetIterable iter X.env x = pure x := by intro _; rfl) :
    JS X T E (.Assign [.Name x pos'] (.ListComp elt [⟨tg, iter, ifs, 0⟩] scope pos) spos) (vOwn i (vComp q g (own.map (·.2)) n m)) := by
  obtain ⟨wi, a1, a2⟩ := hi.ex
  refine ⟨_, ps_setLc hc hN hx hxl hsw a1 ok (fun s H C cl fp => (hg s H C cl fp).can) (fun s H C cl fp => (ht s H C cl fp).can) (fun s H C cl fp => (he s H C cl fp).can) hs, fun c A Ev L G σ H Dv D hE hD env h => sim_comp a2 hsub c A Ev L G σ H _ _ hE env h fun d p G1 H1 G2 H2 p1 hp p2 hb q1 => ?_⟩
  obtain ⟨q2, q3⟩ := setL_of q1
  exact hD.nx _ _ G2 _ H2 ((env.push p1 hp p2 hb).take1 (d := d) env.len q2 (fun _ z => by cases z)) q3
end
end VL
set_option Elab.async false
set_option autoImplicit false
set_option linter.all false
set_option maxRecDepth 100000
set_option maxHeartbeats 2000000
namespace VL
open PySem PySem.Spec PyProof.Rows L2
/-! ### errors raised -/
structure ClsF (K : PySem.W.Frag) (mg : Str → Option Value) (x : Str) (C : Addr) : Prop where
  gC : mg x = some (.ref C)
  q : PySem.W.excIn K C He.veBase "ValueError.__new__" = true
  kC : PySem.W.keepIn K (.ref C) = true
  exC : PySem.W.subIn K (.ref C) (.type "BaseException") = some true
  tyC : PySem.W.typeIn K (.ref C) = some (.type "type")
def vRaise (er : Er) : VS := fun Ev _ _ G => Ev er G
section
variable {X : Cx} {T : List (Addr × Str)} {E : XK} {p pos pos' p2 : Pos} {x : Str} {C : Addr} {m : Str} {j : Nat}
theorem js_raise (F : ClsF X.K X.mg x C) (hc : X.calm = true) (tk : Takes X (fun cls d _ H => E cls d H)) (hg : Gl X x := by rfl) (hdb : (x == ("__debug__" : Str)) = false := by decide) :
    JS X T E (.Raise (some (.Call (.Name x p) [.Constant (.str m) j p2] [] pos)) none pos') (vRaise ⟨x, none⟩) :=
  ⟨_, ps_raise hc tk (pmk_own PySem.F.excBase_ValueError F.q F.gC F.kC (raises_own F.exC F.tyC) hg hdb), fun c A Ev L G σ H Dv D hE hD env h => hE ⟨x, none⟩ G (.ref C) none H env.out ⟨C, F.gC, rfl, rfl⟩ h⟩
end
/-! ### a def keeps its promise -/
def startL (N : List Str) (ds : List D) : Lo := ds.map .val ++ List.replicate (N.length - ds.length) .no
def noEnd : Lo → Gs → Prop := fun _ _ => False
theorem startL_env {W : Cn} {dr : Dr} {A : Addr → Prop} {G : Gs} {H : Hp} {N : List Str} {ds : List D} {vs : List V} (hd : DrawOk W dr A G H) (ht : LamX.Tabs W.T H) (ho : ∀ a, A a → ∃ o, H a = some o ∧ MutO o) (ha : ¬ A dr.1) (h : DenL W dr A H ds vs) :
    Env W ⟨dr, H, A, []⟩ A (startL N ds) G (L2.start N vs) H where
  ext := Ext.refl _ _
  draw := hd
  tabs := ht
  base := fun _ z => z
  bdom := fun a z e => by
    obtain ⟨o, q, _⟩ := ho a z
    rw [show H a = none from e] at q
    cases q
  own := ho
  adr := ha
  len := by
    unfold startL L2.start
    rw [List.length_append, List.length_append, List.length_map, List.length_map, List.length_replicate, List.length_replicate, h.length]
  slots := fun i s hs => by
    by_cases hi : i < ds.length
    · unfold startL at hs
      rw [List.getElem?_append_left (by rw [List.length_map]; exact hi), List.getElem?_map, List.getElem?_eq_getElem hi] at hs
      cases hs
      obtain ⟨v, e1, e2⟩ := h.get (List.getElem?_eq_getElem hi)
      refine ⟨v, ?_, e2⟩
      unfold L2.start
      rw [List.getElem?_append_left (by rw [List.length_map, ← h.length]; exact hi), List.getElem?_map, e1]
      rfl
    · unfold startL at hs
      rw [List.getElem?_append_right (by rw [List.length_map]; omega)] at hs
      have hm := List.mem_of_getElem? hs
      rw [(List.mem_replicate.mp hm).2]
      exact True.intro
  inj := fun i j s t a h1 h2 o1 o2 e1 e2 => by
    have no : ∀ {i : Nat} {s : Slot}, (startL N ds)[i]? = some s → ¬ isOwn s := fun {i s} h o => by
      have hm := List.mem_of_getElem? h
      unfold startL at hm
      rcases List.mem_append.mp hm with q | q
      · obtain ⟨d, _, rfl⟩ := List.mem_map.mp q
        exact o
      · rw [(List.mem_replicate.mp q).2] at o
        exact o
    exact (no h1 o1).elim
  tmp := fun t ht => by simp at ht
theorem fun_ok {P : Program} {w : World} {K : PySem.W.Frag} {mg : Str → Option Value} {base : Heap} {x qual : Str} {params : Arguments} {body : List Stmt} {scope : Scope} {f : Addr} {fd : FuncData} {N ps : List Str} {k : Nat} {sp : SpD} {pr : VS} {T : List (Addr × Str)} (F : FunD K x qual params body scope [] [] f fd) (S : FnScope N ps scope)
    (hp : ∀ ds G Qd Ed, sp ds G Qd Ed → ds.length = ps.length ∧ pr Ed ⟨fun _ G => Qd .non G, Qd, noEnd, noEnd⟩ (startL N ds) G)
    (hb : ∀ (cdv : Value) (A : Around) (outer : List PySem.Env) (s : Shared) (H : Hp) (E : XK), Room k (A.deeper (envOfC qual scope s.heap.objs.size f cdv)) → JSs (cxOf (L2.CX P w) P w K mg base N qual scope f cdv A outer s H E) T E body pr) :
    FnOk P w K mg base (L2.CX P w) (k + 1) f fd ps (spOf ⟨K, mg, T⟩ sp) := by
  refine F.ok S (fun vs H Q E h => ?_) (fun cdv A outer s H vs Q E hr h => ?_)
  · obtain ⟨dr, A, G, ds, Qd, Ed, h1, h2, h3, h4, h5, h6, _⟩ := h
    rw [← h5.length]
    exact (hp ds G Qd Ed h6).1
  · obtain ⟨t, a1, a2⟩ := (hb cdv A outer s H E hr).ex
    obtain ⟨dr, B, G, ds, Qd, Ed, h1, h2, h3, h4, h5, h6, h7, h8⟩ := h
    have env := startL_env (N := N) (W := ⟨K, mg, T⟩) h1 h2 h3 h4 h5
    refine ⟨t, a1, a2 ⟨dr, H, B, []⟩ B Ed _ G _ H ⟨fun _ G => Qd .non G, Qd, noEnd, noEnd⟩ _ (fun er G cls d H' po he hh => h8 er G cls d H' hh po he) ⟨fun A L G σ H' e h => h7 _ _ _ _ h e.out (by rw [Den]), fun _ _ _ _ _ _ h => h.elim, fun _ _ _ _ _ _ h => h.elim, fun d v G H' po dd h => h7 d G v H' h po dd⟩ env (hp ds G Qd Ed h6).2⟩
end VL
set_option Elab.async false
set_option autoImplicit false
set_option linter.all false
set_option maxRecDepth 100000
set_option maxHeartbeats 2000000
/-! a tuple, from its end -/
namespace VL
open PySem PySem.Spec PyProof.Rows L2
theorem adjust_back (n : Nat) : Builtin.Slice.sliceAdjust none none (-1) (n : Int) = ((n : Int) - 1, -1) := by
  unfold Builtin.Slice.sliceAdjust
  rfl
theorem places_back (n : Nat) : Builtin.Slice.slicePlaces ((n : Int) - 1) (-1) (-1) = n := by
  unfold Builtin.Slice.slicePlaces
  have h1 : ¬ ((-1 : Int) > 0) := by decide
  simp only [h1, if_false]
  have h2 : (-(-1) : Int) = 1 := by decide
  rw [h2, Int.ediv_one]
  split <;> omega
theorem pick_back (xs : Array Value) : ((List.range xs.size).filterMap fun (m : Nat) => xs[((xs.size : Int) - 1 + (m : Int) * (-1)).toNat]?).toArray = xs.toList.reverse.toArray := by
  have e : (fun (m : Nat) => xs[((xs.size : Int) - 1 + (m : Int) * (-1)).toNat]?) = (fun k => xs[k]?) ∘ fun k => xs.size - 1 - k := by
    funext m
    show _ = xs[xs.size - 1 - m]?
    have : ((xs.size : Int) - 1 + (m : Int) * (-1)).toNat = xs.size - 1 - m := by omega
    rw [this]
  rw [e, ← List.filterMap_map, PySem.W.krv_range, List.filterMap_reverse, PySem.W.krv_all]
section
variable {prog : Program} {w : World} {A : Around} {E : Value → Shared → Prop} {s : Shared}
theorem getItem_tup_back {t sl : Addr} {items : Array Value} {vl vu vs : Value} {Q : Value → Shared → Prop} (ht : IsTup s.heap t items) (hs : s.heap.IsSliceOf sl vl vu vs) (pl : IsPart vl none) (pu : IsPart vu none) (ps : IsPart vs (some (-1)))
    (h : Q (.ref s.heap.objs.size) { s with heap := s.heap.push { cls := .type "tuple", data := .seq items.toList.reverse.toArray } }) (hsz : items.size ≤ sizeLine) : wpAny (model prog w) A (getItem (.ref t) (.ref sl)) Q E s := by
  have htake : sizeOk (.seq items.toList.reverse.toArray) := by
    show items.toList.reverse.toArray.size ≤ sizeLine
    rw [List.size_toArray, List.length_reverse, Array.length_toList]
    exact hsz
  obtain ⟨os, hos, hcs, hds⟩ := id hs
  have hTs : s.TypeIs (.ref sl) "slice" := ⟨os, hos, hcs⟩
  unfold getItem
  try with_reducible refine wpAny_holding ?_
  first | refine wpAny_bind (wpAny_pure ?_) | skip
  refine wpAny_bind (wpAny_sequenceKey ht.typeIs (by decide) ?_)
  refine wpAny_bind (wpAny_callSpecial?_slot (name := Str.ofString "__getitem__") ht.typeIs PyProof.Rows.slot_tuple_getitem
    (wpAny_call_entry PyProof.Rows.slot_tuple_getitem ht.typeIs PyProof.Rows.entry_tuple_getitem ?_ (PyProof.Rows.args_tuple_getitem _ _)))
  show wpAny _ _ (Builtin.Tuple.tupleItemsOf (.ref t) >>= _) _ _ s
  refine wpAny_bind (tupleItemsOf_ ht ?_)
  refine wpAny_bind (wpAny_typeOf hTs ?_)
  rw [if_pos (by decide)]
  refine wpAny_bind ?_
  · unfold Builtin.Slice.sliceApplied Builtin.Slice.sliceFields
    refine wpAny_bind (wpAny_bind (wpAny_field hos hds (x := vl) rfl (wpAny_bind (wpAny_field hos hds (x := vu) rfl (wpAny_bind (wpAny_field hos hds (x := vs) rfl (wpAny_pure ?_)))))))
    refine wpAny_bind (HT.slicePart_ ps ?_)
    show wpAny _ _ (if ((-1 : Int) == 0) = true then _ else _) _ _ s
    rw [if_neg (by decide)]
    refine wpAny_bind (HT.slicePart_ pl (wpAny_bind (HT.slicePart_ pu (wpAny_bind (wpAny_pure ?_)))))
    show wpAny _ _ (match Builtin.Slice.sliceAdjust none none (-1) (items.size : Int) with | (lo, hi) => pure (lo, (-1 : Int), Builtin.Slice.slicePlaces lo hi (-1))) _ _ s
    rw [adjust_back]
    show wpAny _ _ (pure ((items.size : Int) - 1, (-1 : Int), Builtin.Slice.slicePlaces ((items.size : Int) - 1) (-1) (-1))) _ _ s
    rw [places_back]
    refine wpAny_pure ?_
    have hno : ¬ (((items.size : Int) - 1 == 0 && (-1 : Int) == 1 && items.size == items.size) = true) := by
      intro q
      rw [Bool.and_eq_true, Bool.and_eq_true] at q
      exact absurd q.1.2 (by decide)
    show wpAny _ _ (if ((items.size : Int) - 1 == 0 && (-1 : Int) == 1 && items.size == items.size) = true then _ else _) _ _ s
    rw [if_neg hno, pick_back]
    first
      | exact wpAny_bind (m := Builtin.Tuple.tupleExact _) (wpAny_newObj_type (wpAny_pure ⟨_, rfl, wpAny_pure h⟩) htake)
      | exact wpAny_bind (m := Builtin.Tuple.tupleExact _) (wpAny_newObj_type (wpAny_bind (wpAny_pure (wpAny_pure ⟨_, rfl, wpAny_pure h⟩))) htake)
      | exact wpAny_bind (wpAny_bind (m := Builtin.Tuple.tupleExact _) (wpAny_newObj_type (wpAny_pure (wpAny_pure ⟨_, rfl, wpAny_pure h⟩)) htake))
      | exact wpAny_bind (wpAny_bind (m := Builtin.Tuple.tupleExact _) (wpAny_newObj_type (wpAny_pure ⟨_, rfl, wpAny_pure h⟩) htake))
end
def tRevA (K : PySem.W.Frag) (te : TE) : TE := fun σ H Q => te σ H fun x H1 => ∃ a xs, x = .ref a ∧ ((SqL K H1 a xs ∧ ∀ p, H1 p = none → Q (.ref p) (upd H1 p (.lst xs.reverse))) ∨ (SqT K H1 a xs ∧ ∀ p, H1 p = none → Q (.ref p) (upd H1 p (.tup xs.reverse))))
theorem pe_revA {X : Cx} {e : Expr} {te : TE} {k : Nat} {p1 p2 p3 pos : Pos} (he : PE X e te) : PE X (.Subscript e (.Slice none none (some (.UnaryOp .USub (.Constant (.int 1) k p1) p2)) p3) pos) (tRevA X.K te) := by
  refine ⟨fun pins s σ H Q I h => ?_⟩
  refine Subscript_ (thn (he.run pins s σ H _ I h) fun v s1 ⟨x, H1, I1, r1, q1⟩ => ?_)
  obtain ⟨a, xs, ex, q1⟩ := q1
  subst ex
  cases r1
  have hst : PO X (some (.UnaryOp .USub (.Constant (.int 1) k p1) p2)) (tPart (tUn (rU fun i => .int (-i)) (tC (.int 1)))) := po_some (pe_un un_neg pe_int)
  refine wpAny_Slice (thn (po_none.run pins s1 σ H1 (fun o H2 => o = none ∧ H2 = H1) I1 ⟨rfl, rfl⟩) fun vl s2 ⟨l, H2, I2, pl, el, e2⟩ => ?_)
  subst el e2
  refine thn (po_none.run pins s2 σ H2 (fun o H3 => o = none ∧ H3 = H2) I2 ⟨rfl, rfl⟩) fun vu s3 ⟨u, H3, I3, pu, eu, e3⟩ => ?_
  subst eu e3
  refine thn (hst.run pins s3 σ H3 (fun o H4 => o = some (-1) ∧ H4 = H3) I3 ⟨1, rfl, -1, rfl, rfl, rfl⟩) fun vs s4 ⟨o, H4, I4, ps, eo, e4⟩ => ?_
  subst eo e4
  have I5 : Inv X pins σ H4 { s4 with heap := s4.heap.push { cls := .type "slice", data := .fields #[vl, vu, vs] } } := I4.kept (t' := s4.toks) fun b ob q => Heap.get?_push_of_some _ q
  show wpAny (model X.prog X.w) X.A (subscriptTail e (.Slice none none (some (.UnaryOp .USub (.Constant (.int 1) k p1) p2)) p3) (.ref a) (.ref s4.heap.objs.size)) (EP X pins σ Q) X.xe { s4 with heap := s4.heap.push { cls := .type "slice", data := .fields #[vl, vu, vs] } }
  rcases q1 with ⟨hx, q⟩ | ⟨hx, q⟩
  · obtain ⟨its, r, ht, hz⟩ := I5.list hx
    have hlen := r.length
    refine tail_any (ops := [.ref a, .ref s4.heap.objs.size]) ht.isList.typeIs (PySem.slot_list_getitem.lookup) ?_ (by with_unfolding_all rfl)
    refine wpAny_getItem_list_slice ht.isList (Heap.IsSliceOf.new _ vl vu vs) pl pu ps (by decide) ?_ (by rw [List.size_toArray]; omega)
    rw [PySem.W.krv_pick]
    refine ⟨.ref _, _, I5.laid (t' := s4.toks) (o := .lst xs.reverse) (fun b ob q => Heap.get?_push_of_some _ q) (Nat.le_refl _) ?_, rfl, q _ (I5.hok.fresh (Nat.le_refl _))⟩
    exact ⟨by rw [List.length_reverse]; exact hz, _, 0, r.reverse, Heap.get?_push_size _ rfl⟩
  · obtain ⟨its, r, ht, hz⟩ := I5.tuple hx
    have hlen := r.length
    refine tail_any (ops := [.ref a, .ref s4.heap.objs.size]) ht.typeIs PyProof.Rows.slot_tuple_getitem.lookup ?_ (by with_unfolding_all rfl)
    refine getItem_tup_back (items := its.toArray) ht (Heap.IsSliceOf.new _ vl vu vs) pl pu ps ?_ (by rw [List.size_toArray]; omega)
    refine ⟨.ref _, _, I5.laid (t' := s4.toks) (o := .tup xs.reverse) (fun b ob q => Heap.get?_push_of_some _ q) (Nat.le_refl _) ?_, rfl, q _ (I5.hok.fresh (Nat.le_refl _))⟩
    exact ⟨by rw [List.length_reverse]; exact hz, _, r.reverse, IsTup.new _ _⟩
end VL
set_option Elab.async false
set_option autoImplicit false
set_option linter.all false
set_option maxRecDepth 100000
set_option maxHeartbeats 2000000
namespace VL
open PySem PySem.Spec PyProof.Rows L2
/-! ### expressions whose value may be new (the flag) -/
abbrev VN := EK → Lo → Gs → (Bool → D → Gs → Prop) → Prop
def SimN (W : Cn) (E : XK) (t : TE) (m : VN) : Prop :=
  ∀ (c : Ctx) (A : Addr → Prop) (Ev : EK) (L : Lo) (G : Gs) (σ : L2.St) (H : Hp) (Q : Bool → D → Gs → Prop) (Qh : VK), ErrOk W c E Ev → Env W c A L G σ H → m Ev L G Q →
    (∀ d v G' H', Post W c.dr A H H' G' → Den W c.dr A H' d v → Q false d G' → Qh v H') →
    (∀ d p G1 H1 G' H', Post W c.dr A H H1 G1 → H1 p = none → Post W c.dr A H1 H' G' → Body W c.dr (fun a => A a ∨ a = p) H' d p → Q true d G' → Qh (.ref p) H') → t σ H Qh
structure JN (X : Cx) (T : List (Addr × Str)) (E : XK) (e : Expr) (m : VN) : Prop where
  ex : ∃ t, PE X e t ∧ SimN (cn X T) E t m
def nE (m : VE) : VN := fun Ev L G Q => m Ev L G (Q false)
def nF (m : VE) : VN := fun Ev L G Q => m Ev L G (Q true)
def eN (m : VN) : VE := fun Ev L G Q => m Ev L G fun _ d G1 => Q d G1
/-- operations with the flag -/
abbrev V2N := D → D → (Bool → D → Prop) → Prop
def SimRN (W : Cn) (r : R2) (f : V2N) : Prop := ∀ (c : Ctx) (A : Addr → Prop) (L : Lo) (G : Gs) (σ : L2.St) (H : Hp) (x y : D) (u v : V) (Q : Bool → D → Prop) (Qh : VK), Env W c A L G σ H → Rdn W c.dr A H x u → Rdn W c.dr A H y v → f x y Q →
  (∀ d w H', Post W c.dr A H H' G → Den W c.dr A H' d w → Q false d → Qh w H') →
  (∀ d p H', H p = none → Post W c.dr A H H' G → Body W c.dr (fun a => A a ∨ a = p) H' d p → Q true d → Qh (.ref p) H') → r u v H Qh
def nOp (f : V2N) (ma mb : VE) : VN := fun Ev L G Q => ma Ev L G fun x G1 => mb Ev L G1 fun y G2 => f x y fun b z => Q b z G2
section
variable {X : Cx} {T : List (Addr × Str)} {E : XK} {e e2 a b c' tg iter elt : Expr} {es rest tgs ifs : List Expr} {m ma mb mc : VE} {mn mn2 : VN} {n na nb : VT} {r : VA} {p pos pos' tpos : Pos} {kk : Nat} {st : Stmt} {sts body : List Stmt} {ms mt mu : VS} {x y : Str} {i j : Nat} {g : VG} {gs : VGs} {is js : List Nat} {q q1 q2 : VI} {elts : List Expr}
theorem jn_e (h : JE X T E e m) : JN X T E e (nE m) := by
  obtain ⟨t, a1, a2⟩ := h.ex
  exact ⟨t, a1, fun c A Ev L G σ H Q Qh hE env hm k _ => a2 c A Ev L G σ H _ _ hE env hm k⟩
theorem jn_f (h : JF X T E e m) : JN X T E e (nF m) := by
  obtain ⟨t, a1, a2⟩ := h.ex
  exact ⟨t, a1, fun c A Ev L G σ H Q Qh hE env hm _ k => a2 c A Ev L G σ H _ _ hE env hm k⟩
theorem je_n (h : JN X T E e mn) : JE X T E e (eN mn) := by
  obtain ⟨t, a1, a2⟩ := h.ex
  exact ⟨t, a1, fun c A Ev L G σ H Q Qh hE env hm k => a2 c A Ev L G σ H _ _ hE env hm k fun d p G1 H1 G' H' p1 hp p2 hb q => k d _ G' H' (p1.trans p2) (hb.den ((env.to p1).nA hp) ((env.to p1).nD hp)) q⟩
theorem jn_op {op : Operator} {rr : R2} {f : V2N} (ho : OpR X (binaryOp op) rr) (hr : SimRN (cn X T) rr f) (ha : JP X T E a ma) (hb : JP X T E b mb) : JN X T E (.BinOp a op b pos) (nOp f ma mb) := by
  obtain ⟨ta, a1, a2⟩ := ha.ex
  obtain ⟨tb, b1, b2⟩ := hb.ex
  refine ⟨_, pe_op ho a1 b1, fun c A Ev L G σ H Q Qh hE env hm k k' => a2 c A Ev L G σ H _ _ hE env hm fun x u G1 H1 p1 d1 q1 => b2 c A Ev L G1 σ H1 _ _ hE (env.to p1) q1 fun y v G2 H2 p2 d2 q2 =>
    hr c A L G2 σ H2 x y u v (fun b z => Q b z G2) Qh ((env.to p1).to p2) (d1.post (env.to p1) p2) d2 q2 (fun d w H3 p3 d3 q3 => k d w G2 H3 ((p1.trans p2).trans p3) d3 q3) fun d w H3 hw p3 d3 q3 => k' d w G2 H2 G2 H3 (p1.trans p2) hw p3 d3 q3⟩
theorem SimRN.or {W : Cn} {r r' : R2} {f f' g : V2N} (h : SimRN W r f) (h' : SimRN W r' f') (hg : ∀ x y Q, g x y Q → f x y Q ∨ f' x y Q) : SimRN W (fun x y H Q => r x y H Q ∨ r' x y H Q) g := fun c A L G σ H x y u v Q Qh env hx hy hf k k' =>
  (hg x y Q hf).elim (fun z => .inl (h c A L G σ H x y u v Q Qh env hx hy z k k')) fun z => .inr (h' c A L G σ H x y u v Q Qh env hx hy z k k')
theorem SimRN.ofE {W : Cn} {r : R2} {f : V2} (h : SimR W r f) : SimRN W r (fun x y Q => f x y (Q false)) := fun c A L G σ H x y u v Q Qh env hx hy hf k _ => h c A L G σ H x y u v (Q false) Qh env hx hy hf k
theorem SimRN.ofF {W : Cn} {r : R2} {f : V2} (h : SimRF W r f) : SimRN W r (fun x y Q => f x y (Q true)) := fun c A L G σ H x y u v Q Qh env hx hy hf _ k => h c A L G σ H x y u v (Q true) Qh env hx hy hf k
/-- + of ints, tuples, lists -/
def dAddN : V2N := fun x y k => match x, y with
  | .int i, .int j => k false (.int (i + j))
  | .tup a, .tup b => a.length + b.length ≤ lineN ∧ k false (.tup (a ++ b))
  | .lst a, .lst b => a.length + b.length ≤ lineN ∧ k true (.lst (a ++ b))
  | _, _ => False
theorem jn_add (ha : JP X T E a ma) (hb : JP X T E b mb) : JN X T E (.BinOp a .Add b pos) (nOp dAddN ma mb) := by
  refine jn_op ((op_add.or op_catA).or op_cat) (SimRN.or (SimRN.ofE sim_add) (SimRN.ofF sim_cat) fun x y Q h => ?_) ha hb
  unfold dAddN at h
  split at h
  · exact .inl h
  · exact .inl h
  · exact .inr h
  · exact h.elim
/-- * of ints, a tuple or a list by an int -/
def dMulN : V2N := fun x y k => match x, y with
  | .int i, .int j => IntMulOk i j ∧ k false (.int (i * j))
  | .tup a, .int i => (a ≠ [] ∧ 0 ≤ i ∧ i ≤ 1000 ∧ a.length ≤ 1000) ∧ k false (.tup (List.replicate i.toNat a).flatten)
  | .lst a, .int i => (-(2 ^ 62) ≤ i ∧ i < 2 ^ 62 ∧ a.length * i.toNat ≤ lineN) ∧ k true (.lst (List.replicate i.toNat a).flatten)
  | _, _ => False
theorem jn_mul (ha : JP X T E a ma) (hb : JP X T E b mb) : JN X T E (.BinOp a .Mult b pos) (nOp dMulN ma mb) := by
  refine jn_op ((op_mulA.or op_repA).or op_rep) (SimRN.or (f := fun x y k => match x, y with
    | .int i, .int j => IntMulOk i j ∧ k false (.int (i * j))
    | .tup a, .int i => (a ≠ [] ∧ 0 ≤ i ∧ i ≤ 1000 ∧ a.length ≤ 1000) ∧ k false (.tup (List.replicate i.toNat a).flatten)
    | _, _ => False) (SimRN.or (SimRN.ofE sim_mul) (SimRN.ofE sim_repA) fun x y Q h => ?_) (SimRN.ofF sim_rep) fun x y Q h => ?_) ha hb
  · split at h
    · exact .inl h
    · exact .inr h
    · exact h.elim
  · unfold dMulN at h
    split at h
    · exact .inl h
    · exact .inl h
    · exact .inr h
    · exact h.elim
/-- x[lo:hi] of a tuple, a list -/
def nSl (m : VE) (lo hi : VO) : VN := fun Ev L G Q => m Ev L G fun x G1 => lo Ev L G1 fun l G2 => hi Ev L G2 fun h G3 => match x with
  | .tup ds => Q false (.tup (cutD ds l h)) G3
  | .lst ds => Q true (.lst (cutD ds l h)) G3
  | _ => False
theorem jn_sl {lo hi : Option Expr} {l h : VO} {p2 : Pos} (ha : JP X T E a m) (hl : JO X T E lo l) (hh : JO X T E hi h) : JN X T E (.Subscript a (.Slice lo hi none p2) pos) (nSl m l h) := by
  obtain ⟨ta, a1, a2⟩ := ha.ex
  obtain ⟨tl, l1, l2⟩ := hl.ex
  obtain ⟨th, h1, h2⟩ := hh.ex
  refine ⟨_, pe_slice (sl_tupA.or sl_list) a1 l1 h1, fun c A Ev L G σ H Q Qh hE env hm k k' => a2 c A Ev L G σ H _ _ hE env hm fun x v G1 H1 p1 d1 q1 =>
    l2 c A Ev L G1 σ H1 _ _ hE (env.to p1) q1 fun lo G2 H2 p2 q2 => h2 c A Ev L G2 σ H2 _ _ hE ((env.to p1).to p2) q2 fun hi G3 H3 p3 q3 => ?_⟩
  have env2 := (env.to p1).to p2
  have env3 := env2.to p3
  have dd := (d1.post (env.to p1) p2).post env2 p3
  split at q3
  · have d3 := dd.tup
    have d3' := d3
    rw [Den] at d3
    obtain ⟨p, vs, rfl, e1, e2⟩ := d3
    refine .inl ⟨p, vs, rfl, e1, fun w => ?_, fun w z hz => ?_⟩
    · rw [← e2.length] at w
      rw [cut_whole _ _ _ w.1 w.2] at q3
      exact k _ _ G3 H3 ((p1.trans p2).trans p3) d3' q3
    · have po := Post.new env3 (p := z) (o := .tup (cutV vs lo hi)) hz
      refine k _ _ G3 _ (((p1.trans p2).trans p3).trans po) ?_ q3
      rw [Den]
      exact ⟨z, _, rfl, .of upd_same, (cut_den e2 lo hi).post po env3.draw⟩
  · obtain ⟨p, vs, rfl, _, e1, e2⟩ := dd.lst
    exact .inr ⟨p, vs, rfl, .of e1, fun z hz => k' _ z G3 H3 G3 _ ((p1.trans p2).trans p3) hz (Post.new env3 hz) (body_new env3 hz (cut_den e2 lo hi)) q3⟩
  · exact q3.elim
/-- x[::-1] -/
def nRev (m : VE) : VN := fun Ev L G Q => m Ev L G fun x G1 => match x with
  | .tup ds => Q false (.tup ds.reverse) G1
  | .lst ds => Q true (.lst ds.reverse) G1
  | _ => False
theorem DenL.reverse {W : Cn} {dr : Dr} {A : Addr → Prop} {H : Hp} : ∀ {ds : List D} {vs : List V}, DenL W dr A H ds vs → DenL W dr A H ds.reverse vs.reverse
  | [], vs, h => by
    rw [DenL] at h
    rw [h]
    exact .nil
  | d :: ds, vs, h => by
    rw [DenL] at h
    obtain ⟨v, r, rfl, h1, h2⟩ := h
    rw [List.reverse_cons, List.reverse_cons]
    exact (DenL.reverse h2).append (.cons h1 .nil)
theorem jn_rev {k0 : Nat} {p1 p2 p3 : Pos} (ha : JP X T E a m) : JN X T E (.Subscript a (.Slice none none (some (.UnaryOp .USub (.Constant (.int 1) k0 p1) p2)) p3) pos) (nRev m) := by
  obtain ⟨ta, a1, a2⟩ := ha.ex
  refine ⟨_, pe_revA a1, fun c A Ev L G σ H Q Qh hE env hm k k' => a2 c A Ev L G σ H _ _ hE env hm fun x v G1 H1 p1 d1 q1 => ?_⟩
  have env1 := env.to p1
  split at q1
  · have d3 := d1.tup
    rw [Den] at d3
    obtain ⟨p, vs, rfl, e1, e2⟩ := d3
    refine ⟨p, vs, rfl, .inr ⟨e1, fun z hz => ?_⟩⟩
    have po := Post.new env1 (p := z) (o := .tup vs.reverse) hz
    refine k _ _ G1 _ (p1.trans po) ?_ q1
    rw [Den]
    exact ⟨z, _, rfl, .of upd_same, e2.reverse.post po env1.draw⟩
  · obtain ⟨p, vs, rfl, _, e1, e2⟩ := d1.lst
    exact ⟨p, vs, rfl, .inl ⟨.of e1, fun z hz => k' _ z G1 H1 G1 _ p1 hz (Post.new env1 hz) (body_new env1 hz e2.reverse) q1⟩⟩
  · exact q1.elim
/-- x if c else y -/
def nIf (t : VT) (ma mb : VN) : VN := fun Ev L G Q => t Ev L G fun b G1 => match b with
  | true => ma Ev L G1 Q
  | false => mb Ev L G1 Q
theorem jn_if (ht : JT X T E c' n) (ha : JN X T E a mn) (hb : JN X T E b mn2) : JN X T E (.IfExp c' a b pos) (nIf n mn mn2) := by
  obtain ⟨tt, t1, t2⟩ := ht.ex
  obtain ⟨ta, a1, a2⟩ := ha.ex
  obtain ⟨tb, b1, b2⟩ := hb.ex
  refine ⟨_, pe_ifExp t1 a1 b1, fun c A Ev L G σ H Q Qh hE env hm k k' => t2 c A Ev L G σ H _ _ hE env hm fun x G1 H1 p1 q1 => ?_⟩
  cases x with
  | true => exact a2 c A Ev L G1 σ H1 _ _ hE (env.to p1) q1 (fun d v G' H' p2 => k d v G' H' (p1.trans p2)) fun d p G2 H2 G' H' p2 => k' d p G2 H2 G' H' (p1.trans p2)
  | false => exact b2 c A Ev L G1 σ H1 _ _ hE (env.to p1) q1 (fun d v G' H' p2 => k d v G' H' (p1.trans p2)) fun d p G2 H2 G' H' p2 => k' d p G2 H2 G' H' (p1.trans p2)
/-! ### stores -/
def slotN (b : Bool) (d : D) : Slot := match b with
  | true => .own d
  | false => .val d
def vSet (i : Nat) (m : VN) : VS := fun Ev D L G => m Ev L G fun b d G1 => setL L i (slotN b d) fun L1 => D.nx L1 G1
theorem js_set (hN : X.N.Nodup) (hi : X.N[i]? = some x) (hx : L2.Loc X.env.scope x) (h : JN X T E e mn) (hs : swapsWith e (some (.Name x pos')) pos.line X.env = pure false := by rfl) (hf : X.fn x = true ∨ X.env.scope.names.lookup x = some .local := by first | exact .inl rfl | exact .inr rfl) :
    JS X T E (.Assign [.Name x pos'] e pos) (vSet i mn) := by
  obtain ⟨t, a1, a2⟩ := h.ex
  refine ⟨_, ps_set hN hi hx a1 hs hf, fun c A Ev L G σ H Dv D hE hD env h => a2 c A Ev L G σ H _ _ hE env h (fun d v G1 H1 p1 d1 q1 => ?_) fun d p G1 H1 G2 H2 p1 hp p2 hb q1 => ?_⟩
  · obtain ⟨q2, q3⟩ := setL_of q1
    exact hD.nx A _ G1 _ H1 ((env.to p1).setVal q2 d1) q3
  · obtain ⟨q2, q3⟩ := setL_of q1
    exact hD.nx _ _ G2 _ H2 ((env.push p1 hp p2 hb).take1 (d := d) env.len q2 (fun _ z => by cases z)) q3
def xN (m : VN) (r : VX) : VX := fun Ev L G Q => m Ev L G fun b d G1 => r Ev L G1 fun ss G2 => Q (slotN b d :: ss) G2
theorem jx_n {r : VX} (h : JN X T E e mn) (hr : JX X T E es r) (hs : starEach (e :: es) X.env = (false, eval e X.env) :: starEach es X.env := by rfl) : JX X T E (e :: es) (xN mn r) := by
  obtain ⟨t, h1, h2⟩ := h.ex
  obtain ⟨tr, r1, r2⟩ := hr.ex
  refine ⟨_, pa_cons h1 r1 hs, fun c A Ev L M G σ τ H Q Qh hE hl hM env hm k => ?_⟩
  have e0 := env.pop hl fun s hs ⟨d, e⟩ => hM s hs d e
  have key : ∀ (s : Slot) (v : V) (A1 : Addr → Prop) (G1 : Gs) (H1 : Hp), (∀ d, s ≠ .lck d) → Env (cn X T) c A1 ((L ++ M) ++ [s]) G1 ((σ ++ τ) ++ [some v]) H1 → (r Ev L G1 fun ss G2 => Q (s :: ss) G2) → tr σ H1 fun vs H2 => Qh (v :: vs) H2 := fun s v A1 G1 H1 hs env1 q1 => by
    rw [List.append_assoc, List.append_assoc] at env1
    refine r2 c A1 Ev L (M ++ [s]) G1 σ (τ ++ [some v]) H1 _ _ hE hl (fun s' hs' d z => ?_) env1 q1 fun ss vs A' G' H' hss hln env2 q2 => ?_
    · rcases List.mem_append.mp hs' with q | q
      · exact hM s' q d z
      · rw [List.mem_singleton.mp q] at z
        exact hs d z
    · refine k (s :: ss) (v :: vs) A' G' H' (fun s' hs' d z => ?_) (by rw [List.length_cons, List.length_cons, hln]) ?_ q2
      · rcases List.mem_cons.mp hs' with q | q
        · rw [q] at z
          exact hs d z
        · exact hss s' q d z
      · rw [List.append_assoc, List.append_assoc] at env2
        exact env2
  exact h2 c A Ev L G σ H _ _ hE e0 hm (fun x v G1 H1 p1 d1 q1 => key _ v A G1 H1 (fun _ z => by cases z) ((env.to p1).pushVal d1) q1) fun x v G1 H1 G2 H2 p1 hp p2 hb q1 => key _ (.ref v) _ G2 H2 (fun _ z => by cases z) (env.push p1 hp p2 hb) q1
/-- a1, .., an = e1, .., en by way of a tuple -/
structure JNs (X : Cx) (is : List Nat) (tgs : List Expr) : Prop where
  ex : ∃ g, PGs X tgs g ∧ ∀ (vs : List V) (σ : L2.St) (H : Hp) (Q : L2.St → Hp → Prop), vs.length = is.length → Q (setSt is vs σ) H → g vs σ H Q
theorem jns_nil : JNs X [] [] := ⟨_, pgs_nil, fun vs σ H Q hl h => by
  have e : vs = [] := List.length_eq_zero_iff.mp hl
  subst e
  exact ⟨rfl, h⟩⟩
theorem jns_cons (hN : X.N.Nodup) (hi : X.N[i]? = some x) (hx : L2.Loc X.env.scope x) (h : JNs X is tgs) (hf : X.fn x = true ∨ X.env.scope.names.lookup x = some .local := by first | exact .inl rfl | exact .inr rfl)
    (hs : (assignEach (.Name x pos :: tgs) X.env).map (·.2) = assign (.Name x pos) X.env :: (assignEach tgs X.env).map (·.2) := by rfl) : JNs X (i :: is) (.Name x pos :: tgs) := by
  obtain ⟨g, a1, a2⟩ := h.ex
  refine ⟨_, pgs_cons (pg_name hN hi hx hf) a1 hs, fun vs σ H Q hl h => ?_⟩
  match vs, hl with
  | v :: vs, hl => exact ⟨v, vs, rfl, a2 vs _ H Q (by simpa using hl) h⟩
theorem js_parT {r : VX} {k0 k2 : Nat} {p2 : Pos} {nn : Nat} (hc : X.calm = true) (hg : JNs X is tgs) (ha : JX X T E es r) (hlen : is.length = nn := by rfl) (hn : (assignEach tgs X.env).length = nn := by rfl) (hst : (assignEach tgs X.env).findIdx? (·.1) = none := by rfl) (hz : nn ≤ lineN := by decide)
    (hs : swapsWithSole [.Tuple tgs k0 p] (.Tuple es k2 p2) pos.line X.env = pure false := by rfl) (hw : swappedStores [.Tuple tgs k0 p] (.Tuple es k2 p2) X.env = pure none := by rfl) (h1 : (assignEach [.Tuple tgs k0 p] X.env).map (·.2) = [assign (.Tuple tgs k0 p) X.env] := by rfl) :
    JS X T E (.Assign [.Tuple tgs k0 p] (.Tuple es k2 p2) pos) (vPar is r) := by
  obtain ⟨t, a1, a2⟩ := ha.ex
  obtain ⟨g, b1, b2⟩ := hg.ex
  refine ⟨_, ps_asg (pe_tup a1) (pg_tup hc b1 hn hst) hs hw h1, fun c A Ev L G σ H Dv D hE hD env h => a2.go hE env h fun ss vs A' G' H' h1 h2 env2 q => ?_⟩
  obtain ⟨L', q1, env3⟩ := Env.takeAll is ss vs L σ h2 env.len h1 env2 q
  have hl : ss.length = is.length := by
    have : ∀ (is : List Nat) (ss : List Slot) (L : Lo) {k : Lo → Prop}, setAll is ss L k → ss.length = is.length := by
      intro is
      induction is with
      | nil =>
        intro ss L k h
        cases ss with
        | nil => rfl
        | cons s ss => exact h.elim
      | cons i is ih =>
        intro ss L k h
        cases ss with
        | nil => exact h.elim
        | cons s ss =>
          obtain ⟨_, h2⟩ := setL_of (show setL L i s (fun L1 => setAll is ss L1 k) from h)
          rw [List.length_cons, List.length_cons, ih ss _ h2]
    exact this is ss L q
  refine ⟨line_le (by rw [← h2, hl, hlen]; exact hz), fun z hz => ⟨z, vs, rfl, .of upd_same, by rw [← h2, hl, hlen], b2 vs σ _ _ (by rw [← h2, hl]) ?_⟩⟩
  exact hD.nx _ _ _ _ _ (env3.to (Post.new env3 hz)) q1
/-! ### - x, a op b op c -/
def vNeg (m : VE) : VE := fun Ev L G Q => m Ev L G fun x G1 => match x with
  | .int i => Q (.int (-i)) G1
  | _ => False
theorem je_neg (ha : JP X T E a m) : JE X T E (.UnaryOp .USub a pos) (vNeg m) := by
  obtain ⟨t, a1, a2⟩ := ha.ex
  refine ⟨_, pe_un un_neg a1, fun c A Ev L G σ H Q Qh hE env hm k => a2 c A Ev L G σ H _ _ hE env hm fun x v G1 H1 p1 d1 q1 => ?_⟩
  split at q1
  · exact ⟨_, d1.int, k _ _ G1 H1 p1 den_int q1⟩
  · exact q1.elim
def vChain (f f' : V2) (ma mb mc : VE) : VE := fun Ev L G Q => ma Ev L G fun x G1 => mb Ev L G1 fun y G2 => f x y fun z => match z with
  | .bl true => mc Ev L G2 fun w G3 => f' y w fun z => Q z G3
  | .bl false => Q (.bl false) G2
  | _ => False
theorem sim_chain {W : Cn} {rr rr' : R2} {f f' : V2} {ta tb tc : TE} (hr : SimR W rr f) (hr' : SimR W rr' f') (ha : SimP W E ta ma) (hb : SimP W E tb mb) (hc : SimP W E tc mc) : SimE W E (tChain rr rr' ta tb tc) (vChain f f' ma mb mc) := fun c A Ev L G σ H Q Qh hE env hm k =>
  ha c A Ev L G σ H _ _ hE env hm fun x u G1 H1 p1 d1 q1 => hb c A Ev L G1 σ H1 _ _ hE (env.to p1) q1 fun y v G2 H2 p2 d2 q2 => by
    have env2 := (env.to p1).to p2
    refine hr c A L G2 σ H2 x y u v _ _ env2 (d1.post (env.to p1) p2) d2 q2 fun d w H3 p3 d3 q3 => ?_
    split at q3
    · rw [Den] at d3
      refine ⟨true, d3, ?_⟩
      rw [if_pos rfl]
      exact hc c A Ev L G2 σ H3 _ _ hE (env2.to p3) q3 fun z w' G4 H4 p4 d4 q4 => hr' c A L G4 σ H4 y z v w' (fun z => Q z G4) Qh ((env2.to p3).to p4) ((d2.post env2 p3).post (env2.to p3) p4) d4 q4 fun d' w2 H5 p5 d5 q5 => k d' w2 G4 H5 ((((p1.trans p2).trans p3).trans p4).trans p5) d5 q5
    · rw [Den] at d3
      refine ⟨false, d3, ?_⟩
      rw [if_neg Bool.false_ne_true]
      exact k _ _ G2 H3 ((p1.trans p2).trans p3) den_bl q3
    · exact q3.elim
theorem je_chain {op op' : CmpOp} {rr rr' : R2} {f f' : V2} (ho : OpR X (compareOp op) rr) (ho' : OpR X (compareOp op') rr') (hr : SimR (cn X T) rr f) (hr' : SimR (cn X T) rr' f') (ha : JP X T E a ma) (hb : JP X T E b mb) (hc : JP X T E e mc) (hm : lastMarks [op, op'] [b, e] = false := by with_unfolding_all rfl) :
    JE X T E (.Compare a [op, op'] [b, e] pos) (vChain f f' ma mb mc) := by
  obtain ⟨ta, a1, a2⟩ := ha.ex
  obtain ⟨tb, b1, b2⟩ := hb.ex
  obtain ⟨tc, c1, c2⟩ := hc.ex
  exact ⟨_, pe_chain ho ho' a1 b1 c1 hm, sim_chain hr hr' a2 b2 c2⟩
theorem jt_chain {op op' : CmpOp} {rr rr' : R2} {f f' : V2} (ho : OpR X (compareOp op) rr) (ho' : OpR X (compareOp op') rr') (hr : SimR (cn X T) rr f) (hr' : SimR (cn X T) rr' f') (ha : JP X T E a ma) (hb : JP X T E b mb) (hc : JP X T E e mc) (hm : lastMarks [op, op'] [b, e] = false := by with_unfolding_all rfl) :
    JT X T E (.Compare a [op, op'] [b, e] pos) (vB (vChain f f' ma mb mc)) := by
  obtain ⟨ta, a1, a2⟩ := ha.ex
  obtain ⟨tb, b1, b2⟩ := hb.ex
  obtain ⟨tc, c1, c2⟩ := hc.ex
  exact ⟨_, pt_chain ho ho' a1 b1 c1 hm, sim_test (sim_chain hr hr' a2 b2 c2)⟩
theorem je_lele (ha : JP X T E a ma) (hb : JP X T E b mb) (hc : JP X T E e mc) (hm : lastMarks [.LtE, .LtE] [b, e] = false := by with_unfolding_all rfl) : JE X T E (.Compare a [.LtE, .LtE] [b, e] pos) (vChain dLe dLe ma mb mc) := je_chain op_le op_le sim_cmp sim_cmp ha hb hc hm
theorem jt_lele (ha : JP X T E a ma) (hb : JP X T E b mb) (hc : JP X T E e mc) (hm : lastMarks [.LtE, .LtE] [b, e] = false := by with_unfolding_all rfl) : JT X T E (.Compare a [.LtE, .LtE] [b, e] pos) (vB (vChain dLe dLe ma mb mc)) := jt_chain op_le op_le sim_cmp sim_cmp ha hb hc hm
theorem je_lelt (ha : JP X T E a ma) (hb : JP X T E b mb) (hc : JP X T E e mc) (hm : lastMarks [.LtE, .Lt] [b, e] = false := by with_unfolding_all rfl) : JE X T E (.Compare a [.LtE, .Lt] [b, e] pos) (vChain dLe dLt ma mb mc) := je_chain op_le op_lt sim_cmp sim_cmp ha hb hc hm
theorem jt_lelt (ha : JP X T E a ma) (hb : JP X T E b mb) (hc : JP X T E e mc) (hm : lastMarks [.LtE, .Lt] [b, e] = false := by with_unfolding_all rfl) : JT X T E (.Compare a [.LtE, .Lt] [b, e] pos) (vB (vChain dLe dLt ma mb mc)) := jt_chain op_le op_lt sim_cmp sim_cmp ha hb hc hm
end
end VL
set_option Elab.async false
set_option autoImplicit false
set_option linter.all false
set_option maxRecDepth 100000
set_option maxHeartbeats 2000000
namespace VL
open PySem PySem.Spec PyProof.Rows L2
/-! ### what may be called -/
/-- x names a def with the parameters ps that keeps sp -/
structure Cal (P : Program) (w : World) (K : PySem.W.Frag) (mg : Str → Option Value) (base : Heap) (T : List (Addr × Str)) (k : Nat) (x : Str) (ar : Arguments) (ps : List Str) (sp : SpD) : Prop where
  ex : ∃ (f : Addr) (fd : FuncData) (bd : List Stmt) (sc : Scope), FunD K x x ar bd sc [] [] f fd ∧ mg x = some (.ref f) ∧ Binds K fd ps [] ∧ FnOk P w K mg base (L2.CX P w) k f fd ps (spOf ⟨K, mg, T⟩ sp)
section
variable {X : Cx} {T : List (Addr × Str)} {E : XK} {e : Expr} {es : List Expr} {r : VA} {p pos : Pos} {k kr : Nat} {x : Str} {ar : Arguments} {ps ks : List Str} {sp : SpD} {kws : List Keyword} {perm : List Nat}
theorem je_fn (C : Cal X.prog X.w X.K X.mg X.base T k x ar ps sp) (hr : Room kr X.A) (hk : k ≤ kr) (hx : Passes (CXe X) X E) (ha : JA X T E (e :: es) r) (hg : Gl X x := by rfl) (hdb : (x == ("__debug__" : Str)) = false := by decide) (he : starEach (e :: es) X.env = (false, eval e X.env) :: starEach es X.env := by rfl) (hpl : (backTo pos (starEach es X.env)).any (·.1) = false := by rfl) :
    JE X T E (.Call (.Name x p) (e :: es) [] pos) (vDef sp r) := by
  obtain ⟨f, fd, bd, sc, F, gm, hb, ok⟩ := C.ex
  exact je_call ok (hr.mono hk) gm F.kp hb hx ha hg hdb he hpl
/-- the keywords' values bind the parameters -/
def KwFits (x : Str) (ar : Arguments) (ps ks : List Str) (perm : List Nat) : Prop := ∀ (bd : List Stmt) (sc : Scope) (kV doc pm : Value) (an : Option Addr) (cdv ct : Value) (ws : List Value), (permD perm ws).length = ps.length → bindArgs (PySem.W.fnOf x x ar bd sc .none kV doc pm an cdv ct) ⟨[], ks.zip ws⟩ = pure (ps.zip (permD perm ws))
theorem je_fnK (C : Cal X.prog X.w X.K X.mg X.base T k x ar ps sp) (hr : Room kr X.A) (hk : k ≤ kr) (hx : Passes (CXe X) X E) (hf : KwFits x ar ps ks perm) (hkw : JK X T E kws r) (hg : Gl X x := by rfl) (hall : (backToKw pos (keywordEach kws X.env)).all (·.1.isSome) = true := by rfl) (hks : (backToKw pos (keywordEach kws X.env)).filterMap (·.1) = ks := by rfl)
    (hdb : (x == ("__debug__" : Str)) = false := by decide) (hpl : ((backTo pos (starEach [] X.env)).any (·.1) || (backToKw pos (keywordEach kws X.env)).any (·.1.isNone)) = false := by rfl) :
    JE X T E (.Call (.Name x p) [] kws pos) (vDefK sp perm r) := by
  obtain ⟨f, fd, bd, sc, F, gm, hb, ok⟩ := C.ex
  refine je_callK ok (hr.mono hk) gm F.kp (fun s us ws hu hl => ?_) hx hkw hg hall hks hdb hpl
  subst hu
  obtain ⟨oc, od, dV, kV, doc, pm, an, cdv, ct, osl, rfl, lk, hcd, hD, hK⟩ := F.ex
  rcases hD with ⟨_, rfl⟩ | ⟨e, _⟩
  · exact .of_eq (hf bd sc kV doc pm an cdv ct ws hl)
  · exact absurd rfl e
end
end VL
set_option Elab.async false
set_option autoImplicit false
set_option linter.all false
set_option maxRecDepth 100000
set_option maxHeartbeats 2000000
namespace VL
open PySem PySem.Spec PyProof.Rows L2
/-- the block's scope fits, told by a bool -/
def kindB : NameKind → NameKind → Bool
  | .local, .local => true
  | .cell, .cell => true
  | .free, .free => true
  | _, _ => false
theorem kindB_of {a b : NameKind} (h : kindB a b = true) : a = b := by cases a <;> cases b <;> first | rfl | cases h
def isKind (o : Option NameKind) (k : NameKind) : Bool := match o with
  | some a => kindB a k
  | none => false
theorem isKind_of {o : Option NameKind} {k : NameKind} (h : isKind o k = true) : o = some k := by
  cases o with
  | none => cases h
  | some a => rw [kindB_of h]
def blkOkB (N : List Str) (sc scope : Scope) (own : List (Str × Nat)) : Bool :=
  (scope.names.all fun y => decide (scope.names.lookup y.1 = some y.2)) && (own.all fun p => decide (N[p.2]? = some p.1)) && (scope.names.all fun y => !(kindB y.2 .free) || (isKind (sc.names.lookup y.1) .cell || isKind (sc.names.lookup y.1) .free)) &&
    (scope.names.all fun y => !(kindB y.2 .local || kindB y.2 .cell) || ((own.map (·.1)).contains y.1 || !(N.contains y.1)))
theorem blkOk_of {N : List Str} {sc scope : Scope} {own : List (Str × Nat)} (hk : scope.kind = .function) (h : blkOkB N sc scope own = true) : BlkOk N sc scope own := by
  unfold blkOkB at h
  simp only [Bool.and_eq_true, List.all_eq_true] at h
  obtain ⟨⟨⟨h1, h2⟩, h3⟩, h4⟩ := h
  refine ⟨hk, fun y hy => of_decide_eq_true (h1 y hy), fun p hp => of_decide_eq_true (h2 p hp), fun y hy e => ?_, fun y hy e => ?_⟩
  · have q := h3 y hy
    rw [e] at q
    have q : (isKind (sc.names.lookup y.1) .cell || isKind (sc.names.lookup y.1) .free) = true := q
    rcases (Bool.or_eq_true _ _).mp q with z | z
    · exact .inl (isKind_of z)
    · exact .inr (isKind_of z)
  · have q := h4 y hy
    have q : ((own.map (·.1)).contains y.1 || !(N.contains y.1)) = true := by
      rcases e with e | e <;> rw [e] at q <;> exact q
    rcases (Bool.or_eq_true _ _).mp q with z | z
    · exact .inl (by simpa using z)
    · exact .inr (by simpa using z)
section
variable {X : Cx} {T : List (Addr × Str)} {E : XK} {e a b : Expr} {m ma mb mc : VE} {n : VT} {p pos : Pos} {k kr kk : Nat} {x : Str} {ar : Arguments} {ps ks : List Str} {sp : SpD}
theorem jt_bool {op : BoolOp} {es : List Expr} (h : JW X T E (.BoolOp op es pos) n) : JT X T E (.BoolOp op es pos) n := h.jt
def TupG (K : PySem.W.Frag) (mg : Str → Option Value) (x : Str) (ns : List Int) : Prop := ∃ a, mg x = some (.ref a) ∧ ∀ H, SqT K H a (ns.map V.int)
def IntG (mg : Str → Option Value) (x : Str) (i : Int) : Prop := ∃ t, mg x = some (.int i t)
theorem je_gtupK {ns : List Int} (h : TupG X.K X.mg x ns) (hg : Gl X x := by rfl) (hd : (x == ("__debug__" : Str)) = false := by decide) : JE X T E (.Name x pos) (vC (.tup (ns.map D.int))) := by
  obtain ⟨f, h1, h2⟩ := h
  exact je_gtup h1 h2 (fun _ _ _ => .ints ns) hg hd
theorem je_fnv (C : Cal X.prog X.w X.K X.mg X.base T k x ar ps sp) (hg : Gl X x := by rfl) (hd : (x == ("__debug__" : Str)) = false := by decide) : JE X T E (.Name x pos) (vC (.fn x)) := by
  obtain ⟨f, fd, bd, sc, F, gm, hb, ok⟩ := C.ex
  exact je_gfn gm hg hd
theorem je_eqeq (hr : Room kk X.A) (ha : JP X T E a ma) (hb : JP X T E b mb) (hc : JP X T E e mc) (hm : lastMarks [.Eq, .Eq] [b, e] = false := by with_unfolding_all rfl) : JE X T E (.Compare a [.Eq, .Eq] [b, e] pos) (vChain dEq dEq ma mb mc) := je_chain ((op_eqD hr.units).or op_eq) ((op_eqD hr.units).or op_eq) sim_eq sim_eq ha hb hc hm
theorem jt_eqeq (hr : Room kk X.A) (ha : JP X T E a ma) (hb : JP X T E b mb) (hc : JP X T E e mc) (hm : lastMarks [.Eq, .Eq] [b, e] = false := by with_unfolding_all rfl) : JT X T E (.Compare a [.Eq, .Eq] [b, e] pos) (vB (vChain dEq dEq ma mb mc)) := jt_chain ((op_eqD hr.units).or op_eq) ((op_eqD hr.units).or op_eq) sim_eq sim_eq ha hb hc hm
theorem js_raiseC {er : Str} {m : Str} {j : Nat} {p2 pos' : Pos} (F : ∃ C, ClsF X.K X.mg er C) (hc : X.calm = true) (tk : Takes X (fun cls d _ H => E cls d H)) (hg : Gl X er := by rfl) (hdb : (er == ("__debug__" : Str)) = false := by decide) :
    JS X T E (.Raise (some (.Call (.Name er p) [.Constant (.str m) j p2] [] pos)) none pos') (vRaise ⟨er, none⟩) := by
  obtain ⟨C, F⟩ := F
  exact js_raise F hc tk hg hdb
end
end VL
set_option Elab.async false
set_option autoImplicit false
set_option linter.all false
set_option maxRecDepth 100000
set_option maxHeartbeats 2000000
namespace VL
open PySem PySem.Spec PyProof.Rows L2
section
variable {X : Cx} {T : List (Addr × Str)} {E : XK} {o e e2 a b : Expr} {m mo mk md : VE} {n : VT} {p pos pos' apos cpos : Pos} {k kr kk : Nat} {x : Str} {i j : Nat}
/-! ### the draws' dict -/
theorem Rdn.draw {W : Cn} {dr : Dr} {A : Addr → Prop} {H : Hp} {v : V} (h : Rdn W dr A H .draw v) : v = .ref dr.1 := by
  rcases h with h | ⟨a, _, _, _, h⟩
  · rw [Den] at h
    exact h
  · exact h.elim
def dkv (G : Gs) (c : Addr) : List (Key × V) := [(kWhole, .int G.whole), (kCells, .ref c), (kCount, .int G.count)]
theorem dkv_whole {G : Gs} {c : Addr} : valV (dkv G c) (.inr "whole") = some (.int G.whole) := valV_pos rfl
theorem dkv_cells {G : Gs} {c : Addr} : valV (dkv G c) (.inr "cells") = some (.ref c) := (valV_neg (show ¬ kWhole = .inr "cells" by decide)).trans (valV_pos rfl)
theorem dkv_count {G : Gs} {c : Addr} : valV (dkv G c) (.inr "count") = some (.int G.count) := (valV_neg (show ¬ kWhole = .inr "count" by decide)).trans ((valV_neg (show ¬ kCells = .inr "count" by decide)).trans (valV_pos rfl))
theorem dkv_put_whole {G : Gs} {c : Addr} {i : Int} : putK (dkv G c) (.inr "whole") (.int i) = dkv { G with whole := i } c := by
  unfold putK dkv
  have h : ((([(kWhole, V.int G.whole), (kCells, V.ref c), (kCount, V.int G.count)] : List (Key × V)).any fun kv => decide (kv.1 = (.inr "whole" : Key))) = true) := by
    simp only [List.any_cons, List.any_nil, kWhole, decide_true, Bool.true_or]
  rw [if_pos h]
  have h2 : ¬ ((.inr "cells" : Key) = .inr "whole") := by decide
  have h3 : ¬ ((.inr "count" : Key) = .inr "whole") := by decide
  simp only [List.map_cons, List.map_nil, kWhole, kCells, kCount, if_true, if_neg h2, if_neg h3]
theorem dkv_put_count {G : Gs} {c : Addr} {i : Int} : putK (dkv G c) (.inr "count") (.int i) = dkv { G with count := i } c := by
  unfold putK dkv
  have h : ((([(kWhole, V.int G.whole), (kCells, V.ref c), (kCount, V.int G.count)] : List (Key × V)).any fun kv => decide (kv.1 = (.inr "count" : Key))) = true) := by
    simp only [List.any_cons, List.any_nil, kCount, decide_true, Bool.true_or, Bool.or_true]
  rw [if_pos h]
  have h2 : ¬ ((.inr "cells" : Key) = .inr "count") := by decide
  have h3 : ¬ ((.inr "whole" : Key) = .inr "count") := by decide
  simp only [List.map_cons, List.map_nil, kWhole, kCells, kCount, if_true, if_neg h2, if_neg h3]
def vDrwW (m : VE) : VE := fun Ev L G Q => m Ev L G fun x G1 => match x with
  | .draw => Q (.int G1.whole) G1
  | _ => False
def vDrwC (m : VE) : VE := fun Ev L G Q => m Ev L G fun x G1 => match x with
  | .draw => Q (.lst (G1.cells.map D.int)) G1
  | _ => False
def vDrwN (m : VE) : VE := fun Ev L G Q => m Ev L G fun x G1 => match x with
  | .draw => Q (.int G1.count) G1
  | _ => False
theorem je_drwW {j : Nat} {p2 : Pos} (hr : Room kr X.A) (h : JE X T E o m) : JE X T E (.Subscript o (.Constant (.str "whole") j p2) pos) (vDrwW m) := by
  obtain ⟨t, a1, a2⟩ := h.ex
  refine ⟨_, pe_dget (by have := hr.un; omega) a1 pe_str (fun _ _ => rfl), fun c A Ev L G σ H Q Qh hE env hm k => a2 c A Ev L G σ H _ _ hE env hm fun x v G1 H1 p1 d1 q1 => ?_⟩
  split at q1
  · rw [Den] at d1
    subst d1
    obtain ⟨e1, e2, e3, e4⟩ := (env.to p1).draw
    exact ⟨_, _, rfl, by rw [← dkv_whole (c := c.dr.2)]; exact DGet.k (k := .inr "whole") e1, k _ _ G1 H1 p1 den_int q1⟩
  · exact q1.elim
theorem je_drwC {j : Nat} {p2 : Pos} (hr : Room kr X.A) (h : JE X T E o m) : JE X T E (.Subscript o (.Constant (.str "cells") j p2) pos) (vDrwC m) := by
  obtain ⟨t, a1, a2⟩ := h.ex
  refine ⟨_, pe_dget (by have := hr.un; omega) a1 pe_str (fun _ _ => rfl), fun c A Ev L G σ H Q Qh hE env hm k => a2 c A Ev L G σ H _ _ hE env hm fun x v G1 H1 p1 d1 q1 => ?_⟩
  split at q1
  · rw [Den] at d1
    subst d1
    obtain ⟨e1, e2, e3, e4⟩ := (env.to p1).draw
    refine ⟨_, _, rfl, by rw [← dkv_cells (G := G1) (c := c.dr.2)]; exact DGet.k (k := .inr "cells") e1, k _ _ G1 H1 p1 ?_ q1⟩
    rw [Den]
    exact ⟨_, _, rfl, e3, e4, e2, .ints _⟩
  · exact q1.elim
theorem je_drwN {j : Nat} {p2 : Pos} (hr : Room kr X.A) (h : JE X T E o m) : JE X T E (.Subscript o (.Constant (.str "count") j p2) pos) (vDrwN m) := by
  obtain ⟨t, a1, a2⟩ := h.ex
  refine ⟨_, pe_dget (by have := hr.un; omega) a1 pe_str (fun _ _ => rfl), fun c A Ev L G σ H Q Qh hE env hm k => a2 c A Ev L G σ H _ _ hE env hm fun x v G1 H1 p1 d1 q1 => ?_⟩
  split at q1
  · rw [Den] at d1
    subst d1
    obtain ⟨e1, e2, e3, e4⟩ := (env.to p1).draw
    exact ⟨_, _, rfl, by rw [← dkv_count (c := c.dr.2)]; exact DGet.k (k := .inr "count") e1, k _ _ G1 H1 p1 den_int q1⟩
  · exact q1.elim
/-- the draws' state is changed -/
theorem Post.drw {W : Cn} {c : Ctx} {A : Addr → Prop} {L : Lo} {G G' : Gs} {σ : L2.St} {H : Hp} (env : Env W c A L G σ H) (hc : G'.cells = G.cells) : Post W c.dr A H (upd H c.dr.1 (.dK (dkv G' c.dr.2))) G' := by
  obtain ⟨e1, e2, e3, e4⟩ := env.draw
  refine ⟨fun a u h n _ => by rw [upd_ne n]; exact h, ⟨upd_same, by rw [upd_ne e4, hc]; exact e2, e3, e4⟩, fun p hp => ?_⟩
  have ne : ∀ {b : Addr} {u : HO}, H b = some u → (∀ kvs, u ≠ .dK kvs) → b ≠ c.dr.1 := fun {b u} h n => env.draw.ne h n
  obtain ⟨ps, h1, h2, h3⟩ := env.tabs p hp
  refine ⟨ps, by rw [upd_ne (ne h1 fun _ z => by cases z)]; exact h1, h2, fun pos cv hcv => ?_⟩
  obtain ⟨c', e1, e2⟩ := h3 pos cv hcv
  exact ⟨c', e1, by rw [upd_ne (ne e2 fun _ z => by cases z)]; exact e2⟩
def vPutW (mo m : VE) : VS := fun Ev D L G => m Ev L G fun x G1 => mo Ev L G1 fun o G2 => match x, o with
  | .int i, .draw => D.nx L { G2 with whole := i }
  | _, _ => False
def vPutN (mo m : VE) : VS := fun Ev D L G => m Ev L G fun x G1 => mo Ev L G1 fun o G2 => match x, o with
  | .int i, .draw => D.nx L { G2 with count := i }
  | _, _ => False
theorem js_putW {j : Nat} {p2 : Pos} (hr : Room kr X.A) (ho : JE X T E o mo) (h : JE X T E e m) (hs : swapsWith e (some (.Subscript o (.Constant (.str "whole") j p2) pos')) pos.line X.env = pure false := by rfl) : JS X T E (.Assign [.Subscript o (.Constant (.str "whole") j p2) pos'] e pos) (vPutW mo m) := by
  obtain ⟨t, a1, a2⟩ := h.ex
  obtain ⟨u, b1, b2⟩ := ho.ex
  refine ⟨_, ps_dput (by have := hr.un; omega) b1 pe_str a1 hs, fun c A Ev L G σ H Dv D hE hD env h => a2 c A Ev L G σ H _ _ hE env h fun x v G1 H1 p1 d1 q1 => b2 c A Ev L G1 σ H1 _ _ hE (env.to p1) q1 fun o w G2 H2 p2 d2 q2 => ?_⟩
  have env2 := (env.to p1).to p2
  split at q2
  · have z1 := Rdn.int (.inl d1)
    have z2 := Rdn.draw (.inl d2)
    subst z1 z2
    obtain ⟨e1, e2, e3, e4⟩ := env2.draw
    refine ⟨_, _, rfl, DPut.k (k := .inr "whole") e1 (by show 3 < sizeLine; rw [sizeLine_eq]; omega), ?_⟩
    rw [show putK [(kWhole, V.int G2.whole), (kCells, V.ref c.dr.2), (kCount, V.int G2.count)] (.inr "whole") (.int _) = _ from dkv_put_whole]
    exact hD.nx A L _ σ _ (env2.to (Post.drw env2 rfl)) q2
  · exact q2.elim
theorem js_putN {j : Nat} {p2 : Pos} (hr : Room kr X.A) (ho : JE X T E o mo) (h : JE X T E e m) (hs : swapsWith e (some (.Subscript o (.Constant (.str "count") j p2) pos')) pos.line X.env = pure false := by rfl) : JS X T E (.Assign [.Subscript o (.Constant (.str "count") j p2) pos'] e pos) (vPutN mo m) := by
  obtain ⟨t, a1, a2⟩ := h.ex
  obtain ⟨u, b1, b2⟩ := ho.ex
  refine ⟨_, ps_dput (by have := hr.un; omega) b1 pe_str a1 hs, fun c A Ev L G σ H Dv D hE hD env h => a2 c A Ev L G σ H _ _ hE env h fun x v G1 H1 p1 d1 q1 => b2 c A Ev L G1 σ H1 _ _ hE (env.to p1) q1 fun o w G2 H2 p2 d2 q2 => ?_⟩
  have env2 := (env.to p1).to p2
  split at q2
  · have z1 := Rdn.int (.inl d1)
    have z2 := Rdn.draw (.inl d2)
    subst z1 z2
    obtain ⟨e1, e2, e3, e4⟩ := env2.draw
    refine ⟨_, _, rfl, DPut.k (k := .inr "count") e1 (by show 3 < sizeLine; rw [sizeLine_eq]; omega), ?_⟩
    rw [show putK [(kWhole, V.int G2.whole), (kCells, V.ref c.dr.2), (kCount, V.int G2.count)] (.inr "count") (.int _) = _ from dkv_put_count]
    exact hD.nx A L _ σ _ (env2.to (Post.drw env2 rfl)) q2
  · exact q2.elim
end
end VL
set_option Elab.async false
set_option autoImplicit false
set_option linter.all false
set_option maxRecDepth 100000
set_option maxHeartbeats 2000000
namespace VL
open PySem PySem.Spec PyProof.Rows L2
/-! ### dicts, the keys whole numbers or texts -/
def keyD : D → Option Key
  | .int i => some (.inl i)
  | .str x => some (.inr x)
  | _ => none
def lookD : List Key → List D → Key → Option D
  | k' :: ks, d :: ds, k => if k' = k then some d else lookD ks ds k
  | _, _, _ => none
def putD : List (Key × D) → Key → D → List (Key × D)
  | [], k, d => [(k, d)]
  | p :: r, k, d => if p.1 = k then (p.1, d) :: r else p :: putD r k d
def mergeD (kds more : List (Key × D)) : List (Key × D) := more.foldl (fun acc kv => putD acc kv.1 kv.2) kds
def dctOf (kds : List (Key × D)) : D := .dct (kds.map (·.1)) (kds.map (·.2))
def KVs (W : Cn) (dr : Dr) (A : Addr → Prop) (H : Hp) (kds : List (Key × D)) (kvs : List (Key × V)) : Prop := kvs.map (·.1) = kds.map (·.1) ∧ DenL W dr A H (kds.map (·.2)) (kvs.map (·.2))
/-- no key twice -/
def NodupK (kds : List (Key × D)) : Prop := (kds.map (·.1)).Nodup
section
variable {W : Cn} {dr : Dr} {A : Addr → Prop} {H : Hp}
theorem KVs.nil : KVs W dr A H [] [] := ⟨rfl, .nil⟩
theorem KVs.cons {k : Key} {d : D} {v : V} {kds : List (Key × D)} {kvs : List (Key × V)} (h : Den W dr A H d v) (t : KVs W dr A H kds kvs) : KVs W dr A H ((k, d) :: kds) ((k, v) :: kvs) := ⟨by rw [List.map_cons, List.map_cons, t.1], .cons h t.2⟩
theorem KVs.uncons {p : Key × D} {kds : List (Key × D)} {kvs : List (Key × V)} (h : KVs W dr A H (p :: kds) kvs) : ∃ v r, kvs = (p.1, v) :: r ∧ Den W dr A H p.2 v ∧ KVs W dr A H kds r := by
  obtain ⟨h1, h2⟩ := h
  cases kvs with
  | nil => cases h1
  | cons q r =>
    rw [List.map_cons, List.map_cons] at h1
    injection h1 with e1 e2
    rw [List.map_cons, List.map_cons, DenL] at h2
    obtain ⟨v, r', e3, d1, d2⟩ := h2
    injection e3 with e4 e5
    refine ⟨v, r, ?_, d1, e2, by rw [e5]; exact d2⟩
    rw [← e1, ← e4]
theorem KVs.un0 {kvs : List (Key × V)} (h : KVs W dr A H [] kvs) : kvs = [] := List.map_eq_nil_iff.mp h.1
theorem any_key {kvs : List (Key × V)} {k : Key} : (kvs.any fun kv => decide (kv.1 = k)) = true ↔ k ∈ kvs.map (·.1) := by
  rw [List.any_eq_true, List.mem_map]
  exact ⟨fun ⟨x, h1, h2⟩ => ⟨x, h1, of_decide_eq_true h2⟩, fun ⟨x, h1, h2⟩ => ⟨x, h1, decide_eq_true h2⟩⟩
theorem map_put {k : Key} {v : V} : ∀ {kvs : List (Key × V)}, k ∉ kvs.map (·.1) → kvs.map (fun kv => if kv.1 = k then (kv.1, v) else kv) = kvs
  | [], _ => rfl
  | p :: r, h => by
    rw [List.map_cons, map_put (kvs := r) fun z => h (List.mem_cons_of_mem _ z), if_neg fun z => h (by rw [← z]; exact List.mem_cons_self)]
theorem KVs.put {k : Key} {d : D} {v : V} (hd : Den W dr A H d v) : ∀ {kds : List (Key × D)} {kvs : List (Key × V)}, NodupK kds → KVs W dr A H kds kvs → KVs W dr A H (putD kds k d) (putK kvs k v)
  | [], kvs, _, h => by
    rw [h.un0]
    exact .cons hd .nil
  | p :: kds, kvs, hn, h => by
    obtain ⟨w, r, rfl, d1, t⟩ := h.uncons
    have hn2 := List.nodup_cons.mp (show (p.1 :: kds.map (·.1)).Nodup from hn)
    unfold putD
    by_cases e : p.1 = k
    · rw [if_pos e]
      have ha : (((p.1, w) :: r).any fun kv => decide (kv.1 = k)) = true := any_key.mpr (by rw [List.map_cons, e]; exact List.mem_cons_self)
      unfold putK
      rw [if_pos ha, List.map_cons, if_pos e, map_put (by rw [t.1, ← e]; exact hn2.1)]
      exact .cons hd t
    · rw [if_neg e]
      have ih := KVs.put (k := k) hd hn2.2 t
      unfold putK at ih ⊢
      by_cases ha : (r.any fun kv => decide (kv.1 = k)) = true
      · rw [if_pos ha] at ih
        have ha2 : (((p.1, w) :: r).any fun kv => decide (kv.1 = k)) = true := any_key.mpr (List.mem_cons_of_mem _ (any_key.mp ha))
        rw [if_pos ha2, List.map_cons, if_neg e]
        exact .cons d1 ih
      · rw [if_neg ha] at ih
        have ha2 : ¬ (((p.1, w) :: r).any fun kv => decide (kv.1 = k)) = true := fun z => by
          rcases List.mem_cons.mp (any_key.mp z) with q | q
          · exact e q.symm
          · exact ha (any_key.mpr q)
        rw [if_neg ha2]
        exact .cons d1 ih
theorem putD_keys {k : Key} {d : D} : ∀ {kds : List (Key × D)} {x : Key}, x ∈ (putD kds k d).map (·.1) → x = k ∨ x ∈ kds.map (·.1)
  | [], x, h => by
    rw [putD, List.map_cons, List.map_nil] at h
    exact .inl (List.mem_singleton.mp h)
  | p :: r, x, h => by
    rw [putD] at h
    split at h
    · rename_i e
      exact .inr h
    · rcases List.mem_cons.mp h with q | q
      · exact .inr (by rw [q]; exact List.mem_cons_self)
      · exact (putD_keys q).imp id fun z => List.mem_cons_of_mem _ z
theorem NodupK.put {k : Key} {d : D} : ∀ {kds : List (Key × D)}, NodupK kds → NodupK (putD kds k d)
  | [], _ => by
    show [k].Nodup
    simp
  | p :: r, h => by
    have h2 := List.nodup_cons.mp (show (p.1 :: r.map (·.1)).Nodup from h)
    unfold putD
    split
    · exact h
    · rename_i e
      show (p.1 :: (putD r k d).map (·.1)).Nodup
      refine List.nodup_cons.mpr ⟨fun z => ?_, NodupK.put (kds := r) h2.2⟩
      rcases putD_keys z with q | q
      · exact e q
      · exact h2.1 q
theorem KVs.merge : ∀ {more : List (Key × D)} {mvs : List (Key × V)} {kds : List (Key × D)} {kvs : List (Key × V)}, KVs W dr A H more mvs → NodupK kds → KVs W dr A H kds kvs → KVs W dr A H (mergeD kds more) (mergeK kvs mvs)
  | [], mvs, kds, kvs, h, _, t => by
    rw [h.un0]
    exact t
  | p :: more, mvs, kds, kvs, h, hn, t => by
    obtain ⟨v, r, rfl, d1, h2⟩ := h.uncons
    show KVs W dr A H (mergeD (putD kds p.1 p.2) more) (mergeK (putK kvs p.1 v) r)
    exact KVs.merge h2 hn.put (KVs.put d1 hn t)
theorem NodupK.merge : ∀ {more kds : List (Key × D)}, NodupK kds → NodupK (mergeD kds more)
  | [], _, h => h
  | p :: more, kds, h => NodupK.merge (more := more) h.put
theorem look_den {k : Key} : ∀ {ks : List Key} {ds : List D} {kvs : List (Key × V)}, kvs.map (·.1) = ks → DenL W dr A H ds (kvs.map (·.2)) → (∀ d, lookD ks ds k = some d → ∃ v, valV kvs k = some v ∧ Den W dr A H d v) ∧ (lookD ks ds k = none → valV kvs k = none)
  | [], ds, kvs, h1, h2 => by
    have e := List.map_eq_nil_iff.mp h1
    subst e
    exact ⟨fun d z => by simp [lookD] at z, fun _ => rfl⟩
  | k' :: ks, ds, kvs, h1, h2 => by
    cases kvs with
    | nil => cases h1
    | cons q r =>
      rw [List.map_cons] at h1
      injection h1 with e1 e2
      cases ds with
      | nil =>
        rw [DenL] at h2
        cases h2
      | cons d ds =>
        rw [List.map_cons, DenL] at h2
        obtain ⟨v, r', e3, d1, d2⟩ := h2
        injection e3 with e4 e5
        rw [← e5] at d2
        have ih := look_den (k := k) (ks := ks) (ds := ds) (kvs := r) e2 d2
        unfold lookD
        by_cases e : k' = k
        · rw [if_pos e]
          exact ⟨fun d' z => ⟨q.2, valV_pos (by rw [e1, e]), by cases z; rw [e4]; exact d1⟩, fun z => by cases z⟩
        · rw [if_neg e, valV_neg (by rw [e1]; exact e)]
          exact ih
end
/-! ### displays -/
abbrev VP := EK → Lo → Gs → (List (Key × D) → Gs → Prop) → Prop
def SimPr (W : Cn) (E : XK) (trs : List (TE × TE)) (m : VP) : Prop :=
  ∀ (c : Ctx) (A : Addr → Prop) (Ev : EK) (L : Lo) (G : Gs) (σ : L2.St) (H : Hp) (Q : List (Key × D) → Gs → Prop) (Qh : List (V × V) → Hp → Prop), ErrOk W c E Ev → Env W c A L G σ H → m Ev L G Q →
    (∀ kds kvs G' H', Post W c.dr A H H' G' → KVs W c.dr A H' kds kvs → Q kds G' → Qh (kvs.map fun kv => (kV kv.1, kv.2)) H') → tPairs trs σ H Qh
structure JPr (X : Cx) (T : List (Addr × Str)) (E : XK) (pos : Pos) (keys : List (Option Expr)) (values : List Expr) (m : VP) : Prop where
  ex : ∃ trs, PPs X pos keys values trs ∧ SimPr (cn X T) E trs m
def vpNil : VP := fun _ _ G Q => Q [] G
def vpCons (mk mv : VE) (r : VP) : VP := fun Ev L G Q => mk Ev L G fun x G1 => mv Ev L G1 fun d G2 => match keyD x with
  | some k => r Ev L G2 fun kds G3 => Q ((k, d) :: kds) G3
  | none => False
theorem keyD_den {W : Cn} {dr : Dr} {A : Addr → Prop} {H : Hp} {x : D} {k : Key} {v : V} (e : keyD x = some k) (h : Rdn W dr A H x v) : v = kV k := by
  cases x with
  | int i =>
    cases e
    exact h.int
  | str x =>
    cases e
    rcases h with h | ⟨a, _, _, _, h⟩
    · rw [Den] at h
      exact h
    · exact h.elim
  | _ => cases e
section
variable {X : Cx} {T : List (Addr × Str)} {E : XK} {o e e2 a b : Expr} {m mo mk md : VE} {n : VT} {p pos pos' apos cpos : Pos} {k kr kk : Nat} {x : Str} {i j : Nat} {keys : List (Option Expr)} {values : List Expr} {r : VP}
theorem jpr_nil : JPr X T E pos [] [] vpNil := ⟨_, pps_nil, fun c A Ev L G σ H Q Qh hE env hm k => k [] [] G H (.refl env) .nil hm⟩
theorem jpr_cons (hk : JE X T E a mk) (hv : JE X T E b md) (hr : JPr X T E pos keys values r) : JPr X T E pos (some a :: keys) (b :: values) (vpCons mk md r) := by
  obtain ⟨tk, a1, a2⟩ := hk.ex
  obtain ⟨tv, b1, b2⟩ := hv.ex
  obtain ⟨trs, r1, r2⟩ := hr.ex
  refine ⟨_, pps_cons a1 b1 r1, fun c A Ev L G σ H Q Qh hE env hm k => a2 c A Ev L G σ H _ _ hE env hm fun x u G1 H1 p1 d1 q1 => b2 c A Ev L G1 σ H1 _ _ hE (env.to p1) q1 fun d v G2 H2 p2 d2 q2 => ?_⟩
  have env2 := (env.to p1).to p2
  split at q2
  · rename_i ky ek
    have eu := keyD_den ek (.inl d1)
    subst eu
    exact r2 c A Ev L G2 σ H2 _ _ hE env2 q2 fun kds kvs G3 H3 p3 h3 q3 => k _ ((ky, v) :: kvs) G3 H3 ((p1.trans p2).trans p3) (.cons (d2.post p3 env2.draw) h3) q3
  · exact q2.elim
def vDct (r : VP) : VE := fun Ev L G Q => r Ev L G fun kds G1 => kds.length ≤ 15 ∧ Q (dctOf (mergeD [] kds)) G1
theorem KVs.body {W : Cn} {dr : Dr} {A : Addr → Prop} {H : Hp} {kds : List (Key × D)} {kvs : List (Key × V)} {p : Addr} (h : KVs W dr A H kds kvs) (e : H p = some (.dK kvs)) : Body W dr A H (dctOf kds) p := ⟨kvs, e, h.1, h.2⟩
theorem jf_dct (h : JPr X T E pos keys values r) (hall : keys.all (·.isSome) = true := by rfl) (hl : keys.length = values.length := by rfl) (h0 : keys ≠ [] := by exact fun z => by cases z) (h15 : keys.length ≤ 15 := by decide) : JF X T E (.Dict keys values pos) (vDct r) := by
  obtain ⟨trs, a1, a2⟩ := h.ex
  refine ⟨_, pe_disp a1 hall hl h0 h15, fun c A Ev L G σ H Q Qh hE env hm k p hp => ?_⟩
  have p0 := Post.new env (o := .dK []) hp
  have hb0 : Body (cn X T) c.dr (fun a => A a ∨ a = p) (upd H p (.dK [])) (dctOf []) p := KVs.nil.body upd_same
  have envh := env.push (Post.refl env) hp p0 hb0
  have nl : ∀ s ∈ [Slot.own (dctOf [])], ¬ ∃ d, s = .lck d := fun s hs ⟨d, z⟩ => by
    rw [List.mem_singleton.mp hs] at z
    cases z
  refine a2 c _ Ev L G σ _ _ _ hE (envh.pop env.len nl) hm fun kds kvs G1 H1 p1 h1 q1 => ?_
  have env1 := envh.to p1
  have hp1 : H1 p = some (.dK []) := p1.ext p _ upd_same (env.nD hp) fun _ z => by cases z
  refine ⟨hp1, kvs, rfl, by have := congrArg List.length h1.1; rw [List.length_map, List.length_map] at this; rw [this]; exact q1.1, ?_⟩
  have hm2 : KVs (cn X T) c.dr (fun a => A a ∨ a = p) H1 (mergeD [] kds) (mergeK [] kvs) := KVs.merge h1 (by show ([] : List Key).Nodup; exact .nil) .nil
  have nd := env.nD hp
  have po : Post (cn X T) c.dr A H (upd H1 p (.dK (mergeK [] kvs))) G1 := by
    refine ⟨fun a u h h2 h3 => ?_, ?_, fun q hq => ?_⟩
    · rw [upd_ne (ne_of_none h hp)]
      exact p1.ext a u (by rw [upd_ne (ne_of_none h hp)]; exact h) h2 h3
    · obtain ⟨g1, g2, g3, g4⟩ := env1.draw
      have n2 : c.dr.2 ≠ p := fun z => g3 (.inr z)
      exact ⟨by rw [upd_ne (Ne.symm nd)]; exact g1, by rw [upd_ne n2]; exact g2, fun z => g3 (.inl z), g4⟩
    · obtain ⟨ps, h1', h2, h3⟩ := env1.tabs q hq
      have ne : ∀ {b : Addr} {u : HO}, H1 b = some u → (∀ kvs, u ≠ .dK kvs) → b ≠ p := fun {b u} h n z => by
        rw [z, hp1] at h
        cases h
        exact n _ rfl
      refine ⟨ps, by rw [upd_ne (ne h1' fun _ z => by cases z)]; exact h1', h2, fun pos cv hcv => ?_⟩
      obtain ⟨c', e1, e2⟩ := h3 pos cv hcv
      exact ⟨c', e1, by rw [upd_ne (ne e2 fun _ z => by cases z)]; exact e2⟩
  refine k _ p G H G1 _ (.refl env) hp po ?_ q1.2
  have kp : Kp c.dr (fun a => A a ∨ a = p) H1 (upd H1 p (.dK (mergeK [] kvs))) := by
    have ne : ∀ {b : Addr} {u : HO}, H1 b = some u → ¬ MutO u → b ≠ p := fun {b u} h n z => by
      rw [z, hp1] at h
      cases h
      exact n True.intro
    exact ⟨fun b u h n _ _ => by rw [upd_ne (show b ≠ p from fun e => n (.inr e))]; exact h, fun b xs h => by rw [upd_ne (ne h id)]; exact h, fun b xs h => by rw [upd_ne (ne h id)]; exact h, fun b xs h => by rw [upd_ne (ne h id)]; exact h, fun b xs u h => by rw [upd_ne (ne h id)]; exact h⟩
  exact ⟨_, upd_same, hm2.1, DenL.kp kp (fun _ z => .inl z) _ _ hm2.2⟩
theorem jf_dct0 : JF X T E (.Dict [] [] pos) (vC (.dct [] [])) := ⟨_, pe_dnewK, fun c A Ev L G σ H Q Qh hE env hm k p hp => k (.dct [] []) p G H G _ (.refl env) hp (Post.new env hp) ⟨[], upd_same, rfl, .nil⟩ hm⟩
/-! ### readings -/
def vDGet (mo mk : VE) : VE := fun Ev L G Q => mo Ev L G fun x G1 => mk Ev L G1 fun y G2 => match x, keyD y with
  | .dct ks ds, some k => ∃ d, lookD ks ds k = some d ∧ Q d G2
  | _, _ => False
theorem Rdn.dct {W : Cn} {dr : Dr} {A : Addr → Prop} {H : Hp} {ks : List Key} {ds : List D} {v : V} (h : Rdn W dr A H (.dct ks ds) v) : ∃ a kvs, v = .ref a ∧ H a = some (.dK kvs) ∧ kvs.map (·.1) = ks ∧ DenL W dr A H ds (kvs.map (·.2)) := by
  rcases h with h | ⟨a, e, _, n, kvs, h1, h2⟩
  · rw [Den] at h
    obtain ⟨a, kvs, e, _, n, h1, h2⟩ := h
    exact ⟨a, kvs, e, h1, h2⟩
  · exact ⟨a, kvs, e, h1, h2⟩
theorem je_dget (hr : Room kr X.A) (ho : JP X T E o mo) (hk : JP X T E e mk) (hs : NoSl e := by exact fun _ _ => rfl) : JE X T E (.Subscript o e pos) (vDGet mo mk) := by
  obtain ⟨t, a1, a2⟩ := ho.ex
  obtain ⟨u, b1, b2⟩ := hk.ex
  refine ⟨_, pe_dget (by have := hr.un; omega) a1 b1 hs, fun c A Ev L G σ H Q Qh hE env hm k => a2 c A Ev L G σ H _ _ hE env hm fun x v G1 H1 p1 d1 q1 => b2 c A Ev L G1 σ H1 _ _ hE (env.to p1) q1 fun y w G2 H2 p2 d2 q2 => ?_⟩
  split at q2
  · rename_i ks ds ky ek
    obtain ⟨d, e1, q3⟩ := q2
    obtain ⟨a, kvs, rfl, h1, h2, h3⟩ := (d1.post (env.to p1) p2).dct
    obtain ⟨v, e2, e3⟩ := (look_den h2 h3).1 d e1
    have ew := keyD_den ek d2
    subst ew
    exact ⟨a, v, rfl, by rw [← e2]; exact DGet.k h1, k d v G2 H2 (p1.trans p2) e3 q3⟩
  · exact q2.elim
/-- o.get(k, e) -/
def vDGet2 (mo mk md : VE) : VE := fun Ev L G Q => mo Ev L G fun x G1 => match x with
  | .dct ks ds => mk Ev L G1 fun y G2 => md Ev L G2 fun z G3 => match keyD y with
    | some k => Q ((lookD ks ds k).getD z) G3
    | none => False
  | _ => False
theorem je_dget2 (hr : Room kr X.A) (ho : JP X T E o mo) (hk : JP X T E e mk) (hd : JE X T E e2 md) (hb : attributeBase o "get" X.env (eval o X.env) = eval o X.env := by rfl) (hl : (apos.endLine == cpos.line) = true := by rfl)
    (hf : ((backTo cpos (starEach [e, e2] X.env)).all (fun x => !x.1) && (backToKw cpos (keywordEach [] X.env)).all (fun x => x.1.isSome) && decide (([e, e2] : List Expr).length + ([] : List Keyword).length + (if ([] : List Keyword).isEmpty then 0 else 1) < 30)) = true := by rfl)
    (ht : backTo cpos (starEach [e, e2] X.env) = [(false, eval e X.env), (false, eval e2 X.env)] := by rfl) : JE X T E (.Call (.Attribute o "get" apos) [e, e2] [] cpos) (vDGet2 mo mk md) := by
  obtain ⟨t, a1, a2⟩ := ho.ex
  obtain ⟨u, b1, b2⟩ := hk.ex
  obtain ⟨w, c1, c2⟩ := hd.ex
  refine ⟨_, pe_dget2 (by have := hr.un; omega) a1 b1 c1 ⟨hb, hf, hl, ht⟩, fun c A Ev L G σ H Q Qh hE env hm k => a2 c A Ev L G σ H _ _ hE env hm fun x v G1 H1 p1 d1 q1 => ?_⟩
  split at q1
  · rename_i ks ds
    obtain ⟨a, kvs, rfl, h1, h2, h3⟩ := d1.dct
    refine ⟨a, rfl, .inl ⟨kvs, .inl h1⟩, b2 c A Ev L G1 σ H1 _ _ hE (env.to p1) q1 fun y w G2 H2 p2 d2 q2 => c2 c A Ev L G2 σ H2 _ _ hE ((env.to p1).to p2) q2 fun z w2 G3 H3 p3 d3 q3 => ?_⟩
    have env2 := (env.to p1).to p2
    split at q3
    · rename_i ky ek
      have ew := keyD_den ek (d2.post env2 p3)
      subst ew
      obtain ⟨a', kvs', e', h1', h2', h3'⟩ := ((d1.post (env.to p1) p2).post env2 p3).dct
      cases e'
      refine ⟨_, DGet.k h1', ?_⟩
      have lk := look_den (k := ky) h2' h3'
      cases el : lookD ks ds ky with
      | some d =>
        obtain ⟨v, e2, e3⟩ := lk.1 d el
        rw [e2]
        rw [el] at q3
        exact k d v G3 H3 ((p1.trans p2).trans p3) e3 q3
      | none =>
        rw [lk.2 el]
        rw [el] at q3
        exact k z w2 G3 H3 ((p1.trans p2).trans p3) d3 q3
    · exact q3.elim
  · exact q1.elim
/-- k in o, o a dict -/
def vDIn (neg : Bool) (mk mo : VE) : VE := fun Ev L G Q => mk Ev L G fun y G1 => mo Ev L G1 fun x G2 => match x, keyD y with
  | .dct ks ds, some k => Q (.bl (neg.xor (lookD ks ds k).isSome)) G2
  | _, _ => False
theorem look_some {W : Cn} {dr : Dr} {A : Addr → Prop} {H : Hp} {k : Key} {ks : List Key} {ds : List D} {kvs : List (Key × V)} (h1 : kvs.map (·.1) = ks) (h2 : DenL W dr A H ds (kvs.map (·.2))) : (valV kvs k).isSome = (lookD ks ds k).isSome := by
  have lk := look_den (k := k) h1 h2
  cases el : lookD ks ds k with
  | some d =>
    obtain ⟨v, e2, e3⟩ := lk.1 d el
    rw [e2] <;> rfl
  | none =>
    rw [lk.2 el]
    rfl
theorem je_dIn (hr : Room kr X.A) (hk : JP X T E a mk) (ho : JP X T E b mo) (h1 : behindInMarks .In b = false := by rfl) : JE X T E (.Compare a [.In] [b] pos) (vDIn false mk mo) := by
  obtain ⟨t, a1, a2⟩ := hk.ex
  obtain ⟨u, b1, b2⟩ := ho.ex
  refine ⟨_, pe_cmp (pc_din (by have := hr.un; omega) a1 b1) h1, fun c A Ev L G σ H Q Qh hE env hm k => a2 c A Ev L G σ H _ _ hE env hm fun y v G1 H1 p1 d1 q1 => b2 c A Ev L G1 σ H1 _ _ hE (env.to p1) q1 fun x w G2 H2 p2 d2 q2 => ?_⟩
  split at q2
  · rename_i ks ds ky ek
    obtain ⟨a, kvs, rfl, g1, g2, g3⟩ := d2.dct
    have ew := keyD_den ek d1
    subst ew
    refine ⟨a, _, rfl, DGet.k g1, k _ _ G2 H2 (p1.trans p2) den_bl ?_⟩
    rw [look_some g2 g3, ← Bool.false_xor (lookD ks ds ky).isSome]
    exact q2
  · exact q2.elim
theorem je_dNotIn (hr : Room kr X.A) (hk : JP X T E a mk) (ho : JP X T E b mo) (h1 : behindInMarks .NotIn b = false := by rfl) : JE X T E (.Compare a [.NotIn] [b] pos) (vDIn true mk mo) := by
  obtain ⟨t, a1, a2⟩ := hk.ex
  obtain ⟨u, b1, b2⟩ := ho.ex
  refine ⟨_, pe_cmp (pc_dnotin (by have := hr.un; omega) a1 b1) h1, fun c A Ev L G σ H Q Qh hE env hm k => a2 c A Ev L G σ H _ _ hE env hm fun y v G1 H1 p1 d1 q1 => b2 c A Ev L G1 σ H1 _ _ hE (env.to p1) q1 fun x w G2 H2 p2 d2 q2 => ?_⟩
  split at q2
  · rename_i ks ds ky ek
    obtain ⟨a, kvs, rfl, g1, g2, g3⟩ := d2.dct
    have ew := keyD_den ek d1
    subst ew
    refine ⟨a, _, rfl, DGet.k g1, k _ _ G2 H2 (p1.trans p2) den_bl ?_⟩
    rw [look_some g2 g3, ← Bool.true_xor (lookD ks ds ky).isSome]
    exact q2
  · exact q2.elim
end
end VL
set_option Elab.async false
set_option autoImplicit false
set_option linter.all false
set_option maxRecDepth 100000
set_option maxHeartbeats 2000000
namespace VL
open PySem PySem.Spec PyProof.Rows L2
section
variable {X : Cx} {T : List (Addr × Str)} {E : XK} {o e e2 a b : Expr} {m mo mk md : VE} {n : VT} {p pos pos' apos cpos : Pos} {k kr kk : Nat} {x y : Str} {i j : Nat} {r : VA}
/-! ### y = x.pop() -/
def vPop (i j : Nat) : VS := fun _ D L G => ownLst L i fun ds => ∃ ds' d, ds = ds' ++ [d] ∧ setL (L.set i (.own (.lst ds'))) j (.val d) fun L1 => D.nx L1 G
theorem DenL.snoc {W : Cn} {dr : Dr} {A : Addr → Prop} {H : Hp} {ds : List D} {d : D} {vs : List V} (h : DenL W dr A H (ds ++ [d]) vs) : ∃ us u, vs = us ++ [u] ∧ DenL W dr A H ds us ∧ Den W dr A H d u := by
  induction ds generalizing vs with
  | nil =>
    rw [List.nil_append, DenL] at h
    obtain ⟨v, r, rfl, h1, h2⟩ := h
    rw [DenL] at h2
    subst h2
    exact ⟨[], v, rfl, .nil, h1⟩
  | cons x xs ih =>
    rw [List.cons_append, DenL] at h
    obtain ⟨v, r, rfl, h1, h2⟩ := h
    obtain ⟨us, u, rfl, h3, h4⟩ := ih h2
    exact ⟨v :: us, u, rfl, .cons h1 h3, h4⟩
theorem Den.mut {W : Cn} {c : Ctx} {A : Addr → Prop} {L : Lo} {G : Gs} {σ : L2.St} {H : Hp} (env : Env W c A L G σ H) {l : Addr} {o : HO} {d : D} {v : V} (hA : A l) (h : Den W c.dr A H d v) : Den W c.dr A (upd H l o) d v := by
  obtain ⟨o0, ho0, hm0⟩ := env.own l hA
  have neM : ∀ {b : Addr} {u : HO}, H b = some u → ¬ MutO u → b ≠ l := fun {b u} h n e => by
    rw [e, ho0] at h
    cases h
    exact n hm0
  exact Den.kp ⟨fun b u h n _ _ => by rw [upd_ne (show b ≠ l from fun e => n (by rw [e]; exact hA))]; exact h, fun b xs h => by rw [upd_ne (neM h id)]; exact h, fun b xs h => by rw [upd_ne (neM h id)]; exact h, fun b xs h => by rw [upd_ne (neM h id)]; exact h, fun b xs u h => by rw [upd_ne (neM h id)]; exact h⟩ (fun _ z => .inl z) _ _ h
theorem js_pop (hv : PE X a (tVar i)) (hN : X.N.Nodup) (hj : X.N[j]? = some y) (hy : L2.Loc X.env.scope y) (hbase : attributeBase a "pop" X.env (eval a X.env) = eval a X.env := by rfl) (hline : (apos.endLine == cpos.line) = true := by rfl)
    (hs : swapsWith (.Call (.Attribute a "pop" apos) [] [] cpos) (some (.Name y pos')) pos.line X.env = pure false := by rfl) (hf : X.fn y = true ∨ X.env.scope.names.lookup y = some .local := by first | exact .inl rfl | exact .inr rfl) :
    JS X T E (.Assign [.Name y pos'] (.Call (.Attribute a "pop" apos) [] [] cpos) pos) (vPop i j) := by
  refine ⟨_, ps_set hN hj hy (pe_bm0 PySem.F.plainAttrs_list PySem.F.slot_list_pop PySem.F.type_list_pop mt_pop hv hbase hline) hs hf, fun c A Ev L G σ H Dv D hE hD env h => ?_⟩
  obtain ⟨ds, hi, h⟩ := ownLst_of h
  obtain ⟨ds', d, rfl, h⟩ := h
  obtain ⟨l, vs, el, hA, nd, h1, h2⟩ := env.atOwn hi
  obtain ⟨us, u, rfl, h3, h4⟩ := h2.snoc
  refine ⟨.ref l, el, .inl ⟨rfl, _, .of h1⟩, ?_⟩
  have hb := body_mut env hA h3
  have env2 := env.mut hi el (o := .lst us) True.intro hb
  have d2 := Den.mut env (o := .lst us) hA h4
  obtain ⟨q2, q3⟩ := setL_of h
  exact ⟨l, us ++ [u], u, rfl, rfl, h1, by simp, by rw [List.dropLast_concat]; exact hD.nx A _ G _ _ (env2.setVal q2 d2) q3⟩
/-! ### x.extend(e) -/
def vExt (i : Nat) (m : VE) : VS := fun Ev D L G => ownLst L i fun ds => m Ev L G fun d G1 => match d with
  | .lst es => ds.length + es.length ≤ lineN ∧ D.nx (L.set i (.own (.lst (ds ++ es)))) G1
  | _ => False
theorem js_ext (hv : PE X a (tVar i)) (h : JE X T E e m) (hbase : attributeBase a "extend" X.env (eval a X.env) = eval a X.env := by rfl)
    (hfew : ((backTo cpos (starEach (e :: []) X.env)).all (fun x => !x.1) && (backToKw cpos (keywordEach [] X.env)).all (fun x => x.1.isSome)
      && decide ((e :: ([] : List Expr)).length + ([] : List Keyword).length + (if ([] : List Keyword).isEmpty then 0 else 1) < 30)) = true := by rfl)
    (hline : (apos.endLine == cpos.line) = true := by rfl) (hss : starEach (e :: []) X.env = (false, eval e X.env) :: starEach [] X.env := by rfl) (hplain : (backTo cpos (starEach [] X.env)).any (·.1) = false := by rfl)
    (hs : swapsWith (.Call (.Attribute a "extend" apos) [e] [] cpos) none pos.line X.env = pure false := by rfl) : JS X T E (.Expr (.Call (.Attribute a "extend" apos) [e] [] cpos) pos) (vExt i m) := by
  obtain ⟨t, a1, a2⟩ := h.ex
  refine ⟨_, ps_expr (pe_bm PySem.F.plainAttrs_list PySem.F.slot_list_extend PySem.F.type_list_extend mt_extend hv (pa_cons a1 pa_nil hss) hbase hfew hline hss hplain) hs, fun c A Ev L G σ H Dv D hE hD env h => ?_⟩
  obtain ⟨ds, hi, h⟩ := ownLst_of h
  obtain ⟨l, vs, el, hA, nd, h1, h2⟩ := env.atOwn hi
  refine ⟨.ref l, el, .inl ⟨rfl, vs, .of h1⟩, a2 c A Ev L G σ H _ _ hE env h fun d v G1 H1 p1 d1 q1 => ?_⟩
  have env1 := env.to p1
  obtain ⟨l', vs', el', hA', nd', h1', h2'⟩ := env1.atOwn hi
  rw [el] at el'
  cases el'
  split at q1
  · rw [Den] at d1
    obtain ⟨b, us, rfl, nb, nbd, g1, g2⟩ := d1
    refine ⟨l, b, vs', us, rfl, rfl, h1', g1, line_le (by rw [← h2'.length, ← g2.length]; exact q1.1), ?_⟩
    exact hD.nx A _ G1 σ _ (env1.mut hi el (o := .lst (vs' ++ us)) True.intro (body_mut env1 hA' (h2'.append g2))) q1.2
  · exact q1.elim
/-! ### repr of bools, of None -/
def dRepr : VC := fun ds k => match ds with
  | [.bl b] => k (.str (if b then "True" else "False"))
  | [.non] => k (.str "None")
  | _ => False
theorem call_reprBN : CallR X (.builtin "repr") (fun xs H Q => (∃ b, xs = [.bl b] ∧ Q (.str (if b then "True" else "False")) H) ∨ (xs = [.non] ∧ Q (.str "None") H)) := by
  intro pins s σ H xs us Q I r h
  rcases h with ⟨b, rfl, q⟩ | ⟨rfl, q⟩
  · cases r with
    | cons r rr =>
      cases rr
      cases r
      exact PySem.P.repr_of_bool ⟨.str _, H, I.tok _, ⟨_, rfl⟩, q⟩
  · cases r with
    | cons r rr =>
      cases rr
      cases r
      exact PySem.P.repr_of_none ⟨.str _, H, I.tok _, ⟨_, rfl⟩, q⟩
theorem sim_repr : SimC (cn X T) (fun xs H Q => (∃ b, xs = [.bl b] ∧ Q (.str (if b then "True" else "False")) H) ∨ (xs = [.non] ∧ Q (.str "None") H)) dRepr := fun c A L G σ H ds vs Q Qh env hd hf k => by
  unfold dRepr at hf
  split at hf
  · obtain ⟨v, rfl, h⟩ := hd.one
    rw [h.bl]
    exact .inl ⟨_, rfl, k _ _ H (.refl env) (by rw [Den]) hf⟩
  · obtain ⟨v, rfl, h⟩ := hd.one
    have e : v = .non := by
      rcases h with h | ⟨a, _, _, _, h⟩
      · rw [Den] at h
        exact h
      · exact h.elim
    rw [e]
    exact .inr ⟨rfl, k _ _ H (.refl env) (by rw [Den]) hf⟩
  · exact hf.elim
theorem je_repr (hm : X.mg "repr" = none) (ha : JR X T E [e] r) (hg : Gl X "repr" := by rfl) (he : starEach (e :: []) X.env = (false, eval e X.env) :: starEach [] X.env := by rfl) (hpl : (backTo pos (starEach [] X.env)).any (·.1) = false := by rfl) :
    JE X T E (.Call (.Name "repr" p) [e] [] pos) (vCall dRepr r) := je_callB call_reprBN sim_repr hm PyProof.Rows.boot_repr ha hg (by decide) (by decide) he hpl
/-! ### d[k] = e, d a dict of one's own -/
def ownDct (L : Lo) (i : Nat) (k : List Key → List D → Prop) : Prop := match L[i]? with
  | some (.own (.dct ks ds)) => k ks ds
  | _ => False
theorem ownDct_of {L : Lo} {i : Nat} {k : List Key → List D → Prop} (h : ownDct L i k) : ∃ ks ds, L[i]? = some (.own (.dct ks ds)) ∧ k ks ds := by
  unfold ownDct at h
  split at h
  · rename_i ks ds e
    exact ⟨ks, ds, e, h⟩
  · exact h.elim
/-- the dict is given as pairs -/
def vDPut (i : Nat) (mk m : VE) : VS := fun Ev D L G => m Ev L G fun d G1 => ownDct L i fun ks ds => mk Ev L G1 fun y G2 => match keyD y with
  | some k => ∃ kds : List (Key × VL.D), NodupK kds ∧ ks = kds.map (·.1) ∧ ds = kds.map (·.2) ∧ kds.length < lineN ∧ D.nx (L.set i (.own (dctOf (putD kds k d)))) G2
  | none => False
theorem js_dput (hr : Room kr X.A) (hv : PE X o (tVar i)) (hk : JP X T E b mk) (h : JE X T E e m) {p2 : Pos} (hs : swapsWith e (some (.Subscript o b p2)) pos.line X.env = pure false := by rfl) : JS X T E (.Assign [.Subscript o b p2] e pos) (vDPut i mk m) := by
  obtain ⟨t, a1, a2⟩ := h.ex
  obtain ⟨u, b1, b2⟩ := hk.ex
  refine ⟨_, ps_dput (by have := hr.un; omega) hv b1 a1 hs, fun c A Ev L G σ H Dv D hE hD env h => a2 c A Ev L G σ H _ _ hE env h fun d v G1 H1 p1 d1 q1 => ?_⟩
  have env1 := env.to p1
  obtain ⟨ks, ds, hi, q1⟩ := ownDct_of q1
  obtain ⟨l, el, hA, hN, kvs0, h10, h20, h30⟩ := env1.slots i _ hi
  refine ⟨.ref l, el, b2 c A Ev L G1 σ H1 _ _ hE env1 q1 fun y w G2 H2 p2 d2 q2 => ?_⟩
  have env2 := env1.to p2
  split at q2
  · rename_i ky ek
    obtain ⟨kds, hn, rfl, rfl, hl, q3⟩ := q2
    obtain ⟨l', el', hA', hN', kvs, h1, h2, h3⟩ := env2.slots i _ hi
    rw [el] at el'
    cases el'
    have ew := keyD_den ek d2
    subst ew
    have hlen : kvs.length = kds.length := by
      have := congrArg List.length h2
      rw [List.length_map, List.length_map] at this
      exact this
    refine ⟨l, _, rfl, DPut.k h1 (by rw [hlen, line_eq]; exact hl), ?_⟩
    have hp : KVs (cn X T) c.dr A H2 (putD kds ky d) (putK kvs ky v) := KVs.put (d1.post p2 env1.draw) hn ⟨h2, h3⟩
    have hb : Body (cn X T) c.dr A (upd H2 l (.dK (putK kvs ky v))) (dctOf (putD kds ky d)) l := by
      refine ⟨_, upd_same, hp.1, ?_⟩
      obtain ⟨o0, ho0, hm0⟩ := env2.own l hA
      have neM : ∀ {b : Addr} {u : HO}, H2 b = some u → ¬ MutO u → b ≠ l := fun {b u} h n e => by
        rw [e, ho0] at h
        cases h
        exact n hm0
      exact DenL.kp ⟨fun b u h n _ _ => by rw [upd_ne (show b ≠ l from fun e => n (by rw [e]; exact hA))]; exact h, fun b xs h => by rw [upd_ne (neM h id)]; exact h, fun b xs h => by rw [upd_ne (neM h id)]; exact h, fun b xs h => by rw [upd_ne (neM h id)]; exact h, fun b xs u h => by rw [upd_ne (neM h id)]; exact h⟩ (fun _ z => .inl z) _ _ hp.2
    exact hD.nx A _ G2 σ _ (env2.mut hi el (o := .dK (putK kvs ky v)) True.intro hb) q3
  · exact q2.elim
end
end VL
set_option Elab.async false
set_option autoImplicit false
set_option linter.all false
set_option maxRecDepth 100000
set_option maxHeartbeats 2000000
namespace VL
open PySem PySem.Spec PyProof.Rows L2
/-! ### a caught exception, kept -/
section
variable {X : Cx} {pins : List (Addr × Obj)} {σ : L2.St} {H : Hp} {s : Shared}
theorem Inv.trackE {a : Addr} {oe : Obj} {cls : Value} {d : Option Addr} (I : Inv X pins σ H s) (ha : s.heap.get? a = some oe) (hz : Zc cls d oe) (hd : ∃ vs, oe.data = .fields vs) (hn : H a = none) (nL : a ≠ X.env.locals) (nP : ∀ p ∈ X.pn ++ pins, p.1 ≠ a)
    (n0 : ∀ o, X.s_0.heap.get? a = some o → X.H_0 a = none → a ∈ X.ex) : Inv X pins σ (upd H a (ExO2 cls d a)) s := by
  have ne : ∀ {b : Addr} {u : HO}, H b = some u → b ≠ a := fun {b u} h => ne_of_none h hn
  obtain ⟨vs, hd⟩ := hd
  refine ⟨I.ok, I.os, I.bare, ⟨I.base.keep, I.base.slot, fun b o e n hx => ?_, I.base.there, fun b xs e => ?_, fun b o u e => ?_, fun b ps e => ?_⟩, I.loc, I.cell, ?_, fun x c e => ?_, fun p hp => ?_, fun b u e => ?_, I.len⟩
  · by_cases h : b = a
    · subst h
      exact absurd (n0 o e n) hx
    · rw [upd_ne h]
      exact I.base.free b o e n hx
  · have q := I.base.tups b xs e
    rw [upd_ne (ne q)]
    exact q
  · have q := I.base.frzs b o u e
    rw [upd_ne (ne q)]
    exact q
  · obtain ⟨more, q⟩ := I.base.tbls b ps e
    exact ⟨more, by rw [upd_ne (ne q)]; exact q⟩
  · rw [upd_ne (Ne.symm nL)]
    exact I.free
  · have hc : c ≠ a := fun z => by
      obtain ⟨v, o, ho, hdc⟩ := I.cell x c e
      rw [z, ha] at ho
      cases ho
      rw [hd] at hdc
      cases hdc
    rw [upd_ne hc]
    exact I.freeC x c e
  · obtain ⟨p1, p2, p3⟩ := I.pin p hp
    exact ⟨p1, by rw [upd_ne (nP p hp)]; exact p2, p3⟩
  · by_cases h : b = a
    · subst h
      rw [upd_same] at e
      cases e
      refine ⟨⟨oe, vs, ha, hz, hd⟩, ⟨oe, ha⟩, fun h1 h2 ⟨o1, v1, e1, z1, f1⟩ k => ⟨o1, v1, k _ e1, z1, f1⟩⟩
    · rw [upd_ne h] at e
      exact (I.hok b u e).stay (fun c v _ q => q) (fun c q => by rw [upd_ne (ne q)]; exact q) fun c xs q => by rw [upd_ne (ne q)]; exact q
end
/-- what the clause wishes: the suite runs, then the exception stands known -/
def wKeep (K : PySem.W.Frag) (c : Value) (i : Nat) (ts : Addr → TS) (D : Ends) : WX := fun cls d σ H =>
  PySem.W.exmOne K cls c = some true ∧ ∀ a, H a = none → ts a { nx := fun σ' H' => H' a = none ∧ D.nx (σ'.set i none) (upd H' a (ExO2 cls d a)), rt := fun _ _ => False } (σ.set i (some (.ref a))) H
section
variable {X : Cx} {x n : Str} {c : Value} {i : Nat} {body suite : List Stmt} {b₀ : Stmt} {np pos pos' : Pos} {tb : WX → TS} {ts : Addr → TS}
theorem ps_try_keep (hs : X.stack = X.env :: X.outer) (hf : X.env.frame = some X.env.locals) (hN : X.N.Nodup) (hi : X.N[i]? = some n) (hln : X.env.kindOf n = some .local) (hc : Names X x c) (hex : X.ex = [])
    (hb : ∀ (W : WX) (pn : List (Addr × Obj)) (xe : Value → Shared → Prop), Takes (X.tr pn xe) W → PSs (X.tr pn xe) body (tb W))
    (hsu : ∀ (a : Addr) (oe : Obj) (pn : List (Addr × Obj)), PSs (X.suite a ((a, oe) :: pn)) (b₀ :: suite) (ts a)) :
    PS X (.Try body [.ExceptHandler (some (.Name x np)) (some n) (b₀ :: suite) pos'] [] [] pos) (fun D σ H => tb (wKeep X.K c i ts D) D σ H) := by
  refine ⟨fun pins s σ H D I h => ?_⟩
  have ok := I.ok
  have hfr : X.A.frames = some (X.env :: X.outer) := by rw [ok.frames, hs]
  have hloc : L2.Loc X.env.scope n := .inl hln
  refine wpAny_Try_except ?_
  refine wpAny_mono ((hb (wKeep X.K c i ts D) (X.pn ++ pins) (fun e s1 => wpAny (model X.prog X.w) X.A (noteFrame e X.env) (fun _ s2 => wpAny (model X.prog X.w) X.A (setFlight e none) (fun _ s3 =>
    wpAny (model X.prog X.w) X.A (handleBy e X.env [.ExceptHandler (some (.Name x np)) (some n) (b₀ :: suite) pos']) (SP X pins D) X.xe s3) X.xe s2) X.xe s1) (fun u s' xx => ?_)).run [] s σ H D (I.toTry _) h) (fun f s1 hsp => ?_) (fun e s1 he => he)
  · obtain ⟨a, B, sI, pins', σ', H', cls, d, rfl, J', nb, up, sky, na, os, ag, hb1, hyes⟩ := xx
    have J : Inv X pins σ' H' sI := J'.ofTry ok
    have sky' : Sky B (X.env :: X.outer) a (Zc cls d) X.env.locals s'.heap := by rw [← hs]; exact sky
    show wpAny (model X.prog X.w) X.A (noteFrame (.ref a) X.env) _ _ _
    refine Sky.land Zc.steady hfr hf sky' fun h3 fl3 up3 => ?_
    have J3 : Inv X pins σ' H' { s' with heap := h3 } := J.landed nb fl3.1 (up.trans up3) os ag
    obtain ⟨oe3, vs3, he3, hz3, hd3⟩ := fl3.there
    have notFr : ∀ {h : Heap} {o : Obj} {vs : Array Value}, h.FunFrames B (X.env :: X.outer) → h.get? a = some o → o.data = .fields vs → a ∉ frs (X.env :: X.outer) := fun {h o vs} ff e dd hm => by
      obtain ⟨_, o', e', hnf⟩ := ff.mem hm
      rw [e] at e'
      cases e'
      exact hnf _ dd
    have nfr := notFr fl3.2.2.1 he3 hd3
    have nL : a ≠ X.env.locals := fun z => nfr (List.mem_filterMap.mpr ⟨X.env, List.mem_cons_self, by rw [hf, z]⟩)
    have nF : a ∉ X.fs := fun hm => by
      obtain ⟨e, he, q⟩ := List.mem_filterMap.mp hm
      exact nfr (List.mem_filterMap.mpr ⟨e, List.mem_cons_of_mem _ he, q⟩)
    have nB : B.get? a = none := fl3.2.1
    have notI : ∀ o, sI.heap.get? a ≠ some o := fun o e => by
      have q := nb a o e (by rw [hs]; exact nfr)
      rw [nB] at q
      cases q
    have nP : ∀ p ∈ X.pn ++ pins, p.1 ≠ a := fun p hp z => notI p.2 (by rw [← z]; exact (J.pin p hp).1)
    have n0 : ∀ o, X.s_0.heap.get? a = some o → X.H_0 a = none → a ∈ X.ex := fun o e n => (notI o (J.base.keep a o e n nF (by rw [hex]; simp))).elim
    have S3 := J3.suite he3 hd3 na nL nF
    refine wpAny_handleBy_cons (codeAny_handlers_test ?_) (by intro q; cases q)
    have LT : PySem.W.Looks (model X.prog X.w) h3 (typeOf (.ref a)) cls := fun A Q E s k q => wpAny_typeOf_ref (k _ _ he3) (by rw [hz3.1]; exact q)
    have LM := PySem.W.exm_one (M := model X.prog X.w) (J3.kIn) LT hb1
    have test : ∀ {Q : Value → Shared → Prop} {E : Value → Shared → Prop}, Q c { s' with heap := h3 } → wpAny (model X.prog X.w) (X.A.mark (some (.ref a))) (eval (.Name x np) X.env) Q E { s' with heap := h3 } := fun {Q E} q => by
      obtain ⟨hg, hdbg, hm | ⟨hm, hv, hnn⟩⟩ := hc
      · exact ld_glob (X := X.suite a ((a, oe3) :: (X.pn ++ pins))) S3 hg hm q hdbg
      · exact ld_blt (X := X.suite a ((a, oe3) :: (X.pn ++ pins))) S3 hg hm hv q hnn hdbg
    refine test (LM.here ?_)
    refine codeAny_handlers_suite_as ?_
    refine HandSPX.lands_againZ fl3 fun h4 fl4 up4 => ?_
    have J4 : Inv X pins σ' H' { s' with heap := h4 } := J.landed nb fl4.1 ((up.trans up3).trans up4) os ag
    obtain ⟨oe4, vs4, he4, hz4, hd4⟩ := fl4.there
    have S4 := J4.suite he4 hd4 na nL nF
    refine store_ok (X := X.suite a ((a, oe4) :: (X.pn ++ pins))) (v := .ref a) S4 hN hi hloc rfl (fun s5 S5 => ?_) (.inr hln)
    refine wpAny_mono ((hsu a oe4 (X.pn ++ pins)).run [] s5 _ H' _ S5 (hyes a na)) (fun f s6 hsp => ?_) (fun _ _ z => False.elim z)
    cases f with
    | next =>
      obtain ⟨σ6, H6, S6, n6, q6⟩ := hsp
      have pa := S6.pin (a, oe4) (List.mem_append_left _ List.mem_cons_self)
      have J6 : Inv X pins σ6 H6 s6 := S6.unsuite ok
      have J7 := VL.Inv.trackE J6 pa.1 hz4 ⟨_, hd4⟩ n6 nL nP n0
      exact gone_ok J7 hN hi hln fun s7 J8 => ⟨_, _, J8, q6⟩
    | brk =>
      obtain ⟨σ6, H6, S6, q6⟩ := hsp
      exact q6.elim
    | cont =>
      obtain ⟨σ6, H6, S6, q6⟩ := hsp
      exact q6.elim
    | ret u =>
      obtain ⟨v6, σ6, H6, S6, r6, q6⟩ := hsp
      exact q6.elim
  · cases f with
    | next =>
      obtain ⟨σ', H', J', q⟩ := hsp
      exact wpAny_execs_nil ⟨σ', H', J'.ofTry ok, q⟩
    | brk =>
      obtain ⟨σ', H', J', q⟩ := hsp
      exact ⟨σ', H', J'.ofTry ok, q⟩
    | cont =>
      obtain ⟨σ', H', J', q⟩ := hsp
      exact ⟨σ', H', J'.ofTry ok, q⟩
    | ret u =>
      obtain ⟨v, σ', H', J', r, q⟩ := hsp
      exact ⟨v, σ', H', J'.ofTry ok, r, q⟩
end
end VL
set_option Elab.async false
set_option autoImplicit false
set_option linter.all false
set_option maxRecDepth 100000
set_option maxHeartbeats 2000000
namespace VL
open PySem PySem.Spec PyProof.Rows L2
/-! ### the law's own «caught» -/
def CaughtBody (bg : List Stmt) : Prop := ∃ (p1 p2 p3 p4 p5 p6 p7 p8 p9 q1 q2 q3 q4 q5 : Pos) (j : Nat), bg = [.Assign [.Name "caught" p1] (.Constant .none j p2) p3,
  .Try [.Expr (.Call (.Name "work" p4) [] [] p5) p6] [.ExceptHandler (some (.Name "FigureError" p7)) (some "error") [.Assign [.Name "caught" p8] (.Name "error" p9) q1] q2] [] [] q3, .Return (some (.Name "caught" q4)) q5]
structure CaughtOk (K : PySem.W.Frag) (mg : Str → Option Value) (CF : Addr) : Prop where
  ex : ∃ (f : Addr) (fd : FuncData) (ar : Arguments) (bd : List Stmt) (sc : Scope), FunD K "_law_caught" "_law_caught" ar bd sc [] [] f fd ∧ mg "_law_caught" = some (.ref f) ∧ Binds K fd ["work"] [] ∧ FnScope ["work", "caught", "error"] ["work"] sc ∧ CaughtBody bd ∧
    sc.names.lookup ("work" : Str) = some .local ∧ sc.names.lookup ("caught" : Str) = some .local ∧ sc.names.lookup ("error" : Str) = some .local ∧ sc.names.lookup ("FigureError" : Str) = some .globalImplicit
  gF : mg "FigureError" = some (.ref CF)
def TTc (K : PySem.W.Frag) (CF : Addr) : (XK → Hp → VK → Prop) → Hp → VK → Prop := fun tl H Q =>
  tl (fun cls d H' => PySem.W.exmOne K cls (.ref CF) = some true ∧ ∀ a, H' a = none → Q (.ref a) (upd H' a (ExO2 cls d a))) H fun _ H' => Q .non H'
theorem takes_len {X : Cx} {W : WX} (t : Takes X W) : Takes X (fun c d σ H => σ.length = X.N.length → W c d σ H) := fun u s' ⟨a, B, sI, pins, σ, H, cls, d, e, I, nb, up, sky, na, os, ag, w⟩ =>
  t u s' ⟨a, B, sI, pins, σ, H, cls, d, e, I, nb, up, sky, na, os, ag, w I.len⟩
theorem caught_gives {X : Cx} {CF g : Addr} {q : Str} {sg : Scope} {cdg : Value} {bg : List Stmt} (hb : CaughtBody bg) (hnd : (["work", "caught", "error"] : List Str).Nodup) (h1 : sg.names.lookup ("work" : Str) = some .local) (h2 : sg.names.lookup ("caught" : Str) = some .local) (h3 : sg.names.lookup ("error" : Str) = some .local) (h4 : sg.names.lookup ("FigureError" : Str) = some .globalImplicit)
    (hF : X.mg "FigureError" = some (.ref CF)) : LamX.GivesTo X ["work", "caught", "error"] "_law_caught" sg g cdg bg "work" q (TTc X.K CF) := by
  obtain ⟨p1, p2, p3, p4, p5, p6, p7, p8, p9, q1, q2, q3, q4, q5, j, rfl⟩ := hb
  intro f c' s H Q tl act hc h
  refine ⟨_, pss_cons (ps_set (X := (cxOf C8.CX0 X.prog X.w X.K X.mg X.base ["work", "caught", "error"] "_law_caught" sg g cdg X.A X.stack s H C8.E0).nox) (i := 1) hnd rfl (.inl h2) pe_non)
    (pss_cons (ps_try_keep (X := (cxOf C8.CX0 X.prog X.w X.K X.mg X.base ["work", "caught", "error"] "_law_caught" sg g cdg X.A X.stack s H C8.E0).nox) (i := 2) (c := .ref CF) (ts := fun _ => tAsg (tVar 2) (gName 1))
      (tb := fun W D σ H => ∃ Ech : XK, (∀ cls d σ' H', Ech cls d H' → σ'.length = 3 → W cls d σ' H') ∧ σ[0]? = some (some (.ref f)) ∧ H c' = some (LamX.CodeO c' q) ∧ tl Ech H fun _ H' => D.nx σ H')
      rfl rfl hnd rfl h3 ⟨h4, by decide, .inl hF⟩ rfl (fun W pn xe tk => ?_) fun a oe pn => pss_one (ps_set (i := 1) hnd rfl (.inl h2) (pe_var (i := 2) rfl (.inl h3))))
    (pss_one (ps_ret (pe_var (i := 1) rfl (.inl h2))))), ?_⟩
  · refine ⟨fun pins s' σ H' D I h' => ?_⟩
    obtain ⟨Ech, hW, g1, g2, g3⟩ := h'
    have hp := act _ pn xe Ech p4 p5 (takes_len tk) (fun cls d σ' H' z hl => hW cls d σ' H' z hl)
    have hq := pss_one (ps_expr (pos := p6) hp rfl)
    exact hq.run pins s' σ H' D I ⟨g1, g2, g3⟩
  · refine ⟨fun cls d H' => PySem.W.exmOne X.K cls (.ref CF) = some true ∧ ∀ a, H' a = none → Q (.ref a) (upd H' a (ExO2 cls d a)), fun cls d σ' H' ⟨e1, e2⟩ hl => ⟨e1, fun a ha => ?_⟩, rfl, hc, ?_⟩
    · match σ', hl with
      | [x, y, z], _ => exact ⟨.ref a, rfl, ha, .ref a, rfl, e2 a ha⟩
    · have e : (fun (_ : V) (H' : Hp) => ∃ v, (some (some V.non) : Option (Option V)) = some (some v) ∧ Q v H') = fun _ H' => Q .non H' := by
        funext _ H'
        exact propext ⟨fun ⟨v, z, q⟩ => by cases z; exact q, fun q => ⟨_, rfl, q⟩⟩
      show tl _ H (fun (_ : V) (H' : Hp) => ∃ v, (some (some V.non) : Option (Option V)) = some (some v) ∧ Q v H')
      rw [e]
      exact h
/-! ### _law_caught(lambda: body) -/
def hideL (L : Lo) : Lo := L.map fun s => match s with
  | .own _ => .no
  | .lck _ => .no
  | s => s
theorem hide_get {L : Lo} {i : Nat} {s : Slot} (h : (hideL L)[i]? = some s) : s = .no ∨ L[i]? = some s := by
  unfold hideL at h
  rw [List.getElem?_map] at h
  cases e : L[i]? with
  | none =>
    rw [e] at h
    cases h
  | some t =>
    rw [e] at h
    cases t with
    | no =>
      cases h
      exact .inl rfl
    | val d =>
      cases h
      exact .inr rfl
    | own d =>
      cases h
      exact .inl rfl
    | lck d =>
      cases h
      exact .inl rfl
/-- as a def's entry: nothing of one's own may be changed -/
theorem Env.enter {W : Cn} {c : Ctx} {A : Addr → Prop} {L : Lo} {G : Gs} {σ : L2.St} {H : Hp} (E : Env W c A L G σ H) : Env W ⟨c.dr, H, A, []⟩ A (hideL L) G σ H where
  ext := Ext.refl _ _
  draw := E.draw
  tabs := E.tabs
  base := fun _ z => z
  bdom := fun a z e => by
    obtain ⟨o, q, _⟩ := E.own a z
    rw [show H a = none from e] at q
    cases q
  own := E.own
  adr := E.adr
  len := by
    unfold hideL
    rw [List.length_map]
    exact E.len
  slots := fun i s h => by
    rcases hide_get h with e | e
    · rw [e]
      exact True.intro
    · have q := E.slots i s e
      cases s with
      | no => exact True.intro
      | val d => exact q
      | own d =>
        rcases hide_get h with z | z
        · cases z
        · unfold hideL at h
          rw [List.getElem?_map, z] at h
          cases h
      | lck d =>
        rcases hide_get h with z | z
        · cases z
        · unfold hideL at h
          rw [List.getElem?_map, z] at h
          cases h
  inj := fun i j s t a h1 h2 o1 o2 e1 e2 => by
    have no : ∀ {i : Nat} {s : Slot}, (hideL L)[i]? = some s → ¬ isOwn s := fun {i s} h o => by
      unfold hideL at h
      rw [List.getElem?_map] at h
      cases e : L[i]? with
      | none =>
        rw [e] at h
        cases h
      | some t =>
        rw [e] at h
        cases t <;> cases h <;> exact o
    exact (no h1 o1).elim
  tmp := fun t ht => by simp at ht
/-- figs: the classes that the clause takes -/
def FigOk (K : PySem.W.Frag) (mg : Str → Option Value) (CF : Addr) (figs : List Str) : Prop := ∀ x ∈ figs, ∀ C, mg x = some (.ref C) → PySem.W.exmOne K (.ref C) (.ref CF) = some true
def vCaught (figs : List Str) (m : VE) : VE := fun _ L G Q => m (fun er G1 => er.cls ∈ figs ∧ Q (.exc er) G1) (hideL L) G fun _ G1 => Q .non G1
section
variable {X : Cx} {T : List (Addr × Str)} {E : XK} {m : VE} {p lpos pos : Pos} {params : Arguments} {body : Expr} {scope : Scope} {c P CF : Addr} {k kr : Nat} {figs : List Str}
theorem je_caught (C : CaughtOk X.K X.mg CF) (hfig : FigOk X.K X.mg CF figs) (TB : LamX.TabB X.base X.mg c P) (hcode : X.env.code = .ref c) (hmT : (P, X.env.qual ++ "<lambda>") ∈ T) (hu : ∀ p ∈ T, p.1 = P → p.2 = X.env.qual ++ "<lambda>") (hr : Room kr X.A) (hk : k + 2 ≤ kr) (L : LamX.LamS X.env.scope scope)
    (hbody : ∀ (A : Around) (outer : List PySem.Env) (s : Shared) (H : Hp) (E' : XK) (f c' : Addr), Room k (A.deeper (LamX.lamEnv X scope s.heap.objs.size f c')) → JE (LamX.lamCx X A outer s H E' scope f c') T E' body m)
    (hdef : defaultsOf params X.env = ([], []) := by rfl) (hbind : ∀ (q : Str) (cl : List (Str × Addr)) (pm cv ctv : Value), bindArgs (PySem.W.kla_fn "<lambda>" q params body scope cl pm cv ctv) ⟨[], []⟩ = pure [] := by intros; rfl) (hg : Gl X "_law_caught" := by rfl) :
    JE X T E (.Call (.Name "_law_caught" p) [.Lambda params body scope lpos] [] pos) (vCaught figs m) := by
  obtain ⟨⟨f, fd, ar, bd, sc, F, gm, hb, S, cb, l1, l2, l3, l4⟩, gF⟩ := C
  obtain ⟨oc, od, dV, kV, doc, pm, an, cdv, ct, osl, rfl, lk, hcd, hD, hK⟩ := F.ex
  refine ⟨_, LamX.pe_lamcall (T := T) (TT := TTc X.K CF) (t := fun E' => tOfE (cn X T) E' m) hg gm F.kp lk hcd hb S rfl (.inl l1) (caught_gives cb S.nd l1 l2 l3 l4 gF) TB hcode hmT hu (hr.mono hk) L hdef hbind (fun A outer s H E' f c' hr' => (hbody A outer s H E' f c' hr').can) (by decide) (by decide) (by decide), fun c A Ev L G σ H Q Qh hE env hm kont => ?_⟩
  refine ⟨env.tabs, fun H1 eN T1 => ?_⟩
  have p1 : Post (cn X T) c.dr A H H1 G := by
    obtain ⟨e1, e2, e3, e4⟩ := env.draw
    exact ⟨fun a o h n t => eN a o h fun ps z => t ps z, ⟨eN _ _ e1 fun _ z => (by cases z), eN _ _ e2 fun _ z => (by cases z), e3, e4⟩, T1⟩
  have env1 := env.to p1
  refine ⟨⟨c.dr, H1, A, []⟩, A, _, hideL L, G, _, fun er G' cls d H' po he hq => ?_, env1.enter, hm, fun d v G' H' po hd hq => ?_⟩
  · obtain ⟨q1, q2⟩ := hq
    obtain ⟨C', c1, c2, c3⟩ := id he
    refine ⟨by rw [c2]; exact hfig _ q1 C' c1, fun a ha => ?_⟩
    have po2 : Post (cn X T) c.dr A H1 H' G' := po
    have env2 := env1.to po2
    have po3 := Post.new env2 (o := ExO2 cls d a) ha
    refine kont (.exc er) (.ref a) G' _ ((p1.trans po2).trans po3) ?_ q2
    rw [Den]
    exact ⟨a, cls, d, rfl, upd_same, Kp.err (po3.ext.kp env2.draw) he⟩
  · exact kont .non .non G' H' (p1.trans po) (by rw [Den]) hq
end
end VL
set_option Elab.async false
set_option autoImplicit false
set_option linter.all false
set_option maxRecDepth 100000
set_option maxHeartbeats 2000000
namespace VL
open PySem PySem.Spec PyProof.Rows L2
section
variable {X : Cx} {T : List (Addr × Str)} {E : XK} {e a b : Expr} {es : List Expr} {m : VE} {r : VA} {p p2 pos : Pos} {k kr : Nat} {x y : Str} {i : Nat}
/-! ### isinstance(e, C), e an error without more -/
def ClsE (K : PySem.W.Frag) (mg : Str → Option Value) (x : Str) : Prop := ∃ C, mg x = some (.ref C) ∧ PySem.W.keepIn K (.ref C) = true ∧ ExcC K C
def rIsX (C : Addr) : List V → Hp → VK → Prop := fun xs H Q => ∃ a, xs = [.ref a, .ref C] ∧ H a = some (ExO2 (.ref C) none a) ∧ Q (.bl true) H
theorem call_isX {C : Addr} (F : ExcC X.K C) : CallR X (.builtin "isinstance") (rIsX C) := by
  intro pins s σ H xs us Q I r h
  obtain ⟨a, rfl, ha, q⟩ := h
  cases r with
  | cons rx rr =>
    cases rr with
    | cons rt rr =>
      cases rr
      cases rx
      cases rt
      obtain ⟨⟨oe, vs, hget, hz, hv⟩, _⟩ := I.hok a _ ha
      have J : PySem.W.InstAt s.heap a oe C none := by
        obtain ⟨oc, od, oda, osl⟩ := oe
        obtain ⟨h1, h2⟩ := hz
        dsimp only at h1 h2 hv
        subst h1 h2 hv
        exact ⟨hget, rfl, rfl, trivial⟩
      have ek : PySem.W.kitOne X.K (.ref C) (.ref C) = some true := by
        unfold PySem.W.kitOne
        rw [if_pos (beq_self_eq_true _)]
      exact PySem.W.kia_one (PySem.W.handS_kitx_exc F.hg F.hk F.hs F.hd F.ha F.hn F.ht F.hm) I.kIn J ek (fun z => nomatch z) fun tk => ⟨.bl true, H, I.kept (t' := tk) fun _ _ z => z, rfl, q⟩
def vIsCls (x : Str) (m : VE) : VE := fun Ev L G Q => m Ev L G fun d G1 => match d with
  | .exc er => (er.cls = x ∧ er.most = none) ∧ Q (.bl true) G1
  | _ => False
theorem je_isCls (hm : X.mg "isinstance" = none) (F : ClsE X.K X.mg x) (ha : JE X T E a m) (hg : Gl X "isinstance" := by rfl) (hg2 : Gl X x := by rfl) (hdb : (x == ("__debug__" : Str)) = false := by decide)
    (he : starEach (a :: [.Name x p2]) X.env = (false, eval a X.env) :: starEach [.Name x p2] X.env := by rfl) (hs2 : starEach (.Name x p2 :: []) X.env = (false, eval (.Name x p2) X.env) :: starEach [] X.env := by rfl) (hpl : (backTo pos (starEach [.Name x p2] X.env)).any (·.1) = false := by rfl) :
    JE X T E (.Call (.Name "isinstance" p) [a, .Name x p2] [] pos) (vIsCls x m) := by
  obtain ⟨t, a1, a2⟩ := ha.ex
  obtain ⟨C, gC, kC, xC⟩ := F
  refine ⟨_, pe_callB (call_isX xC) hg hm (by decide +kernel) (pa_cons a1 (pa_cons (pe_glob (v := .ref C) hg2 gC rfl hdb) pa_nil hs2) he) (by decide) (by decide) he hpl, fun c A Ev L G σ H Q Qh hE env hm k => a2 c A Ev L G σ H _ _ hE env hm fun d v G1 H1 p1 d1 q1 => ?_⟩
  split at q1
  · rename_i er
    obtain ⟨⟨e1, e2⟩, q2⟩ := q1
    rw [Den] at d1
    obtain ⟨a', cls, dd, rfl, h1, C', c1, c2, c3⟩ := d1
    rw [e1, show (cn X T).mg x = some (.ref C) from gC] at c1
    cases c1
    rw [e2] at c3
    have c3 : dd = none := c3
    subst c2 c3
    exact ⟨a', rfl, h1, k _ _ G1 H1 p1 den_bl q2⟩
  · exact q1.elim
/-! ### x(e, ..), x a name that holds one of several defs -/
def vDyn (tb : Str → Option SpD) (i : Nat) (r : VA) : VE := fun Ev L G Q => match L[i]? with
  | some (.val (.fn y)) => (match tb y with
    | some sp => r Ev L G fun ds G1 => sp ds G1 Q Ev
    | none => False)
  | _ => False
theorem je_dyn {tb : Str → Option SpD} (hC : ∀ y sp, tb y = some sp → ∃ k ar ps, k ≤ kr ∧ Cal X.prog X.w X.K X.mg X.base T k y ar ps sp) (hr : Room kr X.A) (hx : Passes (CXe X) X E) (hN : X.N[i]? = some x) (hv : Vis X.env.scope x) (ha : JA X T E (e :: es) r)
    (hdb : (x == ("__debug__" : Str)) = false := by decide) (hcd : (x == ("__classdict__" : Str)) = false := by decide) (he : starEach (e :: es) X.env = (false, eval e X.env) :: starEach es X.env := by rfl) (hpl : (backTo pos (starEach es X.env)).any (·.1) = false := by rfl) :
    JE X T E (.Call (.Name x p) (e :: es) [] pos) (vDyn tb i r) := by
  obtain ⟨t, a1, a2⟩ := ha.ex
  refine ⟨fun σ H Q => ∃ (f : Addr) (sp : SpD), σ[i]? = some (some (.ref f)) ∧ (∃ y, tb y = some sp ∧ X.mg y = some (.ref f)) ∧ t σ H fun vs H1 => spOf (cn X T) sp vs H1 Q E, ⟨fun pins s σ H Q I h => ?_⟩, fun c A Ev L G σ H Q Qh hE env hm k => ?_⟩
  · obtain ⟨f, sp, hs, ⟨y, ty, gy⟩, ht⟩ := h
    obtain ⟨k, ar, ps, hk, C⟩ := hC y sp ty
    obtain ⟨f', fd, bd, sc, F, gm, hb, ok⟩ := C.ex
    rw [gy] at gm
    cases gm
    refine (pe_callL (i := i) (f := f) (sp := spOf (cn X T) sp) (dvs := []) (E := E) ok (hr.mono hk) hN hv F.kp hb .nil hx a1 hdb hcd he hpl).run pins s σ H Q I ⟨hs, ?_⟩
    have e0 : (fun (vs : List V) (H1 : Hp) => spOf (cn X T) sp (vs ++ []) H1 Q E) = fun vs H1 => spOf (cn X T) sp vs H1 Q E := by
      funext vs H1
      rw [List.append_nil]
    show t σ H (fun vs H1 => spOf (cn X T) sp (vs ++ []) H1 Q E)
    rw [e0]
    exact ht
  · unfold vDyn at hm
    split at hm
    · rename_i y hy
      split at hm
      · rename_i sp ty
        obtain ⟨v, e1, e2⟩ := env.slots i _ hy
        rw [Den] at e2
        obtain ⟨f, g1, rfl⟩ := e2
        exact ⟨f, sp, e1, ⟨y, ty, g1⟩, a2 c A Ev L G σ H _ _ hE env hm fun ds vs G1 H1 p1 d1 q1 => spOf_at hE (env.to p1) d1 q1 fun d v G' H' po dv q => k d v G' H' (p1.trans po) dv q⟩
      · exact hm.elim
    · exact hm.elim
end
end VL
set_option Elab.async false
set_option autoImplicit false
set_option linter.all false
set_option maxRecDepth 100000
set_option maxHeartbeats 2000000
namespace VL
open PySem PySem.Spec PyProof.Rows L2
/-- the defs that a name may hold -/
def tbOf (l : List (Str × SpD)) (y : Str) : Option SpD := match l with
  | [] => none
  | p :: r => if p.1 = y then some p.2 else tbOf r y
/-- each of them may be called -/
inductive TbOk (P : Program) (w : World) (K : PySem.W.Frag) (mg : Str → Option Value) (base : Heap) (T : List (Addr × Str)) (kr : Nat) : List (Str × SpD) → Prop where
  | nil : TbOk P w K mg base T kr []
  | cons {k : Nat} {x : Str} {ar : Arguments} {ps : List Str} {sp : SpD} {l : List (Str × SpD)} (C : Cal P w K mg base T k x ar ps sp) (hk : k ≤ kr) (t : TbOk P w K mg base T kr l) : TbOk P w K mg base T kr ((x, sp) :: l)
theorem TbOk.has {P : Program} {w : World} {K : PySem.W.Frag} {mg : Str → Option Value} {base : Heap} {T : List (Addr × Str)} {kr : Nat} : ∀ {l : List (Str × SpD)}, TbOk P w K mg base T kr l → ∀ y sp, tbOf l y = some sp → ∃ k ar ps, k ≤ kr ∧ Cal P w K mg base T k y ar ps sp
  | _, .nil, y, sp, h => by cases h
  | _, .cons C hk t, y, sp, h => by
    unfold tbOf at h
    split at h
    · rename_i e
      cases h
      cases e
      exact ⟨_, _, _, hk, C⟩
    · exact TbOk.has t y sp h
section
variable {X : Cx} {T : List (Addr × Str)} {E : XK} {e : Expr} {es : List Expr} {r : VA} {p pos : Pos} {kr : Nat} {x : Str} {i : Nat} {l : List (Str × SpD)}
theorem je_dynT (hC : TbOk X.prog X.w X.K X.mg X.base T kr l) (hr : Room kr X.A) (hx : Passes (CXe X) X E) (hN : X.N[i]? = some x) (hv : Vis X.env.scope x) (ha : JA X T E (e :: es) r)
    (hdb : (x == ("__debug__" : Str)) = false := by decide) (hcd : (x == ("__classdict__" : Str)) = false := by decide) (he : starEach (e :: es) X.env = (false, eval e X.env) :: starEach es X.env := by rfl) (hpl : (backTo pos (starEach es X.env)).any (·.1) = false := by rfl) :
    JE X T E (.Call (.Name x p) (e :: es) [] pos) (vDyn (tbOf l) i r) := je_dyn hC.has hr hx hN hv ha hdb hcd he hpl
end
end VL
set_option Elab.async false
set_option autoImplicit false
set_option linter.all false
set_option maxRecDepth 100000
set_option maxHeartbeats 2000000
namespace VL
open PySem PySem.Spec PyProof.Rows L2
/-! ### the draws begin (told over the heap: no draws stand yet) -/
abbrev rP : R2 := rI CPow fun i j => .int (i ^ j.toNat)
abbrev t18 : TE := tOp rP (tC (.int 10)) (tC (.int 18))
def t_begun (K : PySem.W.Frag) : TS :=
  tSeq (tPar 1 2 (tCons (tC (.int 0)) (tCons (tLst tNil) tNil)))
  (tSeq (tFor (iList K (tVar 0)) (gName 3) (tIfS (tTest (tCB (rIsi K) (tCons (tVar 3) (tCons (tC (.ty "int")) tNil))))
    (tSeq (tIfS (tTest (tOp (rI0 fun i j => .bl (decide (j ≤ i))) (tVar 3) t18))
      (tAsg (tOp (rI0 fun i j => .int (i + j)) (tOp (rI IntMulOk fun i j => .int (i * j)) (tVar 1) (tOp (rI0 fun i j => .int (i + j)) (tOp (rI0 fun i j => .int (i - j)) (tVar 3) t18) (tC (.int 1)))) (tOp (rI0 fun i j => .int (i - j)) (tVar 3) t18)) (gName 1)) tNext)
      (tDrop (tBM K "list" rAppend (tVar 2) (tCons (tVar 3) tNil)))) tNext))
  (tRet (tDisp [(tC (.str "whole"), tVar 1), (tC (.str "cells"), tVar 2), (tC (.str "count"), tC (.int 0))])))
def ten18 : Int := 1000000000000000000
def wStep (w n : Int) : Int := if ten18 ≤ n then w * (n - ten18 + 1) + (n - ten18) else w
def wholeOf (ns : List Int) : Int := ns.foldl wStep 0
theorem wholeOf_take {ns : List Int} {i : Nat} {n : Int} (h : ns[i]? = some n) : wholeOf (ns.take (i + 1)) = wStep (wholeOf (ns.take i)) n := by
  unfold wholeOf
  rw [List.take_add_one, h, Option.toList_some, List.foldl_append]
  rfl
theorem wStep_nonneg {w n : Int} (h : 0 ≤ w) : 0 ≤ wStep w n := by
  unfold wStep
  split
  · rename_i q
    have : 0 ≤ w * (n - ten18 + 1) := Int.mul_nonneg h (by omega)
    omega
  · exact h
theorem wStep_bits {w n : Int} {m b : Nat} (h : 0 ≤ w) (hw : w < 2 ^ m) (hn : Builtin.Int.intBits n ≤ b) : wStep w n < 2 ^ (m + b) := by
  have hn2 := intBits_le_iff.mp hn
  have hp : (2 : Int) ^ (m + b) = 2 ^ m * 2 ^ b := Int.pow_add ..
  have hB : (0 : Int) < 2 ^ b := Int.pow_pos (by decide)
  unfold wStep
  split
  · rename_i q
    have q18 : (1000000000000000000 : Int) ≤ n := q
    have hn3 : n < 2 ^ b := by
      have e : ((n.natAbs : Nat) : Int) = n := Int.natAbs_of_nonneg (by omega)
      have := Int.ofNat_lt.mpr hn2
      rw [Int.natCast_pow] at this
      rw [← e]
      exact this
    generalize (2 : Int) ^ b = B at hp hn3 hB
    generalize (2 : Int) ^ m = C at hp hw
    rw [hp]
    have h1 : (w + 1) * (n - ten18 + 1) ≤ C * (n - ten18 + 1) := Int.mul_le_mul_of_nonneg_right (by omega) (by show (0:Int) ≤ n - 1000000000000000000 + 1; omega)
    have h2 : C * (n - ten18 + 1) ≤ C * B := Int.mul_le_mul_of_nonneg_left (by show n - 1000000000000000000 + 1 ≤ B; omega) (by omega)
    have e : (w + 1) * (n - ten18 + 1) = w * (n - ten18 + 1) + (n - ten18) + 1 := by rw [Int.add_mul, Int.one_mul]; omega
    omega
  · generalize (2 : Int) ^ b = B at hp hB
    generalize (2 : Int) ^ m = C at hp hw
    have h2 : C * 1 ≤ C * B := Int.mul_le_mul_of_nonneg_left (by omega) (by omega)
    rw [hp]
    omega
def spBegun (K : PySem.W.Frag) : Sp := fun vs H Q _ => ∃ (a : Addr) (ns : List Int), vs = [.ref a] ∧ SqL K H a (ns.map V.int) ∧ ns.length ≤ 63 ∧ (∀ z ∈ ns, Builtin.Int.intBits z ≤ 1048576) ∧
  ∀ (c d : Addr) (H' : Hp), H c = none → H d = none → c ≠ d → (∀ b o, H b = some o → H' b = some o) → H' d = some (.dK (dkv ⟨wholeOf ns, ns, 0⟩ c)) → H' c = some (.lst (ns.map V.int)) → Q (.ref d) H'
theorem sqL_ext {K : PySem.W.Frag} {H H' : Hp} {a : Addr} {xs : List V} (h : SqL K H a xs) (e : ∀ b o, H b = some o → H' b = some o) : SqL K H' a xs := by
  rcases h with (h | ⟨o, h⟩) | h
  · exact .inl (.inl (e _ _ h))
  · exact .inl (.inr ⟨o, e _ _ h⟩)
  · exact .inr h
theorem wholeOf_nonneg (ns : List Int) (i : Nat) : 0 ≤ wholeOf (ns.take i) := by
  induction i with
  | zero =>
    rw [List.take_zero]
    exact Int.le_refl 0
  | succ i ih =>
    cases e : ns[i]? with
    | none =>
      rw [List.take_add_one, e, Option.toList_none, List.append_nil]
      exact ih
    | some n =>
      rw [wholeOf_take e]
      exact wStep_nonneg ih
theorem wholeOf_bits {ns : List Int} {b : Nat} (hb : ∀ z ∈ ns, Builtin.Int.intBits z ≤ b) (i : Nat) : wholeOf (ns.take i) < 2 ^ (i * b) := by
  induction i with
  | zero =>
    rw [List.take_zero, Nat.zero_mul]
    decide
  | succ i ih =>
    rw [Nat.succ_mul]
    cases e : ns[i]? with
    | none =>
      rw [List.take_add_one, e, Option.toList_none, List.append_nil, Int.pow_add]
      have h1 : (0 : Int) < 2 ^ b := Int.pow_pos (by decide)
      have h2 : (2 : Int) ^ (i * b) * 1 ≤ 2 ^ (i * b) * 2 ^ b := Int.mul_le_mul_of_nonneg_left (by omega) (Int.le_of_lt (Int.pow_pos (by decide)))
      omega
    | some n =>
      rw [wholeOf_take e]
      exact wStep_bits (wholeOf_nonneg ns i) ih (hb n (List.mem_of_getElem? e))
theorem whole_mul {ns : List Int} {b : Nat} (hB : 64 * b ≤ 134217728) (hb : ∀ z ∈ ns, Builtin.Int.intBits z ≤ b) {i : Nat} {n : Int} (hi : i ≤ 63) (e : ns[i]? = some n) (hn : ten18 ≤ n) : IntMulOk (wholeOf (ns.take i)) (n - ten18 + 1) := by
  refine IntMulOk.of_le (m := i * b) (n := b) ?_ ?_ ?_
  · refine intBits_le_iff.mpr ?_
    have h1 := wholeOf_bits hb i
    have h0 := wholeOf_nonneg ns i
    have e : ((wholeOf (ns.take i)).natAbs : Int) = wholeOf (ns.take i) := Int.natAbs_of_nonneg h0
    rw [← e] at h1
    have h2 : (((wholeOf (ns.take i)).natAbs : Nat) : Int) < ((2 ^ (i * b) : Nat) : Int) := by
      rw [Int.natCast_pow]
      exact h1
    exact Int.ofNat_lt.mp h2
  · have hn18 : (1000000000000000000 : Int) ≤ n := hn
    refine intBits_le_of_natAbs (y := n) ?_ (hb n (List.mem_of_getElem? e))
    show (n - 1000000000000000000 + 1).natAbs ≤ n.natAbs
    omega
  · have : i * b ≤ 63 * b := Nat.mul_le_mul_right _ hi
    omega
theorem if_true_of {b : Bool} {P Q : Prop} (h : b = true) (p : P) : if b = true then P else Q := by
  rw [if_pos h]
  exact p
theorem if_false_of {b : Bool} {P Q : Prop} (h : b = false) (p : Q) : if b = true then P else Q := by
  rw [if_neg (by rw [h]; exact Bool.false_ne_true)]
  exact p
theorem c1018 : CPow 10 18 := ⟨by decide, by decide, by decide⟩
theorem merge3 {a b c : V} : mergeK [] [(.inr "whole", a), (.inr "cells", b), (.inr "count", c)] = [(kWhole, a), (kCells, b), (kCount, c)] := by
  have h1 : ¬ ((.inr "whole" : Key) = .inr "cells") := by decide
  have h2 : ¬ ((.inr "whole" : Key) = .inr "count") := by decide
  have h3 : ¬ ((.inr "cells" : Key) = .inr "count") := by decide
  simp only [mergeK, List.foldl_cons, List.foldl_nil, putK, List.any_nil, List.any_cons, Bool.false_eq_true, if_false, List.nil_append, List.cons_append, decide_eq_false h1, decide_eq_false h2, decide_eq_false h3, Bool.or_false, kWhole, kCells, kCount]
theorem pure_begun {K : PySem.W.Frag} (vs : List V) (H : Hp) (Q : VK) (E : XK) (h : spBegun K vs H Q E) : t_begun K { nx := fun _ H' => Q .non H', rt := Q } (L2.start ["script", "whole", "cells", "cell"] vs) H := by
  obtain ⟨a, ns, rfl, hS, hl, hb, k⟩ := h
  refine ⟨by show 0 ≤ sizeLine; exact Nat.zero_le _, fun c hc => ?_⟩
  refine ⟨_, _, rfl, ?_⟩
  have ex : ∀ xs b o, H b = some o → upd H c (.lst xs) b = some o := fun xs b o e => (upd_ne (ne_of_none e hc)).trans e
  refine ⟨_, rfl, a, rfl, ⟨_, sqL_ext hS (ex _)⟩, ?_⟩
  refine for_list (K := K) (a := a) (xs := ns.map V.int) (fun i σ H' => ∃ v3 : Option V, σ = [some (.ref a), some (.int (wholeOf (ns.take i))), some (.ref c), v3] ∧ H' = upd H c (.lst ((ns.take i).map V.int))) ⟨none, rfl, rfl⟩ (fun i σ H' _ ⟨_, _, e⟩ => by rw [e]; exact sqL_ext hS (ex _)) ?_ ?_
  · rintro i y σ H' hi ⟨v3, rfl, rfl⟩
    obtain ⟨n, hn, rfl⟩ : ∃ n, ns[i]? = some n ∧ y = V.int n := by
      rw [List.getElem?_map] at hi
      cases e : ns[i]? with
      | none =>
        rw [e] at hi
        cases hi
      | some n =>
        rw [e] at hi
        exact ⟨n, rfl, (Option.some.inj hi).symm⟩
    have hi63 : i ≤ 63 := by
      have := (List.getElem?_eq_some_iff.mp hn).1
      omega
    have tk : (ns.take (i + 1)).map V.int = (ns.take i).map V.int ++ [V.int n] := by
      rw [List.take_add_one, hn, Option.toList_some, List.map_append]
      rfl
    have p18 : (10 : Int) ^ (18 : Int).toNat = ten18 := by decide
    refine ⟨_, rfl, .int n, .ty "int", .type "int", .type "int", true, rfl, .ty "int", .base (.int n), kit_ty (by decide +kernel), true, rfl, if_true_of rfl ?_⟩
    -- whole, if the cell is large
    have app : ∀ (bk : L2.St → Hp → Prop) (z : Int), z = wholeOf (ns.take (i + 1)) → (tDrop (tBM K "list" rAppend (tVar 2) (tCons (tVar 3) tNil))) { nx := fun σ H' => ∃ v3 : Option V, σ = [some (.ref a), some (.int (wholeOf (ns.take (i + 1)))), some (.ref c), v3] ∧ H' = upd H c (.lst ((ns.take (i + 1)).map V.int)), rt := Q, bk := bk, ct := fun σ H' => ∃ v3 : Option V, σ = [some (.ref a), some (.int (wholeOf (ns.take (i + 1)))), some (.ref c), v3] ∧ H' = upd H c (.lst ((ns.take (i + 1)).map V.int)) } [some (.ref a), some (.int z), some (.ref c), some (.int n)] (upd H c (.lst ((ns.take i).map V.int))) := fun bk z hz => by
      refine ⟨_, rfl, .inl ⟨rfl, _, SqL.of upd_same⟩, _, rfl, c, _, _, rfl, rfl, upd_same, ?_, ?_⟩
      · rw [List.length_map, List.length_take]
        have : 63 < sizeLine := by rw [sizeLine_eq]; decide
        omega
      · exact ⟨some (.int n), by rw [hz], by rw [upd_upd, tk]⟩
    have st := wholeOf_take hn
    unfold wStep at st
    by_cases q : ten18 ≤ n
    · rw [if_pos q] at st
      refine ⟨_, rfl, _, _, rfl, rfl, c1018, _, _, rfl, rfl, decide ((10 : Int) ^ (18 : Int).toNat ≤ n), rfl, if_true_of (decide_eq_true (by rw [p18]; exact q)) ?_⟩
      refine ⟨_, rfl, _, rfl, _, _, rfl, rfl, c1018, _, _, rfl, rfl, _, _, rfl, rfl, _, _, rfl, rfl, by rw [p18]; exact whole_mul (by decide) hb hi63 hn q, _, rfl, _, _, rfl, rfl, c1018, _, _, rfl, rfl, _, _, rfl, rfl, ?_⟩
      refine app _ _ ?_
      rw [st, p18]
    · rw [if_neg q] at st
      refine ⟨_, rfl, _, _, rfl, rfl, c1018, _, _, rfl, rfl, decide ((10 : Int) ^ (18 : Int).toNat ≤ n), rfl, if_false_of (decide_eq_false (by rw [p18]; exact q)) ?_⟩
      exact app _ _ st.symm
  · rintro σ H' ⟨v3, rfl, rfl⟩
    rw [List.length_map, List.take_length]
    intro d hd
    have hdH : H d = none ∧ d ≠ c := by
      by_cases e : d = c
      · rw [e, upd_same] at hd
        cases hd
      · rw [upd_ne e] at hd
        exact ⟨hd, e⟩
    refine ⟨_, rfl, _, rfl, upd_same, [(.inr "whole", .int (wholeOf ns)), (.inr "cells", .ref c), (.inr "count", .int 0)], rfl, (by show 3 ≤ 15; decide), ?_⟩
    refine k c d _ hc hdH.1 (Ne.symm hdH.2) (fun b o e => ?_) ?_ ?_
    · rw [upd_ne (ne_of_none e hdH.1), upd_ne (ne_of_none e hdH.1), upd_ne (ne_of_none e hc)]
      exact e
    · rw [upd_same]
      exact congrArg (fun z => some (HO.dK z)) merge3
    · rw [upd_ne (Ne.symm hdH.2), upd_ne (Ne.symm hdH.2), upd_same]
end VL
set_option Elab.async false
set_option autoImplicit false
set_option linter.all false
set_option maxRecDepth 100000
set_option maxHeartbeats 2000000
namespace VL
open PySem PySem.Spec PyProof.Rows L2
/-! ### the law's own def -/
def spLaw (W : Cn) : Sp := fun vs H Q _ => ∃ (a : Addr) (ns : List Int), vs = [.ref a] ∧ SqL W.K H a (ns.map V.int) ∧ ns.length ≤ 63 ∧ (∀ z ∈ ns, Builtin.Int.intBits z ≤ 1048576) ∧ LamX.Tabs W.T H ∧ ∀ H', Q (.bl true) H'
def lawL (n : Nat) (ns : List Int) : Lo := .val (.scr ns) :: .val .draw :: List.replicate n .no
def lawEnds : VEnds := ⟨noEnd, fun d _ => d = .bl true, noEnd, noEnd⟩
abbrev t_first (K : PySem.W.Frag) (E : XK) : TS := tAsg (tCall (spBegun K) [] E (tCons (tVar 0) tNil)) (gName 1)
theorem den_scr {W : Cn} {dr : Dr} {A : Addr → Prop} {H : Hp} {a : Addr} {ns : List Int} (h : SqL W.K H a (ns.map V.int)) (hA : ¬ A a) (hd : a ≠ dr.1) : Den W dr A H (.scr ns) (.ref a) := by
  rw [Den]
  refine ⟨a, rfl, ?_⟩
  rcases h with (h | ⟨o, h⟩) | h
  · exact .inl ⟨h, hA, hd⟩
  · exact .inr (.inl ⟨o, h⟩)
  · exact .inr (.inr fun H' => .inr h)
theorem law_ok {P : Program} {w : World} {K : PySem.W.Frag} {mg : Str → Option Value} {base : Heap} {x qual : Str} {params : Arguments} {s1 : Stmt} {sts : List Stmt} {scope : Scope} {f : Addr} {fd : FuncData} {N : List Str} {n k : Nat} {pr : VS} {T : List (Addr × Str)} (F : FunD K x qual params (s1 :: sts) scope [] [] f fd) (S : FnScope N ["script"] scope)
    (hn : N.length = n + 2) (hv : ∀ ns : List Int, ns.length ≤ 63 → (∀ z ∈ ns, Builtin.Int.intBits z ≤ 1048576) → pr Ev0 lawEnds (lawL n ns) ⟨wholeOf ns, ns, 0⟩)
    (hb : ∀ (cdv : Value) (A : Around) (outer : List PySem.Env) (s : Shared) (H : Hp) (E : XK), Room k (A.deeper (envOfC qual scope s.heap.objs.size f cdv)) → PS (cxOf (L2.CX P w) P w K mg base N qual scope f cdv A outer s H E) s1 (t_first K E) ∧ JSs (cxOf (L2.CX P w) P w K mg base N qual scope f cdv A outer s H E) T E sts pr) :
    FnOk P w K mg base (L2.CX P w) (k + 1) f fd ["script"] (spLaw ⟨K, mg, T⟩) := by
  refine F.ok S (fun vs H Q E h => ?_) (fun cdv A outer s H vs Q E hr h => ?_)
  · obtain ⟨a, ns, rfl, _⟩ := h
    rfl
  · obtain ⟨h1, h2⟩ := hb cdv A outer s H E hr
    obtain ⟨t, a1, a2⟩ := h2.ex
    obtain ⟨a, ns, rfl, hS, hl, hbits, hT, hQ⟩ := h
    refine ⟨_, pss_cons h1 a1, ?_⟩
    have est : L2.start N [V.ref a] = some (.ref a) :: List.replicate (n + 1) none := by
      unfold L2.start
      rw [hn]
      rfl
    rw [est]
    refine ⟨_, rfl, a, ns, rfl, hS, hl, hbits, fun c d H' hc hd hcd hk h1 h2 => ?_⟩
    have nd : a ≠ d ∨ ∃ z : Unit, True := .inr ⟨(), trivial⟩
    have hS' : SqL K H' a (ns.map V.int) := sqL_ext hS hk
    have env : Env ⟨K, mg, T⟩ ⟨(d, c), H', fun _ => False, []⟩ (fun _ => False) (lawL n ns) ⟨wholeOf ns, ns, 0⟩ (some (.ref a) :: some (.ref d) :: List.replicate n none) H' := {
      ext := Ext.refl _ _
      draw := ⟨h1, h2, fun z => z, hcd⟩
      tabs := LamX.Tabs.ext hT hk
      base := fun _ z => z
      bdom := fun _ z => z.elim
      own := fun _ z => z.elim
      adr := fun z => z
      len := by
        unfold lawL
        simp
      slots := fun i s hs => by
        match i, hs with
        | 0, hs =>
          cases hs
          refine ⟨.ref a, rfl, ?_⟩
          rw [Den]
          refine ⟨a, rfl, ?_⟩
          rcases hS with (h | ⟨o, h⟩) | h
          · exact .inl ⟨hk _ _ h, fun z => z, ne_of_none h hd⟩
          · exact .inr (.inl ⟨o, hk _ _ h⟩)
          · exact .inr (.inr fun H' => .inr h)
        | 1, hs =>
          cases hs
          exact ⟨.ref d, rfl, by rw [Den]⟩
        | i + 2, hs =>
          have hm := List.mem_of_getElem? (show (List.replicate n Slot.no)[i]? = some s from hs)
          rw [(List.mem_replicate.mp hm).2]
          exact True.intro
      inj := fun i j s t b g1 g2 o1 o2 e1 e2 => by
        have no : ∀ {i : Nat} {s : Slot}, (lawL n ns)[i]? = some s → ¬ isOwn s := fun {i s} h o => by
          match i, h with
          | 0, h =>
            cases h
            exact o
          | 1, h =>
            cases h
            exact o
          | i + 2, h =>
            have hm := List.mem_of_getElem? (show (List.replicate n Slot.no)[i]? = some s from h)
            rw [(List.mem_replicate.mp hm).2] at o
            exact o
        exact (no g1 o1).elim
      tmp := fun t ht => by simp at ht }
    have go := a2 ⟨(d, c), H', fun _ => False, []⟩ (fun _ => False) Ev0 (lawL n ns) ⟨wholeOf ns, ns, 0⟩ _ H' lawEnds { nx := fun _ H' => Q .non H', rt := Q } (fun _ _ _ _ _ _ _ z => z.elim) ⟨fun _ _ _ _ _ _ z => z.elim, fun _ _ _ _ _ _ z => z.elim, fun _ _ _ _ _ _ z => z.elim, fun dd v G H'' po hd' hq => by
      have hq : dd = .bl true := hq
      subst hq
      rw [Den] at hd'
      subst hd'
      exact hQ _⟩ env (hv ns hl hbits)
    exact go
end VL
set_option Elab.async false
set_option autoImplicit false
set_option linter.all false
set_option maxRecDepth 100000
set_option maxHeartbeats 2000000
namespace VL
open PySem PySem.Spec PyProof.Rows L2
/-! ### facts that the head tells by a bool -/
def excCB (K : PySem.W.Frag) (x : Str) : Bool :=
  He.eqO (PySem.W.findIn K (.ref (He.ga K x)) "__getattribute__") (some (some (.builtin "BaseException.__getattribute__"))) && (He.eqO (PySem.W.findIn K (.ref (He.ga K x)) "__getattr__") (some none) && (decide (PySem.W.subIn K (.ref (He.ga K x)) (.type "BaseException") = some true) &&
    (PySem.W.hasDictIn K (He.ga K x) && (He.eqO (PySem.W.findIn K (.ref (He.ga K x)) "__class__") (some (some (.builtin "object.__class__"))) && (He.eqO (PySem.W.specialIn K (.builtin "object.__class__") "__get__") (some (some (.builtin "getset_descriptor.__get__"))) &&
      (decide (PySem.W.takesIn K (.builtin "object.__class__") = some true) && decide (PySem.W.mroIn K (He.ga K x) (.type "object") = some true)))))))
theorem excCB_ok {K : PySem.W.Frag} {x : Str} (h : excCB K x = true) : ExcC K (He.ga K x) := by
  obtain ⟨h1, h⟩ := He.ba h
  obtain ⟨h2, h⟩ := He.ba h
  obtain ⟨h3, h⟩ := He.ba h
  obtain ⟨h4, h⟩ := He.ba h
  obtain ⟨h5, h⟩ := He.ba h
  obtain ⟨h6, h⟩ := He.ba h
  obtain ⟨h7, h8⟩ := He.ba h
  exact ⟨He.eqO_ok h1, He.eqO_ok h2, of_decide_eq_true h3, h4, He.eqO_ok h5, He.eqO_ok h6, of_decide_eq_true h7, of_decide_eq_true h8⟩
theorem dv_ints {K : PySem.W.Frag} : ∀ ns : List Int, (ns.map He.Dv.int).map (He.Dv.v K) = ns.map V.int
  | [] => rfl
  | n :: ns => by
    rw [List.map_cons, List.map_cons, List.map_cons, dv_ints ns]
    rfl
section
variable {K : PySem.W.Frag} {h : Heap} {mg : Str → Option Value}
theorem cls_of (X : K.In h) (G : h.Ns mainGlobals mg) {x : Str} (g : (He.Fa.glo x).ok K = true) (e : (He.Fa.exc x).ok K = true) : ∃ C, ClsF K mg x C := by
  obtain ⟨h1, h2, h3, h4⟩ := He.exc_ok e
  exact ⟨_, He.glo_ok X G g, h1, h2, h3, h4⟩
theorem clsE_of (X : K.In h) (G : h.Ns mainGlobals mg) {x : Str} (g : (He.Fa.glo x).ok K = true) (e : (He.Fa.exc x).ok K = true) (b : excCB K x = true) : ClsE K mg x := by
  obtain ⟨h1, h2, h3, h4⟩ := He.exc_ok e
  exact ⟨_, He.glo_ok X G g, h2, excCB_ok b⟩
theorem tup_of (X : K.In h) (G : h.Ns mainGlobals mg) {x : Str} {ns : List Int} (g : (He.Fa.glo x).ok K = true) (b : He.tupB K x (ns.map He.Dv.int) = true) : TupG K mg x ns := ⟨_, He.glo_ok X G g, fun H => by
  rw [← dv_ints (K := K) ns]
  exact He.tupB_ok b H⟩
theorem fig_of (X : K.In h) (G : h.Ns mainGlobals mg) {y : Str} : ∀ {figs : List Str}, (∀ x ∈ figs, (He.Fa.glo x).ok K = true ∧ (He.Fa.exm x y true).ok K = true) → FigOk K mg (He.ga K y) figs := fun {figs} hx x hm C hC => by
  obtain ⟨g, e⟩ := hx x hm
  have z := hC.symm.trans (He.glo_ok X G g)
  cases z
  exact He.exm_ok e
end
/-- fun_ok for a def that makes lambdas: its code object is known -/
theorem fun_okL {P : Program} {w : World} {K : PySem.W.Frag} {mg : Str → Option Value} {base : Heap} {x qual : Str} {params : Arguments} {body : List Stmt} {scope : Scope} {p : He.Defn} {fd : FuncData} {N ps : List Str} {k : Nat} {sp : SpD} {pr : VS} {T : List (Addr × Str)} (F : FunD K x qual params body scope [] [] (He.fAd K p) fd) (S : FnScope N ps scope)
    (hp : ∀ ds G Qd Ed, sp ds G Qd Ed → ds.length = ps.length ∧ pr Ed ⟨fun _ G => Qd .non G, Qd, noEnd, noEnd⟩ (startL N ds) G)
    (hb : ∀ (cdv : Value), cdv = .ref (He.cT K p).1 → ∀ (A : Around) (outer : List PySem.Env) (s : Shared) (H : Hp) (E : XK), Room k (A.deeper (envOfC qual scope s.heap.objs.size (He.fAd K p) cdv)) → JSs (cxOf (L2.CX P w) P w K mg base N qual scope (He.fAd K p) cdv A outer s H E) T E body pr) :
    FnOk P w K mg base (L2.CX P w) (k + 1) (He.fAd K p) fd ps (spOf ⟨K, mg, T⟩ sp) := by
  obtain ⟨oc, od, dV, kV, doc, pm, an, cdv, ct, osl, rfl, lk, hcd, h1, h2⟩ := F.ex
  obtain ⟨c, ec⟩ := He.codeIn_ref hcd
  have e2 : (He.cT K p).1 = c := He.codeOf_eq lk ec
  refine fn_of lk hcd S (fun vs H Q E h => ?_) (fun A outer s H vs Q E hr h => ?_)
  · obtain ⟨dr, A, G, ds, Qd, Ed, h1, h2, h3, h4, h5, h6, _⟩ := h
    rw [← h5.length]
    exact (hp ds G Qd Ed h6).1
  · obtain ⟨t, a1, a2⟩ := (hb cdv (by rw [ec, e2]) A outer s H E hr).ex
    obtain ⟨dr, B, G, ds, Qd, Ed, h1, h2, h3, h4, h5, h6, h7, h8⟩ := h
    have env := startL_env (N := N) (W := ⟨K, mg, T⟩) h1 h2 h3 h4 h5
    refine ⟨t, a1, a2 ⟨dr, H, B, []⟩ B Ed _ G _ H ⟨fun _ G => Qd .non G, Qd, noEnd, noEnd⟩ _ (fun er G cls d H' po he hh => h8 er G cls d H' hh po he) ⟨fun A L G σ H' e h => h7 _ _ _ _ h e.out (by rw [Den]), fun _ _ _ _ _ _ h => h.elim, fun _ _ _ _ _ _ h => h.elim, fun d v G H' po dd h => h7 d G v H' h po dd⟩ env (hp ds G Qd Ed h6).2⟩
/-- a def with a promise over the heap -/
structure CalS (P : Program) (w : World) (K : PySem.W.Frag) (mg : Str → Option Value) (base : Heap) (k : Nat) (x : Str) (ps : List Str) (sp : Sp) : Prop where
  ex : ∃ (f : Addr) (fd : FuncData), PySem.W.keepIn K (.ref f) = true ∧ mg x = some (.ref f) ∧ Binds K fd ps [] ∧ FnOk P w K mg base (L2.CX P w) k f fd ps sp
theorem ps_first {X : Cx} {E : XK} {k kr : Nat} {p1 p2 p3 p4 p5 : Pos} (C : CalS X.prog X.w X.K X.mg X.base k "_law_begun" ["script"] (spBegun X.K)) (hr : Room kr X.A) (hk : k ≤ kr) (hx : Passes (CXe X) X E) (hN : X.N.Nodup) (h0 : X.N[0]? = some ("script" : Str)) (v0 : Vis X.env.scope "script") (h1 : X.N[1]? = some ("draw" : Str)) (l1 : L2.Loc X.env.scope "draw")
    (hg : Gl X "_law_begun" := by rfl) (hs : swapsWith (.Call (.Name "_law_begun" p2) [.Name "script" p3] [] p4) (some (.Name "draw" p1)) p5.line X.env = pure false := by rfl) (hf : X.fn "draw" = true ∨ X.env.scope.names.lookup ("draw" : Str) = some .local := by first | exact .inl rfl | exact .inr rfl)
    (he : starEach (.Name "script" p3 :: []) X.env = (false, eval (.Name "script" p3) X.env) :: starEach [] X.env := by rfl) (hpl : (backTo p4 (starEach [] X.env)).any (·.1) = false := by rfl) :
    PS X (.Assign [.Name "draw" p1] (.Call (.Name "_law_begun" p2) [.Name "script" p3] [] p4) p5) (t_first X.K E) := by
  obtain ⟨f, fd, kp, gm, hb, ok⟩ := C.ex
  exact ps_set hN h1 l1 (pe_call ok (hr.mono hk) hg gm kp hb .nil hx (pa_cons (pe_var h0 v0) pa_nil he) (by decide) he hpl) hs hf
end VL
set_option Elab.async false
set_option autoImplicit false
set_option linter.all false
set_option maxRecDepth 100000
set_option maxHeartbeats 2000000
namespace SP
open PySem PySem.Spec PyProof.Rows L2 VL
/-! ### proofs at the value layer -/
local macro_rules | `(tactic| walk_at "v") => `(tactic| simp only [vSeq, vNext, vVar, vPk, vC, vOp, vB, vSet, vPar, vApp, vShare, vRet, vRetN, vDrop, vIfS, vSetIx, ownLst, setL, setAll, slotN, xN, xNil, nE, nF, eN, nOp, nSl, nRev, nIf, vNo, vPart, vNil, vCons, vTup, vLst, vCall, vDef, vNeg, vChain, vAnd, vOr, vNot, vAndT, vOrT, vNotT, vIf, vRaise, vBrk, vCnt, vUnp, vgName, vgNil, vgCons, vgTup, vqVar, vqVal, viRng1, viRng2, viRng3, viEnum, vYes, lockL, lock1, unlL, unl1, wipeV, vComp, vFor, vTru, vIsTy, vOwn, vExt, vPop, vDrwW, vDrwC, vDrwN, vPutW, vPutN, vDct, vpNil, vpCons, vDGet, vDGet2, vDIn, dAdd, dSub, dMul, dMod, dDiv, dPow, dCmp, dLt, dLe, dGt, dGe, dAddN, dMulN, dIx, dLen, dInt, dTupOf, dLstOf, dMax2, dMin2, seqD, List.set_cons_zero, List.set_cons_succ, List.getElem?_cons_zero, List.getElem?_cons_succ, List.getElem?_nil, List.set_nil])
abbrev ends0 (Qd : D → Gs → Prop) : VEnds := ⟨fun _ G => Qd .non G, Qd, noEnd, noEnd⟩
theorem vWhile_ind {t : VT} {body : VS} {Ev : EK} {D : VEnds} {L : Lo} {G : Gs} (I : Nat → Lo → Gs → Prop) {n : Nat} (h0 : I n L G) (hs : ∀ n L G, I n L G → t Ev L G fun b G1 => match b with
  | true => body Ev ⟨fun L G => ∃ m, m < n ∧ I m L G, D.rt, D.nx, fun L G => ∃ m, m < n ∧ I m L G⟩ L G1
  | false => D.nx L G1) : vWhile t body Ev D L G := ⟨I, ⟨n, h0⟩, hs⟩
/-! ### equality of plain values -/
mutual
/-- no part is a dict, a def, an error, the draws -/
def plainD : D → Bool
  | .non => true
  | .bl _ => true
  | .int _ => true
  | .str x => PyData.strOk x
  | .tup ds => plainL ds
  | .lst ds => plainL ds
  | _ => false
def plainL : List D → Bool
  | [] => true
  | d :: ds => plainD d && plainL ds
end
mutual
def depD : D → Nat
  | .tup ds => depL ds + 1
  | .lst ds => depL ds + 1
  | _ => 0
def depL : List D → Nat
  | [] => 0
  | d :: ds => max (depD d) (depL ds)
end
mutual
theorem py_of : ∀ d : D, plainD d = true → ∃ p, toPy d = some p ∧ p.canLay0 = true ∧ p.depth ≤ depD d
  | .non, _ => ⟨.none, rfl, rfl, by simp [PyData.depth, depD]⟩
  | .bl b, _ => ⟨.bool b, rfl, rfl, by simp [PyData.depth, depD]⟩
  | .int i, _ => ⟨.int i, rfl, rfl, by simp [PyData.depth, depD]⟩
  | .str x, h => ⟨.str x, rfl, h, by simp [PyData.depth, depD]⟩
  | .tup ds, h => by
    obtain ⟨ps, e1, e2, e3⟩ := pyL_of ds (by rw [plainD] at h; exact h)
    exact ⟨.tuple ps, by rw [toPy, e1]; rfl, by rw [PyData.canLay0]; exact e2, by rw [PyData.depth, depD]; omega⟩
  | .lst ds, h => by
    obtain ⟨ps, e1, e2, e3⟩ := pyL_of ds (by rw [plainD] at h; exact h)
    exact ⟨.list ps, by rw [toPy, e1]; rfl, by rw [PyData.canLay0]; exact e2, by rw [PyData.depth, depD]; omega⟩
  | .dct _ _, h => by
    simp [plainD] at h
  | .fn _, h => by
    simp [plainD] at h
  | .draw, h => by
    simp [plainD] at h
  | .scr _, h => by
    simp [plainD] at h
  | .exc _, h => by
    simp [plainD] at h
theorem pyL_of : ∀ ds : List D, plainL ds = true → ∃ ps, toPyL ds = some ps ∧ PyData.canLayAll0 ps = true ∧ PyData.depthAll ps ≤ depL ds
  | [], _ => ⟨[], rfl, rfl, Nat.le_refl _⟩
  | d :: ds, h => by
    rw [plainL] at h
    obtain ⟨h1, h2⟩ := Bool.and_eq_true_iff.mp h
    obtain ⟨p, e1, e2, e3⟩ := py_of d h1
    obtain ⟨ps, f1, f2, f3⟩ := pyL_of ds h2
    refine ⟨p :: ps, by rw [toPyL, e1, f1], by rw [PyData.canLayAll0, e2, f2]; rfl, ?_⟩
    rw [PyData.depthAll, depL]
    omega
end
/-- it may be compared -/
def Good (d : D) : Prop := plainD d = true ∧ depD d ≤ 64
theorem Good.eqD {d : D} (h : Good d) : EqD d d true := by
  obtain ⟨p, e1, e2, e3⟩ := py_of d h.1
  have h2 := h.2
  have sh : PySem.SeqAt.shaped p = true := Bool.and_eq_true_iff.mpr ⟨e2, decide_eq_true (by omega)⟩
  exact ⟨p, p, e1, e1, sh, sh, PySem.SeqAt.eqv_refl p e2⟩
theorem dEq_self {d : D} {k : D → Prop} (h : Good d) (q : k (.bl true)) : dEq d d k := by
  cases d with
  | int i =>
    show k (.bl (decide (i = i)))
    rw [decide_eq_true rfl]
    exact q
  | str i =>
    show k (.bl (decide (i = i)))
    rw [decide_eq_true rfl]
    exact q
  | _ => exact ⟨true, h.eqD, q⟩
abbrev rowD (l : List Int) : D := .tup (l.map .int)
theorem pyL_ints : ∀ l : List Int, toPyL (l.map D.int) = some (l.map PyData.int)
  | [] => rfl
  | n :: l => by rw [List.map_cons, toPyL, pyL_ints l]; rfl
theorem can_ints : ∀ l : List Int, PyData.canLayAll0 (l.map PyData.int) = true ∧ PyData.depthAll (l.map PyData.int) = 0
  | [] => ⟨rfl, rfl⟩
  | n :: l => by
    obtain ⟨h1, h2⟩ := can_ints l
    rw [List.map_cons, PyData.canLayAll0, PyData.depthAll, h1, h2]
    exact ⟨rfl, rfl⟩
theorem eqv_ints : ∀ a b : List Int, PyData.eqvAll (a.map PyData.int) (b.map PyData.int) = decide (a = b)
  | [], [] => rfl
  | [], _ :: _ => rfl
  | _ :: _, [] => rfl
  | x :: a, y :: b => by
    rw [List.map_cons, List.map_cons, PyData.eqvAll, eqv_ints a b, PyData.eqv]
    by_cases h : x = y
    · by_cases h2 : a = b
      · simp [h, h2]
      · simp [h, h2]
    · simp [h]
theorem shaped_row (l : List Int) : PySem.SeqAt.shaped (.tuple (l.map PyData.int)) = true := by
  unfold PySem.SeqAt.shaped
  rw [PyData.canLay0, PyData.depth, (can_ints l).1, (can_ints l).2]
  rfl
/-- rows compared -/
theorem dEq_row {a b : List Int} {k : D → Prop} (q : k (.bl (decide (a = b)))) : dEq (rowD a) (rowD b) k := by
  refine ⟨decide (a = b), ⟨.tuple (a.map PyData.int), .tuple (b.map PyData.int), ?_, ?_, shaped_row a, shaped_row b, ?_⟩, q⟩
  · rw [toPy, pyL_ints]; rfl
  · rw [toPy, pyL_ints]; rfl
  · rw [PyData.eqv]
    exact eqv_ints a b
theorem dNe_row {a b : List Int} {k : D → Prop} (q : k (.bl (!decide (a = b)))) : dNe (rowD a) (rowD b) k := by
  refine ⟨decide (a = b), ⟨.tuple (a.map PyData.int), .tuple (b.map PyData.int), ?_, ?_, shaped_row a, shaped_row b, ?_⟩, q⟩
  · rw [toPy, pyL_ints]; rfl
  · rw [toPy, pyL_ints]; rfl
  · rw [PyData.eqv]
    exact eqv_ints a b
end SP
set_option Elab.async false
set_option autoImplicit false
set_option linter.all false
set_option maxRecDepth 100000
set_option maxHeartbeats 2000000
namespace SP
open PySem PySem.Spec PyProof.Rows L2 VL
local macro_rules | `(tactic| walk_at "v") => `(tactic| simp only [vSeq, vNext, vVar, vPk, vC, vOp, vB, vSet, vPar, vApp, vShare, vRet, vRetN, vDrop, vIfS, vSetIx, ownLst, setL, setAll, slotN, xN, xNil, nE, nF, eN, nOp, nSl, nRev, nIf, vNo, vPart, vNil, vCons, vTup, vLst, vCall, vDef, vNeg, vChain, vAnd, vOr, vNot, vAndT, vOrT, vNotT, vIf, vRaise, vBrk, vCnt, vUnp, vgName, vgNil, vgCons, vgTup, vqVar, vqVal, viRng1, viRng2, viRng3, viEnum, vYes, lockL, lock1, unlL, unl1, wipeV, vComp, vFor, vTru, vIsTy, vOwn, vExt, vPop, vDrwW, vDrwC, vDrwN, vPutW, vPutN, vDct, vpNil, vpCons, vDGet, vDGet2, vDIn, dAdd, dSub, dMul, dMod, dDiv, dPow, dCmp, dLt, dLe, dGt, dGe, dAddN, dMulN, dIx, dLen, dInt, dTupOf, dLstOf, dMax2, dMin2, seqD, List.set_cons_zero, List.set_cons_succ, List.getElem?_cons_zero, List.getElem?_cons_succ, List.getElem?_nil, List.set_nil])
/-! ### values that a parameter may get -/
def isInt : D → Bool
  | .int _ => true
  | _ => false
def s_is_whole : SpD := fun ds G Q _ => ∃ d t, ds = [d] ∧ tyOfD d = some t ∧ Q (.bl (isInt d)) G
def p_is_whole : VS := (vRet (vAnd (vIsTy "int" (vPk 0)) (vNot (vIsTy "bool" (vPk 0)))))
theorem v_is_whole (ds : List D) (G : Gs) (Qd : D → Gs → Prop) (Ed : EK) (h : s_is_whole ds G Qd Ed) : ds.length = 1 ∧ p_is_whole Ed (ends0 Qd) (startL ["thing"] ds) G := by
  obtain ⟨d, t, rfl, ht, q⟩ := h
  refine ⟨rfl, ?_⟩
  show p_is_whole Ed (ends0 Qd) [.val d] G
  unfold p_is_whole
  walk_at "v"
  rw [ht]
  cases d <;> cases ht <;> exact q
def inR (lo hi : Int) : D → Bool
  | .int i => decide (lo ≤ i) && decide (i ≤ hi)
  | _ => false
def s_is_within : SpD := fun ds G Q _ => ∃ d t lo hi, ds = [d, .int lo, .int hi] ∧ tyOfD d = some t ∧ Q (.bl (inR lo hi d)) G
def p_is_within : VS := (vRet (vAnd (vDef s_is_whole (vCons (vVar 0) vNil)) (vChain dLe dLe (vPk 1) (vPk 0) (vPk 2))))
theorem v_is_within (ds : List D) (G : Gs) (Qd : D → Gs → Prop) (Ed : EK) (h : s_is_within ds G Qd Ed) : ds.length = 3 ∧ p_is_within Ed (ends0 Qd) (startL ["thing", "low", "high"] ds) G := by
  obtain ⟨d, t, lo, hi, rfl, ht, q⟩ := h
  refine ⟨rfl, ?_⟩
  show p_is_within Ed (ends0 Qd) [.val d, .val (.int lo), .val (.int hi)] G
  unfold p_is_within
  walk_at "v"
  refine ⟨d, t, rfl, ht, ?_⟩
  cases d with
  | int i =>
    have q : Qd (.bl (decide (lo ≤ i) && decide (i ≤ hi))) G := q
    show (match D.bl (decide (lo ≤ i)) with
      | .bl true => Qd (.bl (decide (i ≤ hi))) G
      | .bl false => Qd (.bl false) G
      | _ => False)
    by_cases h : lo ≤ i
    · rw [decide_eq_true h]
      rw [decide_eq_true h, Bool.true_and] at q
      exact q
    · rw [decide_eq_false h]
      rw [decide_eq_false h, Bool.false_and] at q
      exact q
  | _ => exact q
/-! ### the bases -/
def IsBase (b : Nat) : Prop := b = 2 ∨ b = 3 ∨ b = 5
def baseOk : D → Bool
  | .int i => decide (i = 2 ∨ i = 3 ∨ i = 5)
  | _ => false
def s_need_base : SpD := fun ds G Q E => ∃ d t, ds = [d] ∧ tyOfD d = some t ∧ (baseOk d = true → Q .non G) ∧ (baseOk d = false → E ⟨"BadBase", none⟩ G)
def p_need_base : VS := (vIfS (vOrT (vNotT (vB (vDef s_is_whole (vCons (vVar 0) vNil)))) (vB (vOp (dIn true) (vPk 0) (vC (.tup [.int 2, .int 3, .int 5]))))) (vRaise ⟨"BadBase", none⟩) vNext)
theorem v_need_base (ds : List D) (G : Gs) (Qd : D → Gs → Prop) (Ed : EK) (h : s_need_base ds G Qd Ed) : ds.length = 1 ∧ p_need_base Ed (ends0 Qd) (startL ["base"] ds) G := by
  obtain ⟨d, t, rfl, ht, q1, q2⟩ := h
  refine ⟨rfl, ?_⟩
  show p_need_base Ed (ends0 Qd) [.val d] G
  unfold p_need_base
  walk_at "v"
  refine ⟨d, t, rfl, ht, ?_⟩
  cases d with
  | int i =>
    refine ⟨_, ⟨[2, 3, 5], rfl, rfl⟩, ?_⟩
    by_cases h : i = 2 ∨ i = 3 ∨ i = 5
    · have e : decide (i ∈ ([2, 3, 5] : List Int)) = true := decide_eq_true (by simpa using h)
      rw [e]
      exact q1 (decide_eq_true h)
    · have e : decide (i ∈ ([2, 3, 5] : List Int)) = false := decide_eq_false (by simpa using h)
      rw [e]
      exact q2 (decide_eq_false h)
  | _ => exact q2 rfl
/-! ### parameters -/
def badOf (w : Str) : Str := if w = "one" then "BadOne" else if w = "other" then "BadOther" else if w = "start" then "BadStart" else if w = "index" then "BadIndex" else if w = "modulus" then "BadModulus" else "BadNumber"
def s_need_as : SpD := fun ds G Q E => ∃ d t w lo, ds = [d, .str w, .int lo] ∧ tyOfD d = some t ∧ (inR lo 1000000 d = true → Q .non G) ∧ (inR lo 1000000 d = false → E ⟨badOf w, none⟩ G)
def p_need_as : VS := (vSeq (vIfS (vB (vDef s_is_within (vCons (vVar 0) (vCons (vVar 2) (vCons (vC (.int 1000000)) vNil))))) vRetN vNext) (vSeq (vIfS (vB (vOp dEq (vPk 1) (vC (.str "one")))) (vRaise ⟨"BadOne", none⟩) vNext) (vSeq (vIfS (vB (vOp dEq (vPk 1) (vC (.str "other")))) (vRaise ⟨"BadOther", none⟩) vNext) (vSeq (vIfS (vB (vOp dEq (vPk 1) (vC (.str "start")))) (vRaise ⟨"BadStart", none⟩) vNext) (vSeq (vIfS (vB (vOp dEq (vPk 1) (vC (.str "index")))) (vRaise ⟨"BadIndex", none⟩) vNext) (vSeq (vIfS (vB (vOp dEq (vPk 1) (vC (.str "modulus")))) (vRaise ⟨"BadModulus", none⟩) vNext) (vRaise ⟨"BadNumber", none⟩)))))))
theorem v_need_as (ds : List D) (G : Gs) (Qd : D → Gs → Prop) (Ed : EK) (h : s_need_as ds G Qd Ed) : ds.length = 3 ∧ p_need_as Ed (ends0 Qd) (startL ["thing", "which", "low"] ds) G := by
  obtain ⟨d, t, w, lo, rfl, ht, q1, q2⟩ := h
  refine ⟨rfl, ?_⟩
  show p_need_as Ed (ends0 Qd) [.val d, .val (.str w), .val (.int lo)] G
  unfold p_need_as
  walk_at "v"
  refine ⟨d, t, lo, 1000000, rfl, ht, ?_⟩
  cases hb : inR lo 1000000 d with
  | true => exact q1 hb
  | false =>
    have q2 := q2 hb
    show (match decide (w = "one") with
      | true => Ed ⟨"BadOne", none⟩ G
      | false => (match decide (w = "other") with
        | true => Ed ⟨"BadOther", none⟩ G
        | false => (match decide (w = "start") with
          | true => Ed ⟨"BadStart", none⟩ G
          | false => (match decide (w = "index") with
            | true => Ed ⟨"BadIndex", none⟩ G
            | false => (match decide (w = "modulus") with
              | true => Ed ⟨"BadModulus", none⟩ G
              | false => Ed ⟨"BadNumber", none⟩ G)))))
    unfold badOf at q2
    by_cases h1 : w = "one"
    · rw [if_pos h1] at q2
      rw [decide_eq_true h1]
      exact q2
    · rw [if_neg h1] at q2
      rw [decide_eq_false h1]
      by_cases h1 : w = "other"
      · rw [if_pos h1] at q2
        rw [decide_eq_true h1]
        exact q2
      · rw [if_neg h1] at q2
        rw [decide_eq_false h1]
        by_cases h1 : w = "start"
        · rw [if_pos h1] at q2
          rw [decide_eq_true h1]
          exact q2
        · rw [if_neg h1] at q2
          rw [decide_eq_false h1]
          by_cases h1 : w = "index"
          · rw [if_pos h1] at q2
            rw [decide_eq_true h1]
            exact q2
          · rw [if_neg h1] at q2
            rw [decide_eq_false h1]
            by_cases h1 : w = "modulus"
            · rw [if_pos h1] at q2
              rw [decide_eq_true h1]
              exact q2
            · rw [if_neg h1] at q2
              rw [decide_eq_false h1]
              exact q2
end SP
set_option Elab.async false
set_option autoImplicit false
set_option linter.all false
set_option maxRecDepth 100000
set_option maxHeartbeats 2000000
namespace SP
open PySem PySem.Spec PyProof.Rows L2 VL
local macro_rules | `(tactic| walk_at "v") => `(tactic| simp only [vSeq, vNext, vVar, vPk, vC, vOp, vB, vSet, vPar, vApp, vShare, vRet, vRetN, vDrop, vIfS, vSetIx, ownLst, setL, setAll, slotN, xN, xNil, nE, nF, eN, nOp, nSl, nRev, nIf, vNo, vPart, vNil, vCons, vTup, vLst, vCall, vDef, vNeg, vChain, vAnd, vOr, vNot, vAndT, vOrT, vNotT, vIf, vRaise, vBrk, vCnt, vUnp, vgName, vgNil, vgCons, vgTup, vqVar, vqVal, viRng1, viRng2, viRng3, viEnum, vYes, lockL, lock1, unlL, unl1, wipeV, vComp, vFor, vTru, vIsTy, vOwn, vExt, vPop, vDrwW, vDrwC, vDrwN, vPutW, vPutN, vDct, vpNil, vpCons, vDGet, vDGet2, vDIn, dAdd, dSub, dMul, dMod, dDiv, dPow, dCmp, dLt, dLe, dGt, dGe, dAddN, dMulN, dIx, dLen, dInt, dTupOf, dLstOf, dMax2, dMin2, seqD, List.set_cons_zero, List.set_cons_succ, List.getElem?_cons_zero, List.getElem?_cons_succ, List.getElem?_nil, List.set_nil])
/-! ### numbers and rows of figures -/
def digs (b n : Nat) : List Nat := if h : n = 0 ∨ b < 2 then [] else (n % b) :: digs b (n / b)
  termination_by n
  decreasing_by exact Nat.div_lt_self (by omega) (by omega)
theorem digs_zero (b : Nat) : digs b 0 = [] := by
  rw [digs]
  simp
theorem digs_pos {b n : Nat} (hb : 2 ≤ b) (hn : 0 < n) : digs b n = (n % b) :: digs b (n / b) := by
  rw [digs, dif_neg (by omega)]
def valN (b : Nat) : List Nat → Nat
  | [] => 0
  | a :: l => a + b * valN b l
theorem valN_digs {b : Nat} (hb : 2 ≤ b) : ∀ n : Nat, valN b (digs b n) = n := fun n => by
  induction n using Nat.strongRecOn with
  | _ n ih =>
    by_cases h : n = 0
    · rw [h, digs_zero, valN]
    · rw [digs_pos hb (by omega), valN, ih (n / b) (Nat.div_lt_self (by omega) (by omega)), Nat.mod_add_div]
abbrev cR (l : List Nat) : List Int := l.map fun n : Nat => (n : Int)
abbrev iL (l : List Int) : List D := l.map D.int
theorem lineN_big : (1000000 : Nat) < lineN := by decide
def s_row_of : SpD := fun ds G Q _ => ∃ b n : Nat, ds = [.int b, .int n] ∧ 2 ≤ b ∧ b.log2 < 9000 ∧ (digs b n).length ≤ 1000000 ∧ Q (rowD (cR (digs b n))) G
def p_row_of : VS := (vSeq (vPar [2, 3] (xN (nF (vLst vNil)) (xN (nE (vVar 1)) xNil))) (vSeq (vWhile (vB (vOp dGt (vPk 3) (vC (.int 0)))) (vSeq (vApp 2 (vOp dMod (vPk 3) (vPk 0))) (vSet 3 (nE (vOp dDiv (vPk 3) (vPk 0)))))) (vRet (vCall dTupOf (vCons (vPk 2) vNil)))))
theorem v_row_of (ds : List D) (G : Gs) (Qd : D → Gs → Prop) (Ed : EK) (h : s_row_of ds G Qd Ed) : ds.length = 2 ∧ p_row_of Ed (ends0 Qd) (startL ["base", "number", "found", "left"] ds) G := by
  obtain ⟨b, n, rfl, hb, hlog, hlen, q⟩ := h
  refine ⟨rfl, ?_⟩
  show p_row_of Ed (ends0 Qd) [.val (.int b), .val (.int n), .no, .no] G
  unfold p_row_of
  walk_at "v"
  refine ⟨Nat.zero_le _, vWhile_ind (n := n) (fun k L G' => ∃ (acc : List Nat) (m : Nat), L = [.val (.int b), .val (.int n), .own (.lst (iL (cR acc))), .val (.int m)] ∧ k = m ∧ G' = G ∧ acc ++ digs b m = digs b n) ⟨[], n, rfl, rfl, rfl, rfl⟩ ?_⟩
  rintro k L G' ⟨acc, m, rfl, rfl, rfl, hd⟩
  walk_at "v"
  by_cases hm : (0 : Int) < (k : Int)
  · rw [decide_eq_true hm]
    have hm' : 0 < k := by omega
    rw [digs_pos hb hm'] at hd
    have hl : acc.length < lineN := by
      have := congrArg List.length hd
      rw [List.length_append, List.length_cons] at this
      have := lineN_big
      omega
    refine ⟨by omega, by simpa using hl, ⟨by omega, by simpa using hlog⟩, k / b, Nat.div_lt_self hm' (by omega), acc ++ [k % b], k / b, ?_, rfl, trivial, ?_⟩
    · simp
    · rw [List.append_assoc]
      exact hd
  · rw [decide_eq_false hm]
    have hm' : k = 0 := by omega
    rw [hm', digs_zero, List.append_nil] at hd
    rw [hd]
    exact q
def valI (b : Int) : List Int → Int
  | [] => 0
  | a :: l => a + b * valI b l
theorem valI_cast (b : Nat) : ∀ l : List Nat, valI b (cR l) = (valN b l : Nat)
  | [] => rfl
  | a :: l => by
    rw [cR, List.map_cons, valI, valN, show valI (b : Int) (l.map fun n : Nat => (n : Int)) = _ from valI_cast b l]
    simp
/-- a slot that holds a value, or nothing -/
def optS : Option D → Slot
  | none => .no
  | some d => .val d
theorem mul_small {i j : Int} (h : j.natAbs < 2 ^ 64) : IntMulOk i j := IntMulOk.of_right (intBits_le_iff.mpr h)
theorem mul_smallL {i j : Int} (h : i.natAbs < 2 ^ 64) : IntMulOk i j := IntMulOk.of_left (intBits_le_iff.mpr h)
/-- both number_by and the law's own -/
def s_worth : SpD := fun ds G Q _ => ∃ (b : Int) (l : List Int), ds = [.int b, rowD l] ∧ b.natAbs < 2 ^ 64 ∧ Q (.int (valI b l)) G
def p_worth : VS := (vSeq (vSet 2 (nE (vC (.int 0)))) (vSeq (vFor (vqVal (eN (nRev (vPk 1)))) (vgName 3) (vSet 2 (nOp dAddN (eN (nOp dMulN (vPk 2) (vPk 0))) (vPk 3)))) (vRet (vVar 2))))
theorem v_worth (ds : List D) (G : Gs) (Qd : D → Gs → Prop) (Ed : EK) (h : s_worth ds G Qd Ed) : ds.length = 2 ∧ p_worth Ed (ends0 Qd) (startL ["base", "row", "found", "figure"] ds) G := by
  obtain ⟨b, l, rfl, hb, q⟩ := h
  refine ⟨rfl, ?_⟩
  show p_worth Ed (ends0 Qd) [.val (.int b), .val (rowD l), .no, .no] G
  unfold p_worth
  walk_at "v"
  refine forV_ind (fun rem L G' => ∃ (k s : List Int) (x : Option D), l = k ++ s ∧ rem = (iL k).reverse ∧ L = [.val (.int b), .val (rowD l), .val (.int (valI b s)), optS x] ∧ G' = G) ⟨l, [], none, by simp, rfl, rfl, rfl⟩ ?_ ?_
  · rintro L G' ⟨k, s, x, hl, hr, rfl, rfl⟩
    have hk : k = [] := by simpa using hr.symm
    subst hk
    rw [List.nil_append] at hl
    subst hl
    walk_at "v"
    exact q
  · rintro d ds L G' N ⟨k, s, x, hl, hr, rfl, rfl⟩ hN
    rcases List.eq_nil_or_concat k with rfl | ⟨k', a, rfl⟩
    · simp at hr
    · rw [List.concat_eq_append, iL, List.map_append, List.reverse_append] at hr
      injection hr with e1 e2
      subst e1
      have hN := hN [.val (.int b), .val (rowD l), .val (.int (valI b (a :: s))), .val (.int a)] G' ⟨k', a :: s, some (.int a), by rw [hl]; simp, e2, rfl, rfl⟩
      have e : valI b s * b + a = valI b (a :: s) := by rw [valI, Int.mul_comm, Int.add_comm]
      cases x with
      | none =>
        simp only [optS]
        walk_at "v"
        rw [e]
        exact ⟨mul_small hb, hN⟩
      | some d =>
        simp only [optS]
        walk_at "v"
        rw [e]
        exact ⟨mul_small hb, hN⟩
end SP
set_option Elab.async false
set_option autoImplicit false
set_option linter.all false
set_option maxRecDepth 100000
set_option maxHeartbeats 2000000
namespace SP
open PySem PySem.Spec PyProof.Rows L2 VL
local macro_rules | `(tactic| walk_at "v") => `(tactic| simp only [vSeq, vNext, vVar, vPk, vC, vOp, vB, vSet, vPar, vApp, vShare, vRet, vRetN, vDrop, vIfS, vSetIx, ownLst, setL, setAll, slotN, xN, xNil, nE, nF, eN, nOp, nSl, nRev, nIf, vNo, vPart, vNil, vCons, vTup, vLst, vCall, vDef, vNeg, vChain, vAnd, vOr, vNot, vAndT, vOrT, vNotT, vIf, vRaise, vBrk, vCnt, vUnp, vgName, vgNil, vgCons, vgTup, vqVar, vqVal, viRng1, viRng2, viRng3, viEnum, vYes, lockL, lock1, unlL, unl1, wipeV, vComp, vFor, vTru, vIsTy, vOwn, vExt, vPop, vDrwW, vDrwC, vDrwN, vPutW, vPutN, vDct, vpNil, vpCons, vDGet, vDGet2, vDIn, dAdd, dSub, dMul, dMod, dDiv, dPow, dCmp, dLt, dLe, dGt, dGe, dAddN, dMulN, dIx, dLen, dInt, dTupOf, dLstOf, dMax2, dMin2, seqD, List.set_cons_zero, List.set_cons_succ, List.getElem?_cons_zero, List.getElem?_cons_succ, List.getElem?_nil, List.set_nil])
/-! ### noughts cut -/
def trimI : List Int → List Int
  | [] => []
  | a :: l => match trimI l with
    | [] => if a = 0 then [] else [a]
    | t :: ts => a :: t :: ts
theorem trimI_snoc0 : ∀ s : List Int, trimI (s ++ [0]) = trimI s
  | [] => by simp [trimI]
  | a :: s => by
    rw [List.cons_append, trimI, trimI_snoc0 s, trimI]
theorem trimI_snoc {a : Int} (h : a ≠ 0) : ∀ s : List Int, trimI (s ++ [a]) = s ++ [a]
  | [] => by simp [trimI, h]
  | b :: s => by
    rw [List.cons_append, trimI, trimI_snoc h s]
    cases s with
    | nil => rfl
    | cons c s => rfl
theorem atI_cast {α : Type} {ds : List α} {i : Nat} (h : i < ds.length) : atI ds (i : Int) = ds[i]? := by
  unfold atI ixN
  rw [if_pos (by omega), if_pos (by omega), Option.bind_some, Int.toNat_natCast]
theorem atI_last {α : Type} {s : List α} {a : α} : atI (s ++ [a]) (-1) = some a := by
  unfold atI ixN
  rw [if_neg (by omega), if_pos (by rw [List.length_append, List.length_singleton]; omega), Option.bind_some]
  have e : ((-1 : Int) + ((s ++ [a]).length : Nat)).toNat = s.length := by
    rw [List.length_append, List.length_singleton]
    omega
  rw [e, List.getElem?_append_right (Nat.le_refl _), Nat.sub_self]
  rfl
theorem cut_take (ds : List D) (k : Nat) (h : k ≤ ds.length) : VL.cutD ds none (some (k : Int)) = ds.take k := by
  unfold VL.cutD
  rw [HT.sIx_none, HT.sIx_nat, List.drop_zero, Nat.sub_zero, Nat.min_eq_left h]
def s_trim : SpD := fun ds G Q _ => ∃ (d : D) (l : List Int), ds = [d] ∧ (d = .lst (iL l) ∨ d = rowD l) ∧ Q (rowD (trimI l)) G
def p_trimmed : VS := (vSeq (vSet 1 (nE (vCall dLen (vCons (vPk 0) vNil)))) (vSeq (vWhile (vAndT (vB (vOp dGt (vPk 1) (vC (.int 0)))) (vB (vOp dEq (vOp dIx (vPk 0) (vOp dSub (vPk 1) (vC (.int 1)))) (vC (.int 0))))) (vSet 1 (nE (vOp dSub (vPk 1) (vC (.int 1)))))) (vRet (vCall dTupOf (vCons (eN (nSl (vPk 0) vNo (vPart (vPk 1)))) vNil)))))
theorem take_snoc {α : Type} {l : List α} {k : Nat} {a : α} (h : l[k]? = some a) : l.take (k + 1) = l.take k ++ [a] := by
  rw [List.take_add_one, h, Option.toList_some]
theorem iL_get {l : List Int} {i : Nat} {a : Int} (h : l[i]? = some a) : (iL l)[i]? = some (.int a) := by
  rw [iL, List.getElem?_map, h, Option.map_some]
/-- at the place behind the last figure that is no nought -/
theorem trim_at {l : List Int} {k : Nat} (h : trimI (l.take k) = trimI l) (hk : k ≤ l.length) : (k = 0 → trimI l = l.take k) ∧ (∀ m a, k = m + 1 → l[m]? = some a → (a = 0 → trimI (l.take m) = trimI l) ∧ (a ≠ 0 → trimI l = l.take k)) := by
  refine ⟨fun e => ?_, fun m a e ha => ⟨fun e0 => ?_, fun e0 => ?_⟩⟩
  · rw [← h, e, List.take_zero]
    rfl
  · rw [e, take_snoc ha, e0, trimI_snoc0] at h
    exact h
  · rw [← h, e, take_snoc ha, trimI_snoc e0]
theorem v_trimmed (ds : List D) (G : Gs) (Qd : D → Gs → Prop) (Ed : EK) (h : s_trim ds G Qd Ed) : ds.length = 1 ∧ p_trimmed Ed (ends0 Qd) (startL ["row", "many"] ds) G := by
  obtain ⟨d, l, rfl, hd, q⟩ := h
  refine ⟨rfl, ?_⟩
  show p_trimmed Ed (ends0 Qd) [.val d, .no] G
  unfold p_trimmed
  rcases hd with rfl | rfl
  · walk_at "v"
    refine vWhile_ind (n := l.length) (fun k L G' => k ≤ l.length ∧ L = [.val (.lst (iL l)), .val (.int (k : Int))] ∧ G' = G ∧ trimI (l.take k) = trimI l) ⟨Nat.le_refl _, by simp, rfl, by rw [List.take_length]⟩ ?_
    rintro k L G' ⟨hk, rfl, rfl, ht⟩
    walk_at "v"
    obtain ⟨t1, t2⟩ := trim_at ht hk
    cases k with
    | zero =>
      have e := t1 rfl
      rw [show decide ((0 : Int) < ((0 : Nat) : Int)) = false from rfl]
      show Qd (.tup (VL.cutD (iL l) none (some ((0 : Nat) : Int)))) G'
      rw [cut_take _ _ (Nat.zero_le _)]
      rw [e] at q
      exact q
    | succ m =>
      have hml : m < l.length := by omega
      obtain ⟨t3, t4⟩ := t2 m l[m] rfl (List.getElem?_eq_getElem hml)
      rw [decide_eq_true (show (0 : Int) < ((m + 1 : Nat) : Int) by omega)]
      refine ⟨.int l[m], ?_, ?_⟩
      · rw [show (((m + 1 : Nat) : Int) - 1) = ((m : Nat) : Int) by omega, atI_cast (by simpa using hml)]
        exact iL_get (List.getElem?_eq_getElem hml)
      · show (match decide (l[m] = 0) with
          | true => _
          | false => _)
        by_cases h0 : l[m] = 0
        · rw [decide_eq_true h0]
          exact ⟨m, by omega, by omega, by rw [show (((m + 1 : Nat) : Int) - 1) = ((m : Nat) : Int) by omega], trivial, t3 h0⟩
        · rw [decide_eq_false h0]
          show Qd (.tup (VL.cutD (iL l) none (some ((m + 1 : Nat) : Int)))) G'
          rw [cut_take _ _ (by rw [iL, List.length_map]; exact hml)]
          rw [t4 h0, rowD, List.map_take] at q
          exact q
  · walk_at "v"
    refine vWhile_ind (n := l.length) (fun k L G' => k ≤ l.length ∧ L = [.val (rowD l), .val (.int (k : Int))] ∧ G' = G ∧ trimI (l.take k) = trimI l) ⟨Nat.le_refl _, by simp, rfl, by rw [List.take_length]⟩ ?_
    rintro k L G' ⟨hk, rfl, rfl, ht⟩
    walk_at "v"
    obtain ⟨t1, t2⟩ := trim_at ht hk
    cases k with
    | zero =>
      have e := t1 rfl
      rw [show decide ((0 : Int) < ((0 : Nat) : Int)) = false from rfl]
      show Qd (.tup (VL.cutD (iL l) none (some ((0 : Nat) : Int)))) G'
      rw [cut_take _ _ (Nat.zero_le _)]
      rw [e] at q
      exact q
    | succ m =>
      have hml : m < l.length := by omega
      obtain ⟨t3, t4⟩ := t2 m l[m] rfl (List.getElem?_eq_getElem hml)
      rw [decide_eq_true (show (0 : Int) < ((m + 1 : Nat) : Int) by omega)]
      refine ⟨.int l[m], ?_, ?_⟩
      · rw [show (((m + 1 : Nat) : Int) - 1) = ((m : Nat) : Int) by omega, atI_cast (by simpa using hml)]
        exact iL_get (List.getElem?_eq_getElem hml)
      · show (match decide (l[m] = 0) with
          | true => _
          | false => _)
        by_cases h0 : l[m] = 0
        · rw [decide_eq_true h0]
          exact ⟨m, by omega, by omega, by rw [show (((m + 1 : Nat) : Int) - 1) = ((m : Nat) : Int) by omega], trivial, t3 h0⟩
        · rw [decide_eq_false h0]
          show Qd (.tup (VL.cutD (iL l) none (some ((m + 1 : Nat) : Int)))) G'
          rw [cut_take _ _ (by rw [iL, List.length_map]; exact hml)]
          rw [t4 h0, rowD, List.map_take] at q
          exact q

end SP
set_option Elab.async false
set_option autoImplicit false
set_option linter.all false
set_option maxRecDepth 100000
set_option maxHeartbeats 2000000
namespace SP
open PySem PySem.Spec PyProof.Rows L2 VL
local macro_rules | `(tactic| walk_at "v") => `(tactic| simp only [vSeq, vNext, vVar, vPk, vC, vOp, vB, vSet, vPar, vApp, vShare, vRet, vRetN, vDrop, vIfS, vSetIx, ownLst, setL, setAll, slotN, xN, xNil, nE, nF, eN, nOp, nSl, nRev, nIf, vNo, vPart, vNil, vCons, vTup, vLst, vCall, vDef, vNeg, vChain, vAnd, vOr, vNot, vAndT, vOrT, vNotT, vIf, vRaise, vBrk, vCnt, vUnp, vgName, vgNil, vgCons, vgTup, vqVar, vqVal, viRng1, viRng2, viRng3, viEnum, vYes, lockL, lock1, unlL, unl1, wipeV, vComp, vFor, vTru, vIsTy, vOwn, vExt, vPop, vDrwW, vDrwC, vDrwN, vPutW, vPutN, vDct, vpNil, vpCons, vDGet, vDGet2, vDIn, dAdd, dSub, dMul, dMod, dDiv, dPow, dCmp, dLt, dLe, dGt, dGe, dAddN, dMulN, dIx, dLen, dInt, dTupOf, dLstOf, dMax2, dMin2, seqD, List.set_cons_zero, List.set_cons_succ, List.getElem?_cons_zero, List.getElem?_cons_succ, List.getElem?_nil, List.set_nil])
/-! ### the law's own cut -/
theorem trim_le : ∀ l : List Int, (trimI l).length ≤ l.length
  | [] => Nat.le_refl _
  | a :: l => by
    have ih := trim_le l
    rw [trimI]
    split
    · split <;> simp
    · rename_i t ts e
      rw [e] at ih
      simp only [List.length_cons] at ih ⊢
      omega
def s__law_cut : SpD := fun ds G Q _ => ∃ (d : D) (l : List Int), ds = [d] ∧ (d = .lst (iL l) ∨ d = rowD l) ∧ l.length < 2 ^ 62 ∧ Q (rowD (trimI l)) G
def p__law_cut : VS := (vSeq (vSet 1 (nE (vCall dLen (vCons (vPk 0) vNil)))) (vSeq (vFor (viRng1 (vCons (vCall dLen (vCons (vPk 0) vNil)) vNil)) (vgName 2) (vIfS (vAndT (vB (vOp dGt (vPk 1) (vC (.int 0)))) (vB (vOp dEq (vOp dIx (vPk 0) (vOp dSub (vPk 1) (vC (.int 1)))) (vC (.int 0))))) (vSet 1 (nE (vOp dSub (vPk 1) (vC (.int 1))))) vNext)) (vRet (vCall dTupOf (vCons (eN (nSl (vPk 0) vNo (vPart (vPk 1)))) vNil)))))
theorem v__law_cut (ds : List D) (G : Gs) (Qd : D → Gs → Prop) (Ed : EK) (h : s__law_cut ds G Qd Ed) : ds.length = 1 ∧ p__law_cut Ed (ends0 Qd) (startL ["row", "many", "lap"] ds) G := by
  obtain ⟨d, l, rfl, hd, hlen, q⟩ := h
  refine ⟨rfl, ?_⟩
  show p__law_cut Ed (ends0 Qd) [.val d, .no, .no] G
  unfold p__law_cut
  rcases hd with rfl | rfl
  · walk_at "v"
    refine ⟨⟨by omega, by have h9 : l.length < 4611686018427387904 := hlen; simp; omega⟩, ?_⟩
    refine forV_ind (fun rem L G' => ∃ (k : Nat) (x : Option D), k ≤ l.length ∧ L = [.val (.lst (iL l)), .val (.int (k : Int)), optS x] ∧ G' = G ∧ trimI (l.take k) = trimI l ∧ (k ≤ rem.length ∨ trimI l = l.take k)) ⟨l.length, none, Nat.le_refl _, by simp [optS], rfl, by rw [List.take_length], .inl (by rw [rangeD_length]; simp)⟩ ?_ ?_
    · rintro L G' ⟨k, x, hk, rfl, rfl, ht, hr⟩
      have e : trimI l = l.take k := by
        rcases hr with z | z
        · exact (trim_at ht hk).1 (by simpa using z)
        · exact z
      have fin : Qd (.tup (VL.cutD (iL l) none (some (k : Int)))) G' := by
        rw [cut_take _ _ (by rw [iL, List.length_map]; exact hk)]
        rw [e, rowD, List.map_take] at q
        exact q
      cases x <;> (simp only [optS]; walk_at "v"; exact fin)
    · rintro d ds L G' N ⟨k, x, hk, rfl, rfl, ht, hr⟩ hN
      have go : setL [.val (.lst (iL l)), .val (.int (k : Int)), optS x] 2 (.val d) fun L1 => (vIfS (vAndT (vB (vOp dGt (vPk 1) (vC (.int 0)))) (vB (vOp dEq (vOp dIx (vPk 0) (vOp dSub (vPk 1) (vC (.int 1)))) (vC (.int 0))))) (vSet 1 (nE (vOp dSub (vPk 1) (vC (.int 1))))) vNext) Ed ⟨N, Qd, fun _ _ => False, N⟩ L1 G' := by
        have hN2 : ∀ k', k' ≤ l.length → trimI (l.take k') = trimI l → (k' ≤ ds.length ∨ trimI l = l.take k') → N [.val (.lst (iL l)), .val (.int (k' : Int)), .val d] G' := fun k' h1 h2 h3 => hN _ _ ⟨k', some d, h1, rfl, rfl, h2, h3⟩
        cases x <;> simp only [optS] <;> walk_at "v"
        all_goals
          obtain ⟨t1, t2⟩ := trim_at ht hk
          cases k with
          | zero =>
            rw [show decide ((0 : Int) < ((0 : Nat) : Int)) = false from rfl]
            exact hN2 0 (Nat.zero_le _) ht (.inr (t1 rfl))
          | succ m =>
            have hml : m < l.length := by omega
            obtain ⟨t3, t4⟩ := t2 m l[m] rfl (List.getElem?_eq_getElem hml)
            rw [decide_eq_true (show (0 : Int) < ((m + 1 : Nat) : Int) by omega)]
            refine ⟨.int l[m], ?_, ?_⟩
            · rw [show (((m + 1 : Nat) : Int) - 1) = ((m : Nat) : Int) by omega, atI_cast (by simpa using hml)]
              exact iL_get (List.getElem?_eq_getElem hml)
            · show (match decide (l[m] = 0) with
                | true => _
                | false => _)
              by_cases h0 : l[m] = 0
              · rw [decide_eq_true h0, show (((m + 1 : Nat) : Int) - 1) = ((m : Nat) : Int) by omega]
                refine hN2 m (by omega) (t3 h0) ?_
                rcases hr with z | z
                · rw [List.length_cons] at z
                  exact .inl (by omega)
                · refine .inr ?_
                  exfalso
                  have e1 := t3 h0
                  have l1 : (trimI (l.take m)).length ≤ m := Nat.le_trans (trim_le _) (by rw [List.length_take]; omega)
                  rw [e1, z, List.length_take] at l1
                  omega
              · rw [decide_eq_false h0]
                exact hN2 (m + 1) hk ht (.inr (t4 h0))
      exact go
  · walk_at "v"
    refine ⟨⟨by omega, by have h9 : l.length < 4611686018427387904 := hlen; simp; omega⟩, ?_⟩
    refine forV_ind (fun rem L G' => ∃ (k : Nat) (x : Option D), k ≤ l.length ∧ L = [.val (rowD l), .val (.int (k : Int)), optS x] ∧ G' = G ∧ trimI (l.take k) = trimI l ∧ (k ≤ rem.length ∨ trimI l = l.take k)) ⟨l.length, none, Nat.le_refl _, by simp [optS], rfl, by rw [List.take_length], .inl (by rw [rangeD_length]; simp)⟩ ?_ ?_
    · rintro L G' ⟨k, x, hk, rfl, rfl, ht, hr⟩
      have e : trimI l = l.take k := by
        rcases hr with z | z
        · exact (trim_at ht hk).1 (by simpa using z)
        · exact z
      have fin : Qd (.tup (VL.cutD (iL l) none (some (k : Int)))) G' := by
        rw [cut_take _ _ (by rw [iL, List.length_map]; exact hk)]
        rw [e, rowD, List.map_take] at q
        exact q
      cases x <;> (simp only [optS]; walk_at "v"; exact fin)
    · rintro d ds L G' N ⟨k, x, hk, rfl, rfl, ht, hr⟩ hN
      have go : setL [.val (rowD l), .val (.int (k : Int)), optS x] 2 (.val d) fun L1 => (vIfS (vAndT (vB (vOp dGt (vPk 1) (vC (.int 0)))) (vB (vOp dEq (vOp dIx (vPk 0) (vOp dSub (vPk 1) (vC (.int 1)))) (vC (.int 0))))) (vSet 1 (nE (vOp dSub (vPk 1) (vC (.int 1))))) vNext) Ed ⟨N, Qd, fun _ _ => False, N⟩ L1 G' := by
        have hN2 : ∀ k', k' ≤ l.length → trimI (l.take k') = trimI l → (k' ≤ ds.length ∨ trimI l = l.take k') → N [.val (rowD l), .val (.int (k' : Int)), .val d] G' := fun k' h1 h2 h3 => hN _ _ ⟨k', some d, h1, rfl, rfl, h2, h3⟩
        cases x <;> simp only [optS] <;> walk_at "v"
        all_goals
          obtain ⟨t1, t2⟩ := trim_at ht hk
          cases k with
          | zero =>
            rw [show decide ((0 : Int) < ((0 : Nat) : Int)) = false from rfl]
            exact hN2 0 (Nat.zero_le _) ht (.inr (t1 rfl))
          | succ m =>
            have hml : m < l.length := by omega
            obtain ⟨t3, t4⟩ := t2 m l[m] rfl (List.getElem?_eq_getElem hml)
            rw [decide_eq_true (show (0 : Int) < ((m + 1 : Nat) : Int) by omega)]
            refine ⟨.int l[m], ?_, ?_⟩
            · rw [show (((m + 1 : Nat) : Int) - 1) = ((m : Nat) : Int) by omega, atI_cast (by simpa using hml)]
              exact iL_get (List.getElem?_eq_getElem hml)
            · show (match decide (l[m] = 0) with
                | true => _
                | false => _)
              by_cases h0 : l[m] = 0
              · rw [decide_eq_true h0, show (((m + 1 : Nat) : Int) - 1) = ((m : Nat) : Int) by omega]
                refine hN2 m (by omega) (t3 h0) ?_
                rcases hr with z | z
                · rw [List.length_cons] at z
                  exact .inl (by omega)
                · refine .inr ?_
                  exfalso
                  have e1 := t3 h0
                  have l1 : (trimI (l.take m)).length ≤ m := Nat.le_trans (trim_le _) (by rw [List.length_take]; omega)
                  rw [e1, z, List.length_take] at l1
                  omega
              · rw [decide_eq_false h0]
                exact hN2 (m + 1) hk ht (.inr (t4 h0))
      exact go
end SP
set_option Elab.async false
set_option autoImplicit false
set_option linter.all false
set_option maxRecDepth 100000
set_option maxHeartbeats 2000000
namespace SP
open PySem PySem.Spec PyProof.Rows L2 VL
local macro_rules | `(tactic| walk_at "v") => `(tactic| simp only [vSeq, vNext, vVar, vPk, vC, vOp, vB, vSet, vPar, vApp, vShare, vRet, vRetN, vDrop, vIfS, vSetIx, ownLst, setL, setAll, slotN, xN, xNil, nE, nF, eN, nOp, nSl, nRev, nIf, vNo, vPart, vNil, vCons, vTup, vLst, vCall, vDef, vNeg, vChain, vAnd, vOr, vNot, vAndT, vOrT, vNotT, vIf, vRaise, vBrk, vCnt, vUnp, vgName, vgNil, vgCons, vgTup, vqVar, vqVal, viRng1, viRng2, viRng3, viEnum, vYes, lockL, lock1, unlL, unl1, wipeV, vComp, vFor, vTru, vIsTy, vOwn, vExt, vPop, vDrwW, vDrwC, vDrwN, vPutW, vPutN, vDct, vpNil, vpCons, vDGet, vDGet2, vDIn, dAdd, dSub, dMul, dMod, dDiv, dPow, dCmp, dLt, dLe, dGt, dGe, dAddN, dMulN, dIx, dLen, dInt, dTupOf, dLstOf, dMax2, dMin2, seqD, List.set_cons_zero, List.set_cons_succ, List.getElem?_cons_zero, List.getElem?_cons_succ, List.getElem?_nil, List.set_nil])
/-! ### the draws -/
def GOk (G : Gs) : Prop := G.cells.length ≤ 63
theorem pow61 : (2 : Int) ^ (61 : Int).toNat = 2305843009213693952 := by decide
theorem pow17 : (2 : Int) ^ (17 : Int).toNat = 131072 := by decide
def s__law_mixed : SpD := fun ds G Q _ => ds = [.draw] ∧ GOk G ∧ ∀ r : Int, 0 ≤ r → r < 4611686018427387904 → Q (.int r) { G with count := G.count + 1 }
def p__law_mixed : VS := (vSeq (vPutN (vVar 0) (eN (nOp dAddN (vDrwN (vVar 0)) (vC (.int 1))))) (vSeq (vSet 1 (nOp dAddN (vC (.int 1469598103934665603)) (eN (nOp dMulN (vC (.int 97)) (vDrwN (vVar 0)))))) (vSeq (vFor (vqVal (eN (nOp dAddN (vDrwC (vVar 0)) (vLst (vCons (vDrwN (vVar 0)) vNil))))) (vgName 2) (vSeq (vSet 1 (nE (vOp dMod (vCall dInt (vCons (eN (nOp dMulN (eN (nOp dAddN (vPk 1) (vPk 2))) (vC (.int 1099511628211)))) vNil)) (vOp dSub (vOp dPow (vC (.int 2)) (vC (.int 61))) (vC (.int 1)))))) (vSet 1 (nOp dAddN (vPk 1) (vOp dDiv (vPk 1) (vOp dPow (vC (.int 2)) (vC (.int 17)))))))) (vRet (vVar 1)))))
theorem v__law_mixed (ds : List D) (G : Gs) (Qd : D → Gs → Prop) (Ed : EK) (h : s__law_mixed ds G Qd Ed) : ds.length = 1 ∧ p__law_mixed Ed (ends0 Qd) (startL ["draw", "found", "cell"] ds) G := by
  obtain ⟨rfl, hG, q⟩ := h
  refine ⟨rfl, ?_⟩
  show p__law_mixed Ed (ends0 Qd) [.val .draw, .no, .no] G
  unfold p__law_mixed
  walk_at "v"
  refine ⟨mul_smallL (by decide), by show 1 ≤ lineN; decide, ?_, ?_⟩
  · rw [List.length_map, List.length_singleton]
    have : (63 : Nat) + 1 ≤ lineN := by decide
    have h9 : G.cells.length ≤ 63 := hG
    omega
  refine forV_ind (fun rem L G' => ∃ (k : List Int) (z : Int) (x : Option D), rem = iL k ∧ L = [.val .draw, .val (.int z), optS x] ∧ G' = { G with count := G.count + 1 } ∧ (k ≠ [] ∨ (0 ≤ z ∧ z < 4611686018427387904))) ⟨G.cells ++ [G.count + 1], _, none, by simp, rfl, rfl, .inl (by simp)⟩ ?_ ?_
  · rintro L G' ⟨k, z, x, hr, rfl, rfl, hz⟩
    have hk : k = [] := by simpa using hr.symm
    subst hk
    have hz' : 0 ≤ z ∧ z < 4611686018427387904 := hz.elim (fun h => (h rfl).elim) id
    cases x <;> (simp only [optS]; walk_at "v"; exact q z hz'.1 hz'.2)
  · rintro d ds L G' N ⟨k, z, x, hr, rfl, rfl, hz⟩ hN
    cases k with
    | nil => simp at hr
    | cons a k =>
      rw [iL, List.map_cons] at hr
      injection hr with e1 e2
      subst e1
      have hN2 : ∀ z', 0 ≤ z' → z' < 4611686018427387904 → N [.val .draw, .val (.int z'), .val (.int a)] { G with count := G.count + 1 } := fun z' h1 h2 => hN _ _ ⟨k, z', some (.int a), e2, rfl, rfl, .inr ⟨h1, h2⟩⟩
      cases x <;> simp only [optS] <;> walk_at "v"
      all_goals
        rw [pow61, pow17]
        refine ⟨mul_small (by decide), ⟨by decide, by decide, by decide⟩, by decide, ⟨by decide, by decide, by decide⟩, ⟨by decide, by decide⟩, ?_⟩
        generalize hy : (z + a) * 1099511628211 % (2305843009213693952 - 1) = y
        have h1 : 0 ≤ y := by rw [← hy]; exact Int.emod_nonneg _ (by decide)
        have h2 : y < 2305843009213693951 := by rw [← hy]; exact Int.emod_lt_of_pos _ (by decide)
        exact hN2 _ (by omega) (by omega)
def s__law_take : SpD := fun ds G Q _ => ∃ n : Int, ds = [.draw, .int n] ∧ n ≤ 1125899906842624 ∧ GOk G ∧ ∀ (r : Int) (G' : Gs), GOk G' → (n < 2 → r = 0) → (2 ≤ n → 0 ≤ r ∧ r < n) → Q (.int r) G'
def p__law_take : VS := (vSeq (vIfS (vB (vOp dLt (vPk 1) (vC (.int 2)))) (vRet (vC (.int 0))) vNext) (vSeq (vIfS (vB (vOp dGt (vDrwW (vVar 0)) (vC (.int 0)))) (vSeq (vSet 2 (nE (vOp dMod (vCall dInt (vCons (vDrwW (vVar 0)) vNil)) (vPk 1)))) (vSeq (vPutW (vVar 0) (vOp dDiv (vDrwW (vVar 0)) (vPk 1))) (vShare 2 (vRet (vVar 2))))) vNext) (vSeq (vSet 2 (nE (vDef s__law_mixed (vCons (vVar 0) vNil)))) (vSeq (vWhile (vAndT (vB (vOp dGt (vPk 1) (vOp dPow (vC (.int 2)) (vC (.int 50))))) (vB (vOp dLt (vPk 2) (eN (nOp dMulN (vPk 1) (vPk 1)))))) (vSet 2 (nOp dAddN (eN (nOp dMulN (vPk 2) (vOp dPow (vC (.int 2)) (vC (.int 61))))) (vDef s__law_mixed (vCons (vVar 0) vNil))))) (vRet (vOp dMod (vCall dInt (vCons (vOp dDiv (vPk 2) (vC (.int 1024))) vNil)) (vPk 1)))))))
theorem log2_small {i : Int} (h : i.natAbs < 2 ^ 64) : i.natAbs.log2 < 9000 := by
  by_cases e : i.natAbs = 0
  · rw [e]
    decide
  · have := (Nat.log2_lt e).mpr h
    omega
theorem v__law_take (ds : List D) (G : Gs) (Qd : D → Gs → Prop) (Ed : EK) (h : s__law_take ds G Qd Ed) : ds.length = 2 ∧ p__law_take Ed (ends0 Qd) (startL ["draw", "amount", "found"] ds) G := by
  obtain ⟨n, rfl, hn, hG, q⟩ := h
  refine ⟨rfl, ?_⟩
  show p__law_take Ed (ends0 Qd) [.val .draw, .val (.int n), .no] G
  unfold p__law_take
  walk_at "v"
  by_cases h2 : n < 2
  · rw [decide_eq_true h2]
    exact q 0 G hG (fun _ => rfl) fun z => by omega
  · rw [decide_eq_false h2]
    have hlog : n.natAbs.log2 < 9000 := log2_small (by omega)
    by_cases hw : (0 : Int) < G.whole
    · rw [decide_eq_true hw]
      refine ⟨by omega, ⟨by omega, hlog⟩, ?_⟩
      exact q _ _ hG (fun z => by omega) fun _ => ⟨Int.emod_nonneg _ (by omega), Int.emod_lt_of_pos _ (by omega)⟩
    · rw [decide_eq_false hw]
      refine ⟨rfl, hG, fun r h0 h1 => ?_⟩
      refine vWhile_ind (n := 0) (fun k L G' => L = [.val .draw, .val (.int n), .val (.int r)] ∧ G' = { G with count := G.count + 1 }) ⟨rfl, rfl⟩ ?_
      rintro k L G' ⟨rfl, rfl⟩
      walk_at "v"
      have e : decide ((2 : Int) ^ (50 : Int).toNat < n) = false := decide_eq_false (by rw [show (2 : Int) ^ (50 : Int).toNat = 1125899906842624 by decide]; omega)
      rw [e]
      refine ⟨⟨by decide, by decide, by decide⟩, ⟨by decide, by decide⟩, by omega, ?_⟩
      exact q _ _ hG (fun z => by omega) fun _ => ⟨Int.emod_nonneg _ (by omega), Int.emod_lt_of_pos _ (by omega)⟩
end SP
set_option Elab.async false
set_option autoImplicit false
set_option linter.all false
set_option maxRecDepth 100000
set_option maxHeartbeats 2000000
namespace SP
open PySem PySem.Spec PyProof.Rows L2 VL
local macro_rules | `(tactic| walk_at "v") => `(tactic| simp only [vSeq, vNext, vVar, vPk, vC, vOp, vB, vSet, vPar, vApp, vShare, vRet, vRetN, vDrop, vIfS, vSetIx, ownLst, setL, setAll, slotN, xN, xNil, nE, nF, eN, nOp, nSl, nRev, nIf, vNo, vPart, vNil, vCons, vTup, vLst, vCall, vDef, vNeg, vChain, vAnd, vOr, vNot, vAndT, vOrT, vNotT, vIf, vRaise, vBrk, vCnt, vUnp, vgName, vgNil, vgCons, vgTup, vqVar, vqVal, viRng1, viRng2, viRng3, viEnum, vYes, lockL, lock1, unlL, unl1, wipeV, vComp, vFor, vTru, vIsTy, vOwn, vExt, vPop, vDrwW, vDrwC, vDrwN, vPutW, vPutN, vDct, vpNil, vpCons, vDGet, vDGet2, vDIn, dAdd, dSub, dMul, dMod, dDiv, dPow, dCmp, dLt, dLe, dGt, dGe, dAddN, dMulN, dIx, dLen, dInt, dTupOf, dLstOf, dMax2, dMin2, seqD, List.set_cons_zero, List.set_cons_succ, List.getElem?_cons_zero, List.getElem?_cons_succ, List.getElem?_nil, List.set_nil])
def s__law_pick : SpD := fun ds G Q _ => ∃ items : List D, ds = [.draw, .lst items] ∧ items ≠ [] ∧ items.length ≤ 1125899906842624 ∧ GOk G ∧ ∀ d ∈ items, ∀ G', GOk G' → Q d G'
def p__law_pick : VS := (vRet (vOp dIx (vPk 1) (vDef s__law_take (vCons (vVar 0) (vCons (vCall dLen (vCons (vPk 1) vNil)) vNil)))))
theorem v__law_pick (ds : List D) (G : Gs) (Qd : D → Gs → Prop) (Ed : EK) (h : s__law_pick ds G Qd Ed) : ds.length = 2 ∧ p__law_pick Ed (ends0 Qd) (startL ["draw", "items"] ds) G := by
  obtain ⟨items, rfl, hne, hl, hG, q⟩ := h
  refine ⟨rfl, ?_⟩
  show p__law_pick Ed (ends0 Qd) [.val .draw, .val (.lst items)] G
  unfold p__law_pick
  walk_at "v"
  have hpos : 0 < items.length := List.length_pos_iff.mpr hne
  refine ⟨(items.length : Int), rfl, by omega, hG, fun r G' hG' h1 h2 => ?_⟩
  have hr : 0 ≤ r ∧ r < items.length := by
    by_cases h : (items.length : Int) < 2
    · rw [h1 h]
      omega
    · exact h2 (by omega)
  have er : r = ((r.toNat : Nat) : Int) := by omega
  have hi : r.toNat < items.length := by omega
  rw [er]
  refine ⟨items[r.toNat], ?_, q _ (List.getElem_mem hi) G' hG'⟩
  rw [atI_cast hi, List.getElem?_eq_getElem hi]
/-! ### kinds -/
mutual
/-- how many turns the worklist takes -/
def sizeD : D → Nat
  | .tup ds => sizeDs ds + 1
  | .lst ds => sizeDs ds + 1
  | _ => 1
def sizeDs : List D → Nat
  | [] => 0
  | d :: ds => sizeD d + sizeDs ds
end
/-- the word of one value -/
def kindW : D → Str
  | .non => "None"
  | .bl b => if b then "True" else "False"
  | .int _ => "number"
  | .str _ => "string"
  | .lst _ => "list"
  | .tup _ => "tuple"
  | _ => "other"
def partsD : D → List D
  | .lst ds => ds
  | .tup ds => ds
  | _ => []
/-- the worklist, n turns -/
def kindsF : Nat → List Str → List D → List Str
  | 0, acc, _ => acc
  | n + 1, acc, line => match line.getLast? with
    | none => acc
    | some d => kindsF n (acc ++ [kindW d]) (line.dropLast ++ partsD d)
def kindsD (d : D) : List Str := kindsF (sizeD d) [] [d]
theorem sizeDs_append : ∀ a b : List D, sizeDs (a ++ b) = sizeDs a + sizeDs b
  | [], b => by rw [List.nil_append, sizeDs, Nat.zero_add]
  | x :: a, b => by rw [List.cons_append, sizeDs, sizeDs, sizeDs_append a b, Nat.add_assoc]
theorem plainL_append : ∀ a b : List D, plainL (a ++ b) = (plainL a && plainL b)
  | [], b => by rw [List.nil_append, plainL, Bool.true_and]
  | x :: a, b => by rw [List.cons_append, plainL, plainL, plainL_append a b, Bool.and_assoc]
theorem sizeD_parts : ∀ d : D, sizeD d = sizeDs (partsD d) + 1
  | .tup ds => by rw [sizeD, partsD]
  | .lst ds => by rw [sizeD, partsD]
  | .non => rfl
  | .bl _ => rfl
  | .int _ => rfl
  | .str _ => rfl
  | .dct _ _ => rfl
  | .fn _ => rfl
  | .draw => rfl
  | .scr _ => rfl
  | .exc _ => rfl
theorem plain_parts : ∀ d : D, plainD d = true → plainL (partsD d) = true
  | .tup ds, h => by
    rw [plainD] at h
    exact h
  | .lst ds, h => by
    rw [plainD] at h
    exact h
  | .non, _ => rfl
  | .bl _, _ => rfl
  | .int _, _ => rfl
  | .str _, _ => rfl
  | .dct _ _, h => by simp [plainD] at h
  | .fn _, h => by simp [plainD] at h
  | .draw, h => by simp [plainD] at h
  | .scr _, h => by simp [plainD] at h
  | .exc _, h => by simp [plainD] at h
theorem len_size : ∀ l : List D, l.length ≤ sizeDs l
  | [] => Nat.le_refl _
  | d :: l => by
    have h1 := len_size l
    have h2 := sizeD_parts d
    rw [List.length_cons, sizeDs]
    omega
/-- strings for a list -/
abbrev sL (l : List Str) : List D := l.map D.str
end SP
set_option Elab.async false
set_option autoImplicit false
set_option linter.all false
set_option maxRecDepth 100000
set_option maxHeartbeats 2000000
namespace SP
open PySem PySem.Spec PyProof.Rows L2 VL
local macro_rules | `(tactic| walk_at "v") => `(tactic| simp only [vSeq, vNext, vVar, vPk, vC, vOp, vB, vSet, vPar, vApp, vShare, vRet, vRetN, vDrop, vIfS, vSetIx, ownLst, setL, setAll, slotN, xN, xNil, nE, nF, eN, nOp, nSl, nRev, nIf, vNo, vPart, vNil, vCons, vTup, vLst, vCall, vDef, vNeg, vChain, vAnd, vOr, vNot, vAndT, vOrT, vNotT, vIf, vRaise, vBrk, vCnt, vUnp, vgName, vgNil, vgCons, vgTup, vqVar, vqVal, viRng1, viRng2, viRng3, viEnum, vYes, lockL, lock1, unlL, unl1, wipeV, vComp, vFor, vTru, vIsTy, vOwn, vExt, vPop, vDrwW, vDrwC, vDrwN, vPutW, vPutN, vDct, vpNil, vpCons, vDGet, vDGet2, vDIn, dAdd, dSub, dMul, dMod, dDiv, dPow, dCmp, dLt, dLe, dGt, dGe, dAddN, dMulN, dIx, dLen, dInt, dTupOf, dLstOf, dMax2, dMin2, dIs, dIsN, dRepr, seqD, List.set_cons_zero, List.set_cons_succ, List.getElem?_cons_zero, List.getElem?_cons_succ, List.getElem?_nil, List.set_nil])
theorem py_nil_eq {ps : List PyData} : PyData.eqvAll ps [] = ps.isEmpty := by cases ps <;> rfl
theorem dNe_nil {line : List D} {k : D → Prop} (h1 : plainL line = true) (h2 : depL line ≤ 63) (q : k (.bl (!line.isEmpty))) : dNe (.lst line) (.lst []) k := by
  obtain ⟨ps, e1, e2, e3⟩ := pyL_of line h1
  have sh : PySem.SeqAt.shaped (.list ps) = true := by
    refine Bool.and_eq_true_iff.mpr ⟨by rw [PyData.canLay0]; exact e2, decide_eq_true ?_⟩
    rw [PyData.depth]
    omega
  refine ⟨line.isEmpty, ⟨.list ps, .list [], by rw [toPy, e1]; rfl, rfl, sh, by decide, ?_⟩, q⟩
  rw [PyData.eqv, py_nil_eq]
  cases line with
  | nil =>
    cases e1
    rfl
  | cons d line =>
    rw [toPyL] at e1
    split at e1
    · cases e1
      rfl
    · cases e1
theorem depL_append : ∀ a b : List D, depL (a ++ b) = max (depL a) (depL b)
  | [], b => by rw [List.nil_append, depL, Nat.zero_max]
  | x :: a, b => by rw [List.cons_append, depL, depL, depL_append a b, Nat.max_assoc]
theorem dep_parts : ∀ d : D, depL (partsD d) ≤ depD d
  | .tup ds => by rw [partsD, depD]; omega
  | .lst ds => by rw [partsD, depD]; omega
  | .non => Nat.zero_le _
  | .bl _ => Nat.zero_le _
  | .int _ => Nat.zero_le _
  | .str _ => Nat.zero_le _
  | .dct _ _ => Nat.zero_le _
  | .fn _ => Nat.zero_le _
  | .draw => Nat.zero_le _
  | .scr _ => Nat.zero_le _
  | .exc _ => Nat.zero_le _
def s__law_kinds : SpD := fun ds G Q _ => ∃ d : D, ds = [d] ∧ plainD d = true ∧ sizeD d ≤ 1000000 ∧ depD d ≤ 60 ∧ Q (.lst (sL (kindsD d))) G
def p__law_kinds : VS := (vSeq (vPar [1, 2] (xN (nF (vLst vNil)) (xN (nF (vLst (vCons (vVar 0) vNil))) xNil))) (vSeq (vWhile (vB (vOp dNe (vPk 2) (vLst vNil))) (vSeq (vPop 2 3) (vIfS (vOrT (vB (vIsTy "bool" (vPk 3))) (vB (vOp dIs (vPk 3) (vC .non)))) (vApp 1 (vCall dRepr (vCons (vPk 3) vNil))) (vIfS (vB (vIsTy "int" (vPk 3))) (vApp 1 (vC (.str "number"))) (vIfS (vB (vIsTy "str" (vPk 3))) (vApp 1 (vC (.str "string"))) (vIfS (vOrT (vB (vIsTy "list" (vPk 3))) (vB (vIsTy "tuple" (vPk 3)))) (vSeq (vApp 1 (eN (nIf (vB (vIsTy "list" (vPk 3))) (nE (vC (.str "list"))) (nE (vC (.str "tuple")))))) (vSet 2 (nOp dAddN (vPk 2) (vCall dLstOf (vCons (vPk 3) vNil))))) (vIfS (vB (vIsTy "dict" (vPk 3))) (vSeq (vApp 1 (vC (.str "dict"))) vNever) (vApp 1 (vC (.str "other")))))))))) (vShare 1 (vRet (vVar 1)))))
theorem v__law_kinds (ds : List D) (G : Gs) (Qd : D → Gs → Prop) (Ed : EK) (h : s__law_kinds ds G Qd Ed) : ds.length = 1 ∧ p__law_kinds Ed (ends0 Qd) (startL ["thing", "found", "line", "one", "key"] ds) G := by
  obtain ⟨d, rfl, hp, hs, hdep, q⟩ := h
  refine ⟨rfl, ?_⟩
  show p__law_kinds Ed (ends0 Qd) [.val d, .no, .no, .no, .no] G
  unfold p__law_kinds
  walk_at "v"
  refine ⟨Nat.zero_le _, by show 1 ≤ lineN; decide, vWhile_ind (n := sizeD d) (fun k L G' => ∃ (acc : List Str) (line : List D) (x : Option D), L = [.val d, .own (.lst (sL acc)), .own (.lst line), optS x, .no] ∧ G' = G ∧ plainL line = true ∧ depL line ≤ 60 ∧ k = sizeDs line ∧ kindsF k acc line = kindsD d ∧ acc.length + k ≤ 1000000)
    ⟨[], [d], none, rfl, rfl, by rw [plainL, hp]; rfl, by rw [depL, depL]; omega, by rw [sizeDs, sizeDs, Nat.add_zero], rfl, by simpa using hs⟩ ?_⟩
  rintro k L G' ⟨acc, line, x, rfl, rfl, h1, h2, h3, h4, h5⟩
  have hap : acc.length < 1000000 → (sL acc).length < lineN := fun h => by
    rw [List.length_map]
    have := lineN_big
    omega
  rcases List.eq_nil_or_concat line with rfl | ⟨l', e, rfl⟩
  · have hk : k = 0 := by rw [h3]; rfl
    subst hk
    have h4 : acc = kindsD d := h4
    cases x <;> simp only [optS] <;> walk_at "v"
    all_goals
      refine ⟨Nat.zero_le _, dNe_nil rfl (by decide) ?_⟩
      rw [h4]
      exact q
  · rw [List.concat_eq_append] at *
    have hne : ((l' ++ [e]).isEmpty) = false := by simp
    have hk : k = sizeDs (l' ++ partsD e) + 1 := by
      rw [h3, sizeDs_append, sizeDs_append, sizeDs, sizeDs, sizeD_parts e]
      omega
    rw [plainL_append] at h1
    obtain ⟨p1, p2⟩ := Bool.and_eq_true_iff.mp h1
    rw [plainL, plainL, Bool.and_true] at p2
    rw [depL_append, depL, depL] at h2
    have h6 : kindsF (sizeDs (l' ++ partsD e)) (acc ++ [kindW e]) (l' ++ partsD e) = kindsD d := by
      rw [← h4, hk, kindsF]
      simp
    have hlen : acc.length < 1000000 := by omega
    have go : ∀ (y : Option D), y = some e → ∃ m, m < k ∧ ∃ (acc' : List Str) (line' : List D) (x' : Option D), ([.val d, .own (.lst (sL (acc ++ [kindW e]))), .own (.lst (l' ++ partsD e)), optS y, .no] : Lo) = [.val d, .own (.lst (sL acc')), .own (.lst line'), optS x', .no] ∧ True ∧ plainL line' = true ∧ depL line' ≤ 60 ∧ m = sizeDs line' ∧ kindsF m acc' line' = kindsD d ∧ acc'.length + m ≤ 1000000 := fun y hy => by
      refine ⟨sizeDs (l' ++ partsD e), by omega, acc ++ [kindW e], l' ++ partsD e, y, rfl, trivial, ?_, ?_, rfl, h6, ?_⟩
      · rw [plainL_append, p1, plain_parts e p2]
        rfl
      · rw [depL_append]
        have := dep_parts e
        omega
      · rw [List.length_append, List.length_singleton]
        omega
    have hc : plainL (l' ++ [e]) = true ∧ depL (l' ++ [e]) ≤ 63 := by
      refine ⟨by rw [plainL_append, p1, plainL, p2]; rfl, ?_⟩
      rw [depL_append, depL, depL]
      omega
    cases x <;> simp only [optS] <;> walk_at "v"
    all_goals
      refine ⟨Nat.zero_le _, dNe_nil hc.1 hc.2 ?_⟩
      rw [hne]
      refine ⟨l', e, rfl, ?_⟩
      have go := go (some e) rfl
      rw [sL, List.map_append] at go
      have hl2 : (l' ++ partsD e).length ≤ lineN := by
        have := len_size (l' ++ partsD e)
        have := lineN_big
        omega
      rw [List.length_append] at hl2
      cases e with
      | non =>
        rw [show partsD D.non = [] from rfl, List.append_nil] at go
        exact ⟨hap hlen, go⟩
      | bl b =>
        rw [show partsD (D.bl b) = [] from rfl, List.append_nil] at go
        exact ⟨hap hlen, go⟩
      | int i =>
        rw [show partsD (D.int i) = [] from rfl, List.append_nil] at go
        exact ⟨hap hlen, go⟩
      | str z =>
        rw [show partsD (D.str z) = [] from rfl, List.append_nil] at go
        exact ⟨hap hlen, go⟩
      | tup es => exact ⟨hap hlen, hl2, go⟩
      | lst es => exact ⟨hap hlen, hl2, go⟩
      | _ => simp [plainD] at p2
end SP
set_option Elab.async false
set_option autoImplicit false
set_option linter.all false
set_option maxRecDepth 100000
set_option maxHeartbeats 2000000
namespace SP
open PySem PySem.Spec PyProof.Rows L2 VL
local macro_rules | `(tactic| walk_at "v") => `(tactic| simp only [vSeq, vNext, vVar, vPk, vC, vOp, vB, vSet, vPar, vApp, vShare, vRet, vRetN, vDrop, vIfS, vSetIx, ownLst, setL, setAll, slotN, xN, xNil, nE, nF, eN, nOp, nSl, nRev, nIf, vNo, vPart, vNil, vCons, vTup, vLst, vCall, vDef, vNeg, vChain, vAnd, vOr, vNot, vAndT, vOrT, vNotT, vIf, vRaise, vBrk, vCnt, vUnp, vgName, vgNil, vgCons, vgTup, vqVar, vqVal, viRng1, viRng2, viRng3, viEnum, vYes, lockL, lock1, unlL, unl1, wipeV, vComp, vFor, vTru, vIsTy, vOwn, vExt, vPop, vDrwW, vDrwC, vDrwN, vPutW, vPutN, vDct, vpNil, vpCons, vDGet, vDGet2, vDIn, dAdd, dSub, dMul, dMod, dDiv, dPow, dCmp, dLt, dLe, dGt, dGe, dAddN, dMulN, dIx, dLen, dInt, dTupOf, dLstOf, dMax2, dMin2, dIs, dIsN, dRepr, seqD, List.set_cons_zero, List.set_cons_succ, List.getElem?_cons_zero, List.getElem?_cons_succ, List.getElem?_nil, List.set_nil])
theorem kindW_ok (d : D) : PyData.strOk (kindW d) = true := by
  cases d with
  | non => exact (by decide +kernel : PyData.strOk (kindW .non) = true)
  | bl x => cases x <;> decide +kernel
  | int n => exact (by decide +kernel : PyData.strOk (kindW (.int 0)) = true)
  | str w => exact (by decide +kernel : PyData.strOk (kindW (.str "string")) = true)
  | lst l => exact (by decide +kernel : PyData.strOk (kindW (.lst [])) = true)
  | tup l => exact (by decide +kernel : PyData.strOk (kindW (.tup [])) = true)
  | dct a b => exact (by decide +kernel : PyData.strOk (kindW (.dct [] [])) = true)
  | _ => exact (by decide +kernel : PyData.strOk (kindW .draw) = true)
theorem kindsF_ok : ∀ (n : Nat) (acc : List Str) (line : List D), (∀ w ∈ acc, PyData.strOk w = true) → ∀ w ∈ kindsF n acc line, PyData.strOk w = true
  | 0, acc, line, h => h
  | n + 1, acc, line, h => by
    unfold kindsF
    cases line.getLast? with
    | none => exact h
    | some d => exact kindsF_ok n _ _ fun w hw => (List.mem_append.mp hw).elim (h w) fun z => by rw [List.mem_singleton.mp z]; exact kindW_ok d
theorem plain_sL : ∀ l : List Str, (∀ w ∈ l, PyData.strOk w = true) → plainL (sL l) = true ∧ depL (sL l) = 0
  | [], _ => ⟨rfl, rfl⟩
  | w :: l, h => by
    obtain ⟨h1, h2⟩ := plain_sL l fun x hx => h x (List.mem_cons_of_mem _ hx)
    have e1 : plainD (.str w) = true := by simp only [plainD]; exact h w List.mem_cons_self
    have e2 : depD (.str w) = 0 := by simp only [depD]
    rw [sL, List.map_cons, plainL, depL, e1, e2]
    rw [sL] at h1 h2
    rw [h1, h2]
    exact ⟨rfl, rfl⟩
theorem kinds_good (d : D) : Good (.lst (sL (kindsD d))) := by
  obtain ⟨h1, h2⟩ := plain_sL (kindsD d) (kindsF_ok _ _ _ fun _ h => by simp at h)
  exact ⟨by rw [plainD]; exact h1, by rw [depD, h2]; decide⟩
/-- told and due are one -/
def s__law_says : SpD := fun ds G Q _ => ∃ d : D, ds = [d, d] ∧ plainD d = true ∧ sizeD d ≤ 1000000 ∧ depD d ≤ 60 ∧ Q (.bl true) G
def p__law_says : VS := (vRet (vAnd (vOp dEq (vDef s__law_kinds (vCons (vVar 0) vNil)) (vDef s__law_kinds (vCons (vVar 1) vNil))) (vOp dEq (vPk 0) (vPk 1))))
theorem v__law_says (ds : List D) (G : Gs) (Qd : D → Gs → Prop) (Ed : EK) (h : s__law_says ds G Qd Ed) : ds.length = 2 ∧ p__law_says Ed (ends0 Qd) (startL ["told", "due"] ds) G := by
  obtain ⟨d, rfl, h1, h2, h3, q⟩ := h
  refine ⟨rfl, ?_⟩
  show p__law_says Ed (ends0 Qd) [.val d, .val d] G
  unfold p__law_says
  walk_at "v"
  refine ⟨d, rfl, h1, h2, h3, d, rfl, h1, h2, h3, dEq_self (kinds_good d) ?_⟩
  exact dEq_self ⟨h1, by omega⟩ q
/-! ### the law's rows -/
def s__law_row : SpD := fun ds G Q _ => ∃ b n : Nat, ds = [.int b, .int n] ∧ 2 ≤ b ∧ b.log2 < 9000 ∧ (digs b n).length < 2000 ∧ Q (rowD (cR (digs b n))) G
def p__law_row : VS := (vSeq (vPar [2, 3] (xN (nF (vLst vNil)) (xN (nE (vVar 1)) xNil))) (vSeq (vFor (viRng1 (vCons (vC (.int 2000)) vNil)) (vgName 4) (vSeq (vIfS (vB (vOp dEq (vPk 3) (vC (.int 0)))) vBrk vNext) (vPar [2, 3] (xN (nOp dAddN (vPk 2) (vLst (vCons (vOp dMod (vCall dInt (vCons (vPk 3) vNil)) (vPk 0)) vNil))) (xN (nE (vOp dDiv (vPk 3) (vPk 0))) xNil))))) (vRet (vCall dTupOf (vCons (vPk 2) vNil)))))
theorem v__law_row (ds : List D) (G : Gs) (Qd : D → Gs → Prop) (Ed : EK) (h : s__law_row ds G Qd Ed) : ds.length = 2 ∧ p__law_row Ed (ends0 Qd) (startL ["base", "number", "found", "left", "lap"] ds) G := by
  obtain ⟨b, n, rfl, hb, hlog, hlen, q⟩ := h
  refine ⟨rfl, ?_⟩
  show p__law_row Ed (ends0 Qd) [.val (.int b), .val (.int n), .no, .no, .no] G
  unfold p__law_row
  walk_at "v"
  refine ⟨Nat.zero_le _, ⟨by omega, by omega⟩, ?_⟩
  refine forV_ind (fun rem L G' => ∃ (acc : List Nat) (m : Nat) (x : Option D), L = [.val (.int b), .val (.int n), .own (.lst (iL (cR acc))), .val (.int m), optS x] ∧ G' = G ∧ acc ++ digs b m = digs b n ∧ (digs b m).length < rem.length + 1) ⟨[], n, none, rfl, rfl, rfl, by rw [rangeD_length]; simp; omega⟩ ?_ ?_
  · rintro L G' ⟨acc, m, x, rfl, rfl, hd, hl⟩
    have h0 : digs b m = [] := List.length_eq_zero_iff.mp (by simp only [List.length_nil] at hl; omega)
    rw [h0, List.append_nil] at hd
    cases x <;> (simp only [optS]; walk_at "v"; rw [hd]; exact q)
  · rintro d ds L G' N ⟨acc, m, x, rfl, rfl, hd, hl⟩ hN
    have hN2 : ∀ acc' m', acc' ++ digs b m' = digs b n → (digs b m').length < ds.length + 1 → N [.val (.int b), .val (.int n), .own (.lst (iL (cR acc'))), .val (.int m'), .val d] G' := fun acc' m' h1 h2 => hN _ _ ⟨acc', m', some d, rfl, rfl, h1, h2⟩
    cases x <;> simp only [optS] <;> walk_at "v"
    all_goals
      show (match decide ((m : Int) = 0) with
        | true => _
        | false => _)
      by_cases hm : m = 0
      · rw [hm, digs_zero, List.append_nil] at hd
        rw [hd, hm]
        exact q
      · rw [decide_eq_false (by omega)]
        rw [digs_pos hb (by omega)] at hd hl
        have hl3 : acc.length + 1 ≤ lineN := by
          have := congrArg List.length hd
          rw [List.length_append, List.length_cons] at this
          have := lineN_big
          omega
        refine ⟨by omega, Nat.le_of_lt_succ (by simp; decide), by simpa using hl3, ⟨by omega, by simpa using hlog⟩, ?_⟩
        have e := hN2 (acc ++ [m % b]) (m / b) (by rw [List.append_assoc]; exact hd) (by rw [List.length_cons, List.length_cons] at hl; omega)
        simpa using e
end SP
set_option Elab.async false
set_option autoImplicit false
set_option linter.all false
set_option maxRecDepth 100000
set_option maxHeartbeats 2000000
namespace SP
open PySem PySem.Spec PyProof.Rows L2 VL
local macro_rules | `(tactic| walk_at "v") => `(tactic| simp only [vSeq, vNext, vVar, vPk, vC, vOp, vB, vSet, vPar, vApp, vShare, vRet, vRetN, vDrop, vIfS, vSetIx, ownLst, setL, setAll, slotN, xN, xNil, nE, nF, eN, nOp, nSl, nRev, nIf, vNo, vPart, vNil, vCons, vTup, vLst, vCall, vDef, vNeg, vChain, vAnd, vOr, vNot, vAndT, vOrT, vNotT, vIf, vRaise, vBrk, vCnt, vUnp, vgName, vgNil, vgCons, vgTup, vqVar, vqVal, viRng1, viRng2, viRng3, viEnum, vYes, lockL, lock1, unlL, unl1, wipeV, vComp, vFor, vTru, vIsTy, vOwn, vExt, vPop, vDrwW, vDrwC, vDrwN, vPutW, vPutN, vDct, vpNil, vpCons, vDGet, vDGet2, vDIn, dAdd, dSub, dMul, dMod, dDiv, dPow, dCmp, dLt, dLe, dGt, dGe, dAddN, dMulN, dIx, dLen, dInt, dTupOf, dLstOf, dMax2, dMin2, dIs, dIsN, dRepr, seqD, List.set_cons_zero, List.set_cons_succ, List.getElem?_cons_zero, List.getElem?_cons_succ, List.getElem?_nil, List.set_nil])
/-! ### picks of the law -/
theorem smallN {n : Nat} (h : n ≤ 1000000) : n ≤ lineN := Nat.le_of_lt (Nat.lt_of_le_of_lt h lineN_big)
theorem pow30 : (10 : Int) ^ (30 : Int).toNat = 1000000000000000000000000000000 := by decide
def numL (lo hi : Int) : List D := [.non, .int (lo - 1), .int (hi + 1), .str "1", .bl true, .tup [.int lo], .lst [], .int (-1000000000000000000000000000000), .int 1000000000000000000000000000000]
def s__law_number : SpD := fun ds G Q _ => ∃ lo hi : Int, ds = [.draw, .int lo, .int hi] ∧ GOk G ∧ ∀ d ∈ numL lo hi, ∀ G', GOk G' → Q d G'
def p__law_number : VS := (vRet (vDef s__law_pick (vCons (vVar 0) (vCons (vLst (vCons (vC .non) (vCons (vOp dSub (vPk 1) (vC (.int 1))) (vCons (eN (nOp dAddN (vPk 2) (vC (.int 1)))) (vCons (vC (.str "1")) (vCons (vC (.bl true)) (vCons (vTup (vCons (vVar 1) vNil)) (vCons (vLst vNil) (vCons (vOp dSub (vC (.int 0)) (vOp dPow (vC (.int 10)) (vC (.int 30)))) (vCons (vOp dPow (vC (.int 10)) (vC (.int 30))) vNil)))))))))) vNil))))
theorem v__law_number (ds : List D) (G : Gs) (Qd : D → Gs → Prop) (Ed : EK) (h : s__law_number ds G Qd Ed) : ds.length = 3 ∧ p__law_number Ed (ends0 Qd) (startL ["draw", "low", "high"] ds) G := by
  obtain ⟨lo, hi, rfl, hG, q⟩ := h
  refine ⟨rfl, ?_⟩
  show p__law_number Ed (ends0 Qd) [.val .draw, .val (.int lo), .val (.int hi)] G
  unfold p__law_number
  walk_at "v"
  simp only [pow30]
  exact ⟨smallN (by simp), smallN (by simp), ⟨by omega, by omega, by decide⟩, ⟨by omega, by omega, by decide⟩, smallN (by simp), numL lo hi, rfl, by simp [numL], by simp [numL], hG, q⟩
def s__law_base : SpD := fun ds G Q _ => ds = [.draw] ∧ GOk G ∧ ∀ b : Nat, IsBase b → ∀ G', GOk G' → Q (.int b) G'
def p__law_base : VS := (vRet (vDef s__law_pick (vCons (vVar 0) (vCons (vLst (vCons (vC (.int 2)) (vCons (vC (.int 2)) (vCons (vC (.int 3)) (vCons (vC (.int 3)) (vCons (vC (.int 5)) vNil)))))) vNil))))
theorem v__law_base (ds : List D) (G : Gs) (Qd : D → Gs → Prop) (Ed : EK) (h : s__law_base ds G Qd Ed) : ds.length = 1 ∧ p__law_base Ed (ends0 Qd) (startL ["draw"] ds) G := by
  obtain ⟨rfl, hG, q⟩ := h
  refine ⟨rfl, ?_⟩
  show p__law_base Ed (ends0 Qd) [.val .draw] G
  unfold p__law_base
  walk_at "v"
  refine ⟨smallN (by simp), _, rfl, by simp, by simp, hG, ?_⟩
  intro d hd
  simp only [List.mem_cons, List.not_mem_nil, or_false] at hd
  rcases hd with rfl | rfl | rfl | rfl | rfl
  · exact q 2 (.inl rfl)
  · exact q 2 (.inl rfl)
  · exact q 3 (.inr (.inl rfl))
  · exact q 3 (.inr (.inl rfl))
  · exact q 5 (.inr (.inr rfl))
def noBaseL : List D := [.non, .int 0, .int 1, .int 4, .int 6, .int 7, .int 10, .int (-2), .bl true, .str "2", .tup [.int 2]]
def s__law_no_base : SpD := fun ds G Q _ => ds = [.draw] ∧ GOk G ∧ ∀ d ∈ noBaseL, ∀ G', GOk G' → Q d G'
def p__law_no_base : VS := (vRet (vDef s__law_pick (vCons (vVar 0) (vCons (vLst (vCons (vC .non) (vCons (vC (.int 0)) (vCons (vC (.int 1)) (vCons (vC (.int 4)) (vCons (vC (.int 6)) (vCons (vC (.int 7)) (vCons (vC (.int 10)) (vCons (vOp dSub (vC (.int 0)) (vC (.int 2))) (vCons (vC (.bl true)) (vCons (vC (.str "2")) (vCons (vTup (vCons (vC (.int 2)) vNil)) vNil)))))))))))) vNil))))
theorem v__law_no_base (ds : List D) (G : Gs) (Qd : D → Gs → Prop) (Ed : EK) (h : s__law_no_base ds G Qd Ed) : ds.length = 1 ∧ p__law_no_base Ed (ends0 Qd) (startL ["draw"] ds) G := by
  obtain ⟨rfl, hG, q⟩ := h
  refine ⟨rfl, ?_⟩
  show p__law_no_base Ed (ends0 Qd) [.val .draw] G
  unfold p__law_no_base
  walk_at "v"
  refine ⟨smallN (by simp), smallN (by simp), ?_⟩
  exact ⟨noBaseL, rfl, by simp [noBaseL], by simp [noBaseL], hG, q⟩
theorem noBase_bad : ∀ d ∈ noBaseL, baseOk d = false ∧ ∃ t, tyOfD d = some t := by
  intro d hd
  simp only [noBaseL, List.mem_cons, List.not_mem_nil, or_false] at hd
  rcases hd with rfl | rfl | rfl | rfl | rfl | rfl | rfl | rfl | rfl | rfl | rfl <;> exact ⟨rfl, _, rfl⟩
end SP
set_option Elab.async false
set_option autoImplicit false
set_option linter.all false
set_option maxRecDepth 100000
set_option maxHeartbeats 2000000
namespace SP
open PySem PySem.Spec PyProof.Rows L2 VL
local macro_rules | `(tactic| walk_at "v") => `(tactic| simp only [vSeq, vNext, vVar, vPk, vC, vOp, vB, vSet, vPar, vApp, vShare, vRet, vRetN, vDrop, vIfS, vSetIx, ownLst, setL, setAll, slotN, xN, xNil, nE, nF, eN, nOp, nSl, nRev, nIf, vNo, vPart, vNil, vCons, vTup, vLst, vCall, vDef, vNeg, vChain, vAnd, vOr, vNot, vAndT, vOrT, vNotT, vIf, vRaise, vBrk, vCnt, vUnp, vgName, vgNil, vgCons, vgTup, vqVar, vqVal, viRng1, viRng2, viRng3, viEnum, vYes, lockL, lock1, unlL, unl1, wipeV, vComp, vFor, vTru, vIsTy, vOwn, vExt, vPop, vDrwW, vDrwC, vDrwN, vPutW, vPutN, vDct, vpNil, vpCons, vDGet, vDGet2, vDIn, dAdd, dSub, dMul, dMod, dDiv, dPow, dCmp, dLt, dLe, dGt, dGe, dAddN, dMulN, dIx, dLen, dInt, dTupOf, dLstOf, dMax2, dMin2, dIs, dIsN, dRepr, seqD, List.set_cons_zero, List.set_cons_succ, List.getElem?_cons_zero, List.getElem?_cons_succ, List.getElem?_nil, List.set_nil])
/-! ### comprehensions over numbers -/
theorem compV_ints {vg : VG} {tt : VT} {te : VE} {L : Lo} {Q : D → Gs → Prop} {G : Gs} {items : List Int} (f : Int → Bool) (g : Int → Int) (hlen : items.length ≤ lineN)
    (hs : ∀ x ∈ items, ∀ (acc : List D) (N : List D → Gs → Prop), (f x = true → N (acc ++ [.int (g x)]) G) → (f x = false → N acc G) → acc.length < lineN → vg (.int x) L fun L2 => tt Ev0 L2 G fun b G1 => match b with
      | true => te Ev0 L2 G1 fun y G2 => acc.length < lineN ∧ N (acc ++ [y]) G2
      | false => N acc G1)
    (q : Q (.lst (iL ((items.filter f).map g))) G) : compV vg tt te L (iL items) [] G Q := by
  refine compV_ind (fun rem acc G' => ∃ dn rs : List Int, rem = iL rs ∧ acc = iL ((dn.filter f).map g) ∧ G' = G ∧ items = dn ++ rs) ⟨[], items, rfl, rfl, rfl, rfl⟩ ?_ ?_
  · rintro acc G' ⟨dn, rs, h1, rfl, rfl, rfl⟩
    have : rs = [] := by
      cases rs with
      | nil => rfl
      | cons => exact nomatch h1
    rw [this, List.append_nil] at q
    exact q
  · rintro d ds acc G' N ⟨dn, rs, h1, rfl, rfl, h4⟩ hN
    cases rs with
    | nil => exact nomatch h1
    | cons x rs =>
      have h1' : d = .int x ∧ ds = iL rs := List.cons.inj h1
      obtain ⟨rfl, rfl⟩ := h1'
      have hl : (dn.filter f).length ≤ dn.length := List.length_filter_le f dn
      have hl2 : items.length = dn.length + (rs.length + 1) := by rw [h4, List.length_append, List.length_cons]
      refine hs x (by rw [h4]; simp) _ N (fun e => hN _ _ ⟨dn ++ [x], rs, rfl, ?_, rfl, by rw [h4]; simp⟩) (fun e => hN _ _ ⟨dn ++ [x], rs, rfl, ?_, rfl, by rw [h4]; simp⟩) ?_
      · rw [List.filter_append, List.filter_cons, if_pos e]
        simp
      · rw [List.filter_append, List.filter_cons, if_neg (by simp [e])]
        simp
      · rw [List.length_map, List.length_map]
        omega
/-! ### plain rows -/
def invN (b a : Nat) : Nat := ((List.range b).filter fun x => 0 < x && x * a % b = 1).headD 0
def plainR (b a : Nat) (l : List Nat) : List Nat := l.map fun x => x * invN b a % b
def upL (n : Nat) : List Int := (List.range n).map fun i : Nat => 1 + (i : Int) * 1
theorem rangeD_up (n : Nat) : rangeD 1 1 n = iL (upL n) := by rw [upL, iL, List.map_map]; rfl
theorem inv_at {b a : Nat} (hb : IsBase b) (h0 : 0 < a) (hab : a < b) : atI (iL (((upL ((b : Int) - 1).toNat).filter fun x : Int => decide (x * (a : Int) % (b : Int) = 1)).map id)) 0 = some (.int (invN b a)) := by
  rcases hb with rfl | rfl | rfl
  · obtain rfl : a = 1 := by omega
    rfl
  · obtain rfl | rfl : a = 1 ∨ a = 2 := by omega
    all_goals rfl
  · obtain rfl | rfl | rfl | rfl : a = 1 ∨ a = 2 ∨ a = 3 ∨ a = 4 := by omega
    all_goals rfl
theorem invN_lt {b a : Nat} (hb : IsBase b) (h0 : 0 < a) (hab : a < b) : invN b a < b ∧ 0 < invN b a ∧ invN b a * a % b = 1 := by
  rcases hb with rfl | rfl | rfl
  · obtain rfl : a = 1 := by omega
    decide
  · obtain rfl | rfl : a = 1 ∨ a = 2 := by omega
    all_goals decide
  · obtain rfl | rfl | rfl | rfl : a = 1 ∨ a = 2 ∨ a = 3 ∨ a = 4 := by omega
    all_goals decide
def s_plain_row : SpD := fun ds G Q _ => ∃ (b a : Nat) (s : List Nat), ds = [.int b, rowD (cR (s ++ [a]))] ∧ IsBase b ∧ 0 < a ∧ a < b ∧ (s ++ [a]).length ≤ 1000000 ∧ Q (rowD (cR (plainR b a (s ++ [a])))) G
def p_plain_row : VS := (vSeq (vSet 2 (nE (vOp dIx (vComp (viRng2 (vCons (vC (.int 1)) (vCons (vVar 0) vNil))) (vgName 3) [3] (vB (vOp dEq (vOp dMod (eN (nOp dMulN (vPk 3) (vOp dIx (vPk 1) (vNeg (vC (.int 1)))))) (vPk 0)) (vC (.int 1)))) (vVar 3)) (vC (.int 0))))) (vRet (vCall dTupOf (vCons (vComp (vqVar 1) (vgName 4) [4] vYes (vOp dMod (eN (nOp dMulN (vPk 4) (vPk 2))) (vPk 0))) vNil))))
theorem v_plain_row (ds : List D) (G : Gs) (Qd : D → Gs → Prop) (Ed : EK) (h : s_plain_row ds G Qd Ed) : ds.length = 2 ∧ p_plain_row Ed (ends0 Qd) (startL ["base", "row", "scale", "late", "figure"] ds) G := by
  obtain ⟨b, a, s, rfl, hb, h0, hab, hl, q⟩ := h
  refine ⟨rfl, ?_⟩
  show p_plain_row Ed (ends0 Qd) [.val (.int b), .val (rowD (cR (s ++ [a]))), .no, .no, .no] G
  have hlast : atI (iL (cR (s ++ [a]))) (-1) = some (.int a) := by
    rw [iL, cR, List.map_append, List.map_append]
    exact atI_last
  have hb5 : 2 ≤ b ∧ b ≤ 5 := by rcases hb with rfl | rfl | rfl <;> omega
  have hi := invN_lt hb h0 hab
  unfold p_plain_row
  walk_at "v"
  refine ⟨⟨by omega, by omega⟩, ⟨by omega, by omega⟩, ?_⟩
  rw [rangeD_up]
  refine compV_ints (fun x => decide (x * a % b = 1)) id (Nat.le_of_lt (Nat.lt_of_le_of_lt (show _ ≤ 1000000 by simp [upL]; omega) lineN_big)) ?_ ?_
  · intro x _ acc N h1 h2 h3
    walk_at "v"
    refine ⟨.int a, hlast, mul_small (by omega), by omega, ?_⟩
    show match decide (x * (a : Int) % (b : Int) = 1) with
      | true => _
      | false => _
    cases e : decide (x * (a : Int) % (b : Int) = 1) with
    | true => exact ⟨h3, h1 e⟩
    | false => exact h2 e
  · refine ⟨_, inv_at hb h0 hab, ?_⟩
    refine compV_ints (items := cR (s ++ [a])) (fun x => true) (fun x => x * (invN b a : Nat) % b) (by rw [cR, List.length_map]; exact Nat.le_of_lt (Nat.lt_of_le_of_lt hl lineN_big)) ?_ ?_
    · intro x _ acc N h1 h2 h3
      walk_at "v"
      exact ⟨mul_small (by omega), by omega, h3, h1 rfl⟩
    · have e : ((cR (s ++ [a])).filter fun _ => true).map (fun x : Int => x * (invN b a : Nat) % b) = cR (plainR b a (s ++ [a])) := by
        rw [List.filter_eq_self.mpr (fun _ _ => rfl), cR, cR, plainR, List.map_map, List.map_map]
        exact List.map_congr_left fun x _ => by simp
      rw [e]
      exact q
def s__law_plain : SpD := fun ds G Q _ => ∃ (b a : Nat) (s : List Nat), ds = [.int b, rowD (cR (s ++ [a]))] ∧ IsBase b ∧ 0 < a ∧ a < b ∧ (s ++ [a]).length ≤ 1000000 ∧ Q (rowD (cR (plainR b a (s ++ [a])))) G
def p__law_plain : VS := (vSeq (vSet 2 (nE (vOp dIx (vComp (viRng2 (vCons (vC (.int 1)) (vCons (vVar 0) vNil))) (vgName 3) [3] (vB (vOp dEq (vOp dMod (vCall dInt (vCons (eN (nOp dMulN (vPk 3) (vOp dIx (vPk 1) (vNeg (vC (.int 1)))))) vNil)) (vPk 0)) (vC (.int 1)))) (vVar 3)) (vC (.int 0))))) (vRet (vCall dTupOf (vCons (vComp (vqVar 1) (vgName 4) [4] vYes (vOp dMod (vCall dInt (vCons (eN (nOp dMulN (vPk 4) (vPk 2))) vNil)) (vPk 0))) vNil))))
theorem v__law_plain (ds : List D) (G : Gs) (Qd : D → Gs → Prop) (Ed : EK) (h : s__law_plain ds G Qd Ed) : ds.length = 2 ∧ p__law_plain Ed (ends0 Qd) (startL ["base", "row", "scale", "late", "figure"] ds) G := by
  obtain ⟨b, a, s, rfl, hb, h0, hab, hl, q⟩ := h
  refine ⟨rfl, ?_⟩
  show p__law_plain Ed (ends0 Qd) [.val (.int b), .val (rowD (cR (s ++ [a]))), .no, .no, .no] G
  have hlast : atI (iL (cR (s ++ [a]))) (-1) = some (.int a) := by
    rw [iL, cR, List.map_append, List.map_append]
    exact atI_last
  have hb5 : 2 ≤ b ∧ b ≤ 5 := by rcases hb with rfl | rfl | rfl <;> omega
  have hi := invN_lt hb h0 hab
  unfold p__law_plain
  walk_at "v"
  refine ⟨⟨by omega, by omega⟩, ⟨by omega, by omega⟩, ?_⟩
  rw [rangeD_up]
  refine compV_ints (fun x => decide (x * a % b = 1)) id (Nat.le_of_lt (Nat.lt_of_le_of_lt (show _ ≤ 1000000 by simp [upL]; omega) lineN_big)) ?_ ?_
  · intro x _ acc N h1 h2 h3
    walk_at "v"
    refine ⟨.int a, hlast, mul_small (by omega), by omega, ?_⟩
    show match decide (x * (a : Int) % (b : Int) = 1) with
      | true => _
      | false => _
    cases e : decide (x * (a : Int) % (b : Int) = 1) with
    | true => exact ⟨h3, h1 e⟩
    | false => exact h2 e
  · refine ⟨_, inv_at hb h0 hab, ?_⟩
    refine compV_ints (items := cR (s ++ [a])) (fun x => true) (fun x => x * (invN b a : Nat) % b) (by rw [cR, List.length_map]; exact Nat.le_of_lt (Nat.lt_of_le_of_lt hl lineN_big)) ?_ ?_
    · intro x _ acc N h1 h2 h3
      walk_at "v"
      exact ⟨mul_small (by omega), by omega, h3, h1 rfl⟩
    · have e : ((cR (s ++ [a])).filter fun _ => true).map (fun x : Int => x * (invN b a : Nat) % b) = cR (plainR b a (s ++ [a])) := by
        rw [List.filter_eq_self.mpr (fun _ _ => rfl), cR, cR, plainR, List.map_map, List.map_map]
        exact List.map_congr_left fun x _ => by simp
      rw [e]
      exact q
end SP
set_option Elab.async false
set_option autoImplicit false
set_option linter.all false
set_option maxRecDepth 100000
set_option maxHeartbeats 2000000
namespace SP
open PySem PySem.Spec PyProof.Rows L2 VL
local macro_rules | `(tactic| walk_at "v") => `(tactic| simp only [vSeq, vNext, vVar, vPk, vC, vOp, vB, vSet, vPar, vApp, vShare, vRet, vRetN, vDrop, vIfS, vSetIx, ownLst, setL, setAll, slotN, xN, xNil, nE, nF, eN, nOp, nSl, nRev, nIf, vNo, vPart, vNil, vCons, vTup, vLst, vCall, vDef, vNeg, vChain, vAnd, vOr, vNot, vAndT, vOrT, vNotT, vIf, vRaise, vBrk, vCnt, vUnp, vgName, vgNil, vgCons, vgTup, vqVar, vqVal, viRng1, viRng2, viRng3, viEnum, vYes, lockL, lock1, unlL, unl1, wipeV, vComp, vFor, vTru, vIsTy, vOwn, vExt, vPop, vDrwW, vDrwC, vDrwN, vPutW, vPutN, vDct, vpNil, vpCons, vDGet, vDGet2, vDIn, dAdd, dSub, dMul, dMod, dDiv, dPow, dCmp, dLt, dLe, dGt, dGe, dAddN, dMulN, dIx, dLen, dInt, dTupOf, dLstOf, dMax2, dMin2, dIs, dIsN, dRepr, seqD, List.set_cons_zero, List.set_cons_succ, List.getElem?_cons_zero, List.getElem?_cons_succ, List.getElem?_nil, List.set_nil])
/-! ### spread rows -/
theorem ixN_cast {n k : Nat} (h : k < n) : ixN n (k : Int) = some k := by
  unfold ixN
  simp [h]
def spreadL (b : Nat) : List Nat → List Nat
  | [] => []
  | x :: l => x :: List.replicate (b - 1) 0 ++ spreadL b l
theorem spreadL_append (b : Nat) : ∀ l m : List Nat, spreadL b (l ++ m) = spreadL b l ++ spreadL b m
  | [], _ => rfl
  | x :: l, m => by rw [List.cons_append, spreadL, spreadL, spreadL_append b l m, List.append_assoc, List.cons_append]
theorem spreadL_length {b : Nat} (hb : 0 < b) : ∀ l : List Nat, (spreadL b l).length = b * l.length
  | [] => rfl
  | x :: l => by
    rw [spreadL, List.length_append, List.length_cons, List.length_replicate, spreadL_length hb l, List.length_cons, Nat.mul_add]
    omega
theorem spread_set {b : Nat} (hb : 0 < b) (dn rs : List Nat) (x : Nat) : (spreadL b dn ++ List.replicate (b * (rs.length + 1)) 0).set (b * dn.length) x = spreadL b (dn ++ [x]) ++ List.replicate (b * rs.length) 0 := by
  have e : b * (rs.length + 1) = (b - 1 + 1) + b * rs.length := by
    rw [Nat.mul_add]
    omega
  rw [List.set_append_right _ _ (Nat.le_of_eq (spreadL_length hb dn)), spreadL_length hb, Nat.sub_self, e, ← List.replicate_append_replicate, List.replicate_succ, spreadL_append, spreadL, spreadL, List.append_nil, List.append_assoc]
  try rfl
def s_spread_row : SpD := fun ds G Q _ => ∃ (b : Nat) (l : List Nat), ds = [.int b, rowD (cR l)] ∧ IsBase b ∧ l.length ≤ 100000 ∧ Q (rowD (trimI (cR (spreadL b l)))) G
def p_spread_row : VS := (vSeq (vSet 2 (nOp dMulN (vLst (vCons (vC (.int 0)) vNil)) (eN (nOp dMulN (vPk 0) (vCall dLen (vCons (vPk 1) vNil)))))) (vSeq (vFor (viEnum (vqVar 1)) (vgTup 2 (vgCons (vgName 3) (vgCons (vgName 4) vgNil))) (vSetIx 2 (eN (nOp dMulN (vPk 0) (vPk 3))) (vVar 4))) (vShare 2 (vRet (vDef s_trim (vCons (vVar 2) vNil))))))
theorem v_spread_row (ds : List D) (G : Gs) (Qd : D → Gs → Prop) (Ed : EK) (h : s_spread_row ds G Qd Ed) : ds.length = 2 ∧ p_spread_row Ed (ends0 Qd) (startL ["base", "row", "found", "at", "figure"] ds) G := by
  obtain ⟨b, l, rfl, hb, hl, q⟩ := h
  refine ⟨rfl, ?_⟩
  show p_spread_row Ed (ends0 Qd) [.val (.int b), .val (rowD (cR l)), .no, .no, .no] G
  have hb5 : 2 ≤ b ∧ b ≤ 5 := by rcases hb with rfl | rfl | rfl <;> omega
  have hbl : b * l.length ≤ 500000 := Nat.le_trans (Nat.mul_le_mul hb5.2 hl) (by decide)
  unfold p_spread_row
  walk_at "v"
  have el : (List.map D.int (cR l)).length = l.length := by rw [List.length_map, cR, List.length_map]
  have en : ((b : Int) * (l.length : Int)) = ((b * l.length : Nat) : Int) := (Int.natCast_mul b l.length).symm
  rw [el, en, Int.toNat_natCast, List.flatten_replicate_singleton]
  refine ⟨smallN (by simp), mul_small (by omega), ⟨by omega, by omega, smallN (by simp; omega)⟩, ?_⟩
  refine forV_ind (fun rem L G' => ∃ (dn rs : List Nat) (x y : Option D), rem = enumD dn.length (iL (cR rs)) ∧ L = [.val (.int b), .val (rowD (cR l)), .own (.lst (iL (cR (spreadL b dn ++ List.replicate (b * rs.length) 0)))), optS x, optS y] ∧ G' = G ∧ l = dn ++ rs) ⟨[], l, none, none, rfl, ?_, rfl, rfl⟩ ?_ ?_
  · simp [spreadL, optS]
  · rintro L G' ⟨dn, rs, x, y, h1, rfl, rfl, rfl⟩
    have : rs = [] := by
      cases rs with
      | nil => rfl
      | cons => exact nomatch h1
    subst this
    have q' : Qd (rowD (trimI (cR (spreadL b dn)))) G' := by rw [List.append_nil] at q; exact q
    cases x <;> cases y <;> (simp only [optS]; walk_at "v"; refine ⟨_, _, rfl, .inl rfl, ?_⟩; rw [List.length_nil, Nat.mul_zero, List.replicate_zero, List.append_nil]; exact q')
  · rintro d ds L G' N ⟨dn, rs, x, y, h1, rfl, rfl, h4⟩ hN
    cases rs with
    | nil => exact nomatch h1
    | cons a rs =>
      have h1' : d = .tup [.int (dn.length : Nat), .int a] ∧ ds = enumD (dn.length + 1) (iL (cR rs)) := List.cons.inj h1
      obtain ⟨rfl, rfl⟩ := h1'
      have hlen : l.length = dn.length + (rs.length + 1) := by rw [h4, List.length_append, List.length_cons]
      have hN2 := hN [.val (.int b), .val (rowD (cR l)), .own (.lst (iL (cR (spreadL b (dn ++ [a]) ++ List.replicate (b * rs.length) 0)))), .val (.int (dn.length : Nat)), .val (.int a)] G' ⟨dn ++ [a], rs, some _, some _, by rw [List.length_append]; rfl, rfl, rfl, by rw [h4, List.append_assoc]; rfl⟩
      have hk : b * dn.length < (iL (cR (spreadL b dn ++ List.replicate (b * (rs.length + 1)) 0))).length := by
        rw [List.length_map, List.length_map, List.length_append, spreadL_length (by omega), List.length_replicate, Nat.mul_add]
        omega
      have hset : (iL (cR (spreadL b dn ++ List.replicate (b * (rs.length + 1)) 0))).set (b * dn.length) (.int a) = iL (cR (spreadL b (dn ++ [a]) ++ List.replicate (b * rs.length) 0)) := by
        rw [← spread_set (by omega), iL, iL, cR, cR, List.map_set, List.map_set]
      rw [← hset] at hN2
      cases x <;> cases y <;> (simp only [optS]; walk_at "v"; refine ⟨rfl, mul_small (by omega), b * dn.length, ?_, hN2⟩; rw [← Int.natCast_mul]; exact ixN_cast hk)
def s__law_spread : SpD := fun ds G Q _ => ∃ (b : Nat) (l : List Nat), ds = [.int b, rowD (cR l)] ∧ IsBase b ∧ l.length ≤ 100000 ∧ Q (rowD (trimI (cR (spreadL b l)))) G
def p__law_spread : VS := (vSeq (vSet 2 (nOp dMulN (vLst (vCons (vC (.int 0)) vNil)) (eN (nOp dMulN (vPk 0) (vCall dLen (vCons (vPk 1) vNil)))))) (vSeq (vFor (viEnum (vqVar 1)) (vgTup 2 (vgCons (vgName 3) (vgCons (vgName 4) vgNil))) (vSetIx 2 (eN (nOp dMulN (vPk 0) (vPk 3))) (vVar 4))) (vShare 2 (vRet (vDef s__law_cut (vCons (vVar 2) vNil))))))
theorem v__law_spread (ds : List D) (G : Gs) (Qd : D → Gs → Prop) (Ed : EK) (h : s__law_spread ds G Qd Ed) : ds.length = 2 ∧ p__law_spread Ed (ends0 Qd) (startL ["base", "row", "found", "at", "figure"] ds) G := by
  obtain ⟨b, l, rfl, hb, hl, q⟩ := h
  refine ⟨rfl, ?_⟩
  show p__law_spread Ed (ends0 Qd) [.val (.int b), .val (rowD (cR l)), .no, .no, .no] G
  have hb5 : 2 ≤ b ∧ b ≤ 5 := by rcases hb with rfl | rfl | rfl <;> omega
  have hbl : b * l.length ≤ 500000 := Nat.le_trans (Nat.mul_le_mul hb5.2 hl) (by decide)
  unfold p__law_spread
  walk_at "v"
  have el : (List.map D.int (cR l)).length = l.length := by rw [List.length_map, cR, List.length_map]
  have en : ((b : Int) * (l.length : Int)) = ((b * l.length : Nat) : Int) := (Int.natCast_mul b l.length).symm
  rw [el, en, Int.toNat_natCast, List.flatten_replicate_singleton]
  refine ⟨smallN (by simp), mul_small (by omega), ⟨by omega, by omega, smallN (by simp; omega)⟩, ?_⟩
  refine forV_ind (fun rem L G' => ∃ (dn rs : List Nat) (x y : Option D), rem = enumD dn.length (iL (cR rs)) ∧ L = [.val (.int b), .val (rowD (cR l)), .own (.lst (iL (cR (spreadL b dn ++ List.replicate (b * rs.length) 0)))), optS x, optS y] ∧ G' = G ∧ l = dn ++ rs) ⟨[], l, none, none, rfl, ?_, rfl, rfl⟩ ?_ ?_
  · simp [spreadL, optS]
  · rintro L G' ⟨dn, rs, x, y, h1, rfl, rfl, rfl⟩
    have : rs = [] := by
      cases rs with
      | nil => rfl
      | cons => exact nomatch h1
    subst this
    have q' : Qd (rowD (trimI (cR (spreadL b dn)))) G' := by rw [List.append_nil] at q; exact q
    have hsm : (cR (spreadL b dn ++ List.replicate (b * ([] : List Nat).length) 0)).length < 2 ^ 62 := by
      rw [List.append_nil] at hbl
      rw [List.length_map, List.length_append, spreadL_length (by omega)]
      simp
      omega
    cases x <;> cases y <;> (simp only [optS]; walk_at "v"; refine ⟨_, _, rfl, .inl rfl, ?_, ?_⟩; rotate_left; rw [List.length_nil, Nat.mul_zero, List.replicate_zero, List.append_nil]; exact q'; exact hsm)
  · rintro d ds L G' N ⟨dn, rs, x, y, h1, rfl, rfl, h4⟩ hN
    cases rs with
    | nil => exact nomatch h1
    | cons a rs =>
      have h1' : d = .tup [.int (dn.length : Nat), .int a] ∧ ds = enumD (dn.length + 1) (iL (cR rs)) := List.cons.inj h1
      obtain ⟨rfl, rfl⟩ := h1'
      have hlen : l.length = dn.length + (rs.length + 1) := by rw [h4, List.length_append, List.length_cons]
      have hN2 := hN [.val (.int b), .val (rowD (cR l)), .own (.lst (iL (cR (spreadL b (dn ++ [a]) ++ List.replicate (b * rs.length) 0)))), .val (.int (dn.length : Nat)), .val (.int a)] G' ⟨dn ++ [a], rs, some _, some _, by rw [List.length_append]; rfl, rfl, rfl, by rw [h4, List.append_assoc]; rfl⟩
      have hk : b * dn.length < (iL (cR (spreadL b dn ++ List.replicate (b * (rs.length + 1)) 0))).length := by
        rw [List.length_map, List.length_map, List.length_append, spreadL_length (by omega), List.length_replicate, Nat.mul_add]
        omega
      have hset : (iL (cR (spreadL b dn ++ List.replicate (b * (rs.length + 1)) 0))).set (b * dn.length) (.int a) = iL (cR (spreadL b (dn ++ [a]) ++ List.replicate (b * rs.length) 0)) := by
        rw [← spread_set (by omega), iL, iL, cR, cR, List.map_set, List.map_set]
      rw [← hset] at hN2
      cases x <;> cases y <;> (simp only [optS]; walk_at "v"; refine ⟨rfl, mul_small (by omega), b * dn.length, ?_, hN2⟩; rw [← Int.natCast_mul]; exact ixN_cast hk)
end SP
set_option Elab.async false
set_option autoImplicit false
set_option linter.all false
set_option maxRecDepth 100000
set_option maxHeartbeats 2000000
namespace SP
open PySem PySem.Spec PyProof.Rows L2 VL
local macro_rules | `(tactic| walk_at "v") => `(tactic| simp only [vSeq, vNext, vVar, vPk, vC, vOp, vB, vSet, vPar, vApp, vShare, vRet, vRetN, vDrop, vIfS, vSetIx, ownLst, setL, setAll, slotN, xN, xNil, nE, nF, eN, nOp, nSl, nRev, nIf, vNo, vPart, vNil, vCons, vTup, vLst, vCall, vDef, vNeg, vChain, vAnd, vOr, vNot, vAndT, vOrT, vNotT, vIf, vRaise, vBrk, vCnt, vUnp, vgName, vgNil, vgCons, vgTup, vqVar, vqVal, viRng1, viRng2, viRng3, viEnum, vYes, lockL, lock1, unlL, unl1, wipeV, vComp, vFor, vTru, vIsTy, vOwn, vExt, vPop, vDrwW, vDrwC, vDrwN, vPutW, vPutN, vDct, vpNil, vpCons, vDGet, vDGet2, vDIn, dAdd, dSub, dMul, dMod, dDiv, dPow, dCmp, dLt, dLe, dGt, dGe, dAddN, dMulN, dIx, dLen, dInt, dTupOf, dLstOf, dMax2, dMin2, dIs, dIsN, dRepr, seqD, List.set_cons_zero, List.set_cons_succ, List.getElem?_cons_zero, List.getElem?_cons_succ, List.getElem?_nil, List.set_nil])
/-! ### the program's own -/
theorem digs_len {b : Nat} (hb : 2 ≤ b) : ∀ (k n : Nat), n < 2 ^ k → (digs b n).length ≤ k
  | 0, n, h => by rw [show n = 0 by omega, digs_zero]; exact Nat.le_refl 0
  | k + 1, n, h => by
    by_cases hn : n = 0
    · rw [hn, digs_zero]
      exact Nat.zero_le _
    · rw [digs_pos hb (by omega), List.length_cons]
      refine Nat.succ_le_succ (digs_len hb k (n / b) ?_)
      refine Nat.lt_of_le_of_lt (Nat.div_le_div_left hb (by decide)) ?_
      rw [Nat.pow_succ] at h
      omega
theorem base_log {b : Nat} (hb : IsBase b) : 2 ≤ b ∧ b ≤ 5 ∧ b.log2 < 9000 := by
  rcases hb with rfl | rfl | rfl <;> decide
theorem baseOk_of {d : D} (h : baseOk d = true) : ∃ b : Nat, d = .int b ∧ IsBase b := by
  cases d with
  | int i =>
    simp only [baseOk, decide_eq_true_eq, Bool.or_eq_true] at h
    refine ⟨i.toNat, ?_, ?_⟩
    · rw [Int.toNat_of_nonneg (by omega)]
    · unfold IsBase
      omega
  | _ => exact nomatch h
theorem inR_of {lo hi : Int} {d : D} (h : inR lo hi d = true) : ∃ i : Int, d = .int i ∧ lo ≤ i ∧ i ≤ hi := by
  cases d with
  | int i =>
    simp only [inR, decide_eq_true_eq, Bool.and_eq_true] at h
    exact ⟨i, rfl, h⟩
  | _ => exact nomatch h
/-- the shape that the program's functions of a base and a number share -/
def pubS (lo : Int) (f : Nat → Nat → D) : SpD := fun ds G Q E => ∃ db dn t1 t2, ds = [db, dn] ∧ tyOfD db = some t1 ∧ tyOfD dn = some t2 ∧ (baseOk db = false → E ⟨"BadBase", none⟩ G) ∧ (baseOk db = true → inR lo 1000000 dn = false → E ⟨"BadNumber", none⟩ G) ∧ (∀ b n : Nat, db = .int b → dn = .int n → IsBase b → lo ≤ n → n ≤ 1000000 → Q (f b n) G)
def s_figures_of : SpD := pubS 0 fun b n => rowD (cR (digs b n))
def p_figures_of : VS := (vSeq (vDrop (vDef s_need_base (vCons (vVar 0) vNil))) (vSeq (vDrop (vDef s_need_as (vCons (vVar 1) (vCons (vC (.str "number")) (vCons (vC (.int 0)) vNil))))) (vRet (vDef s_row_of (vCons (vVar 0) (vCons (vVar 1) vNil))))))
theorem v_figures_of (ds : List D) (G : Gs) (Qd : D → Gs → Prop) (Ed : EK) (h : s_figures_of ds G Qd Ed) : ds.length = 2 ∧ p_figures_of Ed (ends0 Qd) (startL ["base", "number"] ds) G := by
  obtain ⟨db, dn, t1, t2, rfl, h1, h2, e1, e2, q⟩ := h
  refine ⟨rfl, ?_⟩
  show p_figures_of Ed (ends0 Qd) [.val db, .val dn] G
  unfold p_figures_of
  walk_at "v"
  refine ⟨db, t1, rfl, h1, fun ok => ?_, e1⟩
  refine ⟨dn, t2, _, _, rfl, h2, fun ok2 => ?_, fun bad => e2 ok bad⟩
  obtain ⟨b, rfl, hb⟩ := baseOk_of ok
  obtain ⟨i, rfl, hi1, hi2⟩ := inR_of ok2
  obtain ⟨n, rfl⟩ := Int.eq_ofNat_of_zero_le hi1
  have hb2 := base_log hb
  exact ⟨b, n, rfl, hb2.1, hb2.2.2, Nat.le_trans (digs_len hb2.1 20 n (by omega)) (by decide), q b n rfl rfl hb hi1 (by omega)⟩
def s_length_of : SpD := pubS 0 fun b n => .int ((digs b n).length : Nat)
def p_length_of : VS := (vSeq (vDrop (vDef s_need_base (vCons (vVar 0) vNil))) (vSeq (vDrop (vDef s_need_as (vCons (vVar 1) (vCons (vC (.str "number")) (vCons (vC (.int 0)) vNil))))) (vRet (vCall dLen (vCons (vDef s_row_of (vCons (vVar 0) (vCons (vVar 1) vNil))) vNil)))))
theorem v_length_of (ds : List D) (G : Gs) (Qd : D → Gs → Prop) (Ed : EK) (h : s_length_of ds G Qd Ed) : ds.length = 2 ∧ p_length_of Ed (ends0 Qd) (startL ["base", "number"] ds) G := by
  obtain ⟨db, dn, t1, t2, rfl, h1, h2, e1, e2, q⟩ := h
  refine ⟨rfl, ?_⟩
  show p_length_of Ed (ends0 Qd) [.val db, .val dn] G
  unfold p_length_of
  walk_at "v"
  refine ⟨db, t1, rfl, h1, fun ok => ?_, e1⟩
  refine ⟨dn, t2, _, _, rfl, h2, fun ok2 => ?_, fun bad => e2 ok bad⟩
  obtain ⟨b, rfl, hb⟩ := baseOk_of ok
  obtain ⟨i, rfl, hi1, hi2⟩ := inR_of ok2
  obtain ⟨n, rfl⟩ := Int.eq_ofNat_of_zero_le hi1
  have hb2 := base_log hb
  refine ⟨b, n, rfl, hb2.1, hb2.2.2, Nat.le_trans (digs_len hb2.1 20 n (by omega)) (by decide), ?_⟩
  have e := q b n rfl rfl hb hi1 (by omega)
  show Qd (.int ((List.map D.int (cR (digs b n))).length : Nat)) G
  rw [List.length_map, List.length_map]
  exact e
def spreadV (b : Nat) (l : List Nat) : Int := valI b (trimI (cR (spreadL b l)))
def s_spread_of : SpD := pubS 0 fun b n => .int (spreadV b (digs b n))
def p_spread_of : VS := (vSeq (vDrop (vDef s_need_base (vCons (vVar 0) vNil))) (vSeq (vDrop (vDef s_need_as (vCons (vVar 1) (vCons (vC (.str "number")) (vCons (vC (.int 0)) vNil))))) (vRet (vDef s_worth (vCons (vVar 0) (vCons (vDef s_spread_row (vCons (vVar 0) (vCons (vDef s_row_of (vCons (vVar 0) (vCons (vVar 1) vNil))) vNil))) vNil))))))
theorem v_spread_of (ds : List D) (G : Gs) (Qd : D → Gs → Prop) (Ed : EK) (h : s_spread_of ds G Qd Ed) : ds.length = 2 ∧ p_spread_of Ed (ends0 Qd) (startL ["base", "number"] ds) G := by
  obtain ⟨db, dn, t1, t2, rfl, h1, h2, e1, e2, q⟩ := h
  refine ⟨rfl, ?_⟩
  show p_spread_of Ed (ends0 Qd) [.val db, .val dn] G
  unfold p_spread_of
  walk_at "v"
  refine ⟨db, t1, rfl, h1, fun ok => ?_, e1⟩
  refine ⟨dn, t2, _, _, rfl, h2, fun ok2 => ?_, fun bad => e2 ok bad⟩
  obtain ⟨b, rfl, hb⟩ := baseOk_of ok
  obtain ⟨i, rfl, hi1, hi2⟩ := inR_of ok2
  obtain ⟨n, rfl⟩ := Int.eq_ofNat_of_zero_le hi1
  have hb2 := base_log hb
  have hl := digs_len hb2.1 20 n (by omega)
  exact ⟨b, n, rfl, hb2.1, hb2.2.2, Nat.le_trans hl (by decide), b, digs b n, rfl, hb, Nat.le_trans hl (by decide), b, _, rfl, by omega, q b n rfl rfl hb hi1 (by omega)⟩
end SP
set_option Elab.async false
set_option autoImplicit false
set_option linter.all false
set_option maxRecDepth 100000
set_option maxHeartbeats 2000000
namespace SP
open PySem PySem.Spec PyProof.Rows L2 VL
local macro_rules | `(tactic| walk_at "v") => `(tactic| simp only [vSeq, vNext, vVar, vPk, vC, vOp, vB, vSet, vPar, vApp, vShare, vRet, vRetN, vDrop, vIfS, vSetIx, ownLst, setL, setAll, slotN, xN, xNil, nE, nF, eN, nOp, nSl, nRev, nIf, vNo, vPart, vNil, vCons, vTup, vLst, vCall, vDef, vNeg, vChain, vAnd, vOr, vNot, vAndT, vOrT, vNotT, vIf, vRaise, vBrk, vCnt, vUnp, vgName, vgNil, vgCons, vgTup, vqVar, vqVal, viRng1, viRng2, viRng3, viEnum, vYes, lockL, lock1, unlL, unl1, wipeV, vComp, vFor, vTru, vIsTy, vOwn, vExt, vPop, vDrwW, vDrwC, vDrwN, vPutW, vPutN, vDct, vpNil, vpCons, vDGet, vDGet2, vDIn, dAdd, dSub, dMul, dMod, dDiv, dPow, dCmp, dLt, dLe, dGt, dGe, dAddN, dMulN, dIx, dLen, dInt, dTupOf, dLstOf, dMax2, dMin2, dIs, dIsN, dRepr, seqD, List.set_cons_zero, List.set_cons_succ, List.getElem?_cons_zero, List.getElem?_cons_succ, List.getElem?_nil, List.set_nil])
/-! ### plain_of and number_of -/
theorem compV_mapD {vg : VG} {tt : VT} {te : VE} {L : Lo} {Q : D → Gs → Prop} {G : Gs} {items : List D} (f : D → D) (hlen : items.length ≤ lineN)
    (hs : ∀ x ∈ items, ∀ (acc : List D) (N : List D → Gs → Prop), N (acc ++ [f x]) G → acc.length < lineN → vg x L fun L2 => tt Ev0 L2 G fun b G1 => match b with
      | true => te Ev0 L2 G1 fun y G2 => acc.length < lineN ∧ N (acc ++ [y]) G2
      | false => N acc G1)
    (q : Q (.lst (items.map f)) G) : compV vg tt te L items [] G Q := by
  refine compV_ind (fun rem acc G' => ∃ dn : List D, acc = dn.map f ∧ G' = G ∧ items = dn ++ rem) ⟨[], rfl, rfl, rfl⟩ ?_ ?_
  · rintro acc G' ⟨dn, rfl, rfl, rfl⟩
    rw [List.append_nil] at q
    exact q
  · rintro d ds acc G' N ⟨dn, rfl, rfl, h4⟩ hN
    have hl2 : items.length = dn.length + (ds.length + 1) := by rw [h4, List.length_append, List.length_cons]
    exact hs d (by rw [h4]; simp) _ N (hN _ _ ⟨dn ++ [d], by simp, rfl, by rw [h4]; simp⟩) (by rw [List.length_map]; omega)
theorem digs_snoc {b : Nat} (hb : 2 ≤ b) : ∀ n : Nat, 0 < n → ∃ s a, digs b n = s ++ [a] ∧ 0 < a ∧ a < b := fun n => by
  induction n using Nat.strongRecOn with
  | _ n ih =>
    intro hn
    rw [digs_pos hb hn]
    by_cases h : n / b = 0
    · rw [h, digs_zero]
      have hlt : n < b := by
        rcases Nat.div_eq_zero_iff.mp h with h | h
        · omega
        · exact h
      exact ⟨[], n % b, rfl, by rw [Nat.mod_eq_of_lt hlt]; exact hn, Nat.mod_lt _ (by omega)⟩
    · obtain ⟨s, a, e, h1, h2⟩ := ih (n / b) (Nat.div_lt_self hn (by omega)) (Nat.pos_of_ne_zero h)
      exact ⟨n % b :: s, a, by rw [e]; rfl, h1, h2⟩
def plainV (b : Nat) (l : List Nat) : Int := valI b (cR (plainR b (l.getLastD 0) l))
def s_plain_of : SpD := pubS 1 fun b n => .int (plainV b (digs b n))
def p_plain_of : VS := (vSeq (vDrop (vDef s_need_base (vCons (vVar 0) vNil))) (vSeq (vDrop (vDef s_need_as (vCons (vVar 1) (vCons (vC (.str "number")) (vCons (vC (.int 1)) vNil))))) (vRet (vDef s_worth (vCons (vVar 0) (vCons (vDef s_plain_row (vCons (vVar 0) (vCons (vDef s_row_of (vCons (vVar 0) (vCons (vVar 1) vNil))) vNil))) vNil))))))
theorem v_plain_of (ds : List D) (G : Gs) (Qd : D → Gs → Prop) (Ed : EK) (h : s_plain_of ds G Qd Ed) : ds.length = 2 ∧ p_plain_of Ed (ends0 Qd) (startL ["base", "number"] ds) G := by
  obtain ⟨db, dn, t1, t2, rfl, h1, h2, e1, e2, q⟩ := h
  refine ⟨rfl, ?_⟩
  show p_plain_of Ed (ends0 Qd) [.val db, .val dn] G
  unfold p_plain_of
  walk_at "v"
  refine ⟨db, t1, rfl, h1, fun ok => ?_, e1⟩
  refine ⟨dn, t2, _, _, rfl, h2, fun ok2 => ?_, fun bad => e2 ok bad⟩
  obtain ⟨b, rfl, hb⟩ := baseOk_of ok
  obtain ⟨i, rfl, hi1, hi2⟩ := inR_of ok2
  obtain ⟨n, rfl⟩ := Int.eq_ofNat_of_zero_le (show 0 ≤ i by omega)
  have hb2 := base_log hb
  have hl := digs_len hb2.1 20 n (by omega)
  obtain ⟨s, a, e, ha, hab⟩ := digs_snoc hb2.1 n (by omega)
  have eq := q b n rfl rfl hb hi1 (by omega)
  change Qd (.int (plainV b (digs b n))) G at eq
  unfold plainV at eq
  rw [e, List.getLastD_concat] at eq
  refine ⟨b, n, rfl, hb2.1, hb2.2.2, Nat.le_trans hl (by decide), b, a, s, by rw [e], hb, ha, hab, ?_, b, _, rfl, by omega, eq⟩
  rw [← e]
  exact Nat.le_trans hl (by decide)
end SP
set_option Elab.async false
set_option autoImplicit false
set_option linter.all false
set_option maxRecDepth 100000
set_option maxHeartbeats 2000000
namespace SP
open PySem PySem.Spec PyProof.Rows L2 VL
local macro_rules | `(tactic| walk_at "v") => `(tactic| simp only [vSeq, vNext, vVar, vPk, vC, vOp, vB, vSet, vPar, vApp, vShare, vRet, vRetN, vDrop, vIfS, vSetIx, ownLst, setL, setAll, slotN, xN, xNil, nE, nF, eN, nOp, nSl, nRev, nIf, vNo, vPart, vNil, vCons, vTup, vLst, vCall, vDef, vNeg, vChain, vAnd, vOr, vNot, vAndT, vOrT, vNotT, vIf, vRaise, vBrk, vCnt, vUnp, vgName, vgNil, vgCons, vgTup, vqVar, vqVal, viRng1, viRng2, viRng3, viEnum, vYes, lockL, lock1, unlL, unl1, wipeV, vComp, vFor, vTru, vIsTy, vOwn, vExt, vPop, vDrwW, vDrwC, vDrwN, vPutW, vPutN, vDct, vpNil, vpCons, vDGet, vDGet2, vDIn, dAdd, dSub, dMul, dMod, dDiv, dPow, dCmp, dLt, dLe, dGt, dGe, dAddN, dMulN, dIx, dLen, dInt, dTupOf, dLstOf, dMax2, dMin2, dIs, dIsN, dRepr, seqD, List.set_cons_zero, List.set_cons_succ, List.getElem?_cons_zero, List.getElem?_cons_succ, List.getElem?_nil, List.set_nil])
def rowOk (b : Int) : D → Bool
  | .tup ds => ds.all (inR 0 (b - 1)) && match ds.getLast? with
    | some (.int 0) => false
    | _ => true
  | _ => false
theorem row_ints {b : Int} : ∀ ds : List D, ds.all (inR 0 (b - 1)) = true → ∃ l : List Int, ds = iL l ∧ ∀ x ∈ l, 0 ≤ x ∧ x < b
  | [], _ => ⟨[], rfl, by simp⟩
  | d :: ds, h => by
    rw [List.all_cons, Bool.and_eq_true] at h
    obtain ⟨i, rfl, h1, h2⟩ := inR_of h.1
    obtain ⟨l, rfl, h3⟩ := row_ints ds h.2
    exact ⟨i :: l, rfl, fun x hx => by
      rcases List.mem_cons.mp hx with rfl | hx
      · omega
      · exact h3 x hx⟩
def s_number_of : SpD := fun ds G Q E => ∃ db dr t1 t2, ds = [db, dr] ∧ tyOfD db = some t1 ∧ tyOfD dr = some t2 ∧ (∀ items, dr = .tup items → items.length ≤ lineN ∧ ∀ d ∈ items, ∃ t, tyOfD d = some t) ∧ (baseOk db = false → E ⟨"BadBase", none⟩ G) ∧ (∀ b : Nat, db = .int b → IsBase b → rowOk b dr = false → E ⟨"BadRow", none⟩ G) ∧ (∀ (b : Nat) (l : List Int), db = .int b → dr = rowD l → IsBase b → (∀ x ∈ l, 0 ≤ x ∧ x < b) → rowOk b dr = true → Q (.int (valI b l)) G)
def p_number_of : VS := (vSeq (vDrop (vDef s_need_base (vCons (vVar 0) vNil))) (vSeq (vIfS (vOrT (vNotT (vB (vIsTy "tuple" (vPk 1)))) (vNotT (vB (vCall dAll (vCons (vComp (vqVar 1) (vgName 2) [2] vYes (vDef s_is_within (vCons (vVar 2) (vCons (vC (.int 0)) (vCons (vOp dSub (vPk 0) (vC (.int 1))) vNil))))) vNil))))) (vRaise ⟨"BadRow", none⟩) vNext) (vSeq (vIfS (vAndT (vB (vOp dNe (vPk 1) (vTup vNil))) (vB (vOp dEq (vOp dIx (vPk 1) (vNeg (vC (.int 1)))) (vC (.int 0))))) (vRaise ⟨"BadRow", none⟩) vNext) (vRet (vDef s_worth (vCons (vVar 0) (vCons (vVar 1) vNil)))))))
theorem v_number_of (ds : List D) (G : Gs) (Qd : D → Gs → Prop) (Ed : EK) (h : s_number_of ds G Qd Ed) : ds.length = 2 ∧ p_number_of Ed (ends0 Qd) (startL ["base", "row", "figure"] ds) G := by
  obtain ⟨db, dr, t1, t2, rfl, h1, h2, h3, e1, e2, q⟩ := h
  refine ⟨rfl, ?_⟩
  show p_number_of Ed (ends0 Qd) [.val db, .val dr, .no] G
  unfold p_number_of
  walk_at "v"
  refine ⟨db, t1, rfl, h1, fun ok => ?_, e1⟩
  obtain ⟨b, rfl, hb⟩ := baseOk_of ok
  have e2 := e2 b rfl hb
  have q := fun l => q b l rfl
  rw [h2]
  by_cases ht : isTy dr "tuple" = true
  · cases dr with
    | tup items =>
      obtain ⟨h4, h5⟩ := h3 items rfl
      simp only [show isTy (D.tup items) "tuple" = true from ht, Bool.not_true]
      have ec : ∀ (k : D → Gs → Prop), k (.lst (items.map fun d => .bl (inR 0 ((b : Int) - 1) d))) G → compV (vgName 2) vYes (vDef s_is_within (vCons (vVar 2) (vCons (vC (.int 0)) (vCons (vOp dSub (vPk 0) (vC (.int 1))) vNil)))) [.val (.int b), .val (.tup items), .no] items [] G k := fun k hk => by
        refine compV_mapD (fun d => .bl (inR 0 ((b : Int) - 1) d)) h4 ?_ hk
        intro x hx acc N hN hl
        obtain ⟨t, et⟩ := h5 x hx
        walk_at "v"
        exact ⟨x, t, 0, _, rfl, et, hl, hN⟩
      refine ec _ ?_
      simp only [dAll]
      refine ⟨items.map (inR 0 ((b : Int) - 1)), by rw [List.map_map]; rfl, ?_⟩
      have ea : (items.map (inR 0 ((b : Int) - 1))).all id = items.all (inR 0 ((b : Int) - 1)) := by rw [List.all_map]; rfl
      cases hall : items.all (inR 0 ((b : Int) - 1)) with
      | false =>
        rw [ea, hall]
        exact e2 (by rw [rowOk, hall]; rfl)
      | true =>
        rw [ea, hall]
        obtain ⟨l, rfl, hl⟩ := row_ints items hall
        refine ⟨smallN (by simp), dNe_row (a := l) (b := []) ?_⟩
        rcases List.eq_nil_or_concat l with rfl | ⟨s, x, rfl⟩
        · rw [decide_eq_true rfl]
          exact ⟨b, [], rfl, by have := base_log hb; omega, q [] rfl hb hl rfl⟩
        · rw [List.concat_eq_append] at *
          rw [decide_eq_false (by simp)]
          have hx : atI (iL (s ++ [x])) (-1) = some (.int x) := by
            rw [iL, List.map_append]
            exact atI_last
          refine ⟨.int x, hx, ?_⟩
          have er : rowOk b (D.tup (iL (s ++ [x]))) = !decide (x = 0) := by
            rw [rowOk, hall, iL, List.map_append]
            simp only [List.map_cons, List.map_nil, List.getLast?_append, List.getLast?_singleton, Option.some_or, Bool.true_and]
            by_cases h0 : x = 0
            · subst h0
              rfl
            · rw [decide_eq_false h0]
              cases x with
              | ofNat n =>
                cases n with
                | zero => exact absurd rfl h0
                | succ n => rfl
              | negSucc n => rfl
          show match decide (x = 0) with
            | true => _
            | false => _
          cases e0 : decide (x = 0) with
          | true => exact e2 (by rw [er, e0]; rfl)
          | false => exact ⟨b, s ++ [x], rfl, by have := base_log hb; omega, q _ rfl hb hl (by rw [er, e0]; rfl)⟩
    | _ => exact nomatch ht
  · have hf : isTy dr "tuple" = false := by simpa using ht
    have : rowOk b dr = false := by
      cases dr with
      | tup items => exact nomatch hf
      | _ => rfl
    simp only [hf]
    exact e2 this
end SP
set_option Elab.async false
set_option autoImplicit false
set_option linter.all false
set_option maxRecDepth 100000
set_option maxHeartbeats 2000000
namespace SP
open PySem PySem.Spec PyProof.Rows L2 VL
local macro_rules | `(tactic| walk_at "v") => `(tactic| simp only [vSeq, vNext, vVar, vPk, vC, vOp, vB, vSet, vPar, vApp, vShare, vRet, vRetN, vDrop, vIfS, vSetIx, ownLst, setL, setAll, slotN, xN, xNil, nE, nF, eN, nOp, nSl, nRev, nIf, vNo, vPart, vNil, vCons, vTup, vLst, vCall, vDef, vNeg, vChain, vAnd, vOr, vNot, vAndT, vOrT, vNotT, vIf, vRaise, vBrk, vCnt, vUnp, vgName, vgNil, vgCons, vgTup, vqVar, vqVal, viRng1, viRng2, viRng3, viEnum, vYes, lockL, lock1, unlL, unl1, wipeV, vComp, vFor, vTru, vIsTy, vOwn, vExt, vPop, vDrwW, vDrwC, vDrwN, vPutW, vPutN, vDct, vpNil, vpCons, vDGet, vDGet2, vDIn, dAdd, dSub, dMul, dMod, dDiv, dPow, dCmp, dLt, dLe, dGt, dGe, dAddN, dMulN, dIx, dLen, dInt, dTupOf, dLstOf, dMax2, dMin2, dIs, dIsN, dRepr, seqD, List.set_cons_zero, List.set_cons_succ, List.getElem?_cons_zero, List.getElem?_cons_succ, List.getElem?_nil, List.set_nil])
/-! ### powers -/
def s__law_power : SpD := fun ds G Q _ => ∃ (a : Int) (n : Nat), ds = [.int a, .int n] ∧ a.natAbs < 2 ^ 64 ∧ n ≤ 1000000 ∧ Q (.int (a ^ n)) G
def p__law_power : VS := (vSeq (vSet 2 (nE (vC (.int 1)))) (vSeq (vFor (viRng1 (vCons (vVar 1) vNil)) (vgName 3) (vSet 2 (nOp dMulN (vPk 2) (vPk 0)))) (vRet (vVar 2))))
theorem v__law_power (ds : List D) (G : Gs) (Qd : D → Gs → Prop) (Ed : EK) (h : s__law_power ds G Qd Ed) : ds.length = 2 ∧ p__law_power Ed (ends0 Qd) (startL ["number", "many", "found", "lap"] ds) G := by
  obtain ⟨a, n, rfl, ha, hn, q⟩ := h
  refine ⟨rfl, ?_⟩
  show p__law_power Ed (ends0 Qd) [.val (.int a), .val (.int n), .no, .no] G
  unfold p__law_power
  walk_at "v"
  refine ⟨⟨by omega, by omega⟩, ?_⟩
  refine forV_ind (fun rem L G' => ∃ (k : Nat) (x : Option D), L = [.val (.int a), .val (.int n), .val (.int (a ^ k)), optS x] ∧ G' = G ∧ k + rem.length = n) ⟨0, none, by rw [Int.pow_zero]; rfl, rfl, by rw [rangeD_length]; simp⟩ ?_ ?_
  · rintro L G' ⟨k, x, rfl, rfl, hk⟩
    have : k = n := by simpa using hk
    subst this
    cases x <;> (simp only [optS]; walk_at "v"; exact q)
  · rintro d ds L G' N ⟨k, x, rfl, rfl, hk⟩ hN
    have e := hN [.val (.int a), .val (.int n), .val (.int (a ^ (k + 1))), .val d] G' ⟨k + 1, some d, rfl, rfl, by rw [List.length_cons] at hk; omega⟩
    cases x <;> (simp only [optS]; walk_at "v"; rw [Int.pow_succ] at e; exact ⟨mul_small ha, e⟩)
end SP
set_option Elab.async false
set_option autoImplicit false
set_option linter.all false
set_option maxRecDepth 100000
set_option maxHeartbeats 2000000
namespace SP
open PySem PySem.Spec PyProof.Rows L2 VL
local macro_rules | `(tactic| walk_at "v") => `(tactic| simp only [vSeq, vNext, vVar, vPk, vC, vOp, vB, vSet, vPar, vApp, vShare, vRet, vRetN, vDrop, vIfS, vSetIx, ownLst, setL, setAll, slotN, xN, xNil, nE, nF, eN, nOp, nSl, nRev, nIf, vNo, vPart, vNil, vCons, vTup, vLst, vCall, vDef, vNeg, vChain, vAnd, vOr, vNot, vAndT, vOrT, vNotT, vIf, vRaise, vBrk, vCnt, vUnp, vgName, vgNil, vgCons, vgTup, vqVar, vqVal, viRng1, viRng2, viRng3, viEnum, vYes, lockL, lock1, unlL, unl1, wipeV, vComp, vFor, vTru, vIsTy, vOwn, vExt, vPop, vDrwW, vDrwC, vDrwN, vPutW, vPutN, vDct, vpNil, vpCons, vDGet, vDGet2, vDIn, dAdd, dSub, dMul, dMod, dDiv, dPow, dCmp, dLt, dLe, dGt, dGe, dAddN, dMulN, dIx, dLen, dInt, dTupOf, dLstOf, dMax2, dMin2, dIs, dIsN, dRepr, seqD, List.set_cons_zero, List.set_cons_succ, List.getElem?_cons_zero, List.getElem?_cons_succ, List.getElem?_nil, List.set_nil])
/-! ### division with a rest -/
/-- take t times the row g off the row r, from place k on -/
def offL (b t : Int) : Nat → List Int → List Int → List Int
  | _, [], r => r
  | k, x :: g, r => offL b t (k + 1) g (r.set k ((r.getD k 0 - t * x) % b))
theorem offL_length (b t : Int) : ∀ (g : List Int) (k : Nat) (r : List Int), (offL b t k g r).length = r.length
  | [], _, _ => rfl
  | x :: g, k, r => by rw [offL, offL_length b t g, List.length_set]
/-- n places of the answer still to find -/
def divF (b v : Int) (g : List Int) : Nat → List Int → List Int → List Int × List Int
  | 0, r, q => (q, r)
  | n + 1, r, q =>
    let t := r.getD (n + g.length - 1) 0 * v % b
    divF b v g n (offL b t n g r) (q.set n t)
def divL (b v : Int) (l g : List Int) : List Int × List Int :=
  let z := divF b v g (l.length + 1 - g.length) l (List.replicate (l.length + 1 - g.length) 0)
  (trimI z.1, trimI z.2)
def downL : Nat → List Int
  | 0 => []
  | n + 1 => (n : Int) :: downL n
theorem rangeD_down : ∀ n : Nat, rangeD ((n : Int) - 1) (-1) n = iL (downL n)
  | 0 => rfl
  | n + 1 => by
    have ih := rangeD_down n
    unfold rangeD at ih ⊢
    rw [List.range_succ_eq_map, List.map_cons, List.map_map, downL, iL, List.map_cons, ← iL, ← ih]
    refine List.cons_eq_cons.mpr ⟨?_, List.map_congr_left fun i _ => ?_⟩
    · congr 1
      simp
    · show D.int _ = D.int _
      congr 1
      simp
      omega
def opt2 : Option (D × D) → Slot × Slot
  | none => (.no, .no)
  | some (x, y) => (.val x, .val y)
def s__law_divided : SpD := fun ds G Q _ => ∃ (b a : Nat) (l g : List Int), ds = [.int b, rowD l, rowD (g ++ [(a : Int)])] ∧ IsBase b ∧ 0 < a ∧ a < b ∧ l.length ≤ 100000 ∧ (g ++ [(a : Int)]).length ≤ 100000 ∧ Q (.tup [rowD (divL b (invN b a) l (g ++ [(a : Int)])).1, rowD (divL b (invN b a) l (g ++ [(a : Int)])).2]) G
def p__law_divided : VS := (vSeq (vPar [3, 4] (xN (nF (vCall dLstOf (vCons (vPk 1) vNil))) (xN (nOp dMulN (vLst (vCons (vC (.int 0)) vNil)) (vCall dMax2 (vCons (vC (.int 0)) (vCons (eN (nOp dAddN (vOp dSub (vCall dLen (vCons (vPk 1) vNil)) (vCall dLen (vCons (vPk 2) vNil))) (vC (.int 1)))) vNil)))) xNil))) (vSeq (vSet 5 (nE (vOp dIx (vComp (viRng2 (vCons (vC (.int 1)) (vCons (vVar 0) vNil))) (vgName 8) [8] (vB (vOp dEq (vOp dMod (vCall dInt (vCons (eN (nOp dMulN (vPk 8) (vOp dIx (vPk 2) (vNeg (vC (.int 1)))))) vNil)) (vPk 0)) (vC (.int 1)))) (vVar 8)) (vC (.int 0))))) (vSeq (vFor (viRng3 (vCons (vOp dSub (vCall dLen (vCons (vPk 4) vNil)) (vC (.int 1))) (vCons (vNeg (vC (.int 1))) (vCons (vNeg (vC (.int 1))) vNil)))) (vgName 6) (vSeq (vSet 7 (nE (vOp dMod (vCall dInt (vCons (eN (nOp dMulN (vOp dIx (vPk 3) (vOp dSub (eN (nOp dAddN (vPk 6) (vCall dLen (vCons (vPk 2) vNil)))) (vC (.int 1)))) (vPk 5))) vNil)) (vPk 0)))) (vSeq (vSetIx 4 (vPk 6) (vVar 7)) (vFor (viEnum (vqVar 2)) (vgTup 2 (vgCons (vgName 8) (vgCons (vgName 9) vgNil))) (vSetIx 3 (eN (nOp dAddN (vPk 6) (vPk 8))) (vOp dMod (vCall dInt (vCons (vOp dSub (vOp dIx (vPk 3) (eN (nOp dAddN (vPk 6) (vPk 8)))) (eN (nOp dMulN (vPk 7) (vPk 9)))) vNil)) (vPk 0))))))) (vShare 4 (vShare 3 (vRet (vTup (vCons (vDef s__law_cut (vCons (vVar 4) vNil)) (vCons (vDef s__law_cut (vCons (vVar 3) vNil)) vNil)))))))))
theorem v__law_divided (ds : List D) (G : Gs) (Qd : D → Gs → Prop) (Ed : EK) (h : s__law_divided ds G Qd Ed) : ds.length = 3 ∧ p__law_divided Ed (ends0 Qd) (startL ["base", "one", "other", "left", "found", "scale", "at", "figure", "late", "item"] ds) G := by
  obtain ⟨b, a, l, g, rfl, hb, h0, hab, hl, hg, q⟩ := h
  refine ⟨rfl, ?_⟩
  show p__law_divided Ed (ends0 Qd) [.val (.int b), .val (rowD l), .val (rowD (g ++ [(a : Int)])), .no, .no, .no, .no, .no, .no, .no] G
  have hlast : atI (iL (g ++ [(a : Int)])) (-1) = some (.int a) := by
    rw [iL, List.map_append]
    exact atI_last
  have hb2 := base_log hb
  have hi := invN_lt hb h0 hab
  unfold p__law_divided
  walk_at "v"
  have eg : (List.map D.int (g ++ [(a : Int)])).length = g.length + 1 := by simp
  have ew : (if ((List.map D.int l).length : Int) - ((List.map D.int (g ++ [(a : Int)])).length : Int) + 1 > 0 then ((List.map D.int l).length : Int) - ((List.map D.int (g ++ [(a : Int)])).length : Int) + 1 else 0) = ((l.length + 1 - (g.length + 1) : Nat) : Int) := by
    rw [eg, List.length_map]
    split <;> omega
  rw [ew]
  generalize hw : l.length + 1 - (g.length + 1) = w
  have hw1 : w ≤ 100000 := by omega
  rw [Int.toNat_natCast, List.flatten_replicate_singleton]
  refine ⟨smallN (by simp), ⟨by omega, by omega, smallN (by simp; omega)⟩, ⟨by omega, by omega⟩, ⟨by omega, by omega⟩, ?_⟩
  rw [rangeD_up]
  refine compV_ints (fun x => decide (x * a % b = 1)) id (Nat.le_of_lt (Nat.lt_of_le_of_lt (show _ ≤ 1000000 by simp [upL]; omega) lineN_big)) ?_ ?_
  · intro x _ acc N h1 h2 h3
    walk_at "v"
    refine ⟨.int a, hlast, mul_small (by omega), by omega, ?_⟩
    show match decide (x * (a : Int) % (b : Int) = 1) with
      | true => _
      | false => _
    cases e : decide (x * (a : Int) % (b : Int) = 1) with
    | true => exact ⟨h3, h1 e⟩
    | false => exact h2 e
  · refine ⟨_, inv_at hb h0 hab, ?_⟩
    rw [List.length_replicate]
    refine ⟨⟨by omega, by omega⟩, ⟨by omega, by omega⟩, ?_⟩
    rw [show ((w : Int) - 1 - -1).toNat = w by omega, rangeD_down]
    generalize hg' : g ++ [(a : Int)] = gg at *
    have egg : gg.length = g.length + 1 := by rw [← hg']; simp
    generalize hv : invN b a = v at *
    have hq : ∀ r qq : List Int, (qq, r) = divF b v gg w l (List.replicate w 0) → Qd (.tup [rowD (trimI qq), rowD (trimI r)]) G := by
      intro r qq e
      have e2 : divL b v l gg = (trimI qq, trimI r) := by
        unfold divL
        rw [egg, hw, ← e]
      rw [e2] at q
      exact q
    refine forV_ind (fun rem L G' => ∃ (n : Nat) (r qq : List Int) (o p : Option (D × D)), rem = iL (downL n) ∧ L = [.val (.int b), .val (rowD l), .val (rowD gg), .own (.lst (iL r)), .own (.lst (iL qq)), .val (.int v), (opt2 o).1, (opt2 o).2, (opt2 p).1, (opt2 p).2] ∧ G' = G ∧ r.length = l.length ∧ qq.length = w ∧ n ≤ w ∧ divF b v gg n r qq = divF b v gg w l (List.replicate w 0)) ⟨w, l, List.replicate w 0, none, none, rfl, by simp [opt2], rfl, rfl, by simp, Nat.le_refl w, rfl⟩ ?_ ?_
    · rintro L G' ⟨n, r, qq, o, p, h1, rfl, rfl, hr, hqq, hn, hd⟩
      have : n = 0 := by
        cases n with
        | zero => rfl
        | succ => exact nomatch h1
      subst this
      have q' := hq r qq hd
      rcases o with _ | ⟨o1, o2⟩ <;> rcases p with _ | ⟨p1, p2⟩ <;> (simp only [opt2]; walk_at "v"; refine ⟨_, _, rfl, .inl rfl, by omega, _, _, rfl, .inl rfl, by omega, smallN (by simp), q'⟩)
    · rintro d ds L G' N ⟨n, r, qq, o, p, h1, rfl, rfl, hr, hqq, hn, hd⟩ hN
      cases n with
      | zero => exact nomatch h1
      | succ n =>
        have h1' : d = .int n ∧ ds = iL (downL n) := List.cons.inj h1
        obtain ⟨rfl, rfl⟩ := h1'
        have hin : n + g.length < r.length := by omega
        have hat : atI (iL r) ((n : Int) + ((List.map D.int gg).length : Int) - 1) = some (.int (r.getD (n + gg.length - 1) 0)) := by
          rw [List.length_map, egg, show (n : Int) + ((g.length + 1 : Nat) : Int) - 1 = ((n + g.length : Nat) : Int) by omega, atI_cast (by rw [List.length_map]; exact hin), show n + (g.length + 1) - 1 = n + g.length by omega, List.getD_eq_getElem?_getD]
          rw [List.getElem?_map, List.getElem?_eq_getElem hin]
          rfl
        generalize ht : r.getD (n + gg.length - 1) 0 = t0 at *
        have hd2 : divF b v gg n (offL b (t0 * v % b) n gg r) (qq.set n (t0 * v % b)) = divF b v gg w l (List.replicate w 0) := by
          rw [← hd, divF, ht]
        have hix : ixN (iL qq).length (n : Int) = some n := ixN_cast (by rw [List.length_map]; omega)
        have ht5 : (t0 * v % b).natAbs < 6 := by
          have := Int.emod_nonneg (t0 * v) (show (b : Int) ≠ 0 by omega)
          have := Int.emod_lt_of_pos (t0 * v) (show (0 : Int) < b by omega)
          omega
        have inner : ∀ (p : Option (D × D)) (E2 : VEnds), E2.nx = N → forV (vgTup 2 (vgCons (vgName 8) (vgCons (vgName 9) vgNil))) (vSetIx 3 (eN (nOp dAddN (vPk 6) (vPk 8))) (vOp dMod (vCall dInt (vCons (vOp dSub (vOp dIx (vPk 3) (eN (nOp dAddN (vPk 6) (vPk 8)))) (eN (nOp dMulN (vPk 7) (vPk 9)))) vNil)) (vPk 0))) [] Ed E2 (enumD 0 (iL gg)) [.val (.int b), .val (rowD l), .val (rowD gg), .own (.lst (iL r)), .own (.lst ((iL qq).set n (.int (t0 * v % b)))), .val (.int v), .val (.int n), .val (.int (t0 * v % b)), (opt2 p).1, (opt2 p).2] G' := by
          intro p E2 hE2
          refine forV_ind (fun rem L G2 => ∃ (dn rs r2 : List Int) (p : Option (D × D)), rem = enumD dn.length (iL rs) ∧ L = [.val (.int b), .val (rowD l), .val (rowD gg), .own (.lst (iL r2)), .own (.lst ((iL qq).set n (.int (t0 * v % b)))), .val (.int v), .val (.int n), .val (.int (t0 * v % b)), (opt2 p).1, (opt2 p).2] ∧ G2 = G' ∧ gg = dn ++ rs ∧ r2.length = l.length ∧ offL b (t0 * v % b) (n + dn.length) rs r2 = offL b (t0 * v % b) n gg r) ⟨[], gg, r, p, rfl, rfl, rfl, rfl, hr, rfl⟩ ?_ ?_
          · rintro L G2 ⟨dn, rs, r2, p, h1, rfl, rfl, h4, h5, h6⟩
            have : rs = [] := by
              cases rs with
              | nil => rfl
              | cons => exact nomatch h1
            subst this
            rw [hE2]
            have h6' : r2 = offL b (t0 * v % b) n gg r := h6
            refine hN _ _ ⟨n, r2, qq.set n (t0 * v % b), some (.int n, .int (t0 * v % b)), p, rfl, ?_, rfl, h5, by rw [List.length_set]; exact hqq, by omega, by rw [h6']; exact hd2⟩
            simp [unlL, opt2, iL]
          · rintro d ds L G2 N2 ⟨dn, rs, r2, p, h1, rfl, rfl, h4, h5, h6⟩ hN2
            cases rs with
            | nil => exact nomatch h1
            | cons x rs =>
              have h1' : d = .tup [.int (dn.length : Nat), .int x] ∧ ds = enumD (dn.length + 1) (iL rs) := List.cons.inj h1
              obtain ⟨rfl, rfl⟩ := h1'
              have hlen : gg.length = dn.length + (rs.length + 1) := by rw [h4, List.length_append, List.length_cons]
              have hin2 : n + dn.length < r2.length := by omega
              have hat2 : atI (iL r2) ((n : Int) + (dn.length : Int)) = some (.int (r2.getD (n + dn.length) 0)) := by
                rw [← Int.natCast_add, atI_cast (by rw [List.length_map]; exact hin2), List.getD_eq_getElem?_getD, List.getElem?_map, List.getElem?_eq_getElem hin2]
                rfl
              have hix2 : ixN (iL r2).length ((n : Int) + (dn.length : Int)) = some (n + dn.length) := by
                rw [← Int.natCast_add]
                exact ixN_cast (by rw [List.length_map]; exact hin2)
              have e := hN2 [.val (.int b), .val (rowD l), .val (rowD gg), .own (.lst (iL (r2.set (n + dn.length) ((r2.getD (n + dn.length) 0 - t0 * v % b * x) % b)))), .own (.lst ((iL qq).set n (.int (t0 * v % b)))), .val (.int v), .val (.int n), .val (.int (t0 * v % b)), .val (.int (dn.length : Nat)), .val (.int x)] G2 ⟨dn ++ [x], rs, r2.set (n + dn.length) ((r2.getD (n + dn.length) 0 - t0 * v % b * x) % b), some (.int (dn.length : Nat), .int x), by rw [List.length_append]; rfl, rfl, rfl, by rw [h4, List.append_assoc]; rfl, by rw [List.length_set]; exact h5, by rw [← h6, offL, List.length_append]; rfl⟩
              rw [iL, List.map_set] at e
              rcases p with _ | ⟨p1, p2⟩ <;> (simp only [opt2]; walk_at "v"; refine ⟨rfl, _, hat2, mul_smallL (by omega), by omega, n + dn.length, hix2, e⟩)
        rcases o with _ | ⟨o1, o2⟩ <;> rcases p with _ | ⟨p1, p2⟩ <;> (simp only [opt2]; walk_at "v"; refine ⟨_, hat, mul_small (by omega), by omega, n, hix, ?_⟩; first | exact inner none _ rfl | exact inner (some (_, _)) _ rfl)
end SP
set_option Elab.async false
set_option autoImplicit false
set_option linter.all false
set_option maxRecDepth 100000
set_option maxHeartbeats 2000000
namespace SP
open PySem PySem.Spec PyProof.Rows L2 VL
local macro_rules | `(tactic| walk_at "v") => `(tactic| simp only [vSeq, vNext, vVar, vPk, vC, vOp, vB, vSet, vPar, vApp, vShare, vRet, vRetN, vDrop, vIfS, vSetIx, ownLst, setL, setAll, slotN, xN, xNil, nE, nF, eN, nOp, nSl, nRev, nIf, vNo, vPart, vNil, vCons, vTup, vLst, vCall, vDef, vNeg, vChain, vAnd, vOr, vNot, vAndT, vOrT, vNotT, vIf, vRaise, vBrk, vCnt, vUnp, vgName, vgNil, vgCons, vgTup, vqVar, vqVal, viRng1, viRng2, viRng3, viEnum, vYes, lockL, lock1, unlL, unl1, wipeV, vComp, vFor, vTru, vIsTy, vOwn, vExt, vPop, vDrwW, vDrwC, vDrwN, vPutW, vPutN, vDct, vpNil, vpCons, vDGet, vDGet2, vDIn, dAdd, dSub, dMul, dMod, dDiv, dPow, dCmp, dLt, dLe, dGt, dGe, dAddN, dMulN, dIx, dLen, dInt, dTupOf, dLstOf, dMax2, dMin2, dIs, dIsN, dRepr, seqD, List.set_cons_zero, List.set_cons_succ, List.getElem?_cons_zero, List.getElem?_cons_succ, List.getElem?_nil, List.set_nil])
/-! ### the factors as a plain function -/
/-- one division tried n times -/
def lapF (b : Nat) (late : List Int) : Nat → List Int → Nat → List Int × Nat
  | 0, left, often => (left, often)
  | n + 1, left, often =>
    let part := if late.length ≤ left.length then divL b (invN b 1 : Nat) left late else ([], [1])
    if part.2 = [] then lapF b late n part.1 (often + 1) else lapF b late n left often
def numF (b len : Nat) : List Nat → List (List Int × Nat) → List Int → List (List Int × Nat) × List Int
  | [], found, left => (found, left)
  | m :: ms, found, left =>
    let z := lapF b (cR (digs b m)) len left 0
    numF b len ms (if 0 < z.2 then found ++ [(cR (digs b m), z.2)] else found) z.1
def numsF (b s : Nat) : List Nat := (List.range (b ^ s)).map fun i => b ^ s + i
def sizeF (b len : Nat) : List Nat → List (List Int × Nat) → List Int → List (List Int × Nat) × List Int
  | [], found, left => (found, left)
  | s :: ss, found, left => if left.length ≤ 2 * s then (found, left) else
    let z := numF b len (numsF b s) found left
    sizeF b len ss z.1 z.2
def lastF (z : List (List Int × Nat) × List Int) : List (List Int × Nat) :=
  if 1 < z.2.length then (z.1.filter fun p => p.1 ≠ z.2) ++ [(z.2, 1 + ((z.1.filter fun p => p.1 = z.2).map fun p => p.2).sum)] else z.1
def factF (b : Nat) (l : List Nat) : List (List Int × Nat) := lastF (sizeF b l.length ((List.range (l.length - 1)).map (· + 1)) [] (cR (plainR b (l.getLastD 0) l)))
def isPr (b : Nat) (l : List Nat) : Bool := decide (1 < l.length) && (decide (l.getLastD 0 = 1) && decide (factF b l = [(cR l, 1)]))
end SP
set_option Elab.async false
set_option autoImplicit false
set_option linter.all false
set_option maxRecDepth 100000
set_option maxHeartbeats 2000000
namespace SP
open PySem PySem.Spec PyProof.Rows L2 VL
local macro_rules | `(tactic| walk_at "v") => `(tactic| simp only [vSeq, vNext, vVar, vPk, vC, vOp, vB, vSet, vPar, vApp, vShare, vRet, vRetN, vDrop, vIfS, vSetIx, ownLst, setL, setAll, slotN, xN, xNil, nE, nF, eN, nOp, nSl, nRev, nIf, vNo, vPart, vNil, vCons, vTup, vLst, vCall, vDef, vNeg, vChain, vAnd, vOr, vNot, vAndT, vOrT, vNotT, vIf, vRaise, vBrk, vCnt, vUnp, vgName, vgNil, vgCons, vgTup, vqVar, vqVal, viRng1, viRng2, viRng3, viEnum, vYes, lockL, lock1, unlL, unl1, wipeV, vComp, vFor, vTru, vIsTy, vOwn, vExt, vPop, vDrwW, vDrwC, vDrwN, vPutW, vPutN, vDct, vpNil, vpCons, vDGet, vDGet2, vDIn, dAdd, dSub, dMul, dMod, dDiv, dPow, dCmp, dLt, dLe, dGt, dGe, dAddN, dMulN, dIx, dLen, dInt, dTupOf, dLstOf, dMax2, dMin2, dIs, dIsN, dRepr, seqD, List.set_cons_zero, List.set_cons_succ, List.getElem?_cons_zero, List.getElem?_cons_succ, List.getElem?_nil, List.set_nil])
/-! ### any number -/
/-- of the prime: its range alone (laws that need more: make it stronger here) -/
def s__law_prime : SpD := fun ds G Q _ => ∃ b m : Nat, ds = [.draw, .int b, .int m] ∧ IsBase b ∧ 1 ≤ m ∧ m ≤ 8 ∧ GOk G ∧ ∀ (r : Nat) (G' : Gs), GOk G' → 2 ≤ r → r ≤ 1000000 → isPr b (digs b r) = true → (digs b r).length ≤ m + 1 → Q (.int r) G'
def s__law_any : SpD := fun ds G Q _ => ∃ b : Nat, ds = [.draw, .int b] ∧ IsBase b ∧ GOk G ∧ ∀ (r : Nat) (G' : Gs), GOk G' → r ≤ 1000000 → Q (.int r) G'
def p__law_any : VS := (vRet (vDef s__law_pick (vCons (vVar 0) (vCons (vLst (vCons (vC (.int 0)) (vCons (vC (.int 1)) (vCons (vVar 1) (vCons (vDef s__law_take (vCons (vVar 0) (vCons (eN (nOp dMulN (vPk 1) (vPk 1))) vNil))) (vCons (vDef s__law_take (vCons (vVar 0) (vCons (vC (.int 1000)) vNil))) (vCons (vDef s__law_take (vCons (vVar 0) (vCons (eN (nOp dAddN (vOp dPow (vC (.int 10)) (vC (.int 6))) (vC (.int 1)))) vNil))) (vCons (vOp dPow (vC (.int 10)) (vC (.int 6))) (vCons (vDef s__law_prime (vCons (vVar 0) (vCons (vVar 1) (vCons (vC (.int 3)) vNil)))) vNil))))))))) vNil))))
theorem pow10_6 : (10 : Int) ^ (6 : Int).toNat = 1000000 := by decide
theorem v__law_any (ds : List D) (G : Gs) (Qd : D → Gs → Prop) (Ed : EK) (h : s__law_any ds G Qd Ed) : ds.length = 2 ∧ p__law_any Ed (ends0 Qd) (startL ["draw", "base"] ds) G := by
  obtain ⟨b, rfl, hb, hG, q⟩ := h
  refine ⟨rfl, ?_⟩
  show p__law_any Ed (ends0 Qd) [.val .draw, .val (.int b)] G
  have hb2 := base_log hb
  have hbb : b * b ≤ 25 := Nat.mul_le_mul hb2.2.1 hb2.2.1
  unfold p__law_any
  walk_at "v"
  simp only [pow10_6]
  refine ⟨mul_small (by omega), (b : Int) * b, rfl, ?_, hG, fun r1 G1 g1 a1 b1 => ?_⟩
  · rw [← Int.natCast_mul]
    omega
  refine ⟨1000, rfl, by omega, g1, fun r2 G2 g2 a2 b2 => ?_⟩
  refine ⟨⟨by omega, by omega, by decide⟩, 1000000 + 1, rfl, by omega, g2, fun r3 G3 g3 a3 b3 => ?_⟩
  refine ⟨⟨by omega, by omega, by decide⟩, b, 3, rfl, hb, by omega, by omega, g3, fun r4 G4 g4 a4 b4 _ _ => ?_⟩
  refine ⟨smallN (by simp), _, rfl, by simp, by simp, g4, ?_⟩
  intro d hd G5 g5
  have fin : ∀ r : Int, 0 ≤ r → r ≤ 1000000 → Qd (.int r) G5 := fun r h1 h2 => by
    have := q r.toNat G5 g5 (by omega)
    rw [Int.toNat_of_nonneg h1] at this
    exact this
  have hbb2 : (2 : Int) ≤ (b : Int) * b ∧ (b : Int) * b ≤ 25 := by
    rw [← Int.natCast_mul]
    have : 2 * 2 ≤ b * b := Nat.mul_le_mul hb2.1 hb2.1
    omega
  have c1 := b1 hbb2.1
  have c2 := b2 (by omega)
  have c3 := b3 (by omega)
  simp only [List.mem_cons, List.not_mem_nil, or_false] at hd
  rcases hd with rfl | rfl | rfl | rfl | rfl | rfl | rfl | rfl <;> exact fin _ (by omega) (by omega)
end SP
set_option Elab.async false
set_option autoImplicit false
set_option linter.all false
set_option maxRecDepth 100000
set_option maxHeartbeats 2000000
namespace SP
open PySem PySem.Spec PyProof.Rows L2 VL
local macro_rules | `(tactic| walk_at "v") => `(tactic| simp only [vSeq, vNext, vVar, vPk, vC, vOp, vB, vSet, vPar, vApp, vShare, vRet, vRetN, vDrop, vIfS, vSetIx, ownLst, setL, setAll, slotN, xN, xNil, nE, nF, eN, nOp, nSl, nRev, nIf, vNo, vPart, vNil, vCons, vTup, vLst, vCall, vDef, vNeg, vChain, vAnd, vOr, vNot, vAndT, vOrT, vNotT, vIf, vRaise, vBrk, vCnt, vUnp, vgName, vgNil, vgCons, vgTup, vqVar, vqVal, viRng1, viRng2, viRng3, viEnum, vYes, lockL, lock1, unlL, unl1, wipeV, vComp, vFor, vTru, vIsTy, vOwn, vExt, vPop, vDrwW, vDrwC, vDrwN, vPutW, vPutN, vDct, vpNil, vpCons, vDGet, vDGet2, vDIn, dAdd, dSub, dMul, dMod, dDiv, dPow, dCmp, dLt, dLe, dGt, dGe, dAddN, dMulN, dIx, dLen, dInt, dTupOf, dLstOf, dMax2, dMin2, dIs, dIsN, dRepr, seqD, List.set_cons_zero, List.set_cons_succ, List.getElem?_cons_zero, List.getElem?_cons_succ, List.getElem?_nil, List.set_nil])
def pairD (p : List Int × Nat) : D := .tup [rowD p.1, .int p.2]
theorem divF_length (b v : Int) (g : List Int) : ∀ (n : Nat) (r q : List Int), (divF b v g n r q).1.length = q.length ∧ (divF b v g n r q).2.length = r.length
  | 0, _, _ => ⟨rfl, rfl⟩
  | n + 1, r, q => by
    have h := divF_length b v g n (offL b (r.getD (n + g.length - 1) 0 * v % b) n g r) (q.set n (r.getD (n + g.length - 1) 0 * v % b))
    rw [List.length_set, offL_length] at h
    exact h
theorem divL_length (b v : Int) (l g : List Int) : (divL b v l g).1.length ≤ l.length + 1 - g.length := by
  unfold divL
  refine Nat.le_trans (trim_le _) ?_
  rw [(divF_length b v g _ _ _).1, List.length_replicate]
  exact Nat.le_refl _
theorem lapF_length (b : Nat) (late : List Int) (h : 2 ≤ late.length) : ∀ (n : Nat) (left : List Int) (often : Nat), (lapF b late n left often).1.length + ((lapF b late n left often).2 - often) ≤ left.length ∧ often ≤ (lapF b late n left often).2
  | 0, left, often => by simp [lapF]
  | n + 1, left, often => by
    unfold lapF
    by_cases hl : late.length ≤ left.length
    · simp only [if_pos hl]
      have hd := divL_length b (invN b 1 : Nat) left late
      split
      · have ih := lapF_length b late h n (divL b (invN b 1 : Nat) left late).1 (often + 1)
        omega
      · exact lapF_length b late h n left often
    · simp only [if_neg hl]
      rw [if_neg (by simp)]
      exact lapF_length b late h n left often
end SP
set_option Elab.async false
set_option autoImplicit false
set_option linter.all false
set_option maxRecDepth 100000
set_option maxHeartbeats 2000000
namespace SP
open PySem PySem.Spec PyProof.Rows L2 VL
local macro_rules | `(tactic| walk_at "v") => `(tactic| simp only [vSeq, vNext, vVar, vPk, vC, vOp, vB, vSet, vPar, vApp, vShare, vRet, vRetN, vDrop, vIfS, vSetIx, ownLst, setL, setAll, slotN, xN, xNil, nE, nF, eN, nOp, nSl, nRev, nIf, vNo, vPart, vNil, vCons, vTup, vLst, vCall, vDef, vNeg, vChain, vAnd, vOr, vNot, vAndT, vOrT, vNotT, vIf, vRaise, vBrk, vCnt, vUnp, vgName, vgNil, vgCons, vgTup, vqVar, vqVal, viRng1, viRng2, viRng3, viEnum, vYes, lockL, lock1, unlL, unl1, wipeV, vComp, vFor, vTru, vIsTy, vOwn, vExt, vPop, vDrwW, vDrwC, vDrwN, vPutW, vPutN, vDct, vpNil, vpCons, vDGet, vDGet2, vDIn, dAdd, dSub, dMul, dMod, dDiv, dPow, dCmp, dLt, dLe, dGt, dGe, dAddN, dMulN, dIx, dLen, dInt, dTupOf, dLstOf, dMax2, dMin2, dIs, dIsN, dRepr, seqD, List.set_cons_zero, List.set_cons_succ, List.getElem?_cons_zero, List.getElem?_cons_succ, List.getElem?_nil, List.set_nil])
/-! ### the walk of the factors -/
theorem digs_monic {b : Nat} (hb : 2 ≤ b) : ∀ (s m : Nat), b ^ s ≤ m → m < 2 * b ^ s → ∃ t, digs b m = t ++ [1] ∧ t.length = s
  | 0, m, h1, h2 => by
    rw [Nat.pow_zero] at h1 h2
    obtain rfl : m = 1 := by omega
    refine ⟨[], ?_, rfl⟩
    rw [digs_pos hb (by omega), Nat.mod_eq_of_lt (by omega), Nat.div_eq_of_lt (by omega), digs_zero]
    rfl
  | s + 1, m, h1, h2 => by
    rw [Nat.pow_succ] at h1 h2
    have hp : 0 < b ^ s := Nat.pow_pos (by omega)
    have hm : 0 < m := Nat.lt_of_lt_of_le (Nat.mul_pos hp (by omega)) h1
    obtain ⟨t, e, hl⟩ := digs_monic hb s (m / b) ((Nat.le_div_iff_mul_le (by omega)).mpr h1) (Nat.div_lt_of_lt_mul (by rw [Nat.mul_comm b, Nat.mul_assoc]; exact h2))
    exact ⟨m % b :: t, by rw [digs_pos hb hm, e]; rfl, by rw [List.length_cons, hl]⟩
def s__law_factors : SpD := fun ds G Q _ => ∃ (b a : Nat) (s : List Nat), ds = [.int b, rowD (cR (s ++ [a]))] ∧ IsBase b ∧ 0 < a ∧ a < b ∧ s.length ≤ 30 ∧ Q (.lst ((factF b (s ++ [a])).map pairD)) G
def p__law_factors : VS := (vSeq (vPar [2, 3] (xN (nF (vLst vNil)) (xN (nE (vDef s__law_plain (vCons (vVar 0) (vCons (vVar 1) vNil)))) xNil))) (vSeq (vFor (viRng2 (vCons (vC (.int 1)) (vCons (vCall dLen (vCons (vPk 1) vNil)) vNil))) (vgName 4) (vSeq (vIfS (vB (vOp dLe (vCall dLen (vCons (vPk 3) vNil)) (eN (nOp dMulN (vC (.int 2)) (vPk 4))))) vBrk vNext) (vFor (viRng2 (vCons (vDef s__law_power (vCons (vVar 0) (vCons (vVar 4) vNil))) (vCons (eN (nOp dMulN (vC (.int 2)) (vDef s__law_power (vCons (vVar 0) (vCons (vVar 4) vNil))))) vNil))) (vgName 5) (vSeq (vPar [6, 7] (xN (nE (vDef s__law_row (vCons (vVar 0) (vCons (vVar 5) vNil)))) (xN (nE (vC (.int 0))) xNil))) (vSeq (vFor (viRng1 (vCons (vCall dLen (vCons (vPk 1) vNil)) vNil)) (vgName 8) (vSeq (vSet 9 (nIf (vB (vOp dGe (vCall dLen (vCons (vPk 3) vNil)) (vCall dLen (vCons (vPk 6) vNil)))) (nE (vDef s__law_divided (vCons (vVar 0) (vCons (vVar 3) (vCons (vVar 6) vNil))))) (nE (vTup (vCons (vTup vNil) (vCons (vTup (vCons (vC (.int 1)) vNil)) vNil)))))) (vIfS (vB (vOp dEq (vOp dIx (vPk 9) (vC (.int 1))) (vTup vNil))) (vPar [3, 7] (xN (nE (vOp dIx (vPk 9) (vC (.int 0)))) (xN (nOp dAddN (vPk 7) (vC (.int 1))) xNil))) vNext))) (vIfS (vB (vOp dGt (vPk 7) (vC (.int 0)))) (vApp 2 (vTup (vCons (vVar 6) (vCons (vVar 7) vNil)))) vNext)))))) (vSeq (vIfS (vB (vOp dGt (vCall dLen (vCons (vPk 3) vNil)) (vC (.int 1)))) (vSeq (vOwn 10 (vComp (vqVar 2) (vgName 11) [11] (vB (vOp dEq (vOp dIx (vPk 11) (vC (.int 0))) (vPk 3))) (vVar 11))) (vSet 2 (nOp dAddN (vComp (vqVar 2) (vgName 11) [11] (vB (vOp dNe (vOp dIx (vPk 11) (vC (.int 0))) (vPk 3))) (vVar 11)) (vLst (vCons (vTup (vCons (vVar 3) (vCons (eN (nOp dAddN (vC (.int 1)) (vCall dSum (vCons (vComp (vqVar 10) (vgTup 2 (vgCons (vgName 6) (vgCons (vgName 7) vgNil))) [6, 7] vYes (vVar 7)) vNil)))) vNil))) vNil))))) vNext) (vShare 2 (vRet (vVar 2))))))
def lapB : VS := (vSeq (vSet 9 (nIf (vB (vOp dGe (vCall dLen (vCons (vPk 3) vNil)) (vCall dLen (vCons (vPk 6) vNil)))) (nE (vDef s__law_divided (vCons (vVar 0) (vCons (vVar 3) (vCons (vVar 6) vNil))))) (nE (vTup (vCons (vTup vNil) (vCons (vTup (vCons (vC (.int 1)) vNil)) vNil)))))) (vIfS (vB (vOp dEq (vOp dIx (vPk 9) (vC (.int 1))) (vTup vNil))) (vPar [3, 7] (xN (nE (vOp dIx (vPk 9) (vC (.int 0)))) (xN (nOp dAddN (vPk 7) (vC (.int 1))) xNil))) vNext))
def stF (b : Nat) (row : List Int) (found : List (List Int × Nat)) (left : List Int) (size number : D) (late : D) (often : Nat) (o : Option (D × D)) : Lo := [.val (.int b), .val (rowD row), .own (.lst (found.map pairD)), .val (rowD left), .val size, .val number, .val late, .val (.int often), (opt2 o).1, (opt2 o).2, .no, .no]
theorem lap_loop {b : Nat} (hb : IsBase b) {t : List Nat} {row : List Int} {found : List (List Int × Nat)} {size number : D} {Ed : EK} {E2 : VEnds} {G : Gs} {n : Nat} {left : List Int} {often : Nat} {o : Option (D × D)} (hl : left.length ≤ 100) (ht : 1 ≤ t.length ∧ t.length ≤ 100)
    (q : ∀ o', E2.nx (stF b row found (lapF b (cR (t ++ [1])) n left often).1 size number (rowD (cR (t ++ [1]))) (lapF b (cR (t ++ [1])) n left often).2 o') G) : forV (vgName 8) lapB [] Ed E2 (rangeD 0 1 n) (stF b row found left size number (rowD (cR (t ++ [1]))) often o) G := by
  have hb2 := base_log hb
  refine forV_ind (fun rem L G' => ∃ (left2 : List Int) (often2 : Nat) (o2 : Option (D × D)), L = stF b row found left2 size number (rowD (cR (t ++ [1]))) often2 o2 ∧ G' = G ∧ left2.length ≤ 100 ∧ lapF b (cR (t ++ [1])) rem.length left2 often2 = lapF b (cR (t ++ [1])) n left often) ⟨left, often, o, rfl, rfl, hl, by rw [rangeD_length]⟩ ?_ ?_
  · rintro L G' ⟨left2, often2, o2, rfl, rfl, h1, h2⟩
    have h2' : (left2, often2) = lapF b (cR (t ++ [1])) n left often := h2
    rw [← h2'] at q
    exact q o2
  · rintro d ds L G' N ⟨left2, often2, o2, rfl, rfl, h1, h2⟩ hN
    rw [List.length_cons, lapF] at h2
    have hlt : (cR (t ++ [1])).length = t.length + 1 := by simp
    have hN2 : ∀ (l3 : List Int) (n3 : Nat) (x : D), l3.length ≤ 100 → lapF b (cR (t ++ [1])) ds.length l3 n3 = lapF b (cR (t ++ [1])) n left often → N (stF b row found l3 size number (rowD (cR (t ++ [1]))) n3 (some (d, x))) G' := fun l3 n3 x h3 h4 => hN _ _ ⟨l3, n3, some (d, x), rfl, rfl, h3, h4⟩
    have ea : cR (t ++ [1]) = cR t ++ [((1 : Nat) : Int)] := by simp
    have hcl : (List.map D.int (cR (t ++ [1]))).length = (cR (t ++ [1])).length := List.length_map ..
    have hll : (List.map D.int left2).length = left2.length := List.length_map ..
    unfold lapB stF
    rcases o2 with _ | ⟨x1, x2⟩ <;> simp only [opt2] <;> walk_at "v"
    all_goals
      by_cases hc : (cR (t ++ [1])).length ≤ left2.length
      · rw [decide_eq_true (by rw [hcl, hll]; exact Int.ofNat_le.mpr hc)]
        simp only [if_pos hc] at h2
        refine ⟨b, 1, left2, cR t, by rw [ea], hb, by omega, by omega, by omega, by rw [← ea, hlt]; omega, ?_⟩
        rw [← ea]
        have hz := divL_length b (invN b 1 : Nat) left2 (cR (t ++ [1]))
        generalize divL b (invN b 1 : Nat) left2 (cR (t ++ [1])) = z at *
        refine ⟨_, rfl, smallN (by simp), dEq_row (b := []) ?_⟩
        by_cases h0 : z.2 = []
        · rw [decide_eq_true h0]
          rw [if_pos h0] at h2
          exact ⟨_, rfl, hN2 _ _ _ (by omega) h2⟩
        · rw [decide_eq_false h0]
          rw [if_neg h0] at h2
          exact hN2 _ _ _ h1 h2
      · rw [decide_eq_false (by rw [hcl, hll]; exact fun h => hc (Int.ofNat_le.mp h))]
        simp only [if_neg hc] at h2
        rw [if_neg (by simp)] at h2
        refine ⟨smallN (by simp), smallN (by simp), smallN (by simp), _, rfl, smallN (by simp), dEq_row (a := [1]) (b := []) ?_⟩
        rw [decide_eq_false (by simp)]
        exact hN2 _ _ _ h1 h2
end SP
set_option Elab.async false
set_option autoImplicit false
set_option linter.all false
set_option maxRecDepth 100000
set_option maxHeartbeats 2000000
namespace SP
open PySem PySem.Spec PyProof.Rows L2 VL
local macro_rules | `(tactic| walk_at "v") => `(tactic| simp only [vSeq, vNext, vVar, vPk, vC, vOp, vB, vSet, vPar, vApp, vShare, vRet, vRetN, vDrop, vIfS, vSetIx, ownLst, setL, setAll, slotN, xN, xNil, nE, nF, eN, nOp, nSl, nRev, nIf, vNo, vPart, vNil, vCons, vTup, vLst, vCall, vDef, vNeg, vChain, vAnd, vOr, vNot, vAndT, vOrT, vNotT, vIf, vRaise, vBrk, vCnt, vUnp, vgName, vgNil, vgCons, vgTup, vqVar, vqVal, viRng1, viRng2, viRng3, viEnum, vYes, lockL, lock1, unlL, unl1, wipeV, vComp, vFor, vTru, vIsTy, vOwn, vExt, vPop, vDrwW, vDrwC, vDrwN, vPutW, vPutN, vDct, vpNil, vpCons, vDGet, vDGet2, vDIn, dAdd, dSub, dMul, dMod, dDiv, dPow, dCmp, dLt, dLe, dGt, dGe, dAddN, dMulN, dIx, dLen, dInt, dTupOf, dLstOf, dMax2, dMin2, dIs, dIsN, dRepr, seqD, List.set_cons_zero, List.set_cons_succ, List.getElem?_cons_zero, List.getElem?_cons_succ, List.getElem?_nil, List.set_nil])
/-! ### the numbers' loop of the factors -/
def numB : VS := (vSeq (vPar [6, 7] (xN (nE (vDef s__law_row (vCons (vVar 0) (vCons (vVar 5) vNil)))) (xN (nE (vC (.int 0))) xNil))) (vSeq (vFor (viRng1 (vCons (vCall dLen (vCons (vPk 1) vNil)) vNil)) (vgName 8) lapB) (vIfS (vB (vOp dGt (vPk 7) (vC (.int 0)))) (vApp 2 (vTup (vCons (vVar 6) (vCons (vVar 7) vNil)))) vNext)))
def opt5 : Option (D × D × D × Option (D × D)) → List Slot
  | none => [.no, .no, .no, .no, .no]
  | some (x, y, z, o) => [.val x, .val y, .val z, (opt2 o).1, (opt2 o).2]
def stG (b : Nat) (row : List Int) (found : List (List Int × Nat)) (left : List Int) (size : D) (p : Option (D × D × D × Option (D × D))) : Lo := [.val (.int b), .val (rowD row), .own (.lst (found.map pairD)), .val (rowD left), .val size] ++ opt5 p ++ [.no, .no]
theorem num_loop {b : Nat} (hb : IsBase b) {row : List Int} {size : D} {Ed : EK} {E2 : VEnds} {G : Gs} {s : Nat} (hs : 1 ≤ s ∧ s ≤ 30) (hrow : row.length ≤ 100) {all : List Nat} (hall : ∀ m ∈ all, b ^ s ≤ m ∧ m < 2 * b ^ s) {found : List (List Int × Nat)} {left : List Int} {p : Option (D × D × D × Option (D × D))} {M : Nat} (hM : M ≤ 100) (hl : found.length + left.length ≤ M)
    (q : ∀ p', (numF b row.length all found left).1.length + (numF b row.length all found left).2.length ≤ M → E2.nx (stG b row (numF b row.length all found left).1 (numF b row.length all found left).2 size p') G) : forV (vgName 5) numB [] Ed E2 (iL (cR all)) (stG b row found left size p) G := by
  have hb2 := base_log hb
  refine forV_ind (fun rem L G' => ∃ (ms : List Nat) (f2 : List (List Int × Nat)) (l2 : List Int) (p2 : Option (D × D × D × Option (D × D))), rem = iL (cR ms) ∧ L = stG b row f2 l2 size p2 ∧ G' = G ∧ f2.length + l2.length ≤ M ∧ (∀ m ∈ ms, b ^ s ≤ m ∧ m < 2 * b ^ s) ∧ numF b row.length ms f2 l2 = numF b row.length all found left) ⟨all, found, left, p, rfl, rfl, rfl, hl, hall, rfl⟩ ?_ ?_
  · rintro L G' ⟨ms, f2, l2, p2, h1, rfl, rfl, h3, h4, h5⟩
    have : ms = [] := by
      cases ms with
      | nil => rfl
      | cons => exact nomatch h1
    subst this
    have h5' : (f2, l2) = numF b row.length all found left := h5
    rw [← h5'] at q
    exact q p2 h3
  · rintro d ds L G' N ⟨ms, f2, l2, p2, h1, rfl, rfl, h3, h4, h5⟩ hN
    cases ms with
    | nil => exact nomatch h1
    | cons m ms =>
      have h1' : d = .int m ∧ ds = iL (cR ms) := List.cons.inj h1
      obtain ⟨rfl, rfl⟩ := h1'
      have hm := h4 m List.mem_cons_self
      obtain ⟨t, e, hlt⟩ := digs_monic hb2.1 s m hm.1 hm.2
      rw [numF, e] at h5
      have hlen := lapF_length b (cR (t ++ [1])) (by simp; omega) row.length l2 0
      have body : ∀ (L : Lo) (E3 : VEnds) (o : Option (D × D)), (∀ o', E3.nx (stF b row f2 (lapF b (cR (t ++ [1])) row.length l2 0).1 size (.int m) (rowD (cR (t ++ [1]))) (lapF b (cR (t ++ [1])) row.length l2 0).2 o') G') → L = stF b row f2 l2 size (.int m) (rowD (cR (t ++ [1]))) 0 o → forV (vgName 8) lapB [] Ed E3 (rangeD 0 1 row.length) L G' := fun L E3 o h h2 => by
        rw [h2]
        exact lap_loop hb (by omega) (by omega) h
      have er : (List.map D.int row).length = row.length := List.length_map ..
      have tail : ∀ (o' : Option (D × D)) (E4 : VEnds), E4.nx = N → (vIfS (vB (vOp dGt (vPk 7) (vC (.int 0)))) (vApp 2 (vTup (vCons (vVar 6) (vCons (vVar 7) vNil)))) vNext) Ed E4 (stF b row f2 (lapF b (cR (t ++ [1])) row.length l2 0).1 size (.int m) (rowD (cR (t ++ [1]))) (lapF b (cR (t ++ [1])) row.length l2 0).2 o') G' := by
        intro o' E4 hE4
        generalize lapF b (cR (t ++ [1])) row.length l2 0 = z at *
        have hfin : ∀ f3 : List (List Int × Nat), f3 = (if 0 < z.2 then f2 ++ [(cR (t ++ [1]), z.2)] else f2) → N (stF b row f3 z.1 size (.int m) (rowD (cR (t ++ [1]))) z.2 o') G' := by
          intro f3 hf
          refine hN _ _ ⟨ms, f3, z.1, some (_, _, _, o'), rfl, rfl, rfl, ?_, fun m' hm' => h4 m' (List.mem_cons_of_mem _ hm'), by rw [hf]; exact h5⟩
          rw [hf]
          split
          · rw [List.length_append, List.length_singleton]
            omega
          · omega
        by_cases h0 : 0 < z.2
        · have h3' := hfin _ rfl
          rw [if_pos h0] at h3'
          unfold stF at h3' ⊢
          rw [List.map_append] at h3'
          have hd : decide ((0 : Int) < (z.2 : Int)) = true := decide_eq_true (by omega)
          rcases o' with _ | ⟨u, w⟩ <;> simp only [opt2] at h3' ⊢ <;> walk_at "v" <;> rw [hd, hE4] <;> exact ⟨smallN (by simp), Nat.lt_of_le_of_lt (show _ ≤ 1000000 by rw [List.length_map]; omega) lineN_big, h3'⟩
        · have h3' := hfin _ rfl
          rw [if_neg h0] at h3'
          unfold stF at h3' ⊢
          have hd : decide ((0 : Int) < (z.2 : Int)) = false := decide_eq_false (by omega)
          rcases o' with _ | ⟨u, w⟩ <;> simp only [opt2] at h3' ⊢ <;> walk_at "v" <;> rw [hd, hE4] <;> exact h3'
      rcases p2 with _ | ⟨x, y, z, _ | ⟨u, w⟩⟩ <;> simp only [stG, opt5, opt2, List.cons_append, List.nil_append, numB] <;> walk_at "v"
      all_goals
        refine ⟨b, m, rfl, hb2.1, hb2.2.2, by rw [e]; simp; omega, ?_⟩
        rw [e, er, Int.toNat_natCast]
        refine ⟨⟨by omega, by omega⟩, ?_⟩
        first | exact body _ _ none (fun o' => tail o' _ rfl) rfl | exact body _ _ (some (_, _)) (fun o' => tail o' _ rfl) rfl
end SP
set_option Elab.async false
set_option autoImplicit false
set_option linter.all false
set_option maxRecDepth 100000
set_option maxHeartbeats 2000000
namespace SP
open PySem PySem.Spec PyProof.Rows L2 VL
local macro_rules | `(tactic| walk_at "v") => `(tactic| simp only [vSeq, vNext, vVar, vPk, vC, vOp, vB, vSet, vPar, vApp, vShare, vRet, vRetN, vDrop, vIfS, vSetIx, ownLst, setL, setAll, slotN, xN, xNil, nE, nF, eN, nOp, nSl, nRev, nIf, vNo, vPart, vNil, vCons, vTup, vLst, vCall, vDef, vNeg, vChain, vAnd, vOr, vNot, vAndT, vOrT, vNotT, vIf, vRaise, vBrk, vCnt, vUnp, vgName, vgNil, vgCons, vgTup, vqVar, vqVal, viRng1, viRng2, viRng3, viEnum, vYes, lockL, lock1, unlL, unl1, wipeV, vComp, vFor, vTru, vIsTy, vOwn, vExt, vPop, vDrwW, vDrwC, vDrwN, vPutW, vPutN, vDct, vpNil, vpCons, vDGet, vDGet2, vDIn, dAdd, dSub, dMul, dMod, dDiv, dPow, dCmp, dLt, dLe, dGt, dGe, dAddN, dMulN, dIx, dLen, dInt, dTupOf, dLstOf, dMax2, dMin2, dIs, dIsN, dRepr, seqD, List.set_cons_zero, List.set_cons_succ, List.getElem?_cons_zero, List.getElem?_cons_succ, List.getElem?_nil, List.set_nil])
/-! ### the size loop of the factors -/
def sizB : VS := (vSeq (vIfS (vB (vOp dLe (vCall dLen (vCons (vPk 3) vNil)) (eN (nOp dMulN (vC (.int 2)) (vPk 4))))) vBrk vNext) (vFor (viRng2 (vCons (vDef s__law_power (vCons (vVar 0) (vCons (vVar 4) vNil))) (vCons (eN (nOp dMulN (vC (.int 2)) (vDef s__law_power (vCons (vVar 0) (vCons (vVar 4) vNil))))) vNil))) (vgName 5) numB))
def stH (b : Nat) (row : List Int) (found : List (List Int × Nat)) (left : List Int) : Option (D × Option (D × D × D × Option (D × D))) → Lo
  | none => [.val (.int b), .val (rowD row), .own (.lst (found.map pairD)), .val (rowD left), .no, .no, .no, .no, .no, .no, .no, .no]
  | some (size, p) => stG b row found left size p
theorem rangeD_nums (b s : Nat) : rangeD ((b ^ s : Nat) : Int) 1 (b ^ s) = iL (cR (numsF b s)) := by
  rw [numsF, iL, cR, List.map_map, List.map_map, rangeD]
  exact List.map_congr_left fun i _ => by simp
theorem nums_in {b s m : Nat} (h : m ∈ numsF b s) : b ^ s ≤ m ∧ m < 2 * b ^ s := by
  obtain ⟨i, h1, rfl⟩ := List.mem_map.mp h
  have := List.mem_range.mp h1
  omega
theorem pow_small {b s : Nat} (hb : b ≤ 5) (hs : s ≤ 20) : b ^ s < 2 ^ 60 := by
  refine Nat.lt_of_le_of_lt (Nat.pow_le_pow_left hb s) (Nat.lt_of_le_of_lt (Nat.pow_le_pow_right (by omega) hs) (by decide))
theorem siz_loop {b : Nat} (hb : IsBase b) {row : List Int} {Ed : EK} {E2 : VEnds} {G : Gs} (hrow : row.length ≤ 40) {all : List Nat} (hall : ∀ s ∈ all, 1 ≤ s ∧ s ≤ 40) {found : List (List Int × Nat)} {left : List Int} {p : Option (D × Option (D × D × D × Option (D × D)))} (hl : found.length + left.length ≤ 40)
    (q : ∀ p', (sizeF b row.length all found left).1.length + (sizeF b row.length all found left).2.length ≤ 40 → E2.nx (stH b row (sizeF b row.length all found left).1 (sizeF b row.length all found left).2 p') G) : forV (vgName 4) sizB [] Ed E2 (iL (cR all)) (stH b row found left p) G := by
  have hb2 := base_log hb
  refine forV_ind (fun rem L G' => ∃ (ss : List Nat) (f2 : List (List Int × Nat)) (l2 : List Int) (p2 : Option (D × Option (D × D × D × Option (D × D)))), rem = iL (cR ss) ∧ L = stH b row f2 l2 p2 ∧ G' = G ∧ f2.length + l2.length ≤ 40 ∧ (∀ s ∈ ss, 1 ≤ s ∧ s ≤ 40) ∧ sizeF b row.length ss f2 l2 = sizeF b row.length all found left) ⟨all, found, left, p, rfl, rfl, rfl, hl, hall, rfl⟩ ?_ ?_
  · rintro L G' ⟨ss, f2, l2, p2, h1, rfl, rfl, h3, h4, h5⟩
    have : ss = [] := by
      cases ss with
      | nil => rfl
      | cons => exact nomatch h1
    subst this
    have h5' : (f2, l2) = sizeF b row.length all found left := h5
    rw [← h5'] at q
    exact q p2 (h3)
  · rintro d ds L G' N ⟨ss, f2, l2, p2, h1, rfl, rfl, h3, h4, h5⟩ hN
    cases ss with
    | nil => exact nomatch h1
    | cons s ss =>
      have h1' : d = .int s ∧ ds = iL (cR ss) := List.cons.inj h1
      obtain ⟨rfl, rfl⟩ := h1'
      have hs := h4 s List.mem_cons_self
      have hll : (List.map D.int l2).length = l2.length := List.length_map ..
      have eif : decide (((List.map D.int l2).length : Int) ≤ 2 * (s : Int)) = decide (l2.length ≤ 2 * s) := by
        rw [hll]
        exact decide_eq_decide.mpr (by omega)
      rw [sizeF] at h5
      rcases p2 with _ | ⟨w, _ | ⟨x, y, z, _ | ⟨u, v⟩⟩⟩ <;> simp only [stH, stG, opt5, opt2, List.cons_append, List.nil_append, sizB] <;> walk_at "v"
      all_goals
        refine ⟨mul_smallL (by omega), ?_⟩
        rw [eif]
        by_cases h0 : l2.length ≤ 2 * s
        · rw [decide_eq_true h0]
          rw [if_pos h0] at h5
          rw [← h5] at q
          first | exact q (some (.int s, none)) h3 | exact q (some (.int s, some (_, _, _, none))) h3 | exact q (some (.int s, some (_, _, _, some (_, _)))) h3
        · rw [decide_eq_false h0]
          rw [if_neg h0] at h5
          have hpw := pow_small (s := s) hb2.2.1 (by omega)
          have ep : ((b : Int) ^ s) = ((b ^ s : Nat) : Int) := (Int.natCast_pow b s).symm
          refine ⟨b, s, rfl, by omega, by omega, b, s, rfl, by omega, by omega, mul_smallL (by omega), ?_⟩
          rw [ep]
          show sm62 _ ∧ sm62 _ ∧ _
          refine ⟨⟨by omega, by omega⟩, ⟨by omega, by omega⟩, ?_⟩
          rw [show (2 * ((b ^ s : Nat) : Int) - ((b ^ s : Nat) : Int)).toNat = b ^ s by omega, rangeD_nums]
          have fin : ∀ p', (numF b row.length (numsF b s) f2 l2).1.length + (numF b row.length (numsF b s) f2 l2).2.length ≤ 40 → N (stG b row (numF b row.length (numsF b s) f2 l2).1 (numF b row.length (numsF b s) f2 l2).2 (.int s) p') G' := fun p' h => hN _ _ ⟨ss, _, _, some (.int s, p'), rfl, rfl, rfl, h, fun s' h' => h4 s' (List.mem_cons_of_mem _ h'), h5⟩
          first | exact num_loop hb (by omega) (by omega) (fun m h => nums_in h) (M := 40) (by omega) h3 (p := none) fin | exact num_loop hb (by omega) (by omega) (fun m h => nums_in h) (M := 40) (by omega) h3 (p := some (_, _, _, none)) fin | exact num_loop hb (by omega) (by omega) (fun m h => nums_in h) (M := 40) (by omega) h3 (p := some (_, _, _, some (_, _))) fin
end SP
set_option Elab.async false
set_option autoImplicit false
set_option linter.all false
set_option maxRecDepth 100000
set_option maxHeartbeats 2000000
namespace SP
open PySem PySem.Spec PyProof.Rows L2 VL
local macro_rules | `(tactic| walk_at "v") => `(tactic| simp only [vSeq, vNext, vVar, vPk, vC, vOp, vB, vSet, vPar, vApp, vShare, vRet, vRetN, vDrop, vIfS, vSetIx, ownLst, setL, setAll, slotN, xN, xNil, nE, nF, eN, nOp, nSl, nRev, nIf, vNo, vPart, vNil, vCons, vTup, vLst, vCall, vDef, vNeg, vChain, vAnd, vOr, vNot, vAndT, vOrT, vNotT, vIf, vRaise, vBrk, vCnt, vUnp, vgName, vgNil, vgCons, vgTup, vqVar, vqVal, viRng1, viRng2, viRng3, viEnum, vYes, lockL, lock1, unlL, unl1, wipeV, vComp, vFor, vTru, vIsTy, vOwn, vExt, vPop, vDrwW, vDrwC, vDrwN, vPutW, vPutN, vDct, vpNil, vpCons, vDGet, vDGet2, vDIn, dAdd, dSub, dMul, dMod, dDiv, dPow, dCmp, dLt, dLe, dGt, dGe, dAddN, dMulN, dIx, dLen, dInt, dTupOf, dLstOf, dMax2, dMin2, dIs, dIsN, dRepr, seqD, List.set_cons_zero, List.set_cons_succ, List.getElem?_cons_zero, List.getElem?_cons_succ, List.getElem?_nil, List.set_nil])
/-! ### the factors -/
theorem compV_emb {α : Type} (emb g : α → D) (f : α → Bool) {vg : VG} {tt : VT} {te : VE} {L : Lo} {Q : D → Gs → Prop} {G : Gs} {items : List α} (hlen : items.length ≤ lineN)
    (hs : ∀ x ∈ items, ∀ (acc : List D) (N : List D → Gs → Prop), (f x = true → N (acc ++ [g x]) G) → (f x = false → N acc G) → acc.length < lineN → vg (emb x) L fun L2 => tt Ev0 L2 G fun b G1 => match b with
      | true => te Ev0 L2 G1 fun y G2 => acc.length < lineN ∧ N (acc ++ [y]) G2
      | false => N acc G1)
    (q : Q (.lst ((items.filter f).map g)) G) : compV vg tt te L (items.map emb) [] G Q := by
  refine compV_ind (fun rem acc G' => ∃ dn rs : List α, rem = rs.map emb ∧ acc = (dn.filter f).map g ∧ G' = G ∧ items = dn ++ rs) ⟨[], items, rfl, rfl, rfl, rfl⟩ ?_ ?_
  · rintro acc G' ⟨dn, rs, h1, rfl, rfl, rfl⟩
    have : rs = [] := by
      cases rs with
      | nil => rfl
      | cons => exact nomatch h1
    rw [this, List.append_nil] at q
    exact q
  · rintro d ds acc G' N ⟨dn, rs, h1, rfl, rfl, h4⟩ hN
    cases rs with
    | nil => exact nomatch h1
    | cons x rs =>
      have h1' : d = emb x ∧ ds = rs.map emb := List.cons.inj h1
      obtain ⟨rfl, rfl⟩ := h1'
      have hl : (dn.filter f).length ≤ dn.length := List.length_filter_le f dn
      have hl2 : items.length = dn.length + (rs.length + 1) := by rw [h4, List.length_append, List.length_cons]
      refine hs x (by rw [h4]; simp) _ N (fun e => hN _ _ ⟨dn ++ [x], rs, rfl, ?_, rfl, by rw [h4]; simp⟩) (fun e => hN _ _ ⟨dn ++ [x], rs, rfl, ?_, rfl, by rw [h4]; simp⟩) ?_
      · rw [List.filter_append, List.filter_cons, if_pos e]
        simp
      · rw [List.filter_append, List.filter_cons, if_neg (by simp [e])]
        simp
      · rw [List.length_map]
        omega
theorem plainR_length (b a : Nat) (l : List Nat) : (plainR b a l).length = l.length := List.length_map ..
theorem upL_sizes (n : Nat) : rangeD 1 1 n = iL (cR ((List.range n).map (· + 1))) := by
  rw [rangeD_up, upL, iL, iL, cR, List.map_map, List.map_map, List.map_map]
  exact List.map_congr_left fun i _ => by simp; omega
theorem v__law_factors (ds : List D) (G : Gs) (Qd : D → Gs → Prop) (Ed : EK) (h : s__law_factors ds G Qd Ed) : ds.length = 2 ∧ p__law_factors Ed (ends0 Qd) (startL ["base", "row", "found", "left", "size", "number", "late", "often", "lap", "part", "some", "pair"] ds) G := by
  obtain ⟨b, a, s, rfl, hb, h0, hab, hs, q⟩ := h
  refine ⟨rfl, ?_⟩
  show p__law_factors Ed (ends0 Qd) [.val (.int b), .val (rowD (cR (s ++ [a]))), .no, .no, .no, .no, .no, .no, .no, .no, .no, .no] G
  have hb2 := base_log hb
  unfold p__law_factors
  walk_at "v"
  have el : (List.map D.int (cR (s ++ [a]))).length = s.length + 1 := by simp
  have el2 : (cR (s ++ [a])).length = s.length + 1 := by simp
  refine ⟨smallN (by simp), b, a, s, rfl, hb, h0, hab, by simp; omega, ⟨by omega, by omega⟩, ⟨by rw [el]; omega, by rw [el]; omega⟩, ?_⟩
  rw [el, show (((s.length + 1 : Nat) : Int) - 1).toNat = s.length by omega, upL_sizes]
  have epl : (cR (plainR b a (s ++ [a]))).length = s.length + 1 := by rw [List.length_map, plainR_length]; simp
  refine siz_loop hb (by omega) (all := (List.range s.length).map (· + 1)) (fun x hx => ?_) (found := []) (left := cR (plainR b a (s ++ [a]))) (p := none) (by rw [epl]; simp; omega) ?_
  · obtain ⟨i, h1, rfl⟩ := List.mem_map.mp hx
    have := List.mem_range.mp h1
    omega
  · intro p' hz
    have ef : factF b (s ++ [a]) = lastF (sizeF b (s.length + 1) ((List.range s.length).map (· + 1)) [] (cR (plainR b a (s ++ [a])))) := by
      unfold factF
      rw [List.getLastD_concat, List.length_append, List.length_singleton, Nat.add_sub_cancel]
    rw [ef] at q
    rw [el2] at hz ⊢
    generalize sizeF b (s.length + 1) ((List.range s.length).map (· + 1)) [] (cR (plainR b a (s ++ [a]))) = z at *
    unfold lastF at q
    have hq1 : ¬ 1 < z.2.length → Qd (.lst (z.1.map pairD)) G := fun h => by rw [if_neg h] at q; exact q
    have hq2 : 1 < z.2.length → Qd (.lst (((z.1.filter fun p => decide (p.1 ≠ z.2)) ++ [(z.2, 1 + ((z.1.filter fun p => decide (p.1 = z.2)).map fun p => p.2).sum)]).map pairD)) G := fun h => by rw [if_pos h] at q; exact q
    have hlz : (List.map D.int z.2).length = z.2.length := List.length_map ..
    by_cases h1 : 1 < z.2.length
    · have hd : decide ((1 : Int) < ((List.map D.int z.2).length : Int)) = true := decide_eq_true (by rw [hlz]; omega)
      have q2 := hq2 h1
      rcases p' with _ | ⟨w, _ | ⟨x, y, u, _ | ⟨v, t⟩⟩⟩ <;> simp only [stH, stG, opt5, opt2, List.cons_append, List.nil_append] <;> walk_at "v" <;> rw [hd]
      all_goals
        refine compV_emb pairD pairD (fun p => decide (p.1 = z.2)) (smallN (by omega)) ?_ ?_
        · intro x _ acc N n1 n2 n3
          walk_at "v"
          simp only [pairD]
          refine ⟨_, rfl, dEq_row (a := x.1) (b := z.2) ?_⟩
          cases e : decide (x.1 = z.2) with
          | true => exact ⟨n3, n1 e⟩
          | false => exact n2 e
        refine compV_emb pairD pairD (fun p => decide (p.1 ≠ z.2)) (smallN (by omega)) ?_ ?_
        · intro x _ acc N n1 n2 n3
          walk_at "v"
          simp only [pairD]
          refine ⟨_, rfl, dNe_row (a := x.1) (b := z.2) ?_⟩
          rw [← decide_not]
          cases e : decide (¬ x.1 = z.2) with
          | true => exact ⟨n3, n1 e⟩
          | false => exact n2 e
        refine compV_emb pairD (fun p => .int (p.2 : Nat)) (fun _ => true) (smallN (Nat.le_trans (List.length_filter_le _ _) (by omega))) ?_ ?_
        · intro x _ acc N n1 n2 n3
          simp only [pairD]
          walk_at "v"
          exact ⟨rfl, n3, n1 rfl⟩
        rw [List.filter_eq_self.mpr (fun _ _ => rfl)]
        refine ⟨((z.1.filter fun p => decide (p.1 = z.2)).map fun p => ((p.2 : Nat) : Int)), by rw [List.map_map]; rfl, smallN (by simp), smallN (by simp), smallN ?_, ?_⟩
        · have := List.length_filter_le (fun p : List Int × Nat => decide (p.1 ≠ z.2)) z.1
          rw [List.length_map, List.length_singleton]
          omega
        · have es : ∀ l : List (List Int × Nat), (l.map fun p => ((p.2 : Nat) : Int)).sum = (((l.map fun p => p.2).sum : Nat) : Int) := fun l => by
            induction l with
            | nil => rfl
            | cons p l ih => rw [List.map_cons, List.sum_cons, ih, List.map_cons, List.sum_cons, Int.natCast_add]
          rw [es]
          rw [List.map_append] at q2
          exact q2
    · have hd : decide ((1 : Int) < ((List.map D.int z.2).length : Int)) = false := decide_eq_false (by rw [hlz]; omega)
      have q1 := hq1 h1
      rcases p' with _ | ⟨w, _ | ⟨x, y, u, _ | ⟨v, t⟩⟩⟩ <;> simp only [stH, stG, opt5, opt2, List.cons_append, List.nil_append] <;> walk_at "v" <;> rw [hd] <;> exact q1
end SP
set_option Elab.async false
set_option autoImplicit false
set_option linter.all false
set_option maxRecDepth 100000
set_option maxHeartbeats 2000000
namespace SP
open PySem PySem.Spec PyProof.Rows L2 VL
local macro_rules | `(tactic| walk_at "v") => `(tactic| simp only [vSeq, vNext, vVar, vPk, vC, vOp, vB, vSet, vPar, vApp, vShare, vRet, vRetN, vDrop, vIfS, vSetIx, ownLst, setL, setAll, slotN, xN, xNil, nE, nF, eN, nOp, nSl, nRev, nIf, vNo, vPart, vNil, vCons, vTup, vLst, vCall, vDef, vNeg, vChain, vAnd, vOr, vNot, vAndT, vOrT, vNotT, vIf, vRaise, vBrk, vCnt, vUnp, vgName, vgNil, vgCons, vgTup, vqVar, vqVal, viRng1, viRng2, viRng3, viEnum, vYes, lockL, lock1, unlL, unl1, wipeV, vComp, vFor, vTru, vIsTy, vOwn, vExt, vPop, vDrwW, vDrwC, vDrwN, vPutW, vPutN, vDct, vpNil, vpCons, vDGet, vDGet2, vDIn, dAdd, dSub, dMul, dMod, dDiv, dPow, dCmp, dLt, dLe, dGt, dGe, dAddN, dMulN, dIx, dLen, dInt, dTupOf, dLstOf, dMax2, dMin2, dIs, dIsN, dRepr, seqD, List.set_cons_zero, List.set_cons_succ, List.getElem?_cons_zero, List.getElem?_cons_succ, List.getElem?_nil, List.set_nil])
/-! ### primes -/
def pyP (p : List Int × Nat) : PyData := .tuple [.tuple (p.1.map PyData.int), .int (p.2 : Nat)]
theorem toPy_pair (p : List Int × Nat) : toPy (pairD p) = some (pyP p) := by
  unfold pairD
  rw [toPy, toPyL, toPyL, toPyL, toPy, toPy, pyL_ints]
  rfl
theorem pyL_pairs : ∀ l : List (List Int × Nat), toPyL (l.map pairD) = some (l.map pyP)
  | [] => rfl
  | p :: l => by rw [List.map_cons, toPyL, pyL_pairs l, toPy_pair]; rfl
theorem can_pairs : ∀ l : List (List Int × Nat), PyData.canLayAll0 (l.map pyP) = true ∧ PyData.depthAll (l.map pyP) ≤ 2
  | [] => ⟨rfl, by decide⟩
  | p :: l => by
    obtain ⟨h1, h2⟩ := can_pairs l
    have e1 : PyData.canLay0 (pyP p) = true := by
      simp [pyP, PyData.canLay0, PyData.canLayAll0, (can_ints p.1).1]
    have e2 : PyData.depth (pyP p) ≤ 2 := by
      simp [pyP, PyData.depth, PyData.depthAll, (can_ints p.1).2]
    rw [List.map_cons, PyData.canLayAll0, PyData.depthAll, h1, e1]
    exact ⟨rfl, Nat.max_le.mpr ⟨e2, h2⟩⟩
theorem eqv_pairs : ∀ a b : List (List Int × Nat), PyData.eqvAll (a.map pyP) (b.map pyP) = decide (a = b)
  | [], [] => rfl
  | [], _ :: _ => rfl
  | _ :: _, [] => rfl
  | (x, n) :: a, (y, m) :: b => by
    rw [List.map_cons, List.map_cons, PyData.eqvAll, eqv_pairs a b]
    have e : PyData.eqv (pyP (x, n)) (pyP (y, m)) = decide (x = y ∧ n = m) := by
      simp only [pyP, PyData.eqv, PyData.eqvAll, eqv_ints]
      by_cases h : x = y <;> by_cases h2 : n = m <;> simp [h, h2]
      all_goals omega
    rw [e]
    by_cases h : x = y <;> by_cases h2 : n = m <;> by_cases h3 : a = b <;> simp [h, h2, h3]
theorem dEq_pairs {l m : List (List Int × Nat)} {k : D → Prop} (q : k (.bl (decide (l = m)))) : dEq (.lst (l.map pairD)) (.lst (m.map pairD)) k := by
  have sh : ∀ l : List (List Int × Nat), PySem.SeqAt.shaped (.list (l.map pyP)) = true := fun l => by
    have h := can_pairs l
    refine Bool.and_eq_true_iff.mpr ⟨by rw [PyData.canLay0]; exact h.1, decide_eq_true ?_⟩
    rw [PyData.depth]
    have := h.2
    omega
  refine ⟨decide (l = m), ⟨.list (l.map pyP), .list (m.map pyP), ?_, ?_, sh l, sh m, ?_⟩, q⟩
  · rw [toPy, pyL_pairs]; rfl
  · rw [toPy, pyL_pairs]; rfl
  · rw [PyData.eqv]
    exact eqv_pairs l m
def s__law_is_prime : SpD := fun ds G Q _ => ∃ (b a : Nat) (s : List Nat), ds = [.int b, rowD (cR (s ++ [a]))] ∧ IsBase b ∧ 0 < a ∧ a < b ∧ s.length ≤ 30 ∧ Q (.bl (isPr b (s ++ [a]))) G
def p__law_is_prime : VS := (vRet (vAnd (vOp dGt (vCall dLen (vCons (vPk 1) vNil)) (vC (.int 1))) (vAnd (vOp dEq (vOp dIx (vPk 1) (vNeg (vC (.int 1)))) (vC (.int 1))) (vOp dEq (vDef s__law_factors (vCons (vVar 0) (vCons (vVar 1) vNil))) (vLst (vCons (vTup (vCons (vVar 1) (vCons (vC (.int 1)) vNil))) vNil))))))
theorem v__law_is_prime (ds : List D) (G : Gs) (Qd : D → Gs → Prop) (Ed : EK) (h : s__law_is_prime ds G Qd Ed) : ds.length = 2 ∧ p__law_is_prime Ed (ends0 Qd) (startL ["base", "row"] ds) G := by
  obtain ⟨b, a, s, rfl, hb, h0, hab, hs, q⟩ := h
  refine ⟨rfl, ?_⟩
  show p__law_is_prime Ed (ends0 Qd) [.val (.int b), .val (rowD (cR (s ++ [a])))] G
  have hlast : atI (iL (cR (s ++ [a]))) (-1) = some (.int a) := by
    rw [iL, cR, List.map_append, List.map_append]
    exact atI_last
  unfold p__law_is_prime
  walk_at "v"
  have hl : (List.map D.int (cR (s ++ [a]))).length = s.length + 1 := by simp
  by_cases h1 : 1 < s.length + 1
  · rw [decide_eq_true (by rw [hl]; omega)]
    refine ⟨_, hlast, ?_⟩
    show match D.bl (decide ((a : Int) = 1)) with
      | D.bl true => _
      | D.bl false => _
      | _ => _
    by_cases h2 : a = 1
    · subst h2
      rw [decide_eq_true (by omega)]
      refine ⟨b, 1, s, rfl, hb, h0, hab, hs, smallN (by simp), smallN (by simp), dEq_pairs (m := [(cR (s ++ [1]), 1)]) ?_⟩
      have e : isPr b (s ++ [1]) = decide (factF b (s ++ [1]) = [(cR (s ++ [1]), 1)]) := by
        unfold isPr
        rw [List.getLastD_concat, List.length_append, List.length_singleton, decide_eq_true h1]
        rfl
      rw [← e]
      exact q
    · rw [decide_eq_false (by omega)]
      have e : isPr b (s ++ [a]) = false := by
        unfold isPr
        rw [List.getLastD_concat, decide_eq_false h2]
        simp
      rw [e] at q
      exact q
  · rw [decide_eq_false (by rw [hl]; omega)]
    have e : isPr b (s ++ [a]) = false := by
      unfold isPr
      rw [List.length_append, List.length_singleton, decide_eq_false h1]
      rfl
    rw [e] at q
    exact q
end SP
set_option Elab.async false
set_option autoImplicit false
set_option linter.all false
set_option maxRecDepth 100000
set_option maxHeartbeats 2000000
namespace SP
open PySem PySem.Spec PyProof.Rows L2 VL
local macro_rules | `(tactic| walk_at "v") => `(tactic| simp only [vSeq, vNext, vVar, vPk, vC, vOp, vB, vSet, vPar, vApp, vShare, vRet, vRetN, vDrop, vIfS, vSetIx, ownLst, setL, setAll, slotN, xN, xNil, nE, nF, eN, nOp, nSl, nRev, nIf, vNo, vPart, vNil, vCons, vTup, vLst, vCall, vDef, vNeg, vChain, vAnd, vOr, vNot, vAndT, vOrT, vNotT, vIf, vRaise, vBrk, vCnt, vUnp, vgName, vgNil, vgCons, vgTup, vqVar, vqVal, viRng1, viRng2, viRng3, viEnum, vYes, lockL, lock1, unlL, unl1, wipeV, vComp, vFor, vTru, vIsTy, vOwn, vExt, vPop, vDrwW, vDrwC, vDrwN, vPutW, vPutN, vDct, vpNil, vpCons, vDGet, vDGet2, vDIn, dAdd, dSub, dMul, dMod, dDiv, dPow, dCmp, dLt, dLe, dGt, dGe, dAddN, dMulN, dIx, dLen, dInt, dTupOf, dLstOf, dMax2, dMin2, dIs, dIsN, dRepr, seqD, List.set_cons_zero, List.set_cons_succ, List.getElem?_cons_zero, List.getElem?_cons_succ, List.getElem?_nil, List.set_nil])
/-! ### a prime drawn -/
def p__law_prime : VS := (vSeq (vSet 3 (nOp dAddN (vC (.int 1)) (vDef s__law_take (vCons (vVar 0) (vCons (vVar 2) vNil))))) (vShare 3 (vSeq (vSet 4 (nE (vDef s__law_power (vCons (vVar 1) (vCons (vVar 3) vNil))))) (vSeq (vSet 5 (nE (vDef s__law_take (vCons (vVar 0) (vCons (vVar 4) vNil))))) (vSeq (vFor (viRng1 (vCons (vVar 4) vNil)) (vgName 6) (vSeq (vSet 7 (nOp dAddN (vPk 4) (vOp dMod (vCall dInt (vCons (eN (nOp dAddN (vPk 5) (vPk 6))) vNil)) (vPk 4)))) (vIfS (vB (vDef s__law_is_prime (vCons (vVar 1) (vCons (vDef s__law_row (vCons (vVar 1) (vCons (vVar 7) vNil))) vNil)))) (vRet (vVar 7)) vNext))) (vRet (vVar 1)))))))
theorem pow8 {b s : Nat} (hb : 2 ≤ b ∧ b ≤ 5) (hs : 1 ≤ s ∧ s ≤ 8) : b ^ s ≤ 390625 ∧ 2 ≤ b ^ s :=
  ⟨Nat.le_trans (Nat.pow_le_pow_left hb.2 s) (Nat.le_trans (Nat.pow_le_pow_right (by omega) hs.2) (by decide)), Nat.le_trans hb.1 (Nat.le_trans (Nat.le_of_eq (Nat.pow_one b).symm) (Nat.pow_le_pow_right (by omega) hs.1))⟩
theorem base_pr {b : Nat} (hb : IsBase b) : isPr b (digs b b) = true ∧ digs b b = [0, 1] := by
  rcases hb with rfl | rfl | rfl
  · exact ⟨by decide +kernel, by decide +kernel⟩
  · exact ⟨by decide +kernel, by decide +kernel⟩
  · exact ⟨by decide +kernel, by decide +kernel⟩
theorem v__law_prime (ds : List D) (G : Gs) (Qd : D → Gs → Prop) (Ed : EK) (h : s__law_prime ds G Qd Ed) : ds.length = 3 ∧ p__law_prime Ed (ends0 Qd) (startL ["draw", "base", "most", "size", "first", "at", "lap", "number"] ds) G := by
  obtain ⟨b, m, rfl, hb, hm1, hm2, hG, q⟩ := h
  refine ⟨rfl, ?_⟩
  show p__law_prime Ed (ends0 Qd) [.val .draw, .val (.int b), .val (.int m), .no, .no, .no, .no, .no] G
  have hb2 := base_log hb
  unfold p__law_prime
  walk_at "v"
  refine ⟨m, rfl, by omega, hG, fun r G1 g1 a1 b1 => ?_⟩
  have hr : 0 ≤ r ∧ r < 8 := by
    by_cases h : (m : Int) < 2
    · rw [a1 h]
      omega
    · have := b1 (by omega)
      omega
  obtain ⟨s, hs⟩ := Int.eq_ofNat_of_zero_le (show 0 ≤ 1 + r by omega)
  simp only [hs]
  have hs8 : 1 ≤ s ∧ s ≤ 8 := by omega
  have hp := pow8 ⟨hb2.1, hb2.2.1⟩ hs8
  have ep : ((b : Int) ^ s) = ((b ^ s : Nat) : Int) := (Int.natCast_pow b s).symm
  refine ⟨b, s, rfl, by omega, by omega, ?_⟩
  rw [ep]
  generalize hf : b ^ s = f at *
  refine ⟨(f : Int), rfl, by omega, g1, fun at1 G2 g2 a2 b2 => ?_⟩
  have hat := b2 (by omega)
  refine ⟨⟨by omega, by omega⟩, ?_⟩
  have er : rangeD 0 1 (f : Int).toNat = iL (cR (List.range f)) := by
    rw [Int.toNat_natCast, rangeD, iL, cR, List.map_map]
    exact List.map_congr_left fun i _ => by simp
  rw [er]
  refine forV_ind (fun rem L G' => ∃ (xs : List Nat) (x y : Option D), rem = iL (cR xs) ∧ G' = G2 ∧ L = [.val .draw, .val (.int b), .val (.int m), .val (.int s), .val (.int f), .val (.int at1), optS x, optS y]) ⟨_, none, none, rfl, rfl, rfl⟩ ?_ ?_
  · rintro L G' ⟨xs, x, y, h1, rfl, rfl⟩
    have q1 := q b G' g2 hb2.1 (by omega) (base_pr hb).1 (by rw [(base_pr hb).2]; simp; omega)
    cases x <;> cases y <;> (simp only [optS]; walk_at "v"; exact q1)
  · rintro d ds L G' N ⟨xs, x, y, h1, rfl, rfl⟩ hN
    cases xs with
    | nil => exact nomatch h1
    | cons i xs =>
      have h1' : d = .int i ∧ ds = iL (cR xs) := List.cons.inj h1
      obtain ⟨rfl, rfl⟩ := h1'
      have hmod := Int.emod_nonneg (at1 + i) (show (f : Int) ≠ 0 by omega)
      have hmod2 := Int.emod_lt_of_pos (at1 + i) (show (0 : Int) < f by omega)
      obtain ⟨k, hk⟩ := Int.eq_ofNat_of_zero_le (show 0 ≤ (f : Int) + (at1 + i) % f by omega)
      have hN2 := hN [.val .draw, .val (.int b), .val (.int m), .val (.int s), .val (.int f), .val (.int at1), .val (.int i), .val (.int k)] G' ⟨xs, some _, some _, rfl, rfl, rfl⟩
      obtain ⟨t, e, hl⟩ := digs_monic hb2.1 s k (by omega) (by omega)
      have q1 : isPr b (t ++ [1]) = true → Qd (.int k) G' := fun h => q k G' g2 (by omega) (by omega) (by rw [e]; exact h) (by rw [e]; simp; omega)
      have fin : s__law_row [.int b, .int k] G' (fun z G3 => s__law_is_prime [.int b, z] G3 (fun w G4 => match w with
        | .bl true => Qd (.int k) G4
        | .bl false => N [.val .draw, .val (.int b), .val (.int m), .val (.int s), .val (.int f), .val (.int at1), .val (.int i), .val (.int k)] G4
        | _ => False) Ed) Ed := by
        refine ⟨b, k, rfl, hb2.1, hb2.2.2, by rw [e]; simp; omega, ?_⟩
        rw [e]
        refine ⟨b, 1, t, rfl, hb, by omega, by omega, by omega, ?_⟩
        cases h : isPr b (t ++ [1]) with
        | true => exact q1 h
        | false => exact hN2
      cases x <;> cases y <;> (simp only [optS]; walk_at "v"; refine ⟨by omega, ?_⟩; rw [hk])
      all_goals
        obtain ⟨b0, k0, c1, c2, c3, c4, b3, a3, s3, d1, d2, d3, d4, d5, d6⟩ := fin
        refine ⟨b0, k0, c1, c2, c3, c4, b3, a3, s3, d1, d2, d3, d4, d5, ?_⟩
        cases h : isPr b3 (s3 ++ [a3]) <;> rw [h] at d6 <;> exact d6
end SP
set_option Elab.async false
set_option autoImplicit false
set_option linter.all false
set_option maxRecDepth 100000
set_option maxHeartbeats 2000000
namespace SP
open PySem PySem.Spec PyProof.Rows L2 VL
local macro_rules | `(tactic| walk_at "v") => `(tactic| simp only [vSeq, vNext, vVar, vPk, vC, vOp, vB, vSet, vPar, vApp, vShare, vRet, vRetN, vDrop, vIfS, vSetIx, ownLst, setL, setAll, slotN, xN, xNil, nE, nF, eN, nOp, nSl, nRev, nIf, vNo, vPart, vNil, vCons, vTup, vLst, vCall, vDef, vNeg, vChain, vAnd, vOr, vNot, vAndT, vOrT, vNotT, vIf, vRaise, vBrk, vCnt, vUnp, vgName, vgNil, vgCons, vgTup, vqVar, vqVal, viRng1, viRng2, viRng3, viEnum, vYes, lockL, lock1, unlL, unl1, wipeV, vComp, vFor, vTru, vIsTy, vOwn, vExt, vPop, vDrwW, vDrwC, vDrwN, vPutW, vPutN, vDct, vpNil, vpCons, vDGet, vDGet2, vDIn, dAdd, dSub, dMul, dMod, dDiv, dPow, dCmp, dLt, dLe, dGt, dGe, dAddN, dMulN, dIx, dLen, dInt, dTupOf, dLstOf, dMax2, dMin2, dIs, dIsN, dRepr, seqD, List.set_cons_zero, List.set_cons_succ, List.getElem?_cons_zero, List.getElem?_cons_succ, List.getElem?_nil, List.set_nil])
/-! ### times -/
def rowAt (x : Int) : Nat → List Int → List Int → List Int
  | _, [], f => f
  | k, y :: o, f => rowAt x (k + 1) o (f.set k (f.getD k 0 + x * y))
theorem rowAt_length (x : Int) : ∀ (o : List Int) (k : Nat) (f : List Int), (rowAt x k o f).length = f.length
  | [], _, _ => rfl
  | y :: o, k, f => by rw [rowAt, rowAt_length x o, List.length_set]
def timF (o : List Int) : Nat → List Int → List Int → List Int
  | _, [], f => f
  | i, x :: l, f => timF o (i + 1) l (rowAt x i o f)
def timL (b : Int) (l o : List Int) : List Int := trimI ((timF o 0 l (List.replicate (l.length + o.length) 0)).map fun x => x % b)
def s__law_times : SpD := fun ds G Q _ => ∃ (b : Nat) (l o : List Int), ds = [.int b, rowD l, rowD o] ∧ IsBase b ∧ l.length ≤ 100000 ∧ o.length ≤ 100000 ∧ (∀ x ∈ l, x.natAbs < 2 ^ 64) ∧ Q (rowD (timL b l o)) G
def p__law_times : VS := (vSeq (vSet 3 (nOp dMulN (vLst (vCons (vC (.int 0)) vNil)) (eN (nOp dAddN (vCall dLen (vCons (vPk 1) vNil)) (vCall dLen (vCons (vPk 2) vNil)))))) (vSeq (vFor (viEnum (vqVar 1)) (vgTup 2 (vgCons (vgName 4) (vgCons (vgName 5) vgNil))) (vFor (viEnum (vqVar 2)) (vgTup 2 (vgCons (vgName 6) (vgCons (vgName 7) vgNil))) (vSetIx 3 (eN (nOp dAddN (vPk 4) (vPk 6))) (eN (nOp dAddN (vOp dIx (vPk 3) (eN (nOp dAddN (vPk 4) (vPk 6)))) (eN (nOp dMulN (vPk 5) (vPk 7)))))))) (vRet (vDef s__law_cut (vCons (vComp (vqVar 3) (vgName 7) [7] vYes (vOp dMod (vCall dInt (vCons (vPk 7) vNil)) (vPk 0))) vNil)))))
theorem timF_length (o : List Int) : ∀ (l : List Int) (i : Nat) (f : List Int), (timF o i l f).length = f.length
  | [], _, _ => rfl
  | x :: l, i, f => by rw [timF, timF_length o l, rowAt_length]
theorem v__law_times (ds : List D) (G : Gs) (Qd : D → Gs → Prop) (Ed : EK) (h : s__law_times ds G Qd Ed) : ds.length = 3 ∧ p__law_times Ed (ends0 Qd) (startL ["base", "one", "other", "found", "at", "figure", "late", "item"] ds) G := by
  obtain ⟨b, l, o, rfl, hb, hl, ho, hsm, q⟩ := h
  refine ⟨rfl, ?_⟩
  show p__law_times Ed (ends0 Qd) [.val (.int b), .val (rowD l), .val (rowD o), .no, .no, .no, .no, .no] G
  have hb2 := base_log hb
  unfold p__law_times
  walk_at "v"
  have ell : (List.map D.int l).length = l.length := List.length_map ..
  have elo : (List.map D.int o).length = o.length := List.length_map ..
  rw [ell, elo, ← Int.natCast_add, Int.toNat_natCast, List.flatten_replicate_singleton]
  refine ⟨smallN (by simp), ⟨by omega, by omega, smallN (by simp; omega)⟩, ?_⟩
  have hq : ∀ f : List Int, f = timF o 0 l (List.replicate (l.length + o.length) 0) → f.length = l.length + o.length → Qd (rowD (trimI (f.map fun x => x % (b : Int)))) G := fun f h _ => by rw [h]; exact q
  refine forV_ind (fun rem L G' => ∃ (dn rs f : List Int) (x p : Option (D × D)), rem = enumD dn.length (iL rs) ∧ G' = G ∧ L = [.val (.int b), .val (rowD l), .val (rowD o), .own (.lst (iL f)), (opt2 x).1, (opt2 x).2, (opt2 p).1, (opt2 p).2] ∧ l = dn ++ rs ∧ f.length = l.length + o.length ∧ timF o dn.length rs f = timF o 0 l (List.replicate (l.length + o.length) 0)) ⟨[], l, List.replicate (l.length + o.length) 0, none, none, rfl, rfl, by simp [opt2], rfl, by simp, rfl⟩ ?_ ?_
  · rintro L G' ⟨dn, rs, f, x, p, h1, rfl, rfl, h4, h5, h6⟩
    have : rs = [] := by
      cases rs with
      | nil => rfl
      | cons => exact nomatch h1
    subst this
    have q1 := hq f h6 h5
    rcases x with _ | ⟨x1, x2⟩ <;> rcases p with _ | ⟨p1, p2⟩ <;> simp only [opt2] <;> walk_at "v"
    all_goals
      refine compV_ints (fun _ => true) (fun x => x % (b : Int)) (smallN (by omega)) ?_ ?_
      · intro x _ acc N n1 n2 n3
        walk_at "v"
        exact ⟨by omega, n3, n1 rfl⟩
      · rw [List.filter_eq_self.mpr (fun _ _ => rfl)]
        exact ⟨_, _, rfl, .inl rfl, by rw [List.length_map]; omega, q1⟩
  · rintro d ds L G' N ⟨dn, rs, f, x, p, h1, rfl, rfl, h4, h5, h6⟩ hN
    cases rs with
    | nil => exact nomatch h1
    | cons a rs =>
      have h1' : d = .tup [.int (dn.length : Nat), .int a] ∧ ds = enumD (dn.length + 1) (iL rs) := List.cons.inj h1
      obtain ⟨rfl, rfl⟩ := h1'
      have hlen : l.length = dn.length + (rs.length + 1) := by rw [h4, List.length_append, List.length_cons]
      have ha := hsm a (by rw [h4]; simp)
      have inner : ∀ (p : Option (D × D)) (E2 : VEnds), E2.nx = N → forV (vgTup 2 (vgCons (vgName 6) (vgCons (vgName 7) vgNil))) (vSetIx 3 (eN (nOp dAddN (vPk 4) (vPk 6))) (eN (nOp dAddN (vOp dIx (vPk 3) (eN (nOp dAddN (vPk 4) (vPk 6)))) (eN (nOp dMulN (vPk 5) (vPk 7)))))) [] Ed E2 (enumD 0 (iL o)) [.val (.int b), .val (rowD l), .val (rowD o), .own (.lst (iL f)), .val (.int (dn.length : Nat)), .val (.int a), (opt2 p).1, (opt2 p).2] G' := by
        intro p E2 hE2
        refine forV_ind (fun rem L G2 => ∃ (en es f2 : List Int) (p : Option (D × D)), rem = enumD en.length (iL es) ∧ G2 = G' ∧ L = [.val (.int b), .val (rowD l), .val (rowD o), .own (.lst (iL f2)), .val (.int (dn.length : Nat)), .val (.int a), (opt2 p).1, (opt2 p).2] ∧ o = en ++ es ∧ f2.length = l.length + o.length ∧ rowAt a (dn.length + en.length) es f2 = rowAt a dn.length o f) ⟨[], o, f, p, rfl, rfl, rfl, rfl, h5, rfl⟩ ?_ ?_
        · rintro L G2 ⟨en, es, f2, p, g1, rfl, rfl, g4, g5, g6⟩
          have : es = [] := by
            cases es with
            | nil => rfl
            | cons => exact nomatch g1
          subst this
          rw [hE2]
          have g6' : f2 = rowAt a dn.length o f := g6
          exact hN _ _ ⟨dn ++ [a], rs, f2, some (.int (dn.length : Nat), .int a), p, by rw [List.length_append]; rfl, rfl, rfl, by rw [h4, List.append_assoc]; rfl, g5, by rw [← h6, timF, g6', List.length_append]; rfl⟩
        · rintro d ds L G2 N2 ⟨en, es, f2, p, g1, rfl, rfl, g4, g5, g6⟩ hN2
          cases es with
          | nil => exact nomatch g1
          | cons y es =>
            have g1' : d = .tup [.int (en.length : Nat), .int y] ∧ ds = enumD (en.length + 1) (iL es) := List.cons.inj g1
            obtain ⟨rfl, rfl⟩ := g1'
            have hlo : o.length = en.length + (es.length + 1) := by rw [g4, List.length_append, List.length_cons]
            have hin2 : dn.length + en.length < f2.length := by omega
            have hat2 : atI (iL f2) ((dn.length : Int) + (en.length : Int)) = some (.int (f2.getD (dn.length + en.length) 0)) := by
              rw [← Int.natCast_add, atI_cast (by rw [List.length_map]; exact hin2), List.getD_eq_getElem?_getD, List.getElem?_map, List.getElem?_eq_getElem hin2]
              rfl
            have hix2 : ixN (iL f2).length ((dn.length : Int) + (en.length : Int)) = some (dn.length + en.length) := by
              rw [← Int.natCast_add]
              exact ixN_cast (by rw [List.length_map]; exact hin2)
            have e := hN2 [.val (.int b), .val (rowD l), .val (rowD o), .own (.lst (iL (f2.set (dn.length + en.length) (f2.getD (dn.length + en.length) 0 + a * y)))), .val (.int (dn.length : Nat)), .val (.int a), .val (.int (en.length : Nat)), .val (.int y)] G2 ⟨en ++ [y], es, f2.set (dn.length + en.length) (f2.getD (dn.length + en.length) 0 + a * y), some (.int (en.length : Nat), .int y), by rw [List.length_append]; rfl, rfl, rfl, by rw [g4, List.append_assoc]; rfl, by rw [List.length_set]; exact g5, by rw [← g6, rowAt, List.length_append]; rfl⟩
            rw [iL, List.map_set] at e
            rcases p with _ | ⟨p1, p2⟩ <;> (simp only [opt2]; walk_at "v"; refine ⟨rfl, _, hat2, mul_smallL ha, dn.length + en.length, hix2, e⟩)
      rcases x with _ | ⟨x1, x2⟩ <;> rcases p with _ | ⟨p1, p2⟩ <;> simp only [opt2] <;> walk_at "v"
      all_goals
        refine ⟨rfl, ?_⟩
        first | exact inner none _ rfl | exact inner (some (_, _)) _ rfl
end SP
set_option Elab.async false
set_option autoImplicit false
set_option linter.all false
namespace PO
/-! ### power series -/
section
variable {R : Type} [Lean.Grind.CommRing R]
def tl (f : Nat → R) : Nat → R := fun n => f (n + 1)
def mul (f g : Nat → R) : Nat → R
  | 0 => f 0 * g 0
  | n + 1 => f 0 * g (n + 1) + mul (tl f) g n
theorem mul_add (f g h : Nat → R) (n : Nat) : mul f (fun i => g i + h i) n = mul f g n + mul f h n := by
  induction n generalizing f with
  | zero => simp only [mul]; grind
  | succ n ih => simp only [mul, ih]; grind
theorem add_mul (f g h : Nat → R) (n : Nat) : mul (fun i => f i + g i) h n = mul f h n + mul g h n := by
  induction n generalizing f g with
  | zero => simp only [mul]; grind
  | succ n ih => simp only [mul]; rw [show tl (fun i => f i + g i) = fun i => tl f i + tl g i from rfl, ih]; grind
theorem smul_mul (a : R) (f h : Nat → R) (n : Nat) : mul (fun i => a * f i) h n = a * mul f h n := by
  induction n generalizing f with
  | zero => simp only [mul]; grind
  | succ n ih => simp only [mul]; rw [show tl (fun i => a * f i) = fun i => a * tl f i from rfl, ih]; grind
theorem mul_succ' (f g : Nat → R) (n : Nat) : mul f g (n + 1) = mul f (tl g) n + f (n + 1) * g 0 := by
  induction n generalizing f with
  | zero => simp only [mul, tl]
  | succ n ih => rw [mul, ih, mul]; simp only [tl]; grind
theorem mul_comm (f g : Nat → R) (n : Nat) : mul f g n = mul g f n := by
  induction n generalizing f g with
  | zero => simp only [mul]; grind
  | succ n ih => rw [mul, mul_succ', ih]; grind
theorem tl_mul (f g : Nat → R) : tl (mul f g) = fun i => f 0 * tl g i + mul (tl f) g i := rfl
theorem mul_assoc (f g h : Nat → R) (n : Nat) : mul (mul f g) h n = mul f (mul g h) n := by
  induction n generalizing f g with
  | zero => simp only [mul]; grind
  | succ n ih => rw [mul, tl_mul, add_mul, smul_mul, ih]; simp only [mul]; grind
end
end PO
namespace PO
structure Ser (R : Type) where
  c : Nat → R
section
variable {R : Type} [Lean.Grind.CommRing R]
theorem Ser.ext {f g : Ser R} (h : ∀ n, f.c n = g.c n) : f = g := by
  cases f; cases g; congr; exact funext h
instance : Add (Ser R) := ⟨fun f g => ⟨fun n => f.c n + g.c n⟩⟩
instance : Mul (Ser R) := ⟨fun f g => ⟨mul f.c g.c⟩⟩
instance : Neg (Ser R) := ⟨fun f => ⟨fun n => - f.c n⟩⟩
instance : Sub (Ser R) := ⟨fun f g => ⟨fun n => f.c n - g.c n⟩⟩
def con (a : R) : Ser R := ⟨fun n => match n with | 0 => a | _ => 0⟩
theorem con_mul (a : R) (f : Ser R) (n : Nat) : (con a * f).c n = a * f.c n := by
  show mul _ _ n = _
  have z : ∀ (g : Nat → R) n, mul (fun _ => (0 : R)) g n = 0 := fun g n => by
    induction n with
    | zero => simp only [mul]; grind
    | succ n ih => simp only [mul]; rw [show tl (fun _ => (0 : R)) = fun _ => 0 from rfl, ih]; grind
  cases n with
  | zero => simp only [mul, con]
  | succ n => simp only [mul]; rw [show tl (con a).c = fun _ => 0 from rfl, z]; simp only [con]; grind
end
end PO
namespace PO
section
variable {R : Type} [Lean.Grind.CommRing R]
def castN : Nat → R
  | 0 => 0
  | n + 1 => castN n + 1
def castI : Int → R
  | .ofNat n => castN n
  | .negSucc n => - castN (n + 1)
theorem castI_neg (i : Int) : castI (R := R) (-i) = - castI i := by
  cases i with
  | ofNat n => cases n with
    | zero => show castI (R := R) 0 = - castI 0; simp only [castI, castN]; grind
    | succ n => rfl
  | negSucc n => show castN (n + 1) = - - castN (R := R) (n + 1); grind
def powS (f : Ser R) : Nat → Ser R
  | 0 => con 1
  | n + 1 => powS f n * f
theorem mulS_comm (f g : Ser R) : f * g = g * f := Ser.ext fun n => mul_comm f.c g.c n
theorem one_mulS (f : Ser R) : con 1 * f = f := Ser.ext fun n => by rw [con_mul]; grind
instance serRing : Lean.Grind.CommRing (Ser R) where
  natCast := ⟨fun n => con (castN n)⟩
  ofNat n := ⟨con (castN n)⟩
  nsmul := ⟨fun n f => con (castN n) * f⟩
  npow := ⟨fun f n => powS f n⟩
  intCast := ⟨fun i => con (castI i)⟩
  zsmul := ⟨fun i f => con (castI i) * f⟩
  add_zero f := Ser.ext fun n => by
    show f.c n + (con (castN 0)).c n = f.c n
    cases n <;> simp only [con, castN] <;> grind
  add_comm f g := Ser.ext fun n => by show f.c n + g.c n = g.c n + f.c n; grind
  add_assoc f g h := Ser.ext fun n => by show f.c n + g.c n + h.c n = f.c n + (g.c n + h.c n); grind
  mul_assoc f g h := Ser.ext fun n => mul_assoc f.c g.c h.c n
  mul_one f := by show f * con (castN 1) = f; rw [mulS_comm, show castN (R := R) 1 = 1 by simp only [castN]; grind, one_mulS]
  one_mul f := by show con (castN 1) * f = f; rw [show castN (R := R) 1 = 1 by simp only [castN]; grind, one_mulS]
  left_distrib f g h := Ser.ext fun n => mul_add f.c g.c h.c n
  right_distrib f g h := Ser.ext fun n => add_mul f.c g.c h.c n
  zero_mul f := Ser.ext fun n => by show (con (castN 0) * f).c n = (con (castN 0)).c n; rw [con_mul]; cases n <;> simp only [con, castN] <;> grind
  mul_zero f := Ser.ext fun n => by show (f * con (castN 0)).c n = (con (castN 0)).c n; rw [mulS_comm, con_mul]; cases n <;> simp only [con, castN] <;> grind
  mul_comm f g := mulS_comm f g
  pow_zero f := by show con 1 = con (castN 1); rw [show castN (R := R) 1 = 1 by simp only [castN]; grind]
  pow_succ f n := rfl
  ofNat_succ n := Ser.ext fun k => by show (con (castN (n + 1))).c k = (con (castN n)).c k + (con (castN 1)).c k; cases k <;> simp only [con, castN] <;> grind
  neg_add_cancel f := Ser.ext fun n => by show - f.c n + f.c n = (con (castN 0)).c n; cases n <;> simp only [con, castN] <;> grind
  sub_eq_add_neg f g := Ser.ext fun n => by show f.c n - g.c n = f.c n + - g.c n; grind
  neg_zsmul i f := Ser.ext fun n => by show (con (castI (-i)) * f).c n = - (con (castI i) * f).c n; rw [con_mul, con_mul, castI_neg]; grind
  intCast_neg i := Ser.ext fun n => by show (con (castI (-i))).c n = - (con (castI i)).c n; cases n <;> simp only [con, castI_neg] <;> grind
end
end PO
set_option Elab.async false
set_option autoImplicit false
set_option linter.all false
namespace PO
/-! ### the bases -/
class Bs (p : Nat) : Prop where
  h : p = 2 ∨ p = 3 ∨ p = 5
theorem Bs.two (p : Nat) [i : Bs p] : 2 ≤ p := by rcases i.h with h | h | h <;> omega
theorem Bs.five (p : Nat) [i : Bs p] : p ≤ 5 := by rcases i.h with h | h | h <;> omega
instance (p : Nat) [Bs p] : NeZero p := ⟨by have := Bs.two p; omega⟩
instance : Bs 2 := ⟨.inl rfl⟩
instance : Bs 3 := ⟨.inr (.inl rfl)⟩
instance : Bs 5 := ⟨.inr (.inr rfl)⟩
theorem Bs.ind {P : (p : Nat) → Bs p → Prop} (h2 : P 2 inferInstance) (h3 : P 3 inferInstance) (h5 : P 5 inferInstance) (p : Nat) (b : Bs p) : P p b := by
  rcases b.h with h | h | h
  · subst h; exact h2
  · subst h; exact h3
  · subst h; exact h5
section
variable {p : Nat} [Bs p]
theorem fin_inv (a : Fin p) (h : a ≠ 0) : ∃ b : Fin p, a * b = 1 := by
  revert a h
  exact Bs.ind (P := fun p b => ∀ a : Fin p, a ≠ 0 → ∃ b : Fin p, a * b = 1) (by decide) (by decide) (by decide) p ‹_›
theorem fin_mul_ne (a b : Fin p) (ha : a ≠ 0) (hb : b ≠ 0) : a * b ≠ 0 := by
  obtain ⟨c, hc⟩ := fin_inv a ha
  intro h
  apply hb
  have : c * (a * b) = 0 := by rw [h]; grind
  grind
theorem fin_pow (a : Fin p) : a ^ p = a := by
  revert a
  exact Bs.ind (P := fun p b => ∀ a : Fin p, a ^ p = a) (by decide) (by decide) (by decide) p ‹_›
theorem fin_one_ne : (1 : Fin p) ≠ 0 := Bs.ind (P := fun p b => (1 : Fin p) ≠ 0) (by decide) (by decide) (by decide) p ‹_›
theorem fin_val_zero : (0 : Fin p).val = 0 := rfl
theorem fin_val_one : (1 : Fin p).val = 1 := Bs.ind (P := fun p b => (1 : Fin p).val = 1) (by decide) (by decide) (by decide) p ‹_›
end
/-! ### numbers as polynomials -/
/-- the number of the figures f 0, f 1, .. , n of them -/
def ofF (p : Nat) (f : Nat → Fin p) : Nat → Nat
  | 0 => 0
  | k + 1 => (f 0).val + p * ofF p (fun i => f (i + 1)) k
structure Pol (p : Nat) where
  n : Nat
  deriving DecidableEq
section
variable {p : Nat} [Bs p]
def Pol.c (x : Pol p) (i : Nat) : Fin p := ⟨x.n / p ^ i % p, Nat.mod_lt _ (by have := Bs.two p; omega)⟩
theorem Pol.eq_of_n {x y : Pol p} (h : x.n = y.n) : x = y := by cases x; cases y; cases h; rfl
theorem c_ofF (f : Nat → Fin p) (k i : Nat) : (⟨ofF p f k⟩ : Pol p).c i = if i < k then f i else 0 := by
  have h2 := Bs.two p
  induction k generalizing f i with
  | zero =>
    rw [if_neg (by omega)]
    apply Fin.ext
    simp [Pol.c, ofF]
  | succ k ih =>
    cases i with
    | zero =>
      rw [if_pos (by omega)]
      apply Fin.ext
      simp only [Pol.c, ofF, Nat.pow_zero, Nat.div_one, Nat.add_mul_mod_self_left]
      exact Nat.mod_eq_of_lt (f 0).isLt
    | succ i =>
      have := congrArg Fin.val (ih (fun i => f (i + 1)) i)
      apply Fin.ext
      simp only [Pol.c, ofF] at this ⊢
      rw [Nat.pow_succ, Nat.mul_comm (p ^ i) p, ← Nat.div_div_eq_div_mul, Nat.add_mul_div_left _ _ (by omega), Nat.div_eq_of_lt (f 0).isLt, Nat.zero_add, this]
      by_cases h : i < k
      · rw [if_pos h, if_pos (by omega)]
      · rw [if_neg h, if_neg (by omega)]
theorem ofF_c (x : Nat) (k : Nat) : ofF p (⟨x⟩ : Pol p).c k = x % p ^ k := by
  have h2 := Bs.two p
  induction k generalizing x with
  | zero => simp [ofF, Nat.mod_one]
  | succ k ih =>
    have e : (fun i => (⟨x⟩ : Pol p).c (i + 1)) = (⟨x / p⟩ : Pol p).c := by
      funext i
      apply Fin.ext
      simp only [Pol.c]
      rw [Nat.pow_succ, Nat.mul_comm (p ^ i) p, ← Nat.div_div_eq_div_mul]
    rw [ofF, e, ih]
    simp only [Pol.c, Nat.pow_zero, Nat.div_one]
    rw [Nat.pow_succ, Nat.mul_comm (p ^ k) p, Nat.mod_mul]
theorem lt_pow (x : Nat) : x < p ^ x := Nat.lt_pow_self (by have := Bs.two p; omega)
theorem ofF_self {x k : Nat} (h : x < p ^ k) : ofF p (⟨x⟩ : Pol p).c k = x := by rw [ofF_c, Nat.mod_eq_of_lt h]
theorem Pol.ext {x y : Pol p} (h : ∀ i, x.c i = y.c i) : x = y := by
  apply Pol.eq_of_n
  have e : x.c = y.c := funext h
  have hx : x.n < p ^ (x.n + y.n) := Nat.lt_of_lt_of_le (lt_pow (p := p) x.n) (Nat.pow_le_pow_right (by have := Bs.two p; omega) (by omega))
  have hy : y.n < p ^ (x.n + y.n) := Nat.lt_of_lt_of_le (lt_pow (p := p) y.n) (Nat.pow_le_pow_right (by have := Bs.two p; omega) (by omega))
  have h1 := ofF_self hx
  have h2 := ofF_self hy
  exact h1.symm.trans ((congrArg (fun f => ofF p f (x.n + y.n)) e).trans h2)
theorem c_zero_of_lt {x : Pol p} {k i : Nat} (h : x.n < p ^ k) (hi : k ≤ i) : x.c i = 0 := by
  apply Fin.ext
  simp only [Pol.c]
  rw [Nat.div_eq_of_lt (Nat.lt_of_lt_of_le h (Nat.pow_le_pow_right (by have := Bs.two p; omega) hi))]
  rfl
theorem ofF_lt (f : Nat → Fin p) (k : Nat) : ofF p f k < p ^ k := by
  induction k generalizing f with
  | zero => simp [ofF]
  | succ k ih =>
    have h1 := (f 0).isLt
    have h2 := ih fun i => f (i + 1)
    rw [ofF, Nat.pow_succ]
    have h3 : p * (ofF p (fun i => f (i + 1)) k + 1) ≤ p * p ^ k := Nat.mul_le_mul_left p h2
    rw [Nat.mul_add] at h3
    rw [Nat.mul_comm (p ^ k) p]
    omega
/-! ### how many figures -/
def lenN (p : Nat) (n : Nat) : Nat := if h : n = 0 ∨ p < 2 then 0 else lenN p (n / p) + 1
  termination_by n
  decreasing_by exact Nat.div_lt_self (by omega) (by omega)
def Pol.len (x : Pol p) : Nat := lenN p x.n
theorem lenN_zero : lenN p 0 = 0 := by rw [lenN]; simp
theorem lenN_pos {n : Nat} (h : 0 < n) : lenN p n = lenN p (n / p) + 1 := by
  rw [lenN, dif_neg (by have := Bs.two p; omega)]
theorem lenN_le {n k : Nat} : lenN p n ≤ k ↔ n < p ^ k := by
  have h2 := Bs.two p
  induction k generalizing n with
  | zero =>
    by_cases h : n = 0
    · subst h; rw [lenN_zero]; simp
    · rw [lenN_pos (by omega)]; simp; omega
  | succ k ih =>
    by_cases h : n = 0
    · subst h
      rw [lenN_zero]
      exact iff_of_true (by omega) (Nat.pow_pos (by omega))
    · rw [lenN_pos (by omega), Nat.pow_succ, ← Nat.div_lt_iff_lt_mul (by omega)]
      have := ih (n := n / p)
      omega
theorem len_le {x : Pol p} {k : Nat} : x.len ≤ k ↔ x.n < p ^ k := lenN_le
theorem c_zero {x : Pol p} {i : Nat} (h : x.len ≤ i) : x.c i = 0 := c_zero_of_lt (len_le.mp h) (Nat.le_refl i)
theorem len_le_of {x : Pol p} {k : Nat} (h : ∀ i, k ≤ i → x.c i = 0) : x.len ≤ k := by
  rw [len_le]
  have e : x = ⟨ofF p x.c k⟩ := Pol.ext fun i => by
    rw [c_ofF]
    by_cases hi : i < k
    · rw [if_pos hi]
    · rw [if_neg hi, h i (by omega)]
  have h2 := ofF_lt x.c k
  rw [show x.n = ofF p x.c k from congrArg Pol.n e]
  exact h2
theorem len_lead {x : Pol p} {k : Nat} (h : x.len = k + 1) : x.c k ≠ 0 := fun e => by
  have : x.len ≤ k := len_le_of fun i hi => by
    by_cases hk : i = k
    · rw [hk, e]
    · exact c_zero (by omega)
  omega
theorem len_eq_of {x : Pol p} {k : Nat} (h : ∀ i, k < i → x.c i = 0) (hk : x.c k ≠ 0) : x.len = k + 1 := by
  have h1 : x.len ≤ k + 1 := len_le_of fun i hi => h i hi
  have h2 : ¬ x.len ≤ k := fun h => hk (c_zero h)
  omega
/-! ### the ring -/
def Pol.ser (x : Pol p) : Ser (Fin p) := ⟨x.c⟩
theorem ser_inj {x y : Pol p} (h : x.ser = y.ser) : x = y := Pol.ext fun i => congrFun (congrArg Ser.c h) i
def ofS (f : Ser (Fin p)) (k : Nat) : Pol p := ⟨ofF p f.c k⟩
theorem c_ofS (f : Ser (Fin p)) (k i : Nat) : (ofS f k).c i = if i < k then f.c i else 0 := c_ofF f.c k i
theorem ser_ofS {f : Ser (Fin p)} {k : Nat} (h : ∀ i, k ≤ i → f.c i = 0) : (ofS f k).ser = f := Ser.ext fun i => by
  show (ofS f k).c i = _
  rw [c_ofS]
  by_cases hi : i < k
  · rw [if_pos hi]
  · rw [if_neg hi, h i (by omega)]
theorem mul_far {R : Type} [Lean.Grind.CommRing R] {f g : Nat → R} {a b : Nat} (hf : ∀ i, a ≤ i → f i = 0) (hg : ∀ i, b ≤ i → g i = 0) : ∀ i, a + b ≤ i + 1 → 0 < a → 0 < b → mul f g i = 0 := by
  intro i
  induction i generalizing f a with
  | zero => intro h1 h2 h3; omega
  | succ i ih =>
    intro h1 h2 h3
    rw [mul]
    by_cases ha : a = 1
    · have z : ∀ n, mul (tl f) g n = 0 := by
        have e : tl f = fun _ => (0 : R) := funext fun n => hf (n + 1) (by omega)
        rw [e]
        intro n
        induction n with
        | zero => simp only [mul]; grind
        | succ n ih => simp only [mul]; rw [show tl (fun _ => (0 : R)) = fun _ => 0 from rfl, ih]; grind
      rw [z, hg (i + 1) (by omega)]
      grind
    · rw [hg (i + 1) (by omega), ih (f := tl f) (a := a - 1) (fun j hj => hf (j + 1) (by omega)) (by omega) (by omega) h3]
      grind
theorem mul_top {R : Type} [Lean.Grind.CommRing R] {f g : Nat → R} {a b : Nat} (hf : ∀ i, a < i → f i = 0) (hg : ∀ i, b < i → g i = 0) : mul f g (a + b) = f a * g b := by
  induction a generalizing f with
  | zero =>
    rw [Nat.zero_add]
    cases b with
    | zero => rfl
    | succ b =>
      rw [mul]
      have z : ∀ n, mul (tl f) g n = 0 := by
        have e : tl f = fun _ => (0 : R) := funext fun n => hf (n + 1) (by omega)
        rw [e]
        intro n
        induction n with
        | zero => simp only [mul]; grind
        | succ n ih => simp only [mul]; rw [show tl (fun _ => (0 : R)) = fun _ => 0 from rfl, ih]; grind
      rw [z]
      grind
  | succ a ih =>
    rw [show a + 1 + b = (a + b) + 1 by omega, mul, hg (a + b + 1) (by omega), ih (f := tl f) fun i hi => hf (i + 1) (by omega)]
    simp only [tl]
    grind
instance : Add (Pol p) := ⟨fun x y => ofS (x.ser + y.ser) (x.len + y.len)⟩
instance : Mul (Pol p) := ⟨fun x y => ofS (x.ser * y.ser) (x.len + y.len + 1)⟩
instance : Neg (Pol p) := ⟨fun x => ofS (- x.ser) x.len⟩
instance : Sub (Pol p) := ⟨fun x y => ofS (x.ser - y.ser) (x.len + y.len)⟩
/-- a figure alone -/
def Cp (a : Fin p) : Pol p := ⟨a.val⟩
theorem c_Cp (a : Fin p) (i : Nat) : (Cp a).c i = if i = 0 then a else 0 := by
  cases i with
  | zero => apply Fin.ext; simp [Pol.c, Cp, Nat.mod_eq_of_lt a.isLt]
  | succ i =>
    rw [if_neg (by omega)]
    exact c_zero_of_lt (k := 1) (by simp [Cp]) (by omega)
theorem ser_add (x y : Pol p) : (x + y).ser = x.ser + y.ser := ser_ofS fun i hi => by
  show x.c i + y.c i = 0
  rw [c_zero (x := x) (by omega), c_zero (x := y) (by omega)]
  grind
theorem ser_mul (x y : Pol p) : (x * y).ser = x.ser * y.ser := ser_ofS fun i hi =>
  mul_far (a := x.len + 1) (b := y.len + 1) (fun j hj => c_zero (by omega)) (fun j hj => c_zero (by omega)) i (by omega) (by omega) (by omega)
theorem ser_neg (x : Pol p) : (-x).ser = - x.ser := ser_ofS fun i hi => by
  show - x.c i = 0
  rw [c_zero (x := x) (by omega)]
  grind
theorem ser_sub (x y : Pol p) : (x - y).ser = x.ser - y.ser := ser_ofS fun i hi => by
  show x.c i - y.c i = 0
  rw [c_zero (x := x) (by omega), c_zero (x := y) (by omega)]
  grind
theorem ser_Cp (a : Fin p) : (Cp a).ser = con a := Ser.ext fun i => by
  show (Cp a).c i = _
  rw [c_Cp]
  cases i <;> rfl
def powP (x : Pol p) : Nat → Pol p
  | 0 => Cp 1
  | n + 1 => powP x n * x
instance polRing : Lean.Grind.CommRing (Pol p) where
  natCast := ⟨fun n => Cp (castN n)⟩
  ofNat n := ⟨Cp (castN n)⟩
  nsmul := ⟨fun n f => Cp (castN n) * f⟩
  npow := ⟨fun f n => powP f n⟩
  intCast := ⟨fun i => Cp (castI i)⟩
  zsmul := ⟨fun i f => Cp (castI i) * f⟩
  add_zero f := ser_inj (by rw [ser_add]; show f.ser + (Cp (castN 0)).ser = f.ser; rw [ser_Cp]; exact Lean.Grind.Semiring.add_zero f.ser)
  add_comm f g := ser_inj (by rw [ser_add, ser_add]; grind)
  add_assoc f g h := ser_inj (by simp only [ser_add]; grind)
  mul_assoc f g h := ser_inj (by simp only [ser_mul]; grind)
  mul_one f := ser_inj (by rw [ser_mul]; show f.ser * (Cp (castN 1)).ser = _; rw [ser_Cp]; exact Lean.Grind.Semiring.mul_one f.ser)
  one_mul f := ser_inj (by rw [ser_mul]; show (Cp (castN 1)).ser * f.ser = _; rw [ser_Cp]; exact Lean.Grind.Semiring.one_mul f.ser)
  left_distrib f g h := ser_inj (by simp only [ser_mul, ser_add]; grind)
  right_distrib f g h := ser_inj (by simp only [ser_mul, ser_add]; grind)
  zero_mul f := ser_inj (by rw [ser_mul]; show (Cp (castN 0)).ser * f.ser = (Cp (castN 0)).ser; rw [ser_Cp]; exact Lean.Grind.Semiring.zero_mul f.ser)
  mul_zero f := ser_inj (by rw [ser_mul]; show f.ser * (Cp (castN 0)).ser = (Cp (castN 0)).ser; rw [ser_Cp]; exact Lean.Grind.Semiring.mul_zero f.ser)
  mul_comm f g := ser_inj (by simp only [ser_mul]; grind)
  pow_zero f := by show Cp 1 = Cp (castN 1); congr 1; simp only [castN]; grind
  pow_succ f n := rfl
  ofNat_succ n := ser_inj (by rw [ser_add]; show (Cp (castN (n + 1))).ser = (Cp (castN n)).ser + (Cp (castN 1)).ser; simp only [ser_Cp]; refine Ser.ext fun k => ?_; show (con (castN (n + 1))).c k = (con (castN n)).c k + (con (castN 1)).c k; cases k <;> simp only [con, castN] <;> grind)
  neg_add_cancel f := ser_inj (by rw [ser_add, ser_neg]; show _ = (Cp (castN 0)).ser; rw [ser_Cp]; exact Lean.Grind.Ring.neg_add_cancel f.ser)
  sub_eq_add_neg f g := ser_inj (by rw [ser_add, ser_neg, ser_sub]; exact Lean.Grind.Ring.sub_eq_add_neg f.ser g.ser)
  neg_zsmul i f := ser_inj (by show (Cp (castI (-i)) * f).ser = (-(Cp (castI i) * f)).ser; rw [ser_mul, ser_neg, ser_mul, ser_Cp, ser_Cp]; refine Ser.ext fun n => ?_; show (con (castI (-i)) * f.ser).c n = - (con (castI i) * f.ser).c n; rw [con_mul, con_mul, castI_neg]; grind)
  intCast_neg i := ser_inj (by rw [ser_neg]; show (Cp (castI (-i))).ser = -(Cp (castI i)).ser; rw [ser_Cp, ser_Cp]; refine Ser.ext fun n => ?_; show (con (castI (-i))).c n = - (con (castI i)).c n; cases n <;> simp only [con, castI_neg] <;> grind)
end
end PO
set_option Elab.async false
set_option autoImplicit false
set_option linter.all false
namespace PO
section
variable {p : Nat} [Bs p]
/-! ### figures of sums, products -/
theorem c_add (x y : Pol p) (i : Nat) : (x + y).c i = x.c i + y.c i := congrFun (congrArg Ser.c (ser_add x y)) i
theorem c_sub (x y : Pol p) (i : Nat) : (x - y).c i = x.c i - y.c i := congrFun (congrArg Ser.c (ser_sub x y)) i
theorem c_neg (x : Pol p) (i : Nat) : (-x).c i = - x.c i := congrFun (congrArg Ser.c (ser_neg x)) i
theorem c_mul (x y : Pol p) (i : Nat) : (x * y).c i = mul x.c y.c i := congrFun (congrArg Ser.c (ser_mul x y)) i
theorem zero_def : (0 : Pol p) = ⟨0⟩ := rfl
theorem one_eq : (1 : Pol p) = Cp 1 := by show Cp (castN 1) = Cp 1; congr 1; simp only [castN]; grind
theorem zero_eq : (0 : Pol p) = Cp 0 := rfl
theorem c_0 (i : Nat) : (0 : Pol p).c i = 0 := by rw [zero_eq, c_Cp]; split <;> rfl
theorem c_1 (i : Nat) : (1 : Pol p).c i = if i = 0 then 1 else 0 := by rw [one_eq, c_Cp]
theorem n_one : (1 : Pol p).n = 1 := by rw [one_eq]; exact fin_val_one
theorem Cp_mul_c (a : Fin p) (x : Pol p) (i : Nat) : (Cp a * x).c i = a * x.c i := by
  have h : (Cp a * x).ser = con a * x.ser := by rw [ser_mul, ser_Cp]
  have := congrFun (congrArg Ser.c h) i
  rw [con_mul] at this
  exact this
theorem Cp_add (a b : Fin p) : Cp (a + b) = Cp a + Cp b := Pol.ext fun i => by
  rw [c_add, c_Cp, c_Cp, c_Cp]
  split <;> grind
theorem Cp_mul (a b : Fin p) : Cp (a * b) = Cp a * Cp b := Pol.ext fun i => by
  rw [Cp_mul_c, c_Cp, c_Cp]
  split <;> grind
theorem Cp_neg (a : Fin p) : Cp (-a) = - Cp a := Pol.ext fun i => by
  rw [c_neg, c_Cp, c_Cp]
  split <;> grind
theorem Cp_pow (a : Fin p) (k : Nat) : Cp (a ^ k) = Cp a ^ k := by
  induction k with
  | zero => rw [Lean.Grind.Semiring.pow_zero, Lean.Grind.Semiring.pow_zero, one_eq]
  | succ k ih => rw [Lean.Grind.Semiring.pow_succ, Lean.Grind.Semiring.pow_succ, Cp_mul, ih]
/-- the number 10 -/
def T : Pol p := ⟨p⟩
theorem c_T (i : Nat) : (T : Pol p).c i = if i = 1 then 1 else 0 := by
  have h2 := Bs.two p
  apply Fin.ext
  match i with
  | 0 => simp [T, Pol.c]
  | 1 =>
    rw [if_pos rfl, fin_val_one]
    simp only [T, Pol.c, Nat.pow_one]
    rw [Nat.div_self (by omega), Nat.mod_eq_of_lt (by omega)]
  | i + 2 =>
    rw [if_neg (by omega)]
    exact congrArg Fin.val (c_zero_of_lt (x := (T : Pol p)) (k := 2) (i := i + 2) (by show p < p ^ 2; rw [Nat.pow_succ, Nat.pow_one]; exact Nat.lt_mul_self_iff.mpr (by omega)) (by omega))
theorem T_mul_zero (x : Pol p) : (T * x).c 0 = 0 := by
  rw [c_mul, mul, c_T, if_neg (by omega)]
  grind
theorem T_mul_succ (x : Pol p) (i : Nat) : (T * x).c (i + 1) = x.c i := by
  rw [c_mul, mul, c_T, if_neg (by omega)]
  have e : tl (T : Pol p).c = (1 : Pol p).c := funext fun j => by
    show (T : Pol p).c (j + 1) = _
    rw [c_T, c_1]
    by_cases h : j = 0
    · rw [if_pos (by omega), if_pos h]
    · rw [if_neg (by omega), if_neg h]
  rw [e, ← c_mul]
  have : (1 : Pol p) * x = x := by grind
  rw [this]
  grind
/-- first figure and the others -/
def Pol.tail (x : Pol p) : Pol p := ⟨x.n / p⟩
theorem c_tail (x : Pol p) (i : Nat) : x.tail.c i = x.c (i + 1) := by
  apply Fin.ext
  simp only [Pol.tail, Pol.c]
  rw [Nat.pow_succ, Nat.mul_comm (p ^ i) p, ← Nat.div_div_eq_div_mul]
theorem split0 (x : Pol p) : x = Cp (x.c 0) + T * x.tail := Pol.ext fun i => by
  rw [c_add]
  cases i with
  | zero => rw [T_mul_zero, c_Cp, if_pos rfl]; grind
  | succ i => rw [T_mul_succ, c_Cp, if_neg (by omega), c_tail]; grind
theorem n_split (a : Fin p) (y : Pol p) : (Cp a + T * y).n = a.val + p * y.n := by
  have h2 := Bs.two p
  have e : Cp a + T * y = ⟨a.val + p * y.n⟩ := Pol.ext fun i => by
    rw [c_add]
    cases i with
    | zero =>
      rw [T_mul_zero, c_Cp, if_pos rfl]
      apply Fin.ext
      simp only [Pol.c, Nat.pow_zero, Nat.div_one, Nat.add_mul_mod_self_left]
      rw [Nat.mod_eq_of_lt a.isLt]
      congr 1
      grind
    | succ i =>
      rw [T_mul_succ, c_Cp, if_neg (by omega)]
      apply Fin.ext
      simp only [Pol.c]
      rw [Nat.pow_succ, Nat.mul_comm (p ^ i) p, ← Nat.div_div_eq_div_mul, Nat.add_mul_div_left _ _ (by omega), Nat.div_eq_of_lt a.isLt, Nat.zero_add]
      exact congrArg Fin.val (show (0 : Fin p) + y.c i = y.c i by grind)
  rw [e]
theorem pol_ind {P : Pol p → Prop} (h0 : P 0) (hs : ∀ (a : Fin p) (y : Pol p), P y → P (Cp a + T * y)) (x : Pol p) : P x := by
  obtain ⟨n⟩ := x
  induction n using Nat.strongRecOn with
  | _ n ih =>
    by_cases h : n = 0
    · rw [h]; exact h0
    · rw [split0 (⟨n⟩ : Pol p)]
      exact hs _ _ (ih (n / p) (Nat.div_lt_self (by omega) (Bs.two p)))
/-! ### lengths -/
theorem len_zero : (0 : Pol p).len = 0 := lenN_zero
theorem len_eq_zero {x : Pol p} : x.len = 0 ↔ x = 0 := by
  constructor
  · intro h
    have := len_le (x := x) (k := 0)
    apply Pol.eq_of_n
    show x.n = 0
    have h1 := this.mp (by omega)
    rw [Nat.pow_zero] at h1
    omega
  · intro h; rw [h, len_zero]
theorem len_pos {x : Pol p} (h : x ≠ 0) : 0 < x.len := Nat.pos_of_ne_zero fun e => h (len_eq_zero.mp e)
theorem len_Cp {a : Fin p} (h : a ≠ 0) : (Cp a).len = 1 := len_eq_of (k := 0) (fun i hi => by rw [c_Cp, if_neg (by omega)]) (by rw [c_Cp, if_pos rfl]; exact h)
theorem len_one : (1 : Pol p).len = 1 := by rw [one_eq]; exact len_Cp fin_one_ne
theorem len_T : (T : Pol p).len = 2 := len_eq_of (k := 1) (fun i hi => by rw [c_T, if_neg (by omega)]) (by rw [c_T, if_pos rfl]; exact fin_one_ne)
theorem one_ne : (1 : Pol p) ≠ 0 := fun h => by have := len_one (p := p); rw [h, len_zero] at this; omega
/-- the first figure, that of most worth -/
def Pol.lead (x : Pol p) : Fin p := x.c (x.len - 1)
theorem lead_ne {x : Pol p} (h : x ≠ 0) : x.lead ≠ 0 := len_lead (x := x) (k := x.len - 1) (by have := len_pos h; omega)
theorem mul_lead {x y : Pol p} (hx : x ≠ 0) (hy : y ≠ 0) : (x * y).len = x.len + y.len - 1 ∧ (x * y).lead = x.lead * y.lead := by
  have h1 := len_pos hx
  have h2 := len_pos hy
  have ht : (x * y).c ((x.len - 1) + (y.len - 1)) = x.lead * y.lead := by
    rw [c_mul]
    exact mul_top (fun i hi => c_zero (by omega)) (fun i hi => c_zero (by omega))
  have hl : (x * y).len = (x.len - 1) + (y.len - 1) + 1 := len_eq_of (fun i hi => by
    rw [c_mul]
    exact mul_far (a := x.len) (b := y.len) (fun j hj => c_zero hj) (fun j hj => c_zero hj) i (by omega) h1 h2) (by rw [ht]; exact fin_mul_ne _ _ (lead_ne hx) (lead_ne hy))
  refine ⟨by omega, ?_⟩
  show (x * y).c ((x * y).len - 1) = _
  rw [hl, Nat.add_sub_cancel, ht]
theorem len_mul {x y : Pol p} (hx : x ≠ 0) (hy : y ≠ 0) : (x * y).len = x.len + y.len - 1 := (mul_lead hx hy).1
theorem lead_mul {x y : Pol p} (hx : x ≠ 0) (hy : y ≠ 0) : (x * y).lead = x.lead * y.lead := (mul_lead hx hy).2
theorem mul_ne {x y : Pol p} (hx : x ≠ 0) (hy : y ≠ 0) : x * y ≠ 0 := fun h => by
  have := len_mul hx hy
  rw [h, len_zero] at this
  have := len_pos hx
  have := len_pos hy
  omega
theorem mul_eq_zero {x y : Pol p} (h : x * y = 0) : x = 0 ∨ y = 0 := by
  by_cases hx : x = 0
  · exact .inl hx
  · by_cases hy : y = 0
    · exact .inr hy
    · exact (mul_ne hx hy h).elim
theorem mul_cancel {x y z : Pol p} (hx : x ≠ 0) (h : x * y = x * z) : y = z := by
  have : x * (y - z) = 0 := by grind
  rcases mul_eq_zero this with h | h
  · exact (hx h).elim
  · grind
theorem len_mul_le (x y : Pol p) : (x * y).len ≤ x.len + y.len - 1 := by
  by_cases hx : x = 0
  · have : x * y = 0 := by rw [hx]; grind
    rw [this, len_zero]; omega
  · by_cases hy : y = 0
    · have : x * y = 0 := by rw [hy]; grind
      rw [this, len_zero]; omega
    · exact Nat.le_of_eq (len_mul hx hy)
theorem len_add_le {x y : Pol p} {k : Nat} (hx : x.len ≤ k) (hy : y.len ≤ k) : (x + y).len ≤ k := len_le_of fun i hi => by
  rw [c_add, c_zero (x := x) (by omega), c_zero (x := y) (by omega)]; grind
theorem len_sub_le {x y : Pol p} {k : Nat} (hx : x.len ≤ k) (hy : y.len ≤ k) : (x - y).len ≤ k := len_le_of fun i hi => by
  rw [c_sub, c_zero (x := x) (by omega), c_zero (x := y) (by omega)]; grind
theorem len_neg (x : Pol p) : (-x).len = x.len := by
  apply Nat.le_antisymm
  · exact len_le_of fun i hi => by rw [c_neg, c_zero hi]; grind
  · exact len_le_of fun i hi => by
      have : x = -(-x) := by grind
      rw [this, c_neg, c_zero hi]; grind
theorem len_add_of_lt {x y : Pol p} (h : y.len < x.len) : (x + y).len = x.len ∧ (x + y).lead = x.lead := by
  have e : (x + y).len = x.len - 1 + 1 := len_eq_of (fun i hi => by
    rw [c_add, c_zero (x := x) (by omega), c_zero (x := y) (by omega)]; grind) (by
    rw [c_add, c_zero (x := y) (by omega)]
    have : x.c (x.len - 1) + 0 = x.c (x.len - 1) := by grind
    rw [this]
    exact len_lead (by omega))
  have e2 : (x + y).len = x.len := by omega
  refine ⟨e2, ?_⟩
  show (x + y).c ((x + y).len - 1) = _
  rw [e2, c_add, c_zero (x := y) (by omega)]
  show x.lead + 0 = x.lead
  grind
/-! ### Frobenius -/
theorem p0 : Lean.Grind.IsCharP (Fin p) p → True := fun _ => trivial
theorem two0 : (2 : Pol 2) = 0 := Pol.eq_of_n rfl
theorem three0 : (3 : Pol 3) = 0 := Pol.eq_of_n rfl
theorem five0 : (5 : Pol 5) = 0 := Pol.eq_of_n rfl
theorem frob (x y : Pol p) : (x + y) ^ p = x ^ p + y ^ p := by
  revert x y
  refine Bs.ind (P := fun p b => ∀ x y : Pol p, (x + y) ^ p = x ^ p + y ^ p) ?_ ?_ ?_ p ‹_›
  · intro x y; have := two0; grind
  · intro x y; have := three0; grind
  · intro x y; have := five0; grind
theorem pow_mul (x y : Pol p) (k : Nat) : (x * y) ^ k = x ^ k * y ^ k := by
  induction k with
  | zero => grind
  | succ k ih => rw [Lean.Grind.Semiring.pow_succ, Lean.Grind.Semiring.pow_succ, Lean.Grind.Semiring.pow_succ, ih]; grind
theorem zero_pow {k : Nat} (h : 0 < k) : (0 : Pol p) ^ k = 0 := by
  obtain ⟨k, rfl⟩ : ∃ m, k = m + 1 := ⟨k - 1, by omega⟩
  rw [Lean.Grind.Semiring.pow_succ]; grind
theorem c_Tpow_mul (k : Nat) (x : Pol p) (i : Nat) : ((T : Pol p) ^ k * x).c i = if k ≤ i then x.c (i - k) else 0 := by
  induction k generalizing i with
  | zero =>
    have : (T : Pol p) ^ 0 * x = x := by grind
    rw [this, if_pos (by omega), Nat.sub_zero]
  | succ k ih =>
    have : (T : Pol p) ^ (k + 1) * x = (T : Pol p) * ((T : Pol p) ^ k * x) := by grind
    rw [this]
    cases i with
    | zero => rw [T_mul_zero, if_neg (by omega)]
    | succ i =>
      rw [T_mul_succ, ih]
      by_cases h : k ≤ i
      · rw [if_pos h, if_pos (by omega)]; congr 1; omega
      · rw [if_neg h, if_neg (by omega)]
theorem c_spread (x : Pol p) (i : Nat) : (x ^ p).c i = if i % p = 0 then x.c (i / p) else 0 := by
  have h2 := Bs.two p
  revert i
  refine pol_ind (P := fun x => ∀ i, (x ^ p).c i = if i % p = 0 then x.c (i / p) else 0) ?_ ?_ x
  · intro i; rw [zero_pow (by omega), c_0, c_0]; split <;> rfl
  · intro a y ih i
    rw [frob, pow_mul, ← Cp_pow, fin_pow, c_add, c_add, c_Cp, c_Tpow_mul, ih, c_Cp]
    by_cases h : i < p
    · rw [if_neg (show ¬ p ≤ i by omega), Nat.div_eq_of_lt h, Nat.mod_eq_of_lt h, T_mul_zero, if_pos (show (0 : Nat) = 0 from rfl)]
      by_cases hi : i = 0
      · rw [if_pos hi, if_pos hi]
      · rw [if_neg hi, if_neg hi]; grind
    · rw [if_pos (show p ≤ i by omega), if_neg (show i ≠ 0 by omega)]
      obtain ⟨j, rfl⟩ : ∃ j, i = p + j := ⟨i - p, by omega⟩
      rw [Nat.add_sub_cancel_left, Nat.add_mod_left, Nat.add_div_left _ (by omega), if_neg (Nat.succ_ne_zero _)]
      rw [show ((T : Pol p) * y).c (j / p).succ = y.c (j / p) from T_mul_succ y (j / p)]
      by_cases h : j % p = 0
      · rw [if_pos h, if_pos h]
      · rw [if_neg h, if_neg h]; grind
theorem len_pow {x : Pol p} (h : x ≠ 0) (k : Nat) : x ^ k ≠ 0 ∧ (x ^ k).len = k * (x.len - 1) + 1 := by
  induction k with
  | zero =>
    rw [Lean.Grind.Semiring.pow_zero]
    exact ⟨one_ne, by rw [len_one]; omega⟩
  | succ k ih =>
    rw [Lean.Grind.Semiring.pow_succ]
    refine ⟨mul_ne ih.1 h, ?_⟩
    rw [len_mul ih.1 h, ih.2, Nat.add_mul]
    have := len_pos h
    omega
end
end PO
set_option Elab.async false
set_option autoImplicit false
set_option linter.all false
namespace PO
section
variable {p : Nat} [Bs p]
/-! ### division -/
def finv (a : Fin p) : Fin p := a ^ (p - 2)
theorem finv_mul {a : Fin p} (h : a ≠ 0) : a * finv a = 1 :=
  Bs.ind (P := fun p b => ∀ a : Fin p, a ≠ 0 → a * finv a = 1) (by decide) (by decide) (by decide) p ‹_› a h
theorem finv_ne {a : Fin p} (h : a ≠ 0) : finv a ≠ 0 := fun e => by
  have := finv_mul h
  rw [e] at this
  apply fin_one_ne (p := p)
  rw [← this]
  grind
def dm : Nat → Pol p → Pol p → Pol p × Pol p
  | 0, x, _ => (0, x)
  | k + 1, x, y => if x.len < y.len then (0, x) else
    let t := Cp (x.lead * finv y.lead) * (T : Pol p) ^ (x.len - y.len)
    let z := dm k (x - t * y) y
    (t + z.1, z.2)
instance : Div (Pol p) := ⟨fun x y => if y = 0 then 0 else (dm x.len x y).1⟩
instance : Mod (Pol p) := ⟨fun x y => if y = 0 then x else (dm x.len x y).2⟩
theorem Tpow_ne (k : Nat) : (T : Pol p) ^ k ≠ 0 := (len_pow (fun h => by have := len_T (p := p); rw [h, len_zero] at this; omega) k).1
theorem len_Tpow (k : Nat) : ((T : Pol p) ^ k).len = k + 1 := by
  rw [(len_pow (fun h => by have := len_T (p := p); rw [h, len_zero] at this; omega) k).2, len_T]
  omega
theorem lead_Tpow (k : Nat) : ((T : Pol p) ^ k).lead = 1 := by
  show ((T : Pol p) ^ k).c (((T : Pol p) ^ k).len - 1) = 1
  rw [len_Tpow, Nat.add_sub_cancel]
  have := c_Tpow_mul k (1 : Pol p) k
  have e : (T : Pol p) ^ k * 1 = (T : Pol p) ^ k := by grind
  rw [e, if_pos (Nat.le_refl k), Nat.sub_self, c_1, if_pos rfl] at this
  exact this
theorem Cp_ne {a : Fin p} (h : a ≠ 0) : Cp a ≠ 0 := fun e => by
  have := len_Cp h
  rw [e, len_zero] at this
  omega
theorem lead_Cp {a : Fin p} (h : a ≠ 0) : (Cp a).lead = a := by
  show (Cp a).c ((Cp a).len - 1) = a
  rw [len_Cp h, c_Cp, if_pos rfl]
theorem len_sub_lead {x y : Pol p} (hx : x ≠ 0) (hl : x.len = y.len) (h : x.lead = y.lead) : (x - y).len < x.len := by
  have h1 := len_pos hx
  have : (x - y).len ≤ x.len - 1 := len_le_of fun i hi => by
    rw [c_sub]
    by_cases h2 : i = x.len - 1
    · rw [h2]
      have h3 : x.c (x.len - 1) = y.c (x.len - 1) := by
        have : x.c (x.len - 1) = y.c (y.len - 1) := h
        rw [this, hl]
      rw [h3]; grind
    · rw [c_zero (x := x) (by omega), c_zero (x := y) (by omega)]; grind
  omega
theorem dm_ok {y : Pol p} (hy : y ≠ 0) : ∀ (k : Nat) (x : Pol p), x.len ≤ k → x = (dm k x y).1 * y + (dm k x y).2 ∧ (dm k x y).2.len < y.len
  | 0, x, h => by
    have : x = 0 := len_eq_zero.mp (by omega)
    rw [dm, this, len_zero]
    exact ⟨by grind, len_pos hy⟩
  | k + 1, x, h => by
    rw [dm]
    by_cases hl : x.len < y.len
    · rw [if_pos hl]
      exact ⟨by grind, hl⟩
    · rw [if_neg hl]
      have hx : x ≠ 0 := fun e => by rw [e, len_zero] at hl; have := len_pos hy; omega
      have ha : x.lead * finv y.lead ≠ 0 := fin_mul_ne _ _ (lead_ne hx) (finv_ne (lead_ne hy))
      have ht : Cp (x.lead * finv y.lead) * (T : Pol p) ^ (x.len - y.len) ≠ 0 := mul_ne (Cp_ne ha) (Tpow_ne _)
      generalize et : Cp (x.lead * finv y.lead) * (T : Pol p) ^ (x.len - y.len) = t at ht
      have l1 : t.len = x.len - y.len + 1 := by rw [← et, len_mul (Cp_ne ha) (Tpow_ne _), len_Cp ha, len_Tpow]; omega
      have l2 : t.lead = x.lead * finv y.lead := by rw [← et, lead_mul (Cp_ne ha) (Tpow_ne _), lead_Cp ha, lead_Tpow]; grind
      have l3 : (t * y).len = x.len := by rw [len_mul ht hy, l1]; have := len_pos hy; omega
      have l4 : (t * y).lead = x.lead := by rw [lead_mul ht hy, l2]; have := finv_mul (lead_ne hy); grind
      have l5 := len_sub_lead hx l3.symm l4.symm
      have ih := dm_ok hy k (x - t * y) (by omega)
      refine ⟨?_, ih.2⟩
      have := ih.1
      show x = (t + (dm k (x - t * y) y).1) * y + (dm k (x - t * y) y).2
      grind
theorem div_add_mod (x : Pol p) {y : Pol p} (hy : y ≠ 0) : x = x / y * y + x % y := by
  show x = (if y = 0 then 0 else (dm x.len x y).1) * y + (if y = 0 then x else (dm x.len x y).2)
  rw [if_neg hy, if_neg hy]
  exact (dm_ok hy _ x (Nat.le_refl _)).1
theorem mod_len (x : Pol p) {y : Pol p} (hy : y ≠ 0) : (x % y).len < y.len := by
  show (if y = 0 then x else (dm x.len x y).2).len < y.len
  rw [if_neg hy]
  exact (dm_ok hy _ x (Nat.le_refl _)).2
theorem div_unique {x y q r : Pol p} (h : x = q * y + r) (hr : r.len < y.len) : q = x / y ∧ r = x % y := by
  have hy : y ≠ 0 := fun e => by rw [e, len_zero] at hr; omega
  have h1 := div_add_mod x hy
  have h2 := mod_len x hy
  have h3 : (q - x / y) * y = x % y - r := by grind
  have h4 : (x % y - r).len ≤ y.len - 1 := len_sub_le (by omega) (by omega)
  by_cases hq : q - x / y = 0
  · exact ⟨by grind, by rw [hq] at h3; grind⟩
  · have := len_mul hq hy
    rw [h3] at this
    have := len_pos hq
    omega
theorem mod_zero (x : Pol p) : x % 0 = x := if_pos rfl
theorem zero_mod (y : Pol p) : (0 : Pol p) % y = 0 := by
  by_cases hy : y = 0
  · rw [hy, mod_zero]
  · exact (div_unique (x := 0) (q := 0) (r := 0) (y := y) (by grind) (by rw [len_zero]; exact len_pos hy)).2.symm
theorem mod_small {x y : Pol p} (h : x.len < y.len) : x % y = x := (div_unique (x := x) (q := 0) (r := x) (y := y) (by grind) h).2.symm
theorem div_small {x y : Pol p} (h : x.len < y.len) : x / y = 0 := (div_unique (x := x) (q := 0) (r := x) (y := y) (by grind) h).1.symm
theorem add_mod (x z y : Pol p) : (x + z) % y = x % y + z % y := by
  by_cases hy : y = 0
  · rw [hy, mod_zero, mod_zero, mod_zero]
  · have h1 := div_add_mod x hy
    have h2 := div_add_mod z hy
    have h3 := mod_len x hy
    have h4 := mod_len z hy
    exact (div_unique (q := x / y + z / y) (by grind) (Nat.lt_of_le_of_lt (len_add_le (k := y.len - 1) (by omega) (by omega)) (by omega))).2.symm
theorem sub_mod (x z y : Pol p) : (x - z) % y = x % y - z % y := by
  have := add_mod (x - z) z y
  have e : x - z + z = x := by grind
  rw [e] at this
  grind
theorem mul_mod_self (x y : Pol p) : (x * y) % y = 0 := by
  by_cases hy : y = 0
  · rw [hy, mod_zero]; grind
  · exact (div_unique (q := x) (r := 0) (by grind) (by rw [len_zero]; exact len_pos hy)).2.symm
theorem mul_div_self (x : Pol p) {y : Pol p} (hy : y ≠ 0) : (x * y) / y = x := (div_unique (q := x) (r := 0) (by grind) (by rw [len_zero]; exact len_pos hy)).1.symm
theorem mod_mod (x y : Pol p) : x % y % y = x % y := by
  by_cases hy : y = 0
  · rw [hy, mod_zero, mod_zero]
  · exact mod_small (mod_len x hy)
theorem mod_sub_self (x y : Pol p) : ∃ q, x = q * y + x % y := by
  by_cases hy : y = 0
  · exact ⟨0, by rw [hy, mod_zero]; grind⟩
  · exact ⟨_, div_add_mod x hy⟩
/-! ### divisors -/
instance : Dvd (Pol p) := ⟨fun a b => ∃ c, b = a * c⟩
theorem dvd_iff {a b : Pol p} : a ∣ b ↔ ∃ c, b = a * c := Iff.rfl
theorem dvd_refl (a : Pol p) : a ∣ a := ⟨1, by grind⟩
theorem dvd_trans {a b c : Pol p} (h : a ∣ b) (h2 : b ∣ c) : a ∣ c := by
  obtain ⟨d, rfl⟩ := h
  obtain ⟨e, rfl⟩ := h2
  exact ⟨d * e, by grind⟩
theorem dvd_add {a b c : Pol p} (h : a ∣ b) (h2 : a ∣ c) : a ∣ b + c := by
  obtain ⟨d, rfl⟩ := h
  obtain ⟨e, rfl⟩ := h2
  exact ⟨d + e, by grind⟩
theorem dvd_sub {a b c : Pol p} (h : a ∣ b) (h2 : a ∣ c) : a ∣ b - c := by
  obtain ⟨d, rfl⟩ := h
  obtain ⟨e, rfl⟩ := h2
  exact ⟨d - e, by grind⟩
theorem dvd_mul_left {a b : Pol p} (c : Pol p) (h : a ∣ b) : a ∣ c * b := by
  obtain ⟨d, rfl⟩ := h
  exact ⟨c * d, by grind⟩
theorem dvd_mul_right {a b : Pol p} (c : Pol p) (h : a ∣ b) : a ∣ b * c := by
  obtain ⟨d, rfl⟩ := h
  exact ⟨d * c, by grind⟩
theorem dvd_zero (a : Pol p) : a ∣ 0 := ⟨0, by grind⟩
theorem zero_dvd {a : Pol p} (h : 0 ∣ a) : a = 0 := by
  obtain ⟨d, rfl⟩ := h
  grind
theorem one_dvd (a : Pol p) : 1 ∣ a := ⟨a, by grind⟩
theorem len_dvd {a b : Pol p} (h : a ∣ b) (hb : b ≠ 0) : a.len ≤ b.len := by
  obtain ⟨d, rfl⟩ := h
  have ha : a ≠ 0 := fun e => hb (by rw [e]; grind)
  have hd : d ≠ 0 := fun e => hb (by rw [e]; grind)
  rw [len_mul ha hd]
  have := len_pos hd
  omega
theorem dvd_of_mod {a b : Pol p} (h : b % a = 0) : a ∣ b := by
  obtain ⟨q, hq⟩ := mod_sub_self b a
  exact ⟨q, by rw [h] at hq; grind⟩
theorem mod_of_dvd {a b : Pol p} (h : a ∣ b) : b % a = 0 := by
  obtain ⟨d, rfl⟩ := h
  have : a * d = d * a := by grind
  rw [this, mul_mod_self]
theorem mod_eq_zero {a b : Pol p} : b % a = 0 ↔ a ∣ b := ⟨dvd_of_mod, mod_of_dvd⟩
theorem mod_eq_mod {x y m : Pol p} : x % m = y % m ↔ m ∣ x - y := by
  rw [← mod_eq_zero, sub_mod]
  constructor
  · intro h; rw [h]; grind
  · intro h; grind
theorem mul_mod (x y m : Pol p) : (x * y) % m = (x % m * (y % m)) % m := by
  rw [mod_eq_mod]
  obtain ⟨q, hq⟩ := mod_sub_self x m
  obtain ⟨r, hr⟩ := mod_sub_self y m
  exact ⟨q * (r * m + y % m) + x % m * r, by grind⟩
theorem div_mul_of_dvd {a b : Pol p} (ha : a ≠ 0) (h : a ∣ b) : b / a * a = b := by
  have h1 := div_add_mod b ha
  rw [mod_of_dvd h] at h1
  grind
instance decDvd (a b : Pol p) : Decidable (a ∣ b) := decidable_of_iff _ mod_eq_zero
/-! ### plain numbers -/
def plain (x : Pol p) : Pol p := Cp (finv x.lead) * x
def Monic (x : Pol p) : Prop := x.lead = 1
theorem Monic.ne {x : Pol p} (h : Monic x) : x ≠ 0 := fun e => by
  have h : x.lead = 1 := h
  rw [e] at h
  apply fin_one_ne (p := p)
  rw [← h]
  exact c_0 _
theorem monic_one : Monic (1 : Pol p) := by
  show (1 : Pol p).lead = 1
  rw [one_eq, lead_Cp fin_one_ne]
theorem monic_T : Monic (T : Pol p) := by
  have := lead_Tpow (p := p) 1
  have e : (T : Pol p) ^ 1 = T := by grind
  rw [e] at this
  exact this
theorem Monic.mul {x y : Pol p} (hx : Monic x) (hy : Monic y) : Monic (x * y) := by
  show (x * y).lead = 1
  rw [lead_mul hx.ne hy.ne, show x.lead = 1 from hx, show y.lead = 1 from hy]; grind
theorem Monic.pow {x : Pol p} (hx : Monic x) (k : Nat) : Monic (x ^ k) := by
  induction k with
  | zero => rw [Lean.Grind.Semiring.pow_zero]; exact monic_one
  | succ k ih => rw [Lean.Grind.Semiring.pow_succ]; exact ih.mul hx
theorem plain_monic {x : Pol p} (h : x ≠ 0) : Monic (plain x) := by
  show (plain x).lead = 1
  unfold plain
  rw [lead_mul (Cp_ne (finv_ne (lead_ne h))) h, lead_Cp (finv_ne (lead_ne h))]
  have := finv_mul (lead_ne h)
  grind
theorem plain_len {x : Pol p} : (plain x).len = x.len := by
  by_cases h : x = 0
  · rw [h]; unfold plain; have : Cp (finv (0 : Pol p).lead) * 0 = (0 : Pol p) := by grind
    rw [this]
  · unfold plain
    rw [len_mul (Cp_ne (finv_ne (lead_ne h))) h, len_Cp (finv_ne (lead_ne h))]
    omega
theorem Monic.plain {x : Pol p} (h : Monic x) : plain x = x := by
  unfold PO.plain
  rw [show x.lead = 1 from h]
  have e : finv (1 : Fin p) = 1 := by
    have := finv_mul (fin_one_ne (p := p))
    grind
  rw [e, ← one_eq]
  grind
theorem plain_back {x : Pol p} (h : x ≠ 0) : x = Cp x.lead * plain x := by
  unfold plain
  have := finv_mul (lead_ne h)
  have e : Cp (x.lead) * (Cp (finv x.lead) * x) = Cp (x.lead * finv x.lead) * x := by rw [Cp_mul]; grind
  rw [e, this, ← one_eq]
  grind
theorem plain_zero : plain (0 : Pol p) = 0 := by unfold plain; grind
theorem plain_mul {x y : Pol p} : plain (x * y) = plain x * plain y := by
  by_cases hx : x = 0
  · rw [hx, plain_zero]; have : (0 : Pol p) * y = 0 := by grind
    rw [this, plain_zero]; grind
  · by_cases hy : y = 0
    · rw [hy, plain_zero]; have : x * (0 : Pol p) = 0 := by grind
      rw [this, plain_zero]; grind
    · have h1 := plain_back hx
      have h2 := plain_back hy
      have h3 := plain_back (mul_ne hx hy)
      rw [lead_mul hx hy, Cp_mul] at h3
      have h4 : Cp x.lead * Cp y.lead * plain (x * y) = Cp x.lead * Cp y.lead * (plain x * plain y) := by grind
      exact mul_cancel (mul_ne (Cp_ne (lead_ne hx)) (Cp_ne (lead_ne hy))) h4
theorem plain_dvd (x : Pol p) : plain x ∣ x := by
  by_cases h : x = 0
  · rw [h]; exact dvd_zero _
  · exact ⟨Cp x.lead, by have := plain_back h; grind⟩
theorem dvd_plain (x : Pol p) : x ∣ plain x := ⟨Cp (finv x.lead), by unfold plain; grind⟩
theorem monic_dvd {x y : Pol p} (hx : Monic x) (hy : Monic y) (h1 : x ∣ y) (h2 : y.len ≤ x.len) : x = y := by
  obtain ⟨d, rfl⟩ := h1
  have hd : d ≠ 0 := fun e => hy.ne (by rw [e]; grind)
  rw [len_mul hx.ne hd] at h2
  have l1 := len_pos hd
  have l2 := len_pos hx.ne
  have hl : (x * d).lead = 1 := hy
  rw [lead_mul hx.ne hd, show x.lead = 1 from hx] at hl
  have e : d = Cp (d.c 0) := Pol.ext fun i => by
    rw [c_Cp]
    split
    · rename_i h; rw [h]
    · exact c_zero (by omega)
  have e2 : d.c 0 = 1 := by
    have : d.lead = d.c 0 := by show d.c (d.len - 1) = _; rw [show d.len - 1 = 0 by omega]
    rw [this] at hl
    grind
  rw [e2, ← one_eq] at e
  rw [e]; grind
theorem len_one_iff {x : Pol p} : x.len = 1 ↔ ∃ a : Fin p, a ≠ 0 ∧ x = Cp a := by
  constructor
  · intro h
    refine ⟨x.c 0, len_lead h, Pol.ext fun i => ?_⟩
    rw [c_Cp]
    split
    · rename_i h; rw [h]
    · exact c_zero (by omega)
  · rintro ⟨a, ha, rfl⟩; exact len_Cp ha
theorem unit_of_len {x : Pol p} (h : x.len = 1) : ∃ y, x * y = 1 := by
  obtain ⟨a, ha, rfl⟩ := len_one_iff.mp h
  exact ⟨Cp (finv a), by rw [← Cp_mul, finv_mul ha, one_eq]⟩
theorem dvd_antisymm {x y : Pol p} (hx : Monic x) (hy : Monic y) (h1 : x ∣ y) (h2 : y ∣ x) : x = y := monic_dvd hx hy h1 (len_dvd h2 hx.ne)
/-! ### common divisors -/
def gcdP (x y : Pol p) : Pol p := if h : y = 0 then x else gcdP y (x % y)
  termination_by y.len
  decreasing_by exact mod_len x h
theorem gcd_zero (x : Pol p) : gcdP x 0 = x := by rw [gcdP, dif_pos rfl]
theorem gcd_step (x : Pol p) {y : Pol p} (h : y ≠ 0) : gcdP x y = gcdP y (x % y) := by rw [gcdP, dif_neg h]
theorem gcd_ok : ∀ (n : Nat) (x y : Pol p), y.len ≤ n → gcdP x y ∣ x ∧ gcdP x y ∣ y ∧ ∃ a b, gcdP x y = a * x + b * y
  | n, x, y, h => by
    by_cases hy : y = 0
    · rw [hy, gcd_zero]
      exact ⟨dvd_refl x, dvd_zero x, 1, 0, by grind⟩
    · cases n with
      | zero => exact (hy (len_eq_zero.mp (by omega))).elim
      | succ n =>
        have h1 := div_add_mod x hy
        obtain ⟨h3, h4, a, b, e⟩ := gcd_ok n y (x % y) (by have := mod_len x hy; omega)
        rw [gcd_step x hy]
        refine ⟨?_, h3, b, a - b * (x / y), by grind⟩
        have h2 := dvd_add (dvd_mul_left (x / y) h3) h4
        rw [← h1] at h2
        exact h2
theorem gcd_left (x y : Pol p) : gcdP x y ∣ x := (gcd_ok _ x y (Nat.le_refl _)).1
theorem gcd_right (x y : Pol p) : gcdP x y ∣ y := (gcd_ok _ x y (Nat.le_refl _)).2.1
theorem gcd_bez (x y : Pol p) : ∃ a b, gcdP x y = a * x + b * y := (gcd_ok _ x y (Nat.le_refl _)).2.2
theorem dvd_gcd {d x y : Pol p} (h1 : d ∣ x) (h2 : d ∣ y) : d ∣ gcdP x y := by
  obtain ⟨a, b, e⟩ := gcd_bez x y
  rw [e]
  exact dvd_add (dvd_mul_left a h1) (dvd_mul_left b h2)
theorem gcd_eq_zero {x y : Pol p} : gcdP x y = 0 ↔ x = 0 ∧ y = 0 := by
  constructor
  · intro h
    have h1 := gcd_left x y
    have h2 := gcd_right x y
    rw [h] at h1 h2
    exact ⟨zero_dvd h1, zero_dvd h2⟩
  · rintro ⟨rfl, rfl⟩; exact gcd_zero 0
/-- the plain common divisor -/
def gcd (x y : Pol p) : Pol p := plain (gcdP x y)
theorem gcd_dl (x y : Pol p) : gcd x y ∣ x := dvd_trans (plain_dvd _) (gcd_left x y)
theorem gcd_dr (x y : Pol p) : gcd x y ∣ y := dvd_trans (plain_dvd _) (gcd_right x y)
theorem gcd_gr {d x y : Pol p} (h1 : d ∣ x) (h2 : d ∣ y) : d ∣ gcd x y := dvd_trans (dvd_gcd h1 h2) (dvd_plain _)
theorem gcd_bz (x y : Pol p) : ∃ a b, gcd x y = a * x + b * y := by
  obtain ⟨a, b, e⟩ := gcd_bez x y
  exact ⟨Cp (finv (gcdP x y).lead) * a, Cp (finv (gcdP x y).lead) * b, by unfold gcd plain; grind⟩
theorem gcd_monic {x y : Pol p} (h : x ≠ 0 ∨ y ≠ 0) : Monic (gcd x y) := plain_monic fun e => by
  have := gcd_eq_zero.mp e
  rcases h with h | h
  · exact h this.1
  · exact h this.2
theorem gcd_unique {d x y : Pol p} (hd : Monic d) (h1 : d ∣ x) (h2 : d ∣ y) (h3 : ∀ e, e ∣ x → e ∣ y → e ∣ d) : gcd x y = d := by
  have h4 : x ≠ 0 ∨ y ≠ 0 := by
    by_cases h : x = 0
    · by_cases h' : y = 0
      · exfalso
        have := h3 (d * T) (by rw [h]; exact dvd_zero _) (by rw [h']; exact dvd_zero _)
        have := len_dvd this hd.ne
        rw [len_mul hd.ne monic_T.ne, len_T] at this
        have := len_pos hd.ne
        omega
      · exact .inr h'
    · exact .inl h
  exact dvd_antisymm (gcd_monic h4) hd (h3 _ (gcd_dl x y) (gcd_dr x y)) (gcd_gr h1 h2)
def Cop (x y : Pol p) : Prop := ∃ a b, a * x + b * y = 1
theorem Cop.symm {x y : Pol p} (h : Cop x y) : Cop y x := by
  obtain ⟨a, b, e⟩ := h
  exact ⟨b, a, by grind⟩
theorem Cop.dvd_of_mul {x y z : Pol p} (h : Cop x y) (hd : x ∣ y * z) : x ∣ z := by
  obtain ⟨a, b, e⟩ := h
  obtain ⟨c, hc⟩ := hd
  exact ⟨a * z + b * c, by have : z = (a * x + b * y) * z := by rw [e]; grind
                           grind⟩
theorem Cop.mul {x y z : Pol p} (h : Cop x y) (h2 : Cop x z) : Cop x (y * z) := by
  obtain ⟨a, b, e⟩ := h
  obtain ⟨c, d, e2⟩ := h2
  refine ⟨a * (c * x + d * z) + c * b * y, b * d, ?_⟩
  have : (a * x + b * y) * (c * x + d * z) = 1 := by rw [e, e2]; grind
  grind
theorem Cop.pow {x y : Pol p} (h : Cop x y) (k : Nat) : Cop x (y ^ k) := by
  induction k with
  | zero => rw [Lean.Grind.Semiring.pow_zero]; exact ⟨0, 1, by grind⟩
  | succ k ih => rw [Lean.Grind.Semiring.pow_succ]; exact ih.mul h
theorem Cop.of_dvd {x y x' y' : Pol p} (h : Cop x y) (hx : x' ∣ x) (hy : y' ∣ y) : Cop x' y' := by
  obtain ⟨a, b, e⟩ := h
  obtain ⟨c, rfl⟩ := hx
  obtain ⟨d, rfl⟩ := hy
  exact ⟨a * c, b * d, by grind⟩
theorem Cop.mul_dvd {x y z : Pol p} (h : Cop x y) (h1 : x ∣ z) (h2 : y ∣ z) : x * y ∣ z := by
  obtain ⟨c, rfl⟩ := h1
  have : y ∣ c := h.symm.dvd_of_mul h2
  obtain ⟨d, rfl⟩ := this
  exact ⟨d, by grind⟩
theorem cop_iff {x y : Pol p} : Cop x y ↔ gcd x y = 1 := by
  constructor
  · intro h
    refine gcd_unique monic_one (one_dvd _) (one_dvd _) fun e h1 h2 => ?_
    obtain ⟨a, b, h⟩ := h
    rw [← h]
    exact dvd_add (dvd_mul_left a h1) (dvd_mul_left b h2)
  · intro h
    obtain ⟨a, b, e⟩ := gcd_bz x y
    exact ⟨a, b, by rw [← e, h]⟩
end
end PO
set_option Elab.async false
set_option autoImplicit false
set_option linter.all false
set_option maxRecDepth 100000
set_option maxHeartbeats 2000000
namespace PO
open SP
/-! ### rows of figures as polynomials -/
theorem Bs.base (p : Nat) [i : Bs p] : IsBase p := i.h
theorem bs_of {b : Nat} (h : IsBase b) : Bs b := ⟨h⟩
section
variable {p : Nat} [Bs p]
theorem castN_val (n : Nat) : (castN n : Fin p).val = n % p := by
  induction n with
  | zero => simp [castN]
  | succ n ih =>
    have h := fin_val_one (p := p)
    rw [castN, Fin.val_add, ih, h, Nat.mod_add_mod]
theorem castI_val (i : Int) : ((castI i : Fin p).val : Int) = i % p := by
  have h2 := Bs.two p
  cases i with
  | ofNat n =>
    show (((castN n : Fin p).val : Nat) : Int) = _
    rw [castN_val]
    rfl
  | negSucc n =>
    have e : castI (Int.negSucc n) + castN (n + 1) = (0 : Fin p) := by
      show - castN (n + 1) + castN (n + 1) = (0 : Fin p)
      grind
    have e2 := congrArg Fin.val e
    rw [Fin.val_add, castN_val] at e2
    have l1 := (castI (Int.negSucc n) : Fin p).isLt
    generalize (castI (Int.negSucc n) : Fin p).val = v at *
    have e3 : (v + (n + 1) % p) % p = 0 := e2
    rw [Nat.add_mod_mod] at e3
    have e4 : ((v + (n + 1) : Nat) : Int) % p = 0 := by rw [← Int.natCast_emod, e3]; rfl
    have e5 : (Int.negSucc n) = (v : Int) - ((v + (n + 1) : Nat) : Int) := by omega
    rw [e5, Int.sub_emod, e4, Int.sub_zero, Int.emod_emod, Int.emod_eq_of_lt (by omega) (by omega)]
theorem castI_eq {x y : Int} (h : x % p = y % p) : (castI x : Fin p) = castI y := Fin.ext (by
  have h1 := castI_val (p := p) x
  have h2 := castI_val (p := p) y
  omega)
theorem castI_mod (x : Int) : (castI (x % p) : Fin p) = castI x := castI_eq (Int.emod_emod x p)
theorem castI_fin (a : Fin p) : (castI (a.val : Nat) : Fin p) = a := Fin.ext (by
  have h1 := castI_val (p := p) (a.val : Nat)
  have := a.isLt
  rw [Int.emod_eq_of_lt (by omega) (by omega)] at h1
  omega)
/-- the polynomial of a row of any whole numbers -/
def polL (p : Nat) [Bs p] (l : List Int) : Pol p := ⟨ofF p (fun i => castI (l.getD i 0)) l.length⟩
theorem castI_zero : (castI 0 : Fin p) = 0 := rfl
theorem c_polL (l : List Int) (i : Nat) : (polL p l).c i = castI (l.getD i 0) := by
  unfold polL
  rw [c_ofF]
  by_cases h : i < l.length
  · rw [if_pos h]
  · rw [if_neg h, List.getD_eq_getElem?_getD, List.getElem?_eq_none (by omega)]
    rfl
abbrev rowL (x : Pol p) : List Int := cR (digs p x.n)
abbrev R (x : Pol p) : VL.D := rowD (rowL x)
theorem trim_aux (l : List Int) : trimI (l.map fun x => x % (p : Int)) = rowL (polL p l) := by
  have h2 := Bs.two p
  unfold polL rowL
  induction l with
  | nil => simp [trimI, ofF, digs_zero]
  | cons a l ih =>
    rw [List.map_cons, trimI, ih]
    have e : ofF p (fun i => (castI ((a :: l).getD i 0) : Fin p)) (a :: l).length = (castI a : Fin p).val + p * ofF p (fun i => castI (l.getD i 0)) l.length := rfl
    show _ = cR (digs p (ofF p (fun i => (castI ((a :: l).getD i 0) : Fin p)) (a :: l).length))
    rw [e]
    show (match cR (digs p (ofF p (fun i => (castI (l.getD i 0) : Fin p)) l.length)) with
      | [] => if a % (p : Int) = 0 then [] else [a % (p : Int)]
      | t :: ts => a % (p : Int) :: t :: ts) = _
    generalize ofF p (fun i => (castI (l.getD i 0) : Fin p)) l.length = m
    have hv := castI_val (p := p) a
    have hl := (castI a : Fin p).isLt
    generalize (castI a : Fin p).val = v at *
    rw [← hv]
    by_cases hm : m = 0
    · rw [hm, digs_zero]
      by_cases hv0 : v = 0
      · rw [hv0]; simp [digs_zero]
      · have : digs p (v + p * 0) = [v] := by
          rw [Nat.mul_zero, Nat.add_zero, digs_pos h2 (by omega), Nat.mod_eq_of_lt hl, Nat.div_eq_of_lt hl, digs_zero]
        rw [this]
        simp [hv0]
    · have : digs p (v + p * m) = v :: digs p m := by
        rw [digs_pos h2 (by have : 0 < p * m := Nat.mul_pos (by omega) (by omega); omega), Nat.add_mul_mod_self_left, Nat.mod_eq_of_lt hl, Nat.add_mul_div_left _ _ (by omega), Nat.div_eq_of_lt hl, Nat.zero_add]
      rw [this, digs_pos h2 (Nat.pos_of_ne_zero hm)]
      simp
theorem digs_getD (n i : Nat) : (digs p n).getD i 0 = n / p ^ i % p := by
  have h2 := Bs.two p
  induction i generalizing n with
  | zero =>
    by_cases h : n = 0
    · rw [h, digs_zero]; simp
    · rw [digs_pos h2 (by omega)]; simp
  | succ i ih =>
    by_cases h : n = 0
    · rw [h, digs_zero]; simp
    · rw [digs_pos h2 (by omega), List.getD_cons_succ, ih, Nat.div_div_eq_div_mul, Nat.pow_succ, Nat.mul_comm p]
theorem digs_length (n : Nat) : (digs p n).length = lenN p n := by
  have h2 := Bs.two p
  induction n using Nat.strongRecOn with
  | _ n ih =>
    by_cases h : n = 0
    · rw [h, digs_zero, lenN_zero]; rfl
    · rw [digs_pos h2 (by omega), lenN_pos (by omega), List.length_cons, ih _ (Nat.div_lt_self (by omega) (by omega))]
theorem digs_lt (n : Nat) : ∀ x ∈ digs p n, x < p := by
  have h2 := Bs.two p
  induction n using Nat.strongRecOn with
  | _ n ih =>
    by_cases h : n = 0
    · rw [h, digs_zero]; intro x hx; cases hx
    · rw [digs_pos h2 (by omega)]
      intro x hx
      rcases List.mem_cons.mp hx with h | h
      · rw [h]; exact Nat.mod_lt _ (by omega)
      · exact ih _ (Nat.div_lt_self (by omega) (by omega)) x h
theorem rowL_length (x : Pol p) : (rowL x).length = x.len := by
  unfold rowL cR
  rw [List.length_map, digs_length]
  rfl
theorem rowL_getD (x : Pol p) (i : Nat) : (rowL x).getD i 0 = ((x.c i).val : Int) := by
  have e : (rowL x).getD i 0 = (((digs p x.n).getD i 0 : Nat) : Int) := by
    unfold rowL cR
    rw [List.getD_eq_getElem?_getD, List.getElem?_map, List.getD_eq_getElem?_getD]
    cases (digs p x.n)[i]? <;> rfl
  rw [e, digs_getD]
  rfl
theorem polL_rowL (x : Pol p) : polL p (rowL x) = x := Pol.ext fun i => by
  rw [c_polL, rowL_getD, castI_fin]
theorem polL_mod (l : List Int) : polL p (l.map fun x => x % (p : Int)) = polL p l := Pol.ext fun i => by
  rw [c_polL, c_polL, List.getD_eq_getElem?_getD, List.getElem?_map, List.getD_eq_getElem?_getD]
  cases l[i]? with
  | none => rfl
  | some a => exact castI_mod a
theorem rowL_inj {x y : Pol p} (h : rowL x = rowL y) : x = y := by rw [← polL_rowL x, h, polL_rowL]
theorem rowL_range (x : Pol p) : ∀ a ∈ rowL x, 0 ≤ a ∧ a < p := fun a ha => by
  obtain ⟨b, hb, rfl⟩ := List.mem_map.mp ha
  have := digs_lt (p := p) _ b hb
  omega
/-- a row in bounds, trimmed -/
theorem trim_polL {l : List Int} (h : ∀ a ∈ l, 0 ≤ a ∧ a < p) : trimI l = rowL (polL p l) := by
  have e : l.map (fun x => x % (p : Int)) = l := by
    conv => rhs; rw [← List.map_id l]
    exact List.map_congr_left fun a ha => Int.emod_eq_of_lt (h a ha).1 (h a ha).2
  have := trim_aux (p := p) l
  rw [e] at this
  exact this
theorem valI_row (x : Pol p) : valI p (rowL x) = x.n := by
  rw [valI_cast, valN_digs (Bs.two p)]
/-! ### the product of two rows -/
theorem getD_map0 (l : List Int) (i : Nat) : (fun i => (castI (l.getD i 0) : Fin p)) i = (polL p l).c i := (c_polL l i).symm
theorem rowAt_get (x : Int) : ∀ (o : List Int) (k : Nat) (f : List Int) (n : Nat), k + o.length ≤ f.length → (rowAt x k o f).getD n 0 = f.getD n 0 + if k ≤ n then x * o.getD (n - k) 0 else 0
  | [], k, f, n, _ => by rw [rowAt]; simp
  | y :: o, k, f, n, h => by
    rw [List.length_cons] at h
    rw [rowAt, rowAt_get x o (k + 1) _ n (by rw [List.length_set]; omega)]
    simp only [List.getD_eq_getElem?_getD, List.getElem?_set]
    by_cases h1 : k = n
    · subst h1
      rw [if_pos rfl, if_pos (by omega), if_neg (by omega), if_pos (Nat.le_refl k)]
      simp
    · rw [if_neg h1]
      by_cases h2 : k + 1 ≤ n
      · rw [if_pos h2, if_pos (by omega), show n - k = (n - (k + 1)) + 1 by omega, List.getElem?_cons_succ]
      · rw [if_neg h2, if_neg (by omega)]
abbrev gI (l : List Int) : Nat → Int := fun n => l.getD n 0
theorem mul_zero_left (g : Nat → Int) : ∀ n, mul (gI []) g n = 0
  | 0 => by simp [mul, gI]
  | n + 1 => by rw [mul, show tl (gI []) = gI [] by funext i; simp [tl, gI], mul_zero_left g n]; simp [gI]
theorem timF_get (o : List Int) : ∀ (l : List Int) (i : Nat) (f : List Int) (n : Nat), i + l.length + o.length ≤ f.length + 1 → (l = [] ∨ i + l.length + o.length ≤ f.length + 1) → o.length = 0 ∨ True → (timF o i l f).getD n 0 = f.getD n 0 + if i ≤ n then mul (gI l) (gI o) (n - i) else 0
  | [], i, f, n, _, _, _ => by rw [timF, mul_zero_left]; simp
  | x :: l, i, f, n, h, _, _ => by
    rw [List.length_cons] at h
    rw [timF, timF_get o l (i + 1) _ n (by rw [rowAt_length]; omega) (.inr (by rw [rowAt_length]; omega)) (.inr trivial), rowAt_get x o i f n (by omega)]
    by_cases h1 : i = n
    · subst h1
      rw [if_pos (Nat.le_refl i), if_neg (by omega), if_pos (Nat.le_refl i), Nat.sub_self, mul]
      simp [gI]
    · by_cases h2 : i + 1 ≤ n
      · rw [if_pos h2, if_pos (by omega), if_pos (by omega), show n - i = (n - (i + 1)) + 1 by omega, mul, show tl (gI (x :: l)) = gI l from rfl]
        simp only [gI, List.getD_cons_zero]
        omega
      · rw [if_neg h2, if_neg (by omega), if_neg (by omega)]
        simp
end
section
variable {R : Type} [Lean.Grind.CommRing R]
theorem castN_add (a b : Nat) : castN (R := R) (a + b) = castN a + castN b := by
  induction b with
  | zero => rw [Nat.add_zero]; simp only [castN]; grind
  | succ b ih => rw [← Nat.add_assoc, castN, castN, ih]; grind
theorem castN_mul (a b : Nat) : castN (R := R) (a * b) = castN a * castN b := by
  induction b with
  | zero => rw [Nat.mul_zero]; simp only [castN]; grind
  | succ b ih => rw [Nat.mul_succ, castN_add, castN, ih]; grind
theorem castI_sub' (a b : Nat) : castI (R := R) ((a : Int) - b) = castN a - castN b := by
  by_cases h : b ≤ a
  · rw [show (a : Int) - b = ((a - b : Nat) : Int) by omega]
    have := castN_add (R := R) (a - b) b
    rw [Nat.sub_add_cancel h] at this
    show castN (a - b) = _
    grind
  · rw [show (a : Int) - b = -((b - a : Nat) : Int) by omega, castI_neg]
    have := castN_add (R := R) (b - a) a
    rw [Nat.sub_add_cancel (by omega)] at this
    show - castN (b - a) = _
    grind
theorem castI_add (x y : Int) : castI (R := R) (x + y) = castI x + castI y := by
  obtain ⟨a, b, rfl⟩ : ∃ a b : Nat, x = (a : Int) - b := ⟨x.toNat, (-x).toNat, by omega⟩
  obtain ⟨c, d, rfl⟩ : ∃ a b : Nat, y = (a : Int) - b := ⟨y.toNat, (-y).toNat, by omega⟩
  rw [show (a : Int) - b + (c - d) = ((a + c : Nat) : Int) - ((b + d : Nat) : Int) by omega, castI_sub', castI_sub', castI_sub', castN_add, castN_add]
  grind
theorem castI_sub (x y : Int) : castI (R := R) (x - y) = castI x - castI y := by
  rw [show x - y = x + -y by omega, castI_add, castI_neg]; grind
theorem castI_mul (x y : Int) : castI (R := R) (x * y) = castI x * castI y := by
  obtain ⟨a, b, rfl⟩ : ∃ a b : Nat, x = (a : Int) - b := ⟨x.toNat, (-x).toNat, by omega⟩
  obtain ⟨c, d, rfl⟩ : ∃ a b : Nat, y = (a : Int) - b := ⟨y.toNat, (-y).toNat, by omega⟩
  have e : ((a : Int) - b) * (c - d) = ((a * c + b * d : Nat) : Int) - ((a * d + b * c : Nat) : Int) := by
    rw [Int.natCast_add, Int.natCast_add, Int.natCast_mul, Int.natCast_mul, Int.natCast_mul, Int.natCast_mul]
    grind
  rw [e, castI_sub', castI_sub', castI_sub', castN_add, castN_add, castN_mul, castN_mul, castN_mul, castN_mul]
  grind
theorem castI_series (f g : Nat → Int) (n : Nat) : castI (R := R) (mul f g n) = mul (fun i => castI (f i)) (fun i => castI (g i)) n := by
  induction n generalizing f with
  | zero => simp only [mul, castI_mul]
  | succ n ih => simp only [mul, castI_add, castI_mul, ih]; rfl
end
section
variable {p : Nat} [Bs p]
theorem polL_tim (l o f : List Int) (h : l.length + o.length ≤ f.length + 1) : polL p (timF o 0 l f) = polL p f + polL p l * polL p o := Pol.ext fun i => by
  rw [c_polL, timF_get o l 0 f i (by omega) (.inr (by omega)) (.inr trivial), castI_add, if_pos (Nat.zero_le i), Nat.sub_zero, castI_series, c_add, c_polL, c_mul]
  congr 1
  congr 1
  · funext i; exact (c_polL l i).symm
  · funext i; exact (c_polL o i).symm
theorem polL_zeros (n : Nat) : polL p (List.replicate n 0) = 0 := Pol.ext fun i => by
  rw [c_polL, c_0, List.getD_eq_getElem?_getD, List.getElem?_replicate]
  split <;> rfl
theorem timL_eq (l o : List Int) : timL p l o = rowL (polL p l * polL p o) := by
  unfold timL
  rw [trim_aux, polL_tim l o _ (by simp), polL_zeros]
  congr 2
  have : (0 : Pol p) + polL p l * polL p o = polL p l * polL p o := by grind
  rw [this]
end
end PO
set_option Elab.async false
set_option autoImplicit false
set_option linter.all false
set_option maxRecDepth 100000
set_option maxHeartbeats 2000000
namespace PO
open SP VL
section
variable {p : Nat} [Bs p] {G : Gs} {Q : D → Gs → Prop} {E : EK}
theorem base_facts (p : Nat) [i : Bs p] : IsBase p ∧ 2 ≤ p ∧ p ≤ 5 ∧ p.log2 < 9000 := ⟨Bs.base p, base_log (Bs.base p)⟩
theorem rowL_len (x : Pol p) : (digs p x.n).length = x.len := digs_length _
theorem len_small {x : Pol p} {k : Nat} (h : x.n < 2 ^ k) : x.len ≤ k := by
  rw [← rowL_len]
  exact digs_len (Bs.two p) k _ h
theorem u_row {n : Nat} (h : (⟨n⟩ : Pol p).len < 2000) (q : Q (R (⟨n⟩ : Pol p)) G) : s__law_row [.int p, .int n] G Q E := by
  obtain ⟨h1, h2, h3, h4⟩ := base_facts p
  exact ⟨p, n, rfl, h2, h4, by rw [digs_length]; exact h, q⟩
theorem u_row_of {n : Nat} (h : (⟨n⟩ : Pol p).len ≤ 1000000) (q : Q (R (⟨n⟩ : Pol p)) G) : s_row_of [.int p, .int n] G Q E := by
  obtain ⟨h1, h2, h3, h4⟩ := base_facts p
  exact ⟨p, n, rfl, h2, h4, by rw [digs_length]; exact h, q⟩
theorem u_worth {x : Pol p} (q : Q (.int x.n) G) : s_worth [.int p, R x] G Q E := by
  obtain ⟨h1, h2, h3, h4⟩ := base_facts p
  exact ⟨p, rowL x, rfl, by omega, by rw [valI_row]; exact q⟩
theorem spreadL_getD {b : Nat} (hb : 0 < b) : ∀ (l : List Nat) (i : Nat), (spreadL b l).getD i 0 = if i % b = 0 then l.getD (i / b) 0 else 0
  | [], i => by simp [spreadL]
  | x :: l, i => by
    rw [spreadL, List.cons_append]
    by_cases hi : i = 0
    · rw [hi]; simp
    · obtain ⟨j, rfl⟩ : ∃ j, i = j + 1 := ⟨i - 1, by omega⟩
      rw [List.getD_cons_succ, List.getD_eq_getElem?_getD]
      by_cases hj : j < b - 1
      · rw [List.getElem?_append_left (by rw [List.length_replicate]; exact hj), List.getElem?_replicate, if_pos hj, Nat.mod_eq_of_lt (by omega), if_neg (by omega)]
        rfl
      · rw [List.getElem?_append_right (by rw [List.length_replicate]; omega), List.length_replicate, ← List.getD_eq_getElem?_getD, spreadL_getD hb l]
        have e : j + 1 = b + (j - (b - 1)) := by omega
        rw [e, Nat.add_mod_left, Nat.add_div_left _ hb, List.getD_cons_succ]
theorem spread_row (x : Pol p) : trimI (cR (spreadL p (digs p x.n))) = rowL (x ^ p) := by
  have hb : 0 < p := by have := Bs.two p; omega
  have hr : ∀ a ∈ cR (spreadL p (digs p x.n)), 0 ≤ a ∧ a < (p : Int) := by
    intro a ha
    obtain ⟨b, h, rfl⟩ := List.mem_map.mp ha
    have : ∀ (l : List Nat), (∀ y ∈ l, y < p) → ∀ y ∈ spreadL p l, y < p := by
      intro l
      induction l with
      | nil => intro _ y hy; cases hy
      | cons z l ih =>
        intro hl y hy
        rw [spreadL, List.cons_append] at hy
        rcases List.mem_cons.mp hy with h | h
        · rw [h]; exact hl z List.mem_cons_self
        · rcases List.mem_append.mp h with h | h
          · rw [(List.mem_replicate.mp h).2]; exact hb
          · exact ih (fun y hy => hl y (List.mem_cons_of_mem _ hy)) y h
    have := this _ (digs_lt (p := p) x.n) b h
    omega
  rw [trim_polL hr]
  congr 2
  refine Pol.ext (p := p) fun i => ?_
  rw [c_polL, c_spread]
  have e : (cR (spreadL p (digs p x.n))).getD i 0 = (((spreadL p (digs p x.n)).getD i 0 : Nat) : Int) := by
    unfold cR
    rw [List.getD_eq_getElem?_getD, List.getElem?_map, List.getD_eq_getElem?_getD]
    cases (spreadL p (digs p x.n))[i]? <;> rfl
  rw [e, spreadL_getD hb]
  by_cases h : i % p = 0
  · rw [if_pos h, if_pos h, digs_getD]
    exact castI_fin (x.c (i / p))
  · rw [if_neg h, if_neg h]
    rfl
theorem u_spread_row {x : Pol p} (h : x.len ≤ 100000) (q : Q (R (x ^ p)) G) : s_spread_row [.int p, R x] G Q E := by
  refine ⟨p, digs p x.n, rfl, Bs.base p, by rw [rowL_len]; exact h, ?_⟩
  rw [spread_row]
  exact q
theorem u_spread {x : Pol p} (h : x.len ≤ 100000) (q : Q (R (x ^ p)) G) : s__law_spread [.int p, R x] G Q E := by
  refine ⟨p, digs p x.n, rfl, Bs.base p, by rw [rowL_len]; exact h, ?_⟩
  rw [spread_row]
  exact q
/-- the first figure of a row -/
theorem digs_last {x : Pol p} (h : x ≠ 0) : ∃ s, digs p x.n = s ++ [x.lead.val] ∧ 0 < x.lead.val ∧ x.lead.val < p ∧ s.length + 1 = x.len := by
  have hn : 0 < x.n := Nat.pos_of_ne_zero fun e => h (Pol.eq_of_n e)
  obtain ⟨s, a, e, h1, h2⟩ := digs_snoc (Bs.two p) x.n hn
  have hl : s.length + 1 = x.len := by rw [← rowL_len, e]; simp
  have ha : x.lead.val = a := by
    have h3 := digs_getD (p := p) x.n s.length
    have h4 : (x.lead : Fin p).val = x.n / p ^ (x.len - 1) % p := rfl
    rw [h4, ← hl, Nat.add_sub_cancel, ← h3, e]
    simp
  rw [ha]
  exact ⟨s, e, h1, h2, hl⟩
theorem invN_eq {a : Fin p} (h : 0 < a.val) : (castN (invN p a.val) : Fin p) = finv a := by
  obtain ⟨h1, h2, h3⟩ := invN_lt (Bs.base p) h a.isLt
  have ha : a ≠ 0 := fun e => by rw [e] at h; exact absurd h (by simp)
  have e1 : (castN (invN p a.val) : Fin p) * a = 1 := Fin.ext (by
    rw [Fin.val_mul, castN_val, Nat.mod_eq_of_lt h1, h3, fin_val_one])
  have e2 := finv_mul ha
  have : (castN (invN p a.val) : Fin p) * (a * finv a) = finv a := by
    have : (castN (invN p a.val) : Fin p) * (a * finv a) = (castN (invN p a.val) * a) * finv a := by grind
    rw [this, e1]; grind
  rw [e2] at this
  grind
theorem plain_row {x : Pol p} (h : x ≠ 0) : cR (plainR p x.lead.val (digs p x.n)) = rowL (plain x) := by
  obtain ⟨s, e, h1, h2, h3⟩ := digs_last h
  have hb := Bs.two p
  have hr : ∀ a ∈ cR (plainR p x.lead.val (digs p x.n)), 0 ≤ a ∧ a < (p : Int) := by
    intro a ha
    obtain ⟨b, hb, rfl⟩ := List.mem_map.mp ha
    obtain ⟨c, hc, rfl⟩ := List.mem_map.mp hb
    have := Nat.mod_lt (c * invN p x.lead.val) (show p > 0 by omega)
    omega
  have hp : polL p (cR (plainR p x.lead.val (digs p x.n))) = plain x := Pol.ext fun i => by
    unfold plain
    rw [c_polL, Cp_mul_c]
    have e : (cR (plainR p x.lead.val (digs p x.n))).getD i 0 = ((((digs p x.n).getD i 0 * invN p x.lead.val % p : Nat) : Nat) : Int) := by
      unfold cR plainR
      rw [List.getD_eq_getElem?_getD, List.getElem?_map, List.getElem?_map, List.getD_eq_getElem?_getD]
      cases (digs p x.n)[i]? with
      | none => simp
      | some a => rfl
    rw [e, Int.natCast_emod, castI_mod, digs_getD, ← invN_eq h1]
    rw [Int.natCast_mul, castI_mul]
    have e2 : (castI ((x.n / p ^ i % p : Nat) : Int) : Fin p) = x.c i := castI_fin (x.c i)
    rw [e2]
    show x.c i * castN _ = _
    grind
  rw [← hp, ← trim_polL hr]
  have e4 : cR (plainR p x.lead.val (digs p x.n)) = cR (plainR p x.lead.val s) ++ [((x.lead.val * invN p x.lead.val % p : Nat) : Int)] := by
    rw [e]; simp [plainR]
  have e5 : x.lead.val * invN p x.lead.val % p = 1 := by
    obtain ⟨_, _, h⟩ := invN_lt (Bs.base p) h1 h2
    rw [Nat.mul_comm]; exact h
  rw [e4, trimI_snoc (by rw [e5]; decide)]
theorem u_plain_row {x : Pol p} (h : x ≠ 0) (hl : x.len ≤ 1000000) (q : Q (R (plain x)) G) : s_plain_row [.int p, R x] G Q E := by
  obtain ⟨s, e, h1, h2, h3⟩ := digs_last h
  refine ⟨p, x.lead.val, s, by rw [← e], Bs.base p, h1, h2, by rw [← e, rowL_len]; exact hl, ?_⟩
  rw [← e, plain_row h]
  exact q
theorem u_plain {x : Pol p} (h : x ≠ 0) (hl : x.len ≤ 1000000) (q : Q (R (plain x)) G) : s__law_plain [.int p, R x] G Q E := u_plain_row (E := E) h hl q
theorem u_times {x y : Pol p} (hx : x.len ≤ 100000) (hy : y.len ≤ 100000) (q : Q (R (x * y)) G) : s__law_times [.int p, R x, R y] G Q E := by
  obtain ⟨h1, h2, h3, h4⟩ := base_facts p
  refine ⟨p, rowL x, rowL y, rfl, h1, by rw [rowL_length]; exact hx, by rw [rowL_length]; exact hy, fun a ha => ?_, ?_⟩
  · have := rowL_range x a ha
    omega
  · rw [timL_eq, polL_rowL, polL_rowL]
    exact q
/-! ### division of rows -/
theorem offL_get (b t : Int) : ∀ (g : List Int) (k : Nat) (r : List Int) (n : Nat), k + g.length ≤ r.length → (offL b t k g r).getD n 0 = if k ≤ n ∧ n < k + g.length then (r.getD n 0 - t * g.getD (n - k) 0) % b else r.getD n 0
  | [], k, r, n, _ => by rw [offL, if_neg (by rw [List.length_nil]; omega)]
  | x :: g, k, r, n, h => by
    rw [List.length_cons] at h
    rw [offL, offL_get b t g (k + 1) _ n (by rw [List.length_set]; omega), List.length_cons]
    simp only [List.getD_eq_getElem?_getD, List.getElem?_set]
    by_cases h1 : k = n
    · subst h1
      rw [if_neg (by omega), if_pos rfl, if_pos (by omega), if_pos (by omega), Nat.sub_self]
      simp
    · by_cases h2 : k + 1 ≤ n ∧ n < k + 1 + g.length
      · rw [if_pos h2, if_neg h1, if_pos (by omega), show n - k = (n - (k + 1)) + 1 by omega, List.getElem?_cons_succ]
      · rw [if_neg h2, if_neg h1, if_neg (by omega)]
theorem c_TC_mul (a : Fin p) (k : Nat) (y : Pol p) (i : Nat) : (Cp a * (T : Pol p) ^ k * y).c i = if k ≤ i then a * y.c (i - k) else 0 := by
  have e : Cp a * (T : Pol p) ^ k * y = Cp a * ((T : Pol p) ^ k * y) := by grind
  rw [e, Cp_mul_c, c_Tpow_mul]
  split
  · rfl
  · grind
theorem polL_off (t : Int) (g : List Int) (k : Nat) (r : List Int) (h : k + g.length ≤ r.length) : polL p (offL p t k g r) = polL p r - Cp (castI t) * (T : Pol p) ^ k * polL p g := Pol.ext fun i => by
  rw [c_sub, c_TC_mul, c_polL, c_polL, offL_get p t g k r i h]
  by_cases h1 : k ≤ i
  · by_cases h2 : i < k + g.length
    · rw [if_pos ⟨h1, h2⟩, if_pos h1, castI_mod, castI_sub, castI_mul, c_polL]
    · rw [if_neg (by omega), if_pos h1, c_polL, List.getD_eq_getElem?_getD (l := g), List.getElem?_eq_none (by omega)]
      have : (castI (Option.getD (none : Option Int) 0) : Fin p) = 0 := rfl
      rw [this]
      grind
  · rw [if_neg (by omega), if_neg h1]
    grind
theorem polL_set (q : List Int) (n : Nat) (t : Int) (h : n < q.length) (h0 : q.getD n 0 = 0) : polL p (q.set n t) = polL p q + Cp (castI t) * (T : Pol p) ^ n := Pol.ext fun i => by
  have e : Cp (castI t : Fin p) * (T : Pol p) ^ n = Cp (castI t) * (T : Pol p) ^ n * 1 := by grind
  rw [c_add, c_polL, c_polL, e, c_TC_mul, List.getD_eq_getElem?_getD, List.getElem?_set]
  by_cases h1 : n = i
  · subst h1
    rw [if_pos rfl, if_pos h, if_pos (Nat.le_refl n), h0, Nat.sub_self, c_1, if_pos rfl]
    show castI t = castI 0 + castI t * 1
    rw [castI_zero]
    grind
  · rw [if_neg h1, ← List.getD_eq_getElem?_getD]
    by_cases h2 : n ≤ i
    · rw [if_pos h2, c_1, if_neg (by omega)]; grind
    · rw [if_neg h2]; grind
theorem divF_pol (v : Int) (g : List Int) (hg : 0 < g.length) (hv : (castI v : Fin p) * (polL p g).c (g.length - 1) = 1) : ∀ (n : Nat) (r q : List Int), n + g.length ≤ r.length + 1 → n ≤ q.length → (∀ i, i < n → q.getD i 0 = 0) → (∀ i, n + g.length - 1 ≤ i → (polL p r).c i = 0) →
    polL p r + polL p q * polL p g = polL p (divF p v g n r q).2 + polL p (divF p v g n r q).1 * polL p g ∧ (polL p (divF p v g n r q).2).len ≤ g.length - 1
  | 0, r, q, _, _, _, h4 => ⟨rfl, len_le_of fun i hi => h4 i (by omega)⟩
  | n + 1, r, q, h1, h2, h3, h4 => by
    rw [divF]
    generalize ht : r.getD (n + g.length - 1) 0 * v % (p : Int) = t
    have ih := divF_pol v g hg hv n (offL p t n g r) (q.set n t) (by rw [offL_length]; omega) (by rw [List.length_set]; omega) (fun i hi => by
      rw [List.getD_eq_getElem?_getD, List.getElem?_set_ne (by omega), ← List.getD_eq_getElem?_getD]
      exact h3 i (by omega)) (fun i hi => by
      rw [polL_off t g n r (by omega), c_sub, c_TC_mul]
      have hct : (castI t : Fin p) = (polL p r).c (n + g.length - 1) * castI v := by
        rw [← ht, castI_mod, castI_mul, c_polL]
      by_cases h5 : i = n + g.length - 1
      · rw [if_pos (by omega), hct, h5, show n + g.length - 1 - n = g.length - 1 by omega]
        grind
      · have hz : (polL p g).c (i - n) = 0 := by
          rw [c_polL, List.getD_eq_getElem?_getD, List.getElem?_eq_none (by omega)]
          rfl
        rw [h4 i (by omega), hz]
        split <;> grind)
    refine ⟨?_, ih.2⟩
    rw [polL_off t g n r (by omega), polL_set q n t (by omega) (h3 n (by omega))] at ih
    have := ih.1
    grind
theorem divL_pol {x y : Pol p} (hy : y ≠ 0) : divL p (invN p y.lead.val) (rowL x) (rowL y) = (rowL (x / y), rowL (x % y)) := by
  obtain ⟨s, e, h1, h2, h3⟩ := digs_last hy
  have hg : 0 < (rowL y).length := by rw [rowL_length]; exact len_pos hy
  have hv : (castI (invN p y.lead.val : Nat) : Fin p) * (polL p (rowL y)).c ((rowL y).length - 1) = 1 := by
    rw [polL_rowL, rowL_length]
    show castN _ * y.lead = 1
    rw [invN_eq h1]
    have := finv_mul (lead_ne hy)
    grind
  have ex : ∃ w, w = (rowL x).length + 1 - (rowL y).length := ⟨_, rfl⟩
  obtain ⟨w, hw⟩ := ex
  have main : polL p (rowL x) + polL p (List.replicate w 0) * polL p (rowL y) = polL p (divF p (invN p y.lead.val) (rowL y) w (rowL x) (List.replicate w 0)).2 + polL p (divF p (invN p y.lead.val) (rowL y) w (rowL x) (List.replicate w 0)).1 * polL p (rowL y) ∧ (polL p (divF p (invN p y.lead.val) (rowL y) w (rowL x) (List.replicate w 0)).2).len ≤ (rowL y).length - 1 := by
    by_cases hl : (rowL y).length ≤ (rowL x).length + 1
    · exact divF_pol _ _ hg hv w _ _ (by omega) (by simp) (fun i _ => by rw [List.getD_eq_getElem?_getD, List.getElem?_replicate]; split <;> rfl) (fun i hi => by
        rw [polL_rowL]
        exact c_zero (by rw [← rowL_length]; omega))
    · rw [show w = 0 by omega]
      exact ⟨rfl, by show (polL p (rowL x)).len ≤ _; rw [polL_rowL, ← rowL_length]; omega⟩
  have rng : ∀ n r q, (∀ a ∈ r, 0 ≤ a ∧ a < (p : Int)) → (∀ a ∈ q, 0 ≤ a ∧ a < (p : Int)) → (∀ a ∈ (divF p (invN p y.lead.val) (rowL y) n r q).1, 0 ≤ a ∧ a < (p : Int)) ∧ ∀ a ∈ (divF p (invN p y.lead.val) (rowL y) n r q).2, 0 ≤ a ∧ a < (p : Int) := by
    have hp0 : (p : Int) ≠ 0 := by have := Bs.two p; omega
    have hset : ∀ (l : List Int) (k : Nat) (z : Int), (∀ a ∈ l, 0 ≤ a ∧ a < (p : Int)) → ∀ a ∈ l.set k (z % p), 0 ≤ a ∧ a < (p : Int) := fun l k z hl a ha => by
      rcases List.mem_or_eq_of_mem_set ha with h | h
      · exact hl a h
      · rw [h]; exact ⟨Int.emod_nonneg _ hp0, Int.emod_lt_of_pos _ (by omega)⟩
    have hoff : ∀ (g : List Int) (t : Int) (k : Nat) (r : List Int), (∀ a ∈ r, 0 ≤ a ∧ a < (p : Int)) → ∀ a ∈ offL p t k g r, 0 ≤ a ∧ a < (p : Int) := by
      intro g t
      induction g with
      | nil => intro k r h; exact h
      | cons z g ih => intro k r h; rw [offL]; exact ih _ _ (hset _ _ _ h)
    intro n
    induction n with
    | zero => intro r q h1 h2; exact ⟨h2, h1⟩
    | succ n ih => intro r q h1 h2; rw [divF]; exact ih _ _ (hoff _ _ _ _ h1) (hset _ _ _ h2)
  have hz : ∀ a ∈ List.replicate w (0 : Int), 0 ≤ a ∧ a < (p : Int) := fun a ha => by
    rw [(List.mem_replicate.mp ha).2]
    have := Bs.two p
    omega
  obtain ⟨r1, r2⟩ := rng w _ _ (rowL_range x) hz
  unfold divL
  rw [← hw]
  show (trimI _, trimI _) = _
  rw [trim_polL r1, trim_polL r2]
  rw [polL_rowL, polL_rowL, polL_zeros] at main
  have main2 := main.1
  rw [rowL_length] at main
  obtain ⟨e1, e2⟩ := div_unique (x := x) (y := y) (q := polL p (divF p (invN p y.lead.val) (rowL y) w (rowL x) (List.replicate w 0)).1) (r := polL p (divF p (invN p y.lead.val) (rowL y) w (rowL x) (List.replicate w 0)).2) (by grind) (by have := len_pos hy; omega)
  rw [e1, e2]
theorem u_divided {x y : Pol p} (hy : y ≠ 0) (h1 : x.len ≤ 100000) (h2 : y.len ≤ 100000) (q : Q (.tup [R (x / y), R (x % y)]) G) : s__law_divided [.int p, R x, R y] G Q E := by
  obtain ⟨s, e, h3, h4, h5⟩ := digs_last hy
  have ey : rowL y = cR s ++ [((y.lead.val : Nat) : Int)] := by unfold rowL; rw [e]; simp
  have hq := divL_pol (x := x) hy
  refine ⟨p, y.lead.val, rowL x, cR s, by rw [← ey], Bs.base p, h3, h4, by rw [rowL_length]; exact h1, by rw [← ey, rowL_length]; exact h2, ?_⟩
  rw [← ey, hq]
  exact q
end
end PO
set_option Elab.async false
set_option autoImplicit false
set_option linter.all false
set_option maxRecDepth 100000
set_option maxHeartbeats 2000000
namespace PO
open SP VL
section
variable {G : Gs} {Q : D → Gs → Prop} {E : EK}
/-! ### the law's says -/
theorem plainL_ints : ∀ l : List Int, plainL (l.map D.int) = true
  | [] => rfl
  | a :: l => by rw [List.map_cons, plainL, plainL_ints l]; rfl
theorem depL_ints : ∀ l : List Int, depL (l.map D.int) = 0
  | [] => rfl
  | a :: l => by rw [List.map_cons, depL, depL_ints l]; rfl
theorem sizeDs_ints : ∀ l : List Int, sizeDs (l.map D.int) = l.length
  | [] => rfl
  | a :: l => by rw [List.map_cons, sizeDs, sizeDs_ints l, List.length_cons, sizeD, Nat.add_comm]; all_goals (intros; simp_all)
/-- a plain value of at most k parts, at most e deep -/
def Sm (d : D) (k e : Nat) : Prop := plainD d = true ∧ sizeD d ≤ k ∧ depD d ≤ e
def SmL (ds : List D) (k e : Nat) : Prop := plainL ds = true ∧ sizeDs ds ≤ k ∧ depL ds ≤ e
theorem sm_int (i : Int) : Sm (.int i) 1 0 := ⟨rfl, Nat.le_refl 1, Nat.le_refl 0⟩
theorem sm_bl (b : Bool) : Sm (.bl b) 1 0 := ⟨rfl, Nat.le_refl 1, Nat.le_refl 0⟩
theorem sm_non : Sm .non 1 0 := ⟨rfl, Nat.le_refl 1, Nat.le_refl 0⟩
theorem sm_nil : SmL [] 0 0 := ⟨rfl, Nat.le_refl 0, Nat.le_refl 0⟩
theorem sm_cons {d : D} {ds : List D} {k e m f : Nat} (h : Sm d k e) (h2 : SmL ds m f) : SmL (d :: ds) (k + m) (e + f) := ⟨by rw [plainL, h.1, h2.1]; rfl, by rw [sizeDs]; have := h.2.1; have := h2.2.1; omega, by rw [depL]; have := h.2.2; have := h2.2.2; omega⟩
theorem sm_lst {ds : List D} {k e : Nat} (h : SmL ds k e) : Sm (.lst ds) (k + 1) (e + 1) := ⟨by rw [plainD]; exact h.1, by rw [sizeD]; have := h.2.1; omega, by rw [depD]; have := h.2.2; omega⟩
theorem sm_tup {ds : List D} {k e : Nat} (h : SmL ds k e) : Sm (.tup ds) (k + 1) (e + 1) := ⟨by rw [plainD]; exact h.1, by rw [sizeD]; have := h.2.1; omega, by rw [depD]; have := h.2.2; omega⟩
theorem sm_row {p : Nat} [Bs p] {x : Pol p} (h : x.len ≤ 1000) : Sm (R x) 1001 1 := ⟨by rw [plainD, plainL_ints], by rw [sizeD, sizeDs_ints, rowL_length]; omega, by rw [depD, depL_ints]; exact Nat.le_refl 1⟩
theorem Sm.le {d : D} {k e m f : Nat} (h : Sm d k e) (h1 : k ≤ m) (h2 : e ≤ f) : Sm d m f := ⟨h.1, Nat.le_trans h.2.1 h1, Nat.le_trans h.2.2 h2⟩
theorem u_says {d d' : D} {k e : Nat} (h : d = d') (ok : Sm d k e) (q : Q (.bl true) G) (hk : k ≤ 1000000 := by decide) (he : e ≤ 60 := by decide) : s__law_says [d, d'] G Q E := by
  subst h
  exact ⟨d, rfl, ok.1, Nat.le_trans ok.2.1 hk, Nat.le_trans ok.2.2 he, q⟩
theorem inR_true {lo hi i : Int} (h1 : lo ≤ i) (h2 : i ≤ hi) : inR lo hi (.int i) = true := by
  show (decide (lo ≤ i) && decide (i ≤ hi)) = true
  rw [decide_eq_true h1, decide_eq_true h2]
  rfl
/-! ### the program's functions of a base and a number -/
theorem u_pub {p : Nat} [Bs p] {lo : Int} {f : Nat → Nat → D} {n : Nat} (h1 : lo ≤ n) (h2 : n ≤ 1000000) (q : Q (f p n) G) : pubS lo f [.int p, .int n] G Q E := by
  have hb := Bs.base p
  refine ⟨.int p, .int n, _, _, rfl, rfl, rfl, fun h => ?_, fun _ h => ?_, fun b m e1 e2 _ _ _ => ?_⟩
  · rw [show baseOk (.int p) = true from decide_eq_true (by unfold IsBase at hb; omega)] at h
    cases h
  · rw [show inR lo 1000000 (.int n) = true from inR_true h1 (by omega)] at h
    cases h
  · have e1 : (p : Int) = b := D.int.inj e1
    have e2 : (n : Int) = m := D.int.inj e2
    have e1 : p = b := by omega
    have e2 : n = m := by omega
    subst e1 e2
    exact q
theorem u_pubB {lo : Int} {f : Nat → Nat → D} {d d2 : D} (h : baseOk d = false) (t : ∃ t, tyOfD d = some t) (t2 : ∃ t, tyOfD d2 = some t) (q : E ⟨"BadBase", none⟩ G) : pubS lo f [d, d2] G Q E := by
  obtain ⟨t, t⟩ := t
  obtain ⟨t2, t2⟩ := t2
  refine ⟨d, d2, _, _, rfl, t, t2, fun _ => q, fun h2 => ?_, fun b n e1 _ h3 => ?_⟩
  · rw [h] at h2; cases h2
  · subst e1
    rw [show baseOk (.int b) = true from decide_eq_true (by unfold IsBase at h3; omega)] at h
    cases h
theorem u_pubN {p : Nat} [Bs p] {lo : Int} {f : Nat → Nat → D} {d : D} (h : inR lo 1000000 d = false) (t : ∃ t, tyOfD d = some t) (q : E ⟨"BadNumber", none⟩ G) : pubS lo f [.int p, d] G Q E := by
  obtain ⟨t, t⟩ := t
  have hb := Bs.base p
  refine ⟨.int p, d, _, _, rfl, rfl, t, fun h2 => ?_, fun _ _ => q, fun b n e1 e2 h3 h4 h5 => ?_⟩
  · rw [show baseOk (.int p) = true from decide_eq_true (by unfold IsBase at hb; omega)] at h2
    cases h2
  · subst e2
    rw [show inR lo 1000000 (.int n) = true from inR_true h4 (by omega)] at h
    cases h
theorem inR_more {hi : Int} {d : D} (h : inR 0 hi d = false) : inR 1 hi d = false := by
  cases d with
  | int i =>
    have h : (decide (0 ≤ i) && decide (i ≤ hi)) = false := h
    show (decide (1 ≤ i) && decide (i ≤ hi)) = false
    simp at h ⊢
    omega
  | _ => rfl
theorem numL_bad {lo hi : Int} (h1 : -1000000000000000000000000000000 < lo) (h2 : hi < 1000000000000000000000000000000) (h3 : lo ≤ hi) : ∀ d ∈ numL lo hi, inR lo hi d = false ∧ ∃ t, tyOfD d = some t := by
  intro d hd
  simp only [numL, List.mem_cons, List.not_mem_nil, or_false] at hd
  rcases hd with rfl | rfl | rfl | rfl | rfl | rfl | rfl | rfl | rfl
  all_goals (refine ⟨?_, _, rfl⟩; unfold inR)
  all_goals first | rfl | (simp; omega)
end
section
variable {p : Nat} [Bs p] {G : Gs} {Q : D → Gs → Prop} {E : EK}
theorem R_eq (x : Pol p) : R x = .tup ((rowL x).map .int) := rfl
theorem u_figures {n : Nat} (h : n ≤ 1000000) (q : Q (R (⟨n⟩ : Pol p)) G) : s_figures_of [.int p, .int n] G Q E := u_pub (by omega) h q
theorem u_length {n : Nat} (h : n ≤ 1000000) (q : Q (.int ((⟨n⟩ : Pol p).len : Nat)) G) : s_length_of [.int p, .int n] G Q E := u_pub (by omega) h (by rw [digs_length]; exact q)
theorem u_spread_of {n : Nat} (h : n ≤ 1000000) (q : Q (.int (((⟨n⟩ : Pol p) ^ p).n : Nat)) G) : s_spread_of [.int p, .int n] G Q E := u_pub (by omega) h (by
  show Q (.int (valI p (trimI (cR (spreadL p (digs p n)))))) G
  rw [spread_row (⟨n⟩ : Pol p), valI_row]
  exact q)
theorem u_plain_of {n : Nat} (h0 : 0 < n) (h : n ≤ 1000000) (q : Q (.int ((plain (⟨n⟩ : Pol p)).n : Nat)) G) : s_plain_of [.int p, .int n] G Q E := u_pub (by omega) h (by
  have hx : (⟨n⟩ : Pol p) ≠ 0 := fun e => by
    have := congrArg Pol.n e
    exact absurd this (by show n ≠ 0; omega)
  obtain ⟨s, e, _⟩ := digs_last hx
  have e2 : (digs p n).getLastD 0 = (⟨n⟩ : Pol p).lead.val := by
    show (digs p (⟨n⟩ : Pol p).n).getLastD 0 = _
    rw [e, List.getLastD_concat]
  show Q (.int (valI p (cR (plainR p ((digs p n).getLastD 0) (digs p n))))) G
  rw [e2]
  rw [show cR (plainR p (⟨n⟩ : Pol p).lead.val (digs p n)) = rowL (plain (⟨n⟩ : Pol p)) from plain_row hx, valI_row]
  exact q)
theorem u_number_of (x : Pol p) (h : x.len ≤ 1000000) (q : Q (.int x.n) G) : s_number_of [.int p, R x] G Q E := by
  have hb := Bs.base p
  have hok : baseOk (.int p) = true := decide_eq_true (by unfold IsBase at hb; omega)
  have hrow : rowOk p (R x) = true := by
    unfold rowOk R rowD
    rw [Bool.and_eq_true]
    constructor
    · rw [List.all_eq_true]
      intro d hd
      obtain ⟨a, ha, rfl⟩ := List.mem_map.mp hd
      have := rowL_range x a ha
      exact inR_true this.1 (by omega)
    · by_cases hx : x = 0
      · rw [hx, show rowL (0 : Pol p) = [] by unfold rowL; rw [show (0 : Pol p).n = 0 from rfl, digs_zero]; rfl]
        rfl
      · obtain ⟨s, e, h0, _⟩ := digs_last hx
        have : (List.map D.int (rowL x)).getLast? = some (.int (x.lead.val : Nat)) := by
          unfold rowL
          rw [e]
          simp
        rw [this]
        split
        · rename_i e; injection e with e; injection e with e; omega
        · rfl
  refine ⟨.int p, R x, _, _, rfl, rfl, rfl, fun items e => ?_, fun h2 => ?_, fun b e _ h2 => ?_, fun b l e1 e2 _ _ _ => ?_⟩
  · injection e with e
    rw [← e]
    refine ⟨smallN (by rw [List.length_map, rowL_length]; exact h), fun d hd => ?_⟩
    obtain ⟨a, _, rfl⟩ := List.mem_map.mp hd
    exact ⟨_, rfl⟩
  · rw [hok] at h2; cases h2
  · injection e with e
    rw [show b = p by omega, hrow] at h2
    cases h2
  · injection e1 with e1
    injection e2 with e2
    have : rowL x = l := by
      have := congrArg (List.map fun d : D => match d with | .int i => i | _ => 0) e2
      simpa [Function.comp_def] using this
    rw [← this, show b = p by omega, valI_row]
    exact q
theorem monic_n {x : Pol p} (h : Monic x) : p ^ (x.len - 1) ≤ x.n ∧ x.n < 2 * p ^ (x.len - 1) := by
  have h2 := Bs.two p
  have hl := len_pos h.ne
  have h1 : (x.lead).val = 1 := by rw [show x.lead = 1 from h, fin_val_one]
  have e : x.n / p ^ (x.len - 1) % p = 1 := h1
  have hlt : x.n < p ^ x.len := len_le.mp (Nat.le_refl _)
  have e3 : p ^ x.len = p ^ (x.len - 1) * p := by rw [← Nat.pow_succ]; congr 1; omega
  rw [e3] at hlt
  have hp : 0 < p ^ (x.len - 1) := Nat.pow_pos (by omega)
  have : x.n / p ^ (x.len - 1) < p := by rw [Nat.div_lt_iff_lt_mul hp, Nat.mul_comm]; exact hlt
  rw [Nat.mod_eq_of_lt this] at e
  have h3 := Nat.div_add_mod x.n (p ^ (x.len - 1))
  rw [e, Nat.mul_one] at h3
  have h4 := Nat.mod_lt x.n hp
  generalize x.n % p ^ (x.len - 1) = r at *
  omega
theorem R_one : R (1 : Pol p) = .tup [.int 1] := by
  have h2 := Bs.two p
  show D.tup (List.map D.int (cR (digs p (1 : Pol p).n))) = _
  rw [n_one, digs_pos h2 (by omega), Nat.mod_eq_of_lt (by omega), Nat.div_eq_of_lt (by omega), digs_zero]
  rfl
theorem R_zero : R (0 : Pol p) = .tup [] := by
  show D.tup (List.map D.int (cR (digs p (0 : Pol p).n))) = _
  rw [show (0 : Pol p).n = 0 from rfl, digs_zero]
  rfl
theorem u_power {a : Nat} {n : Nat} (ha : a < 2 ^ 64) (hn : n ≤ 1000000) (q : Q (.int ((a ^ n : Nat) : Int)) G) : s__law_power [.int a, .int n] G Q E :=
  ⟨a, n, rfl, by omega, hn, by rw [← Int.natCast_pow]; exact q⟩
end
end PO
namespace SP
open VL
abbrev s_trimmed : SpD := s_trim
abbrev s_number_by : SpD := s_worth
abbrev s__law_worth : SpD := s_worth
abbrev p_number_by : VS := p_worth
abbrev p__law_worth : VS := p_worth
theorem v_number_by (ds : List D) (G : Gs) (Qd : D → Gs → Prop) (Ed : EK) (h : s_number_by ds G Qd Ed) : ds.length = 2 ∧ p_number_by Ed (ends0 Qd) (startL ["base", "row", "found", "figure"] ds) G := v_worth ds G Qd Ed h
theorem v__law_worth (ds : List D) (G : Gs) (Qd : D → Gs → Prop) (Ed : EK) (h : s__law_worth ds G Qd Ed) : ds.length = 2 ∧ p__law_worth Ed (ends0 Qd) (startL ["base", "row", "found", "figure"] ds) G := v_worth ds G Qd Ed h
end SP
namespace PO
open PySem SP VL
section
variable {G : Gs} {Q : D → Gs → Prop} {E : EK} {L : Lo} {i : Nat}
theorem u_dyn {tb : Str → Option SpD} {r : VA} {y : Str} {sp : SpD} (h1 : L[i]? = some (.val (.fn y))) (h2 : tb y = some sp) (h : r E L G fun ds G1 => sp ds G1 Q E) : vDyn tb i r E L G Q := by
  unfold vDyn
  rw [h1]
  show match tb y with
    | some sp => r E L G fun ds G1 => sp ds G1 Q E
    | none => False
  rw [h2]
  exact h
/-- may be set -/
def isFree : Slot → Bool
  | .val _ => true
  | .no => true
  | _ => false
theorem setL_free {s t : Slot} {k : Lo → Prop} (h : L[i]? = some s) (hf : isFree s = true) (q : k (L.set i t)) : setL L i t k := by
  unfold setL
  rw [h]
  cases s with
  | lck d => cases hf
  | _ => exact q
theorem comp_errs {tb : Str → Option SpD} {r : VA} {cls : Str} {figs fns : List Str} {s : Slot} (hcls : cls ∈ figs) (hl : fns.length ≤ 1000000) (hi : L[i]? = some s) (hf : isFree s = true)
    (hs : ∀ y ∈ fns, ∀ Qe : EK, Qe ⟨cls, none⟩ G → vDyn tb i r Qe (hideL (L.set i (.val (.fn y)))) G fun _ _ => False) (q : Q (.lst (List.replicate fns.length (.bl true))) G) :
    compV (vgName i) vYes (vIsCls cls (vCaught figs (vDyn tb i r))) L (fns.map D.fn) [] G Q := by
  refine compV_ind (fun rem acc G' => ∃ dn rs : List Str, rem = rs.map D.fn ∧ acc = List.replicate dn.length (.bl true) ∧ G' = G ∧ fns = dn ++ rs) ⟨[], fns, rfl, rfl, rfl, rfl⟩ ?_ ?_
  · rintro acc G' ⟨dn, rs, h1, rfl, rfl, rfl⟩
    have : rs = [] := List.map_eq_nil_iff.mp h1.symm
    subst this
    rw [List.append_nil] at q
    exact q
  · rintro d ds acc G' N ⟨dn, rs, h1, rfl, rfl, h4⟩ hN
    cases rs with
    | nil => exact nomatch h1
    | cons y rs =>
      have h1' : d = D.fn y ∧ ds = rs.map D.fn := List.cons.inj h1
      obtain ⟨rfl, rfl⟩ := h1'
      refine setL_free hi hf ?_
      have hlen : fns.length = dn.length + (rs.length + 1) := by rw [h4, List.length_append, List.length_cons]
      have hN2 := hN (List.replicate dn.length (.bl true) ++ [.bl true]) G' ⟨dn ++ [y], rs, rfl, by rw [List.length_append]; exact (List.replicate_succ' (n := dn.length)).symm, rfl, by rw [h4, List.append_assoc]; rfl⟩
      have hll : (List.replicate dn.length (D.bl true)).length < lineN := by rw [List.length_replicate]; exact Nat.lt_of_le_of_lt (show dn.length ≤ 1000000 by omega) lineN_big
      have hm : y ∈ fns := by rw [h4]; simp
      have go := hs y hm (fun er G1 => er.cls ∈ figs ∧ ((er.cls = cls ∧ er.most = none) ∧ ((List.replicate dn.length (D.bl true)).length < lineN ∧ N (List.replicate dn.length (.bl true) ++ [.bl true]) G1))) ⟨hcls, ⟨rfl, rfl⟩, hll, hN2⟩
      exact go
end
end PO
namespace PO
open PySem SP VL
section
variable {G : Gs} {Q : D → Gs → Prop} {E : EK}
theorem baseOk_p (p : Nat) [i : Bs p] : baseOk (.int p) = true := decide_eq_true (by have := i.h; omega)
theorem u_number_ofB {d : D} (h : baseOk d = false) (t : ∃ t, tyOfD d = some t) (q : E ⟨"BadBase", none⟩ G) : s_number_of [d, .non] G Q E := by
  obtain ⟨t, t⟩ := t
  refine ⟨d, .non, _, _, rfl, t, rfl, fun items e => (nomatch e), fun _ => q, fun b e hb _ => ?_, fun b l e1 e2 _ _ _ => (nomatch e2)⟩
  subst e
  rw [show baseOk (.int b) = true from decide_eq_true (by unfold IsBase at hb; omega)] at h
  cases h
theorem u_number_ofR {p : Nat} [Bs p] {d : D} (h : rowOk p d = false) (t : ∃ t, tyOfD d = some t) (hi : ∀ items, d = .tup items → items.length ≤ 1000 ∧ ∀ d ∈ items, ∃ t, tyOfD d = some t) (q : E ⟨"BadRow", none⟩ G) : s_number_of [.int p, d] G Q E := by
  obtain ⟨t, t⟩ := t
  refine ⟨.int p, d, _, _, rfl, rfl, t, fun items e => ⟨smallN (Nat.le_trans (hi items e).1 (by decide)), (hi items e).2⟩, fun h2 => ?_, fun _ _ _ _ => q, fun b l e1 e2 _ _ h3 => ?_⟩
  · rw [baseOk_p] at h2; cases h2
  · have e1 : (p : Int) = b := D.int.inj e1
    have e1 : p = b := by omega
    subst e1
    rw [h] at h3
    cases h3
end
end PO
set_option Elab.async false
set_option autoImplicit false
set_option linter.all false
set_option maxRecDepth 100000
set_option maxHeartbeats 2000000
namespace SP
open PySem PySem.Spec PyProof.Rows L2 VL PO
local macro_rules | `(tactic| walk_at "v") => `(tactic| simp only [vSeq, vNext, vVar, vPk, vC, vOp, vB, vSet, vPar, vApp, vShare, vRet, vRetN, vDrop, vIfS, vSetIx, ownLst, setL, setAll, slotN, xN, xNil, nE, nF, eN, nOp, nSl, nRev, nIf, vNo, vPart, vNil, vCons, vTup, vLst, vCall, vDef, vNeg, vChain, vAnd, vOr, vNot, vAndT, vOrT, vNotT, vIf, vRaise, vBrk, vCnt, vUnp, vgName, vgNil, vgCons, vgTup, vqVar, vqVal, viRng1, viRng2, viRng3, viEnum, vYes, lockL, lock1, unlL, unl1, wipeV, vComp, vFor, vTru, vIsTy, vOwn, vExt, vPop, vDrwW, vDrwC, vDrwN, vPutW, vPutN, vDct, vpNil, vpCons, vDGet, vDGet2, vDIn, dAdd, dSub, dMul, dMod, dDiv, dPow, dCmp, dLt, dLe, dGt, dGe, dAddN, dMulN, dIx, dLen, dInt, dTupOf, dLstOf, dMax2, dMin2, dIs, dIsN, dRepr, vDefK, permD, hideL, List.map_cons, List.map_nil, viZip, vqVarK, vqValK, lockL, lock1, unlL, unl1, seqD, List.set_cons_zero, List.set_cons_succ, List.getElem?_cons_zero, List.getElem?_cons_succ, List.getElem?_nil, List.set_nil])
/-! ### sums of rows -/
def s_plus_rows : SpD := fun ds G Q _ => ∃ (p : Nat) (_ : Bs p) (x y : Pol p), ds = [.int p, R x, R y] ∧ x.len ≤ 100000 ∧ y.len ≤ 100000 ∧ Q (R (x + y)) G
def s__law_plus : SpD := s_plus_rows
def s_minus_rows : SpD := fun ds G Q _ => ∃ (p : Nat) (_ : Bs p) (x y : Pol p), ds = [.int p, R x, R y] ∧ x.len ≤ 100000 ∧ y.len ≤ 100000 ∧ Q (R (x - y)) G
def s__law_less : SpD := s_minus_rows
theorem zipD_ints : ∀ a b : List Int, zipD (iL a) (iL b) = (a.zip b).map fun z => D.tup [.int z.1, .int z.2]
  | [], _ => by simp [zipD]
  | _ :: _, [] => by simp [zipD]
  | x :: a, y :: b => by rw [iL, iL, List.map_cons, List.map_cons, zipD, show zipD (List.map D.int a) (List.map D.int b) = _ from zipD_ints a b]; rfl
theorem compV_map {α : Type} {vg : VG} {tt : VT} {te : VE} {L : Lo} {Q : D → Gs → Prop} {G : Gs} {items : List α} (e f : α → D) (hlen : items.length ≤ lineN)
    (hs : ∀ x ∈ items, ∀ (acc : List D) (N : List D → Gs → Prop), N (acc ++ [f x]) G → acc.length < lineN → vg (e x) L fun L2 => tt Ev0 L2 G fun b G1 => match b with
      | true => te Ev0 L2 G1 fun y G2 => acc.length < lineN ∧ N (acc ++ [y]) G2
      | false => N acc G1)
    (q : Q (.lst (items.map f)) G) : compV vg tt te L (items.map e) [] G Q := by
  refine compV_ind (fun rem acc G' => ∃ dn rs : List α, rem = rs.map e ∧ acc = dn.map f ∧ G' = G ∧ items = dn ++ rs) ⟨[], items, rfl, rfl, rfl, rfl⟩ ?_ ?_
  · rintro acc G' ⟨dn, rs, h1, rfl, rfl, rfl⟩
    have : rs = [] := List.map_eq_nil_iff.mp h1.symm
    subst this
    rw [List.append_nil] at q
    exact q
  · rintro d ds acc G' N ⟨dn, rs, h1, rfl, rfl, h4⟩ hN
    cases rs with
    | nil => exact nomatch h1
    | cons x rs =>
      have h1' : d = e x ∧ ds = rs.map e := List.cons.inj h1
      obtain ⟨rfl, rfl⟩ := h1'
      have hl2 : items.length = dn.length + (rs.length + 1) := by rw [h4, List.length_append, List.length_cons]
      exact hs x (by rw [h4]; simp) _ N (hN _ _ ⟨dn ++ [x], rs, rfl, by simp, rfl, by rw [h4]; simp⟩) (by rw [List.length_map]; omega)
theorem polL_pad {p : Nat} [Bs p] (l : List Int) (n : Nat) : polL p (l ++ List.replicate n 0) = polL p l := Pol.ext fun i => by
  rw [c_polL, c_polL]
  congr 1
  rw [List.getD_eq_getElem?_getD, List.getD_eq_getElem?_getD]
  by_cases h : i < l.length
  · rw [List.getElem?_append_left h]
  · rw [List.getElem?_append_right (by omega), List.getElem?_replicate, List.getElem?_eq_none (l := l) (by omega)]
    split <;> rfl
theorem polL_zip {p : Nat} [Bs p] (a b : List Int) (h : a.length = b.length) : polL p ((a.zip b).map fun z => z.1 + z.2) = polL p a + polL p b := Pol.ext fun i => by
  rw [c_add, c_polL, c_polL, c_polL, ← castI_add]
  congr 1
  rw [List.getD_eq_getElem?_getD, List.getD_eq_getElem?_getD, List.getD_eq_getElem?_getD, List.getElem?_map]
  by_cases hi : i < a.length
  · rw [List.getElem?_eq_getElem (l := a.zip b) (by rw [List.length_zip]; omega), List.getElem?_eq_getElem hi, List.getElem?_eq_getElem (l := b) (by omega), List.getElem_zip]
    rfl
  · rw [List.getElem?_eq_none (l := a.zip b) (by rw [List.length_zip]; omega), List.getElem?_eq_none (l := a) (by omega), List.getElem?_eq_none (l := b) (by omega)]
    rfl
def p_plus_rows_2 : VS := (vRet (vDef s_trimmed (vCons (vComp (viZip (vqVarK 4) (vqVarK 5)) (vgTup 2 (vgCons (vgName 6) (vgCons (vgName 7) vgNil))) [6, 7] vYes (vOp dMod (eN (nOp dAddN (vPk 6) (vPk 7))) (vPk 0))) vNil)))
def p_plus_rows_1 : VS := (vSeq (vPar [4, 5] (xN (nOp dAddN (vCall dLstOf (vCons (vPk 1) vNil)) (eN (nOp dMulN (vLst (vCons (vC (.int 0)) vNil)) (vOp dSub (vPk 3) (vCall dLen (vCons (vPk 1) vNil)))))) (xN (nOp dAddN (vCall dLstOf (vCons (vPk 2) vNil)) (eN (nOp dMulN (vLst (vCons (vC (.int 0)) vNil)) (vOp dSub (vPk 3) (vCall dLen (vCons (vPk 2) vNil)))))) xNil))) p_plus_rows_2)
def p_plus_rows : VS := (vSeq (vSet 3 (nE (vCall dMax2 (vCons (vCall dLen (vCons (vPk 1) vNil)) (vCons (vCall dLen (vCons (vPk 2) vNil)) vNil))))) p_plus_rows_1)
theorem v_plus_rows (ds : List D) (G : Gs) (Qd : D → Gs → Prop) (Ed : EK) (h : s_plus_rows ds G Qd Ed) : ds.length = 3 ∧ p_plus_rows Ed (ends0 Qd) (startL ["base", "one", "other", "many", "left", "right", "first", "second"] ds) G := by
  obtain ⟨p, hp, x, y, rfl, h1, h2, q⟩ := h
  refine ⟨rfl, ?_⟩
  show p_plus_rows Ed (ends0 Qd) [.val (.int p), .val (R x), .val (R y), .no, .no, .no, .no, .no] G
  have p2 := Bs.two p
  unfold p_plus_rows p_plus_rows_1 p_plus_rows_2
  walk_at "v"
  have ex : (List.map D.int (rowL x)).length = x.len := by rw [List.length_map, rowL_length]
  have ey : (List.map D.int (rowL y)).length = y.len := by rw [List.length_map, rowL_length]
  rw [ex, ey]
  have hM : ∃ M : Nat, (if (y.len : Int) > x.len then (y.len : Int) else x.len) = M ∧ x.len ≤ M ∧ y.len ≤ M ∧ M ≤ 100000 := by
    by_cases h : (y.len : Int) > x.len
    · exact ⟨y.len, by rw [if_pos h], by omega, by omega, by omega⟩
    · exact ⟨x.len, by rw [if_neg h], by omega, by omega, by omega⟩
  obtain ⟨M, eM, m1, m2, m3⟩ := hM
  rw [eM, show ((M : Int) - x.len).toNat = M - x.len by omega, show ((M : Int) - y.len).toNat = M - y.len by omega, List.flatten_replicate_singleton, List.flatten_replicate_singleton]
  have e0 : ∀ (l : List Int) (n : Nat), List.map D.int l ++ List.replicate n (D.int 0) = iL (l ++ List.replicate n 0) := fun l n => by simp
  refine ⟨smallN (by simp), ⟨by omega, by omega, smallN (by simp; omega)⟩, smallN (by simp; omega), smallN (by simp), ⟨by omega, by omega, smallN (by simp; omega)⟩, smallN (by simp; omega), true, rfl, rfl, ?_⟩
  rw [e0, e0, zipD_ints]
  have l1 : (rowL x ++ List.replicate (M - x.len) 0).length = M := by rw [List.length_append, rowL_length, List.length_replicate]; omega
  have l2 : (rowL y ++ List.replicate (M - y.len) 0).length = M := by rw [List.length_append, rowL_length, List.length_replicate]; omega
  refine compV_map (fun z : Int × Int => D.tup [.int z.1, .int z.2]) (fun z => .int ((z.1 + z.2) % p)) (smallN (by rw [List.length_zip, l1, l2]; omega)) ?_ ?_
  · intro z _ acc N n1 n2
    walk_at "v"
    exact ⟨rfl, by omega, n2, n1⟩
  · have e1 : List.map (fun z : Int × Int => D.int ((z.1 + z.2) % p)) ((rowL x ++ List.replicate (M - x.len) 0).zip (rowL y ++ List.replicate (M - y.len) 0)) = iL ((((rowL x ++ List.replicate (M - x.len) 0).zip (rowL y ++ List.replicate (M - y.len) 0)).map fun z : Int × Int => z.1 + z.2).map fun z => z % (p : Int)) := by simp
    rw [e1]
    refine ⟨_, _, rfl, .inl rfl, ?_⟩
    rw [trim_aux, polL_zip _ _ (l1.trans l2.symm), polL_pad, polL_pad, polL_rowL, polL_rowL]
    exact q
def p__law_plus_2 : VS := (vRet (vDef s__law_cut (vCons (vComp (viZip (vqVarK 4) (vqVarK 5)) (vgTup 2 (vgCons (vgName 6) (vgCons (vgName 7) vgNil))) [6, 7] vYes (vOp dMod (vCall dInt (vCons (eN (nOp dAddN (vPk 6) (vPk 7))) vNil)) (vPk 0))) vNil)))
def p__law_plus_1 : VS := (vSeq (vPar [4, 5] (xN (nOp dAddN (vCall dLstOf (vCons (vPk 1) vNil)) (eN (nOp dMulN (vLst (vCons (vC (.int 0)) vNil)) (vOp dSub (vPk 3) (vCall dLen (vCons (vPk 1) vNil)))))) (xN (nOp dAddN (vCall dLstOf (vCons (vPk 2) vNil)) (eN (nOp dMulN (vLst (vCons (vC (.int 0)) vNil)) (vOp dSub (vPk 3) (vCall dLen (vCons (vPk 2) vNil)))))) xNil))) p__law_plus_2)
def p__law_plus : VS := (vSeq (vSet 3 (nE (vCall dMax2 (vCons (vCall dLen (vCons (vPk 1) vNil)) (vCons (vCall dLen (vCons (vPk 2) vNil)) vNil))))) p__law_plus_1)
theorem v__law_plus (ds : List D) (G : Gs) (Qd : D → Gs → Prop) (Ed : EK) (h : s__law_plus ds G Qd Ed) : ds.length = 3 ∧ p__law_plus Ed (ends0 Qd) (startL ["base", "one", "other", "many", "left", "right", "a", "b"] ds) G := by
  obtain ⟨p, hp, x, y, rfl, h1, h2, q⟩ := h
  refine ⟨rfl, ?_⟩
  show p__law_plus Ed (ends0 Qd) [.val (.int p), .val (R x), .val (R y), .no, .no, .no, .no, .no] G
  have p2 := Bs.two p
  unfold p__law_plus p__law_plus_1 p__law_plus_2
  walk_at "v"
  have ex : (List.map D.int (rowL x)).length = x.len := by rw [List.length_map, rowL_length]
  have ey : (List.map D.int (rowL y)).length = y.len := by rw [List.length_map, rowL_length]
  rw [ex, ey]
  have hM : ∃ M : Nat, (if (y.len : Int) > x.len then (y.len : Int) else x.len) = M ∧ x.len ≤ M ∧ y.len ≤ M ∧ M ≤ 100000 := by
    by_cases h : (y.len : Int) > x.len
    · exact ⟨y.len, by rw [if_pos h], by omega, by omega, by omega⟩
    · exact ⟨x.len, by rw [if_neg h], by omega, by omega, by omega⟩
  obtain ⟨M, eM, m1, m2, m3⟩ := hM
  rw [eM, show ((M : Int) - x.len).toNat = M - x.len by omega, show ((M : Int) - y.len).toNat = M - y.len by omega, List.flatten_replicate_singleton, List.flatten_replicate_singleton]
  have e0 : ∀ (l : List Int) (n : Nat), List.map D.int l ++ List.replicate n (D.int 0) = iL (l ++ List.replicate n 0) := fun l n => by simp
  refine ⟨smallN (by simp), ⟨by omega, by omega, smallN (by simp; omega)⟩, smallN (by simp; omega), smallN (by simp), ⟨by omega, by omega, smallN (by simp; omega)⟩, smallN (by simp; omega), true, rfl, rfl, ?_⟩
  rw [e0, e0, zipD_ints]
  have l1 : (rowL x ++ List.replicate (M - x.len) 0).length = M := by rw [List.length_append, rowL_length, List.length_replicate]; omega
  have l2 : (rowL y ++ List.replicate (M - y.len) 0).length = M := by rw [List.length_append, rowL_length, List.length_replicate]; omega
  refine compV_map (fun z : Int × Int => D.tup [.int z.1, .int z.2]) (fun z => .int ((z.1 + z.2) % p)) (smallN (by rw [List.length_zip, l1, l2]; omega)) ?_ ?_
  · intro z _ acc N n1 n2
    walk_at "v"
    exact ⟨rfl, by omega, n2, n1⟩
  · have e1 : List.map (fun z : Int × Int => D.int ((z.1 + z.2) % p)) ((rowL x ++ List.replicate (M - x.len) 0).zip (rowL y ++ List.replicate (M - y.len) 0)) = iL ((((rowL x ++ List.replicate (M - x.len) 0).zip (rowL y ++ List.replicate (M - y.len) 0)).map fun z : Int × Int => z.1 + z.2).map fun z => z % (p : Int)) := by simp
    rw [e1]
    refine ⟨_, _, rfl, .inl rfl, by rw [List.length_map, List.length_map, List.length_zip, l1, l2]; omega, ?_⟩
    rw [trim_aux, polL_zip _ _ (l1.trans l2.symm), polL_pad, polL_pad, polL_rowL, polL_rowL]
    exact q
theorem neg_row {p : Nat} [Bs p] (y : Pol p) : rowL (-y) = (rowL y).map fun z => (0 - z) % (p : Int) := by
  have p2 := Bs.two p
  have ln : (rowL (-y)).length = (rowL y).length := (rowL_length (-y)).trans ((len_neg y).trans (rowL_length y).symm)
  have hl : (rowL (-y)).length = ((rowL y).map fun z => (0 - z) % (p : Int)).length := by rw [List.length_map (as := rowL y)]; exact ln
  refine List.ext_getElem hl fun i h3 h4 => ?_
  have g1 := rowL_getD (-y) i
  have g2 := rowL_getD y i
  have h5 : i < (rowL y).length := by omega
  rw [List.getD_eq_getElem?_getD, List.getElem?_eq_getElem h3] at g1
  rw [List.getD_eq_getElem?_getD, List.getElem?_eq_getElem h5] at g2
  simp only [Option.getD_some] at g1 g2
  have e2 : ((rowL y).map fun z => (0 - z) % (p : Int))[i] = (0 - (rowL y)[i]) % (p : Int) := List.getElem_map ..
  have e : (- y.c i) = castI (0 - ((y.c i).val : Int)) := by
    rw [castI_sub, castI_fin, castI_zero]; grind
  rw [e2, g2]
  refine g1.trans ?_
  rw [c_neg, e, castI_val]
def p_minus_rows : VS := (vRet (vDef s_plus_rows (vCons (vVar 0) (vCons (vVar 1) (vCons (vCall dTupOf (vCons (vComp (vqVar 2) (vgName 3) [3] vYes (vOp dMod (vOp dSub (vPk 0) (vPk 3)) (vPk 0))) vNil)) vNil)))))
theorem v_minus_rows (ds : List D) (G : Gs) (Qd : D → Gs → Prop) (Ed : EK) (h : s_minus_rows ds G Qd Ed) : ds.length = 3 ∧ p_minus_rows Ed (ends0 Qd) (startL ["base", "one", "other", "figure"] ds) G := by
  obtain ⟨p, hp, x, y, rfl, h1, h2, q⟩ := h
  refine ⟨rfl, ?_⟩
  show p_minus_rows Ed (ends0 Qd) [.val (.int p), .val (R x), .val (R y), .no] G
  have p2 := Bs.two p
  unfold p_minus_rows
  walk_at "v"
  refine compV_map D.int (fun z => .int (((p : Int) - z) % p)) (smallN (by rw [rowL_length]; omega)) ?_ ?_
  · intro z _ acc N n1 n2
    walk_at "v"
    exact ⟨by omega, n2, n1⟩
  · have e1 : List.map (fun z : Int => D.int (((p : Int) - z) % p)) (rowL y) = iL (rowL (-y)) := by
      rw [neg_row y]
      rw [iL, List.map_map (l := rowL y)]
      exact List.map_congr_left fun (a : Int) _ => by
        show D.int _ = D.int _
        congr 1
        first | rfl | rw [show (p : Int) - a = (0 - a) + p by omega, Int.add_emod_right]
    rw [e1]
    refine ⟨p, hp, x, -y, rfl, h1, by rw [len_neg]; exact h2, ?_⟩
    have : x + -y = x - y := by grind
    rw [this]
    exact q
def p__law_less : VS := (vRet (vDef s__law_plus (vCons (vVar 0) (vCons (vVar 1) (vCons (vCall dTupOf (vCons (vComp (vqVar 2) (vgName 3) [3] vYes (vOp dMod (vCall dInt (vCons (vOp dSub (vC (.int 0)) (vPk 3)) vNil)) (vPk 0))) vNil)) vNil)))))
theorem v__law_less (ds : List D) (G : Gs) (Qd : D → Gs → Prop) (Ed : EK) (h : s__law_less ds G Qd Ed) : ds.length = 3 ∧ p__law_less Ed (ends0 Qd) (startL ["base", "one", "other", "figure"] ds) G := by
  obtain ⟨p, hp, x, y, rfl, h1, h2, q⟩ := h
  refine ⟨rfl, ?_⟩
  show p__law_less Ed (ends0 Qd) [.val (.int p), .val (R x), .val (R y), .no] G
  have p2 := Bs.two p
  unfold p__law_less
  walk_at "v"
  refine compV_map D.int (fun z => .int ((0 - z) % p)) (smallN (by rw [rowL_length]; omega)) ?_ ?_
  · intro z _ acc N n1 n2
    walk_at "v"
    exact ⟨by omega, n2, n1⟩
  · have e1 : List.map (fun z : Int => D.int ((0 - z) % p)) (rowL y) = iL (rowL (-y)) := by
      rw [neg_row y]
      rw [iL, List.map_map (l := rowL y)]
      rfl
    rw [e1]
    refine ⟨p, hp, x, -y, rfl, h1, by rw [len_neg]; exact h2, ?_⟩
    have : x + -y = x - y := by grind
    rw [this]
    exact q
end SP
set_option Elab.async false
set_option autoImplicit false
set_option linter.all false
set_option maxRecDepth 100000
set_option maxHeartbeats 2000000
namespace SP
open PySem PySem.Spec PyProof.Rows L2 VL PO
local macro_rules | `(tactic| walk_at "v") => `(tactic| simp only [vSeq, vNext, vVar, vPk, vC, vOp, vB, vSet, vPar, vApp, vShare, vRet, vRetN, vDrop, vIfS, vSetIx, ownLst, setL, setAll, slotN, xN, xNil, nE, nF, eN, nOp, nSl, nRev, nIf, vNo, vPart, vNil, vCons, vTup, vLst, vCall, vDef, vNeg, vChain, vAnd, vOr, vNot, vAndT, vOrT, vNotT, vIf, vRaise, vBrk, vCnt, vUnp, vgName, vgNil, vgCons, vgTup, vqVar, vqVal, viRng1, viRng2, viRng3, viEnum, vYes, lockL, lock1, unlL, unl1, wipeV, vComp, vFor, vTru, vIsTy, vOwn, vExt, vPop, vDrwW, vDrwC, vDrwN, vPutW, vPutN, vDct, vpNil, vpCons, vDGet, vDGet2, vDIn, dAdd, dSub, dMul, dMod, dDiv, dPow, dCmp, dLt, dLe, dGt, dGe, dAddN, dMulN, dIx, dLen, dInt, dTupOf, dLstOf, dMax2, dMin2, dIs, dIsN, dRepr, vDefK, permD, hideL, List.map_cons, List.map_nil, viZip, vqVarK, vqValK, lockL, lock1, unlL, unl1, seqD, List.set_cons_zero, List.set_cons_succ, List.getElem?_cons_zero, List.getElem?_cons_succ, List.getElem?_nil, List.set_nil])
/-! ### products of rows -/
def s_times_rows : SpD := fun ds G Q _ => ∃ (p : Nat) (_ : Bs p) (x y : Pol p), ds = [.int p, R x, R y] ∧ x.len ≤ 100000 ∧ y.len ≤ 100000 ∧ Q (R (x * y)) G
theorem rowAt_zero : ∀ (o : List Int) (k : Nat) (f : List Int), k + o.length ≤ f.length → rowAt 0 k o f = f
  | [], _, _, _ => rfl
  | y :: o, k, f, h => by
    rw [List.length_cons] at h
    have e : f.set k (f.getD k 0 + 0 * y) = f := by
      rw [Int.zero_mul, Int.add_zero, List.getD_eq_getElem?_getD, List.getElem?_eq_getElem (by omega)]
      exact List.set_getElem_self _
    rw [rowAt, e, rowAt_zero o (k + 1) f (by omega)]
theorem rowL_nil {p : Nat} [Bs p] {x : Pol p} : rowL x = [] ↔ x = 0 := by
  constructor
  · intro h
    have := rowL_length x
    rw [h] at this
    exact len_eq_zero.mp this.symm
  · intro h
    have := rowL_length x
    rw [h, len_zero] at this
    rw [h]
    exact List.length_eq_zero_iff.mp this
def p_times_rows_3 : VS := (vRet (vDef s_trimmed (vCons (vComp (vqVar 3) (vgName 7) [7] vYes (vOp dMod (vPk 7) (vPk 0))) vNil)))
def p_times_rows_2 : VS := (vSeq (vFor (viEnum (vqVar 1)) (vgTup 2 (vgCons (vgName 4) (vgCons (vgName 5) vgNil))) (vIfS (vB (vOp dNe (vPk 5) (vC (.int 0)))) (vFor (viEnum (vqVar 2)) (vgTup 2 (vgCons (vgName 6) (vgCons (vgName 7) vgNil))) (vSetIx 3 (eN (nOp dAddN (vPk 4) (vPk 6))) (eN (nOp dAddN (vOp dIx (vPk 3) (eN (nOp dAddN (vPk 4) (vPk 6)))) (eN (nOp dMulN (vPk 5) (vPk 7))))))) vNext)) p_times_rows_3)
def p_times_rows_1 : VS := (vSeq (vSet 3 (nOp dMulN (vLst (vCons (vC (.int 0)) vNil)) (vOp dSub (eN (nOp dAddN (vCall dLen (vCons (vPk 1) vNil)) (vCall dLen (vCons (vPk 2) vNil)))) (vC (.int 1))))) p_times_rows_2)
def p_times_rows : VS := (vSeq (vIfS (vOrT (vB (vOp dEq (vPk 1) (vTup vNil))) (vB (vOp dEq (vPk 2) (vTup vNil)))) (vRet (vTup vNil)) vNext) p_times_rows_1)
theorem v_times_rows (ds : List D) (G : Gs) (Qd : D → Gs → Prop) (Ed : EK) (h : s_times_rows ds G Qd Ed) : ds.length = 3 ∧ p_times_rows Ed (ends0 Qd) (startL ["base", "one", "other", "found", "at", "figure", "late", "item"] ds) G := by
  obtain ⟨p, hp, x, y, rfl, h1, h2, q⟩ := h
  refine ⟨rfl, ?_⟩
  show p_times_rows Ed (ends0 Qd) [.val (.int p), .val (R x), .val (R y), .no, .no, .no, .no, .no] G
  have p2 := Bs.two p
  have p5 := Bs.five p
  unfold p_times_rows
  walk_at "v"
  refine ⟨smallN (by simp), dEq_row (b := []) ?_⟩
  by_cases hx : x = 0
  · rw [decide_eq_true (rowL_nil.mpr hx)]
    have : x * y = 0 := by rw [hx]; grind
    rw [this, R_zero] at q
    exact ⟨smallN (by simp), q⟩
  rw [decide_eq_false fun h => hx (rowL_nil.mp h)]
  refine ⟨smallN (by simp), dEq_row (b := []) ?_⟩
  by_cases hy : y = 0
  · rw [decide_eq_true (rowL_nil.mpr hy)]
    have : x * y = 0 := by rw [hy]; grind
    rw [this, R_zero] at q
    exact ⟨smallN (by simp), q⟩
  rw [decide_eq_false fun h => hy (rowL_nil.mp h)]
  show p_times_rows_1 _ _ _ _
  unfold p_times_rows_1 p_times_rows_2
  walk_at "v"
  have lx := len_pos hx
  have ly := len_pos hy
  generalize hl : rowL x = l
  generalize ho : rowL y = o
  have ell : l.length = x.len := by rw [← hl]; exact rowL_length x
  have elo : o.length = y.len := by rw [← ho]; exact rowL_length y
  rw [show (List.map D.int l).length = l.length from List.length_map .., show (List.map D.int o).length = o.length from List.length_map ..]
  rw [show ((l.length : Int) + (o.length : Int) - 1).toNat = l.length + o.length - 1 by omega, List.flatten_replicate_singleton]
  refine ⟨smallN (by simp), ⟨by omega, by omega, smallN (by simp; omega)⟩, ?_⟩
  have hsm : ∀ a ∈ l, a.natAbs < 2 ^ 64 := fun a ha => by
    rw [← hl] at ha
    have := rowL_range x a ha
    omega
  have hq : ∀ f : List Int, f = timF o 0 l (List.replicate (l.length + o.length - 1) 0) → Qd (rowD (trimI (f.map fun x => x % (p : Int)))) G := fun f h => by
    rw [h, trim_aux, polL_tim l o _ (by simp; omega), polL_zeros, ← hl, ← ho, polL_rowL, polL_rowL]
    have : (0 : Pol p) + x * y = x * y := by grind
    rw [this]
    exact q
  rw [show R x = rowD l from congrArg rowD hl, show R y = rowD o from congrArg rowD ho]
  refine forV_ind (fun rem L G' => ∃ (dn rs f : List Int) (w z : Option (D × D)), rem = enumD dn.length (iL rs) ∧ G' = G ∧ L = [.val (.int p), .val (rowD l), .val (rowD o), .own (.lst (iL f)), (opt2 w).1, (opt2 w).2, (opt2 z).1, (opt2 z).2] ∧ l = dn ++ rs ∧ f.length = l.length + o.length - 1 ∧ timF o dn.length rs f = timF o 0 l (List.replicate (l.length + o.length - 1) 0)) ⟨[], l, List.replicate (l.length + o.length - 1) 0, none, none, rfl, rfl, by simp [opt2], rfl, by simp, rfl⟩ ?_ ?_
  · rintro L G' ⟨dn, rs, f, w, z, g1, rfl, rfl, g4, g5, g6⟩
    have : rs = [] := by
      cases rs with
      | nil => rfl
      | cons => exact nomatch g1
    subst this
    have q1 := hq f g6
    rcases w with _ | ⟨x1, x2⟩ <;> rcases z with _ | ⟨p1, p2⟩ <;> simp only [opt2, unlL] <;> unfold p_times_rows_3 <;> walk_at "v"
    all_goals
      refine compV_ints (fun _ => true) (fun x => x % (p : Int)) (smallN (by omega)) ?_ ?_
      · intro x _ acc N n1 n2 n3
        walk_at "v"
        exact ⟨by omega, n3, n1 rfl⟩
      · rw [List.filter_eq_self.mpr (fun _ _ => rfl)]
        exact ⟨_, _, rfl, .inl rfl, q1⟩
  · rintro d ds L G' N ⟨dn, rs, f, w, z, g1, rfl, rfl, g4, g5, g6⟩ hN
    cases rs with
    | nil => exact nomatch g1
    | cons a rs =>
      have g1' : d = .tup [.int (dn.length : Nat), .int a] ∧ ds = enumD (dn.length + 1) (iL rs) := List.cons.inj g1
      obtain ⟨rfl, rfl⟩ := g1'
      have hlen : l.length = dn.length + (rs.length + 1) := by rw [g4, List.length_append, List.length_cons]
      have ha := hsm a (by rw [g4]; simp)
      have skip : ∀ (z : Option (D × D)), a = 0 → N [.val (.int p), .val (rowD l), .val (rowD o), .own (.lst (iL f)), .val (.int (dn.length : Nat)), .val (.int a), (opt2 z).1, (opt2 z).2] G' := fun z h0 =>
        hN _ _ ⟨dn ++ [a], rs, f, some (.int (dn.length : Nat), .int a), z, by rw [List.length_append]; rfl, rfl, rfl, by rw [g4, List.append_assoc]; rfl, g5, by rw [← g6, timF, h0, rowAt_zero o dn.length f (by omega), List.length_append]; rfl⟩
      have inner : ∀ (z : Option (D × D)) (E2 : VEnds), E2.nx = N → forV (vgTup 2 (vgCons (vgName 6) (vgCons (vgName 7) vgNil))) (vSetIx 3 (eN (nOp dAddN (vPk 4) (vPk 6))) (eN (nOp dAddN (vOp dIx (vPk 3) (eN (nOp dAddN (vPk 4) (vPk 6)))) (eN (nOp dMulN (vPk 5) (vPk 7)))))) [] Ed E2 (enumD 0 (iL o)) [.val (.int p), .val (rowD l), .val (rowD o), .own (.lst (iL f)), .val (.int (dn.length : Nat)), .val (.int a), (opt2 z).1, (opt2 z).2] G' := by
        intro z E2 hE2
        refine forV_ind (fun rem L G2 => ∃ (en es f2 : List Int) (z : Option (D × D)), rem = enumD en.length (iL es) ∧ G2 = G' ∧ L = [.val (.int p), .val (rowD l), .val (rowD o), .own (.lst (iL f2)), .val (.int (dn.length : Nat)), .val (.int a), (opt2 z).1, (opt2 z).2] ∧ o = en ++ es ∧ f2.length = l.length + o.length - 1 ∧ rowAt a (dn.length + en.length) es f2 = rowAt a dn.length o f) ⟨[], o, f, z, rfl, rfl, rfl, rfl, g5, rfl⟩ ?_ ?_
        · rintro L G2 ⟨en, es, f2, z, k1, rfl, rfl, k4, k5, k6⟩
          have : es = [] := by
            cases es with
            | nil => rfl
            | cons => exact nomatch k1
          subst this
          rw [hE2]
          have k6' : f2 = rowAt a dn.length o f := k6
          exact hN _ _ ⟨dn ++ [a], rs, f2, some (.int (dn.length : Nat), .int a), z, by rw [List.length_append]; rfl, rfl, rfl, by rw [g4, List.append_assoc]; rfl, k5, by rw [← g6, timF, k6', List.length_append]; rfl⟩
        · rintro d ds L G2 N2 ⟨en, es, f2, z, k1, rfl, rfl, k4, k5, k6⟩ hN2
          cases es with
          | nil => exact nomatch k1
          | cons y' es =>
            have k1' : d = .tup [.int (en.length : Nat), .int y'] ∧ ds = enumD (en.length + 1) (iL es) := List.cons.inj k1
            obtain ⟨rfl, rfl⟩ := k1'
            have hlo : o.length = en.length + (es.length + 1) := by rw [k4, List.length_append, List.length_cons]
            have hin2 : dn.length + en.length < f2.length := by omega
            have hat2 : atI (iL f2) ((dn.length : Int) + (en.length : Int)) = some (.int (f2.getD (dn.length + en.length) 0)) := by
              rw [← Int.natCast_add, atI_cast (by rw [List.length_map]; exact hin2), List.getD_eq_getElem?_getD, List.getElem?_map, List.getElem?_eq_getElem hin2]
              rfl
            have hix2 : ixN (iL f2).length ((dn.length : Int) + (en.length : Int)) = some (dn.length + en.length) := by
              rw [← Int.natCast_add]
              exact ixN_cast (by rw [List.length_map]; exact hin2)
            have e := hN2 [.val (.int p), .val (rowD l), .val (rowD o), .own (.lst (iL (f2.set (dn.length + en.length) (f2.getD (dn.length + en.length) 0 + a * y')))), .val (.int (dn.length : Nat)), .val (.int a), .val (.int (en.length : Nat)), .val (.int y')] G2 ⟨en ++ [y'], es, f2.set (dn.length + en.length) (f2.getD (dn.length + en.length) 0 + a * y'), some (.int (en.length : Nat), .int y'), by rw [List.length_append]; rfl, rfl, rfl, by rw [k4, List.append_assoc]; rfl, by rw [List.length_set]; exact k5, by rw [← k6, rowAt, List.length_append]; rfl⟩
            rw [iL, List.map_set] at e
            rcases z with _ | ⟨p1, p2⟩ <;> (simp only [opt2]; walk_at "v"; refine ⟨rfl, _, hat2, mul_smallL ha, dn.length + en.length, hix2, e⟩)
      rcases w with _ | ⟨x1, x2⟩ <;> rcases z with _ | ⟨p1, p2⟩ <;> simp only [opt2] <;> walk_at "v"
      all_goals
        refine ⟨rfl, ?_⟩
        show match !decide (a = 0) with
          | true => _
          | false => _
        by_cases h0 : a = 0
        · rw [decide_eq_true h0]
          first | exact skip none h0 | exact skip (some (_, _)) h0
        · rw [decide_eq_false h0]
          first | exact inner none _ rfl | exact inner (some (_, _)) _ rfl
end SP
set_option Elab.async false
set_option autoImplicit false
set_option linter.all false
set_option maxRecDepth 100000
set_option maxHeartbeats 2000000
namespace SP
open PySem PySem.Spec PyProof.Rows L2 VL PO
local macro_rules | `(tactic| walk_at "v") => `(tactic| simp only [vSeq, vNext, vVar, vPk, vC, vOp, vB, vSet, vPar, vApp, vShare, vRet, vRetN, vDrop, vIfS, vSetIx, ownLst, setL, setAll, slotN, xN, xNil, nE, nF, eN, nOp, nSl, nRev, nIf, vNo, vPart, vNil, vCons, vTup, vLst, vCall, vDef, vNeg, vChain, vAnd, vOr, vNot, vAndT, vOrT, vNotT, vIf, vRaise, vBrk, vCnt, vUnp, vgName, vgNil, vgCons, vgTup, vqVar, vqVal, viRng1, viRng2, viRng3, viEnum, vYes, lockL, lock1, unlL, unl1, wipeV, vComp, vFor, vTru, vIsTy, vOwn, vExt, vPop, vDrwW, vDrwC, vDrwN, vPutW, vPutN, vDct, vpNil, vpCons, vDGet, vDGet2, vDIn, dAdd, dSub, dMul, dMod, dDiv, dPow, dCmp, dLt, dLe, dGt, dGe, dAddN, dMulN, dIx, dLen, dInt, dTupOf, dLstOf, dMax2, dMin2, dIs, dIsN, dRepr, vDefK, permD, hideL, List.map_cons, List.map_nil, viZip, vqVarK, vqValK, lockL, lock1, unlL, unl1, seqD, List.set_cons_zero, List.set_cons_succ, List.getElem?_cons_zero, List.getElem?_cons_succ, List.getElem?_nil, List.set_nil])
/-! ### division of rows -/
def s_divided_rows : SpD := fun ds G Q _ => ∃ (p : Nat) (_ : Bs p) (x y : Pol p), ds = [.int p, R x, R y] ∧ y ≠ 0 ∧ x.len ≤ 100000 ∧ y.len ≤ 100000 ∧ Q (.tup [R (x / y), R (x % y)]) G
theorem offL_zero (b : Int) : ∀ (g : List Int) (k : Nat) (r : List Int), k + g.length ≤ r.length → (∀ a ∈ r, 0 ≤ a ∧ a < b) → offL b 0 k g r = r
  | [], _, _, _, _ => rfl
  | y :: g, k, r, h, hr => by
    rw [List.length_cons] at h
    have hk : k < r.length := by omega
    have e : r.set k ((r.getD k 0 - 0 * y) % b) = r := by
      rw [Int.zero_mul, Int.sub_zero, List.getD_eq_getElem?_getD, List.getElem?_eq_getElem hk]
      have := hr r[k] (List.getElem_mem hk)
      rw [Option.getD_some, Int.emod_eq_of_lt this.1 this.2]
      exact List.set_getElem_self _
    rw [offL, e, offL_zero b g (k + 1) r (by omega) hr]
theorem set_rng {b : Int} (hb : 0 < b) (l : List Int) (k : Nat) (z : Int) (hl : ∀ a ∈ l, 0 ≤ a ∧ a < b) : ∀ a ∈ l.set k (z % b), 0 ≤ a ∧ a < b := fun a ha => by
  rcases List.mem_or_eq_of_mem_set ha with h | h
  · exact hl a h
  · rw [h]; exact ⟨Int.emod_nonneg _ (by omega), Int.emod_lt_of_pos _ hb⟩
theorem off_rng {b : Int} (hb : 0 < b) : ∀ (g : List Int) (t : Int) (k : Nat) (r : List Int), (∀ a ∈ r, 0 ≤ a ∧ a < b) → ∀ a ∈ offL b t k g r, 0 ≤ a ∧ a < b
  | [], _, _, _, h => h
  | x :: g, t, k, r, h => by rw [offL]; exact off_rng hb g t _ _ (set_rng hb _ _ _ h)
def p_divided_rows_3 : VS := (vShare 4 (vShare 3 (vRet (vTup (vCons (vDef s_trimmed (vCons (vVar 4) vNil)) (vCons (vDef s_trimmed (vCons (vVar 3) vNil)) vNil))))))
def p_divided_rows_2 : VS := (vSeq (vFor (viRng3 (vCons (vOp dSub (vCall dLen (vCons (vPk 4) vNil)) (vC (.int 1))) (vCons (vNeg (vC (.int 1))) (vCons (vNeg (vC (.int 1))) vNil)))) (vgName 6) (vSeq (vSet 7 (nE (vOp dMod (eN (nOp dMulN (vOp dIx (vPk 3) (vOp dSub (eN (nOp dAddN (vPk 6) (vCall dLen (vCons (vPk 2) vNil)))) (vC (.int 1)))) (vPk 5))) (vPk 0)))) (vSeq (vSetIx 4 (vPk 6) (vVar 7)) (vIfS (vB (vOp dNe (vPk 7) (vC (.int 0)))) (vFor (viEnum (vqVar 2)) (vgTup 2 (vgCons (vgName 8) (vgCons (vgName 9) vgNil))) (vSetIx 3 (eN (nOp dAddN (vPk 6) (vPk 8))) (vOp dMod (vOp dSub (vOp dIx (vPk 3) (eN (nOp dAddN (vPk 6) (vPk 8)))) (eN (nOp dMulN (vPk 7) (vPk 9)))) (vPk 0)))) vNext)))) p_divided_rows_3)
def p_divided_rows_1 : VS := (vSeq (vSet 5 (nE (vOp dIx (vComp (viRng2 (vCons (vC (.int 1)) (vCons (vVar 0) vNil))) (vgName 8) [8] (vB (vOp dEq (vOp dMod (eN (nOp dMulN (vPk 8) (vOp dIx (vPk 2) (vNeg (vC (.int 1)))))) (vPk 0)) (vC (.int 1)))) (vVar 8)) (vC (.int 0))))) p_divided_rows_2)
def p_divided_rows : VS := (vSeq (vPar [3, 4] (xN (nF (vCall dLstOf (vCons (vPk 1) vNil))) (xN (nOp dMulN (vLst (vCons (vC (.int 0)) vNil)) (vCall dMax2 (vCons (vC (.int 0)) (vCons (eN (nOp dAddN (vOp dSub (vCall dLen (vCons (vPk 1) vNil)) (vCall dLen (vCons (vPk 2) vNil))) (vC (.int 1)))) vNil)))) xNil))) p_divided_rows_1)
theorem v_divided_rows (ds : List D) (G : Gs) (Qd : D → Gs → Prop) (Ed : EK) (h : s_divided_rows ds G Qd Ed) : ds.length = 3 ∧ p_divided_rows Ed (ends0 Qd) (startL ["base", "one", "other", "left", "found", "scale", "at", "figure", "late", "item"] ds) G := by
  obtain ⟨b, hp, x, y, rfl, hy, hl, hg, q⟩ := h
  refine ⟨rfl, ?_⟩
  have hb : IsBase b := hp.h
  have ly := rowL_length y
  have lx := rowL_length x
  obtain ⟨s, e, h0, hab, h3⟩ := digs_last hy
  rw [show R (x / y) = rowD (divL b (invN b y.lead.val) (rowL x) (rowL y)).1 by rw [divL_pol hy], show R (x % y) = rowD (divL b (invN b y.lead.val) (rowL x) (rowL y)).2 by rw [divL_pol hy]] at q
  have ey : rowL y = cR s ++ [((y.lead.val : Nat) : Int)] := by unfold rowL; rw [e]; simp
  have xr := rowL_range x
  show p_divided_rows Ed (ends0 Qd) [.val (.int b), .val (rowD (rowL x)), .val (rowD (rowL y)), .no, .no, .no, .no, .no, .no, .no] G
  rw [ey] at q ly ⊢
  generalize cR s = g at q ly ⊢
  generalize rowL x = l at q lx xr ⊢
  generalize y.lead.val = a at q ly h0 hab ⊢
  rw [← lx] at hl
  rw [← ly] at hg
  have hlast : atI (iL (g ++ [(a : Int)])) (-1) = some (.int a) := by
    rw [iL, List.map_append]
    exact atI_last
  have hb2 := base_log hb
  have hi := invN_lt hb h0 hab
  unfold p_divided_rows p_divided_rows_1 p_divided_rows_2
  walk_at "v"
  have eg : (List.map D.int (g ++ [(a : Int)])).length = g.length + 1 := by simp
  have ew : (if ((List.map D.int l).length : Int) - ((List.map D.int (g ++ [(a : Int)])).length : Int) + 1 > 0 then ((List.map D.int l).length : Int) - ((List.map D.int (g ++ [(a : Int)])).length : Int) + 1 else 0) = ((l.length + 1 - (g.length + 1) : Nat) : Int) := by
    rw [eg, List.length_map]
    split <;> omega
  rw [ew]
  generalize hw : l.length + 1 - (g.length + 1) = w
  have hw1 : w ≤ 100000 := by omega
  rw [Int.toNat_natCast, List.flatten_replicate_singleton]
  refine ⟨smallN (by simp), ⟨by omega, by omega, smallN (by simp; omega)⟩, ⟨by omega, by omega⟩, ⟨by omega, by omega⟩, ?_⟩
  rw [rangeD_up]
  refine compV_ints (fun x => decide (x * a % b = 1)) id (Nat.le_of_lt (Nat.lt_of_le_of_lt (show _ ≤ 1000000 by simp [upL]; omega) lineN_big)) ?_ ?_
  · intro x _ acc N h1 h2 h3
    walk_at "v"
    refine ⟨.int a, hlast, mul_small (by omega), by omega, ?_⟩
    show match decide (x * (a : Int) % (b : Int) = 1) with
      | true => _
      | false => _
    cases e : decide (x * (a : Int) % (b : Int) = 1) with
    | true => exact ⟨h3, h1 e⟩
    | false => exact h2 e
  · refine ⟨_, inv_at hb h0 hab, ?_⟩
    rw [List.length_replicate]
    refine ⟨⟨by omega, by omega⟩, ⟨by omega, by omega⟩, ?_⟩
    rw [show ((w : Int) - 1 - -1).toNat = w by omega, rangeD_down]
    generalize hg' : g ++ [(a : Int)] = gg at *
    have egg : gg.length = g.length + 1 := by rw [← hg']; simp
    generalize hv : invN b a = v at *
    have hq : ∀ r qq : List Int, (qq, r) = divF b v gg w l (List.replicate w 0) → Qd (.tup [rowD (trimI qq), rowD (trimI r)]) G := by
      intro r qq e
      have e2 : divL b v l gg = (trimI qq, trimI r) := by
        unfold divL
        rw [egg, hw, ← e]
      rw [e2] at q
      exact q
    refine forV_ind (fun rem L G' => ∃ (n : Nat) (r qq : List Int) (o p : Option (D × D)), rem = iL (downL n) ∧ L = [.val (.int b), .val (rowD l), .val (rowD gg), .own (.lst (iL r)), .own (.lst (iL qq)), .val (.int v), (opt2 o).1, (opt2 o).2, (opt2 p).1, (opt2 p).2] ∧ G' = G ∧ r.length = l.length ∧ qq.length = w ∧ n ≤ w ∧ (∀ a ∈ r, 0 ≤ a ∧ a < (b : Int)) ∧ divF b v gg n r qq = divF b v gg w l (List.replicate w 0)) ⟨w, l, List.replicate w 0, none, none, rfl, by simp [opt2], rfl, rfl, by simp, Nat.le_refl w, xr, rfl⟩ ?_ ?_
    · rintro L G' ⟨n, r, qq, o, p, h1, rfl, rfl, hr, hqq, hn, hrr, hd⟩
      have : n = 0 := by
        cases n with
        | zero => rfl
        | succ => exact nomatch h1
      subst this
      have q' := hq r qq hd
      rcases o with _ | ⟨o1, o2⟩ <;> rcases p with _ | ⟨p1, p2⟩ <;> (simp only [opt2, unlL]; unfold p_divided_rows_3; walk_at "v"; refine ⟨_, _, rfl, .inl rfl, _, _, rfl, .inl rfl, smallN (by simp), q'⟩)
    · rintro d ds L G' N ⟨n, r, qq, o, p, h1, rfl, rfl, hr, hqq, hn, hrr, hd⟩ hN
      cases n with
      | zero => exact nomatch h1
      | succ n =>
        have h1' : d = .int n ∧ ds = iL (downL n) := List.cons.inj h1
        obtain ⟨rfl, rfl⟩ := h1'
        have hin : n + g.length < r.length := by omega
        have hat : atI (iL r) ((n : Int) + ((List.map D.int gg).length : Int) - 1) = some (.int (r.getD (n + gg.length - 1) 0)) := by
          rw [List.length_map, egg, show (n : Int) + ((g.length + 1 : Nat) : Int) - 1 = ((n + g.length : Nat) : Int) by omega, atI_cast (by rw [List.length_map]; exact hin), show n + (g.length + 1) - 1 = n + g.length by omega, List.getD_eq_getElem?_getD]
          rw [List.getElem?_map, List.getElem?_eq_getElem hin]
          rfl
        generalize ht : r.getD (n + gg.length - 1) 0 = t0 at *
        have hd2 : divF b v gg n (offL b (t0 * v % b) n gg r) (qq.set n (t0 * v % b)) = divF b v gg w l (List.replicate w 0) := by
          rw [← hd, divF, ht]
        have hix : ixN (iL qq).length (n : Int) = some n := ixN_cast (by rw [List.length_map]; omega)
        have ht5 : (t0 * v % b).natAbs < 6 := by
          have := Int.emod_nonneg (t0 * v) (show (b : Int) ≠ 0 by omega)
          have := Int.emod_lt_of_pos (t0 * v) (show (0 : Int) < b by omega)
          omega
        have inner : ∀ (p : Option (D × D)) (E2 : VEnds), E2.nx = N → forV (vgTup 2 (vgCons (vgName 8) (vgCons (vgName 9) vgNil))) (vSetIx 3 (eN (nOp dAddN (vPk 6) (vPk 8))) (vOp dMod (vOp dSub (vOp dIx (vPk 3) (eN (nOp dAddN (vPk 6) (vPk 8)))) (eN (nOp dMulN (vPk 7) (vPk 9)))) (vPk 0))) [] Ed E2 (enumD 0 (iL gg)) [.val (.int b), .val (rowD l), .val (rowD gg), .own (.lst (iL r)), .own (.lst ((iL qq).set n (.int (t0 * v % b)))), .val (.int v), .val (.int n), .val (.int (t0 * v % b)), (opt2 p).1, (opt2 p).2] G' := by
          intro p E2 hE2
          refine forV_ind (fun rem L G2 => ∃ (dn rs r2 : List Int) (p : Option (D × D)), rem = enumD dn.length (iL rs) ∧ L = [.val (.int b), .val (rowD l), .val (rowD gg), .own (.lst (iL r2)), .own (.lst ((iL qq).set n (.int (t0 * v % b)))), .val (.int v), .val (.int n), .val (.int (t0 * v % b)), (opt2 p).1, (opt2 p).2] ∧ G2 = G' ∧ gg = dn ++ rs ∧ r2.length = l.length ∧ offL b (t0 * v % b) (n + dn.length) rs r2 = offL b (t0 * v % b) n gg r) ⟨[], gg, r, p, rfl, rfl, rfl, rfl, hr, rfl⟩ ?_ ?_
          · rintro L G2 ⟨dn, rs, r2, p, h1, rfl, rfl, h4, h5, h6⟩
            have : rs = [] := by
              cases rs with
              | nil => rfl
              | cons => exact nomatch h1
            subst this
            rw [hE2]
            have h6' : r2 = offL b (t0 * v % b) n gg r := h6
            refine hN _ _ ⟨n, r2, qq.set n (t0 * v % b), some (.int n, .int (t0 * v % b)), p, rfl, ?_, rfl, h5, by rw [List.length_set]; exact hqq, by omega, by rw [h6']; exact off_rng (by omega) _ _ _ _ hrr, by rw [h6']; exact hd2⟩
            simp [unlL, opt2, iL]
          · rintro d ds L G2 N2 ⟨dn, rs, r2, p, h1, rfl, rfl, h4, h5, h6⟩ hN2
            cases rs with
            | nil => exact nomatch h1
            | cons x rs =>
              have h1' : d = .tup [.int (dn.length : Nat), .int x] ∧ ds = enumD (dn.length + 1) (iL rs) := List.cons.inj h1
              obtain ⟨rfl, rfl⟩ := h1'
              have hlen : gg.length = dn.length + (rs.length + 1) := by rw [h4, List.length_append, List.length_cons]
              have hin2 : n + dn.length < r2.length := by omega
              have hat2 : atI (iL r2) ((n : Int) + (dn.length : Int)) = some (.int (r2.getD (n + dn.length) 0)) := by
                rw [← Int.natCast_add, atI_cast (by rw [List.length_map]; exact hin2), List.getD_eq_getElem?_getD, List.getElem?_map, List.getElem?_eq_getElem hin2]
                rfl
              have hix2 : ixN (iL r2).length ((n : Int) + (dn.length : Int)) = some (n + dn.length) := by
                rw [← Int.natCast_add]
                exact ixN_cast (by rw [List.length_map]; exact hin2)
              have e := hN2 [.val (.int b), .val (rowD l), .val (rowD gg), .own (.lst (iL (r2.set (n + dn.length) ((r2.getD (n + dn.length) 0 - t0 * v % b * x) % b)))), .own (.lst ((iL qq).set n (.int (t0 * v % b)))), .val (.int v), .val (.int n), .val (.int (t0 * v % b)), .val (.int (dn.length : Nat)), .val (.int x)] G2 ⟨dn ++ [x], rs, r2.set (n + dn.length) ((r2.getD (n + dn.length) 0 - t0 * v % b * x) % b), some (.int (dn.length : Nat), .int x), by rw [List.length_append]; rfl, rfl, rfl, by rw [h4, List.append_assoc]; rfl, by rw [List.length_set]; exact h5, by rw [← h6, offL, List.length_append]; rfl⟩
              rw [iL, List.map_set] at e
              rcases p with _ | ⟨p1, p2⟩ <;> (simp only [opt2]; walk_at "v"; refine ⟨rfl, _, hat2, mul_smallL (by omega), by omega, n + dn.length, hix2, e⟩)
        have skip : ∀ (p : Option (D × D)), t0 * v % b = 0 → N [.val (.int b), .val (rowD l), .val (rowD gg), .own (.lst (iL r)), .own (.lst ((iL qq).set n (.int (t0 * v % b)))), .val (.int v), .val (.int n), .val (.int (t0 * v % b)), (opt2 p).1, (opt2 p).2] G' := by
          intro p hz
          refine hN _ _ ⟨n, r, qq.set n (t0 * v % b), some (.int n, .int (t0 * v % b)), p, rfl, ?_, rfl, hr, by rw [List.length_set]; exact hqq, by omega, hrr, ?_⟩
          · simp [opt2, iL]
          · rw [← hd2]
            congr 1
            rw [hz]
            exact (offL_zero b gg n r (by omega) hrr).symm
        rcases o with _ | ⟨o1, o2⟩ <;> rcases p with _ | ⟨p1, p2⟩ <;> (simp only [opt2]; walk_at "v"; refine ⟨_, hat, mul_small (by omega), by omega, n, hix, ?_⟩)
        all_goals
          show match !decide (t0 * v % b = 0) with
            | true => _
            | false => _
          by_cases hz : t0 * v % b = 0
          · rw [decide_eq_true hz]
            first | exact skip none hz | exact skip (some (_, _)) hz
          · rw [decide_eq_false hz]
            first | exact inner none _ rfl | exact inner (some (_, _)) _ rfl
end SP
set_option Elab.async false
set_option autoImplicit false
set_option linter.all false
set_option maxRecDepth 100000
set_option maxHeartbeats 2000000
namespace SP
open PySem PySem.Spec PyProof.Rows L2 VL PO
local macro_rules | `(tactic| walk_at "v") => `(tactic| simp only [vSeq, vNext, vVar, vPk, vC, vOp, vB, vSet, vPar, vApp, vShare, vRet, vRetN, vDrop, vIfS, vSetIx, ownLst, setL, setAll, slotN, xN, xNil, nE, nF, eN, nOp, nSl, nRev, nIf, vNo, vPart, vNil, vCons, vTup, vLst, vCall, vDef, vNeg, vChain, vAnd, vOr, vNot, vAndT, vOrT, vNotT, vIf, vRaise, vBrk, vCnt, vUnp, vgName, vgNil, vgCons, vgTup, vqVar, vqVal, viRng1, viRng2, viRng3, viEnum, vYes, lockL, lock1, unlL, unl1, wipeV, vComp, vFor, vTru, vIsTy, vOwn, vExt, vPop, vDrwW, vDrwC, vDrwN, vPutW, vPutN, vDct, vpNil, vpCons, vDGet, vDGet2, vDIn, dAdd, dSub, dMul, dMod, dDiv, dPow, dCmp, dLt, dLe, dGt, dGe, dAddN, dMulN, dIx, dLen, dInt, dTupOf, dLstOf, dMax2, dMin2, dIs, dIsN, dRepr, vDefK, permD, hideL, List.map_cons, List.map_nil, viZip, vqVarK, vqValK, lockL, lock1, unlL, unl1, seqD, List.set_cons_zero, List.set_cons_succ, List.getElem?_cons_zero, List.getElem?_cons_succ, List.getElem?_nil, List.set_nil])
/-! ### the program's functions: what they ask of their parameters, in sequence -/
def firstBad (p : Nat) : List (Str × (Nat → D → Bool)) → List D → Option Str
  | (c, k) :: cks, d :: ds => if k p d then firstBad p cks ds else some c
  | _, _ => none
def tyOk (d : D) : Bool := (tyOfD d).isSome
theorem tyOk_of {d : D} (h : tyOk d = true) : ∃ t, tyOfD d = some t := Option.isSome_iff_exists.mp h
theorem tyOk_mk {d : D} (h : ∃ t, tyOfD d = some t) : tyOk d = true := Option.isSome_iff_exists.mpr h
theorem firstBad_ok {p : Nat} {c : Str} {k : Nat → D → Bool} {cks : List (Str × (Nat → D → Bool))} {d : D} {ds : List D} (h : k p d = true) : firstBad p ((c, k) :: cks) (d :: ds) = firstBad p cks ds := by
  rw [firstBad, if_pos h]
theorem firstBad_bad {p : Nat} {c : Str} {k : Nat → D → Bool} {cks : List (Str × (Nat → D → Bool))} {d : D} {ds : List D} (h : k p d = false) : firstBad p ((c, k) :: cks) (d :: ds) = some c := by
  rw [firstBad, if_neg (by rw [h]; exact Bool.false_ne_true)]
theorem firstBad_nil {p : Nat} {ds : List D} : firstBad p [] ds = none := by
  cases ds <;> rfl
abbrev OkS := (p : Nat) → Bs p → List D → Gs → (D → Gs → Prop) → EK → Prop
def pubG (cks : List (Str × (Nat → D → Bool))) (ok : OkS) : SpD := fun ds G Q E => ∃ db ds', ds = db :: ds' ∧ ds'.length = cks.length ∧ tyOk db = true ∧ ds'.all tyOk = true ∧ (baseOk db = false → E ⟨"BadBase", none⟩ G) ∧ ∀ (p : Nat) (hp : Bs p), db = .int p → match firstBad p cks ds' with
  | some c => E ⟨c, none⟩ G
  | none => ok p hp ds' G Q E
section
variable {cks : List (Str × (Nat → D → Bool))} {ok : OkS} {G : Gs} {Q : D → Gs → Prop} {E : EK} {ds : List D}
theorem u_B {db : D} (h : baseOk db = false) (t : tyOk db = true) (hl : ds.length = cks.length) (t2 : ds.all tyOk = true) (q : E ⟨"BadBase", none⟩ G) : pubG cks ok (db :: ds) G Q E :=
  ⟨db, ds, rfl, hl, t, t2, fun _ => q, fun p hp e => by subst e; rw [baseOk_p] at h; cases h⟩
theorem u_E {p : Nat} [hp : Bs p] {c : Str} (h : firstBad p cks ds = some c) (hl : ds.length = cks.length) (t2 : ds.all tyOk = true) (q : E ⟨c, none⟩ G) : pubG cks ok (.int p :: ds) G Q E :=
  ⟨.int p, ds, rfl, hl, rfl, t2, fun h => (by rw [baseOk_p] at h; cases h), fun p' hp' e => by
    have e : (p : Int) = p' := D.int.inj e
    have e : p = p' := by omega
    subst e
    rw [h]
    exact q⟩
theorem u_K {p : Nat} [hp : Bs p] (h : firstBad p cks ds = none) (hl : ds.length = cks.length) (t2 : ds.all tyOk = true) (q : ok p hp ds G Q E) : pubG cks ok (.int p :: ds) G Q E :=
  ⟨.int p, ds, rfl, hl, rfl, t2, fun h => (by rw [baseOk_p] at h; cases h), fun p' hp' e => by
    have e : (p : Int) = p' := D.int.inj e
    have e : p = p' := by omega
    subst e
    rw [h]
    exact q⟩
end
theorem baseOk_bs {d : D} (h : baseOk d = true) : ∃ (p : Nat) (_ : Bs p), d = .int p := by
  obtain ⟨b, e, hb⟩ := baseOk_of h
  exact ⟨b, ⟨hb⟩, e⟩
theorem inR_nat {lo hi : Nat} {d : D} (h : inR lo hi d = true) : ∃ n : Nat, d = .int n ∧ lo ≤ n ∧ n ≤ hi := by
  obtain ⟨i, e, h1, h2⟩ := inR_of h
  exact ⟨i.toNat, by rw [e]; congr 1; omega, by omega, by omega⟩
/-- a number from lo to a million -/
def isN (lo : Nat) (_ : Nat) (d : D) : Bool := inR lo 1000000 d
theorem isN_of {lo p : Nat} {d : D} (h : isN lo p d = true) : ∃ n : Nat, d = .int n ∧ lo ≤ n ∧ n ≤ 1000000 := inR_nat h
theorem isN_nat {lo p n : Nat} (h1 : lo ≤ n) (h2 : n ≤ 1000000) : isN lo p (.int n) = true := inR_true (by omega) (by omega)
/-- the length of a number to a million -/
theorem len_20 {p : Nat} [Bs p] {x : Pol p} (h : x.n ≤ 1000000) : x.len ≤ 20 := len_small (by omega)
section
variable {p : Nat} [hp : Bs p] {G : Gs} {Q : D → Gs → Prop} {E : EK}
theorem u_plus {x y : Pol p} (h1 : x.len ≤ 100000) (h2 : y.len ≤ 100000) (q : Q (R (x + y)) G) : s_plus_rows [.int p, R x, R y] G Q E := ⟨p, hp, x, y, rfl, h1, h2, q⟩
theorem u_minus {x y : Pol p} (h1 : x.len ≤ 100000) (h2 : y.len ≤ 100000) (q : Q (R (x - y)) G) : s_minus_rows [.int p, R x, R y] G Q E := ⟨p, hp, x, y, rfl, h1, h2, q⟩
theorem u_lplus {x y : Pol p} (h1 : x.len ≤ 100000) (h2 : y.len ≤ 100000) (q : Q (R (x + y)) G) : s__law_plus [.int p, R x, R y] G Q E := ⟨p, hp, x, y, rfl, h1, h2, q⟩
theorem u_lless {x y : Pol p} (h1 : x.len ≤ 100000) (h2 : y.len ≤ 100000) (q : Q (R (x - y)) G) : s__law_less [.int p, R x, R y] G Q E := ⟨p, hp, x, y, rfl, h1, h2, q⟩
theorem u_ptimes {x y : Pol p} (h1 : x.len ≤ 100000) (h2 : y.len ≤ 100000) (q : Q (R (x * y)) G) : s_times_rows [.int p, R x, R y] G Q E := ⟨p, hp, x, y, rfl, h1, h2, q⟩
theorem u_pdivided {x y : Pol p} (hy : y ≠ 0) (h1 : x.len ≤ 100000) (h2 : y.len ≤ 100000) (q : Q (.tup [R (x / y), R (x % y)]) G) : s_divided_rows [.int p, R x, R y] G Q E := ⟨p, hp, x, y, rfl, hy, h1, h2, q⟩
end
/-! ### sums, products of numbers -/
def two : List (Str × (Nat → D → Bool)) := [("BadOne", isN 0), ("BadOther", isN 0)]
def s_need_two : SpD := pubG two fun _ _ _ G Q _ => Q .non G
def p_need_two_2 : VS := (vDrop (vDef s_need_as (vCons (vVar 2) (vCons (vC (.str "other")) (vCons (vC (.int 0)) vNil)))))
def p_need_two_1 : VS := (vSeq (vDrop (vDef s_need_as (vCons (vVar 1) (vCons (vC (.str "one")) (vCons (vC (.int 0)) vNil))))) p_need_two_2)
def p_need_two : VS := (vSeq (vDrop (vDef s_need_base (vCons (vVar 0) vNil))) p_need_two_1)
theorem v_need_two (ds : List D) (G : Gs) (Qd : D → Gs → Prop) (Ed : EK) (h : s_need_two ds G Qd Ed) : ds.length = 3 ∧ p_need_two Ed (ends0 Qd) (startL ["base", "one", "other"] ds) G := by
  obtain ⟨db, ds', rfl, hl, t, t2, e1, q⟩ := h
  obtain ⟨d1, d2, rfl⟩ : ∃ d1 d2, ds' = [d1, d2] := match ds', hl with | [d1, d2], _ => ⟨d1, d2, rfl⟩
  refine ⟨rfl, ?_⟩
  show p_need_two Ed (ends0 Qd) [.val db, .val d1, .val d2] G
  rw [List.all_cons, List.all_cons, Bool.and_eq_true, Bool.and_eq_true] at t2
  obtain ⟨t, ht⟩ := tyOk_of t
  obtain ⟨u1, h1⟩ := tyOk_of t2.1
  obtain ⟨u2, h2⟩ := tyOk_of t2.2.1
  unfold p_need_two p_need_two_1 p_need_two_2
  walk_at "v"
  refine ⟨db, t, rfl, ht, fun ok => ?_, e1⟩
  obtain ⟨p, hp, rfl⟩ := baseOk_bs ok
  have q := q p hp rfl
  unfold two at q
  refine ⟨d1, u1, _, _, rfl, h1, fun ok1 => ?_, fun bad => ?_⟩
  · rw [firstBad_ok (show isN 0 p d1 = true from ok1)] at q
    refine ⟨d2, u2, _, _, rfl, h2, fun ok2 => ?_, fun bad => ?_⟩
    · rw [firstBad_ok (show isN 0 p d2 = true from ok2), firstBad_nil] at q
      exact q
    · rw [firstBad_bad (show isN 0 p d2 = false from bad)] at q
      exact q
  · rw [firstBad_bad (show isN 0 p d1 = false from bad)] at q
    exact q
theorem two_none {p : Nat} {ds : List D} (hl : ds.length = two.length) (h : firstBad p two ds = none) : ∃ m n : Nat, ds = [.int m, .int n] ∧ m ≤ 1000000 ∧ n ≤ 1000000 := by
  obtain ⟨d1, d2, rfl⟩ : ∃ d1 d2, ds = [d1, d2] := match ds, hl with | [d1, d2], _ => ⟨d1, d2, rfl⟩
  unfold two at h
  cases h1 : isN 0 p d1 with
  | false => rw [firstBad_bad h1] at h; cases h
  | true =>
    rw [firstBad_ok h1] at h
    cases h2 : isN 0 p d2 with
    | false => rw [firstBad_bad h2] at h; cases h
    | true =>
      obtain ⟨m, rfl, _, hm⟩ := isN_of h1
      obtain ⟨n, rfl, _, hn⟩ := isN_of h2
      exact ⟨m, n, rfl, hm, hn⟩
theorem two_ok {p m n : Nat} (hm : m ≤ 1000000) (hn : n ≤ 1000000) : firstBad p two [.int m, .int n] = none := by
  unfold two
  rw [firstBad_ok (isN_nat (Nat.zero_le _) hm), firstBad_ok (isN_nat (Nat.zero_le _) hn), firstBad_nil]
def okN2 (f : (p : Nat) → Bs p → Pol p → Pol p → Nat) : OkS := fun p hp ds G Q _ => match ds with
  | [.int m, .int n] => Q (.int (f p hp ⟨m.toNat⟩ ⟨n.toNat⟩ : Nat)) G
  | _ => False
def s_sum_of : SpD := pubG two (okN2 fun _ _ x y => (x + y).n)
def s_less_of : SpD := pubG two (okN2 fun _ _ x y => (x - y).n)
def s_product_of : SpD := pubG two (okN2 fun _ _ x y => (x * y).n)
def s_quotient_of : SpD := pubG two fun p _ ds G Q E => match ds with
  | [.int m, .int n] => if n = 0 then E ⟨"BadOther", none⟩ G else Q (.tup [.int (((⟨m.toNat⟩ : Pol p) / ⟨n.toNat⟩).n : Nat), .int (((⟨m.toNat⟩ : Pol p) % ⟨n.toNat⟩).n : Nat)]) G
  | _ => False
def p_sum_of_1 : VS := (vRet (vDef s_number_by (vCons (vVar 0) (vCons (vDef s_plus_rows (vCons (vVar 0) (vCons (vDef s_row_of (vCons (vVar 0) (vCons (vVar 1) vNil))) (vCons (vDef s_row_of (vCons (vVar 0) (vCons (vVar 2) vNil))) vNil)))) vNil))))
def p_sum_of : VS := (vSeq (vDrop (vDef s_need_two (vCons (vVar 0) (vCons (vVar 1) (vCons (vVar 2) vNil))))) p_sum_of_1)
theorem v_sum_of (ds : List D) (G : Gs) (Qd : D → Gs → Prop) (Ed : EK) (h : s_sum_of ds G Qd Ed) : ds.length = 3 ∧ p_sum_of Ed (ends0 Qd) (startL ["base", "one", "other"] ds) G := by
  obtain ⟨db, ds', rfl, hl, t, t2, e1, q⟩ := h
  obtain ⟨d1, d2, rfl⟩ : ∃ d1 d2, ds' = [d1, d2] := match ds', hl with | [d1, d2], _ => ⟨d1, d2, rfl⟩
  refine ⟨rfl, ?_⟩
  show p_sum_of Ed (ends0 Qd) [.val db, .val d1, .val d2] G
  unfold p_sum_of p_sum_of_1
  walk_at "v"
  refine ⟨db, [d1, d2], rfl, rfl, t, t2, e1, fun p hp e => ?_⟩
  replace q := q p hp e
  cases hf : firstBad p two [d1, d2] with
  | some c => rw [hf] at q; exact q
  | none =>
    rw [hf] at q
    obtain ⟨m, n, e2, hm, hn⟩ := two_none rfl hf
    cases e2
    subst e
    have lm : (⟨m⟩ : Pol p).len ≤ 20 := len_20 hm
    have ln : (⟨n⟩ : Pol p).len ≤ 20 := len_20 hn
    exact u_row_of (by omega) (u_row_of (by omega) (u_plus (by omega) (by omega) (u_worth q)))
def p_less_of_1 : VS := (vRet (vDef s_number_by (vCons (vVar 0) (vCons (vDef s_minus_rows (vCons (vVar 0) (vCons (vDef s_row_of (vCons (vVar 0) (vCons (vVar 1) vNil))) (vCons (vDef s_row_of (vCons (vVar 0) (vCons (vVar 2) vNil))) vNil)))) vNil))))
def p_less_of : VS := (vSeq (vDrop (vDef s_need_two (vCons (vVar 0) (vCons (vVar 1) (vCons (vVar 2) vNil))))) p_less_of_1)
theorem v_less_of (ds : List D) (G : Gs) (Qd : D → Gs → Prop) (Ed : EK) (h : s_less_of ds G Qd Ed) : ds.length = 3 ∧ p_less_of Ed (ends0 Qd) (startL ["base", "one", "other"] ds) G := by
  obtain ⟨db, ds', rfl, hl, t, t2, e1, q⟩ := h
  obtain ⟨d1, d2, rfl⟩ : ∃ d1 d2, ds' = [d1, d2] := match ds', hl with | [d1, d2], _ => ⟨d1, d2, rfl⟩
  refine ⟨rfl, ?_⟩
  show p_less_of Ed (ends0 Qd) [.val db, .val d1, .val d2] G
  unfold p_less_of p_less_of_1
  walk_at "v"
  refine ⟨db, [d1, d2], rfl, rfl, t, t2, e1, fun p hp e => ?_⟩
  replace q := q p hp e
  cases hf : firstBad p two [d1, d2] with
  | some c => rw [hf] at q; exact q
  | none =>
    rw [hf] at q
    obtain ⟨m, n, e2, hm, hn⟩ := two_none rfl hf
    cases e2
    subst e
    have lm : (⟨m⟩ : Pol p).len ≤ 20 := len_20 hm
    have ln : (⟨n⟩ : Pol p).len ≤ 20 := len_20 hn
    exact u_row_of (by omega) (u_row_of (by omega) (u_minus (by omega) (by omega) (u_worth q)))
def p_product_of_1 : VS := (vRet (vDef s_number_by (vCons (vVar 0) (vCons (vDef s_times_rows (vCons (vVar 0) (vCons (vDef s_row_of (vCons (vVar 0) (vCons (vVar 1) vNil))) (vCons (vDef s_row_of (vCons (vVar 0) (vCons (vVar 2) vNil))) vNil)))) vNil))))
def p_product_of : VS := (vSeq (vDrop (vDef s_need_two (vCons (vVar 0) (vCons (vVar 1) (vCons (vVar 2) vNil))))) p_product_of_1)
theorem v_product_of (ds : List D) (G : Gs) (Qd : D → Gs → Prop) (Ed : EK) (h : s_product_of ds G Qd Ed) : ds.length = 3 ∧ p_product_of Ed (ends0 Qd) (startL ["base", "one", "other"] ds) G := by
  obtain ⟨db, ds', rfl, hl, t, t2, e1, q⟩ := h
  obtain ⟨d1, d2, rfl⟩ : ∃ d1 d2, ds' = [d1, d2] := match ds', hl with | [d1, d2], _ => ⟨d1, d2, rfl⟩
  refine ⟨rfl, ?_⟩
  show p_product_of Ed (ends0 Qd) [.val db, .val d1, .val d2] G
  unfold p_product_of p_product_of_1
  walk_at "v"
  refine ⟨db, [d1, d2], rfl, rfl, t, t2, e1, fun p hp e => ?_⟩
  replace q := q p hp e
  cases hf : firstBad p two [d1, d2] with
  | some c => rw [hf] at q; exact q
  | none =>
    rw [hf] at q
    obtain ⟨m, n, e2, hm, hn⟩ := two_none rfl hf
    cases e2
    subst e
    have lm : (⟨m⟩ : Pol p).len ≤ 20 := len_20 hm
    have ln : (⟨n⟩ : Pol p).len ≤ 20 := len_20 hn
    exact u_row_of (by omega) (u_row_of (by omega) (u_ptimes (by omega) (by omega) (u_worth q)))
theorem ne_of_n {p : Nat} [Bs p] {n : Nat} (h : n ≠ 0) : (⟨n⟩ : Pol p) ≠ 0 := fun e => h (congrArg Pol.n e)
def p_quotient_of_3 : VS := (vRet (vTup (vCons (vDef s_number_by (vCons (vVar 0) (vCons (vVar 3) vNil))) (vCons (vDef s_number_by (vCons (vVar 0) (vCons (vVar 4) vNil))) vNil))))
def p_quotient_of_2 : VS := (vSeq (vUnp (vgTup 2 (vgCons (vgName 3) (vgCons (vgName 4) vgNil))) (vDef s_divided_rows (vCons (vVar 0) (vCons (vDef s_row_of (vCons (vVar 0) (vCons (vVar 1) vNil))) (vCons (vDef s_row_of (vCons (vVar 0) (vCons (vVar 2) vNil))) vNil))))) p_quotient_of_3)
def p_quotient_of_1 : VS := (vSeq (vIfS (vB (vOp dEq (vPk 2) (vC (.int 0)))) (vRaise ⟨"BadOther", none⟩) vNext) p_quotient_of_2)
def p_quotient_of : VS := (vSeq (vDrop (vDef s_need_two (vCons (vVar 0) (vCons (vVar 1) (vCons (vVar 2) vNil))))) p_quotient_of_1)
theorem v_quotient_of (ds : List D) (G : Gs) (Qd : D → Gs → Prop) (Ed : EK) (h : s_quotient_of ds G Qd Ed) : ds.length = 3 ∧ p_quotient_of Ed (ends0 Qd) (startL ["base", "one", "other", "quotient", "rest"] ds) G := by
  obtain ⟨db, ds', rfl, hl, t, t2, e1, q⟩ := h
  obtain ⟨d1, d2, rfl⟩ : ∃ d1 d2, ds' = [d1, d2] := match ds', hl with | [d1, d2], _ => ⟨d1, d2, rfl⟩
  refine ⟨rfl, ?_⟩
  show p_quotient_of Ed (ends0 Qd) [.val db, .val d1, .val d2, .no, .no] G
  unfold p_quotient_of
  walk_at "v"
  refine ⟨db, [d1, d2], rfl, rfl, t, t2, e1, fun p hp e => ?_⟩
  replace q := q p hp e
  cases hf : firstBad p two [d1, d2] with
  | some c => rw [hf] at q; exact q
  | none =>
    rw [hf] at q
    obtain ⟨m, n, e2, hm, hn⟩ := two_none rfl hf
    cases e2
    subst e
    have lm : (⟨m⟩ : Pol p).len ≤ 20 := len_20 hm
    have ln : (⟨n⟩ : Pol p).len ≤ 20 := len_20 hn
    show p_quotient_of_1 _ _ _ _
    unfold p_quotient_of_1
    walk_at "v"
    show match decide ((n : Int) = 0) with
      | true => _
      | false => _
    have q : if (n : Int) = 0 then Ed ⟨"BadOther", none⟩ G else Qd (.tup [.int (((⟨m⟩ : Pol p) / ⟨n⟩).n : Nat), .int (((⟨m⟩ : Pol p) % ⟨n⟩).n : Nat)]) G := q
    by_cases h0 : (n : Int) = 0
    · rw [decide_eq_true h0]
      rw [if_pos h0] at q
      exact q
    · rw [decide_eq_false h0]
      rw [if_neg h0] at q
      show p_quotient_of_2 _ _ _ _
      unfold p_quotient_of_2 p_quotient_of_3
      walk_at "v"
      refine u_row_of (by omega) (u_row_of (by omega) (u_pdivided (ne_of_n (by omega)) (by omega) (by omega) ?_))
      exact ⟨rfl, u_worth (u_worth ⟨smallN (by simp), q⟩)⟩
section
variable {p : Nat} [hp : Bs p] {G : Gs} {Q : D → Gs → Prop} {E : EK}
theorem all2 (m n : Int) : [D.int m, D.int n].all tyOk = true := rfl
theorem u_sum {m n : Nat} (hm : m ≤ 1000000) (hn : n ≤ 1000000) (q : Q (.int (((⟨m⟩ : Pol p) + ⟨n⟩).n : Nat)) G) : s_sum_of [.int p, .int m, .int n] G Q E := u_K (two_ok hm hn) rfl rfl q
theorem u_less {m n : Nat} (hm : m ≤ 1000000) (hn : n ≤ 1000000) (q : Q (.int (((⟨m⟩ : Pol p) - ⟨n⟩).n : Nat)) G) : s_less_of [.int p, .int m, .int n] G Q E := u_K (two_ok hm hn) rfl rfl q
theorem u_product {m n : Nat} (hm : m ≤ 1000000) (hn : n ≤ 1000000) (q : Q (.int (((⟨m⟩ : Pol p) * ⟨n⟩).n : Nat)) G) : s_product_of [.int p, .int m, .int n] G Q E := u_K (two_ok hm hn) rfl rfl q
theorem u_quotient {m n : Nat} (hm : m ≤ 1000000) (hn : n ≤ 1000000) (h0 : n ≠ 0) (q : Q (.tup [.int (((⟨m⟩ : Pol p) / ⟨n⟩).n : Nat), .int (((⟨m⟩ : Pol p) % ⟨n⟩).n : Nat)]) G) : s_quotient_of [.int p, .int m, .int n] G Q E := u_K (two_ok hm hn) rfl rfl (by
  show if (n : Int) = 0 then _ else _
  rw [if_neg (by omega)]
  exact q)
theorem two_bad1 {d1 d2 : D} (h : inR 0 1000000 d1 = false) : firstBad p two [d1, d2] = some "BadOne" := firstBad_bad h
theorem two_bad2 {n : Nat} {d2 : D} (hn : n ≤ 1000000) (h : inR 0 1000000 d2 = false) : firstBad p two [.int n, d2] = some "BadOther" := by
  unfold two
  rw [firstBad_ok (isN_nat (Nat.zero_le _) hn)]
  exact firstBad_bad h
end
end SP
set_option Elab.async false
set_option autoImplicit false
set_option linter.all false
set_option maxRecDepth 100000
set_option maxHeartbeats 2000000
namespace SP
open PySem PySem.Spec PyProof.Rows L2 VL PO
local macro_rules | `(tactic| walk_at "v") => `(tactic| simp only [vSeq, vNext, vVar, vPk, vC, vOp, vB, vSet, vPar, vApp, vShare, vRet, vRetN, vDrop, vIfS, vSetIx, ownLst, setL, setAll, slotN, xN, xNil, nE, nF, eN, nOp, nSl, nRev, nIf, vNo, vPart, vNil, vCons, vTup, vLst, vCall, vDef, vNeg, vChain, vAnd, vOr, vNot, vAndT, vOrT, vNotT, vIf, vRaise, vBrk, vCnt, vUnp, vgName, vgNil, vgCons, vgTup, vqVar, vqVal, viRng1, viRng2, viRng3, viEnum, vYes, lockL, lock1, unlL, unl1, wipeV, vComp, vFor, vTru, vIsTy, vOwn, vExt, vPop, vDrwW, vDrwC, vDrwN, vPutW, vPutN, vDct, vpNil, vpCons, vDGet, vDGet2, vDIn, dAdd, dSub, dMul, dMod, dDiv, dPow, dCmp, dLt, dLe, dGt, dGe, dAddN, dMulN, dIx, dLen, dInt, dTupOf, dLstOf, dMax2, dMin2, dIs, dIsN, dRepr, vDefK, permD, hideL, List.map_cons, List.map_nil, viZip, vqVarK, vqValK, lockL, lock1, unlL, unl1, seqD, List.set_cons_zero, List.set_cons_succ, List.getElem?_cons_zero, List.getElem?_cons_succ, List.getElem?_nil, List.set_nil])
/-! ### the laws' own shapes -/
def sRight : SpD := fun ds G Q _ => ds = [.draw] ∧ GOk G ∧ ∀ G', GOk G' → Q (.bl true) G'
abbrev vLap (a c : Int) (rest : VS) : VS := vSeq (vFor (viRng1 (vCons (eN (nOp dAddN (vC (.int a)) (vCall dMin2 (vCons (vCall dLen (vCons (vPk 0) vNil)) (vCons (vC (.int c)) vNil))))) vNil)) (vgName 2) (vIfS (vNotT (vB (vDef sRight (vCons (vVar 1) vNil)))) (vRet (vC (.bl false))) vNext)) rest
theorem law_loop {a c : Int} {rest : VS} {ns : List Int} {n : Nat} {G : Gs} (h1 : ns.length ≤ 63) (ha : 0 ≤ a ∧ a ≤ 1000) (hc : 0 ≤ c ∧ c ≤ 1000) (hG : GOk G)
    (fin : ∀ (s2 : Option D) (G : Gs), GOk G → rest Ev0 lawEnds (.val (.scr ns) :: .val .draw :: optS s2 :: List.replicate n .no) G) :
    vLap a c rest Ev0 lawEnds (.val (.scr ns) :: .val .draw :: .no :: List.replicate n .no) G := by
  unfold vLap
  walk_at "v"
  refine ⟨⟨by split <;> omega, by split <;> omega⟩, ?_⟩
  refine forV_ind (fun rem L G' => ∃ s2 : Option D, GOk G' ∧ L = .val (.scr ns) :: .val .draw :: optS s2 :: List.replicate n .no) ⟨none, hG, rfl⟩ ?_ ?_
  · rintro L G' ⟨s2, g, rfl⟩
    exact fin s2 G' g
  · rintro d ds L G' N ⟨s2, g, rfl⟩ hN
    cases s2 <;> (simp only [optS]; walk_at "v"; exact ⟨rfl, g, fun G'' g' => hN _ _ ⟨some d, g', rfl⟩⟩)
section
variable {G : Gs} {Q : D → Gs → Prop} {E : EK}
theorem u_base (hG : GOk G) (q : ∀ (p : Nat) (_ : Bs p) (G' : Gs), GOk G' → Q (.int p) G') : s__law_base [.draw] G Q E := ⟨rfl, hG, fun b hb G' g => q b ⟨hb⟩ G' g⟩
theorem u_take {n : Nat} (h : 1 ≤ n) (h2 : n ≤ 1125899906842624) (hG : GOk G) (q : ∀ (r : Nat) (G' : Gs), r < n → GOk G' → Q (.int r) G') : s__law_take [.draw, .int n] G Q E :=
  ⟨n, rfl, by omega, hG, fun r G' g a b => by
    have hr : 0 ≤ r ∧ r < n := by
      by_cases h : (n : Int) < 2
      · have := a h; omega
      · exact b (by omega)
    have := q r.toNat G' (by omega) g
    rw [Int.toNat_of_nonneg hr.1] at this
    exact this⟩
theorem u_any {p : Nat} [hp : Bs p] (hG : GOk G) (q : ∀ (r : Nat) (G' : Gs), r ≤ 1000000 → GOk G' → Q (.int r) G') : s__law_any [.draw, .int p] G Q E := ⟨p, rfl, hp.h, hG, fun r G' g h => q r G' h g⟩
theorem u_bad (hG : GOk G) (q : ∀ (d : D) (G' : Gs), baseOk d = false → tyOk d = true → GOk G' → Q d G') : s__law_no_base [.draw] G Q E := ⟨rfl, hG, fun d hd G' g => q d G' (noBase_bad d hd).1 (tyOk_mk (noBase_bad d hd).2) g⟩
theorem u_odd {lo hi : Int} (h1 : -1000000000000000000000000000000 < lo) (h2 : hi < 1000000000000000000000000000000) (h3 : lo ≤ hi) (hG : GOk G) (q : ∀ (d : D) (G' : Gs), inR lo hi d = false → tyOk d = true → GOk G' → Q d G') : s__law_number [.draw, .int lo, .int hi] G Q E := ⟨lo, hi, rfl, hG, fun d hd G' g => q d G' (numL_bad h1 h2 h3 d hd).1 (tyOk_mk (numL_bad h1 h2 h3 d hd).2) g⟩
theorem u_pick {items : List D} (h : items ≠ []) (h2 : items.length ≤ 1000) (hG : GOk G) (q : ∀ (d : D) (G' : Gs), d ∈ items → GOk G' → Q d G') : s__law_pick [.draw, .lst items] G Q E := ⟨items, rfl, h, by omega, hG, fun d hd G' g => q d G' hd g⟩
theorem ten6 : (10 : Int) ^ (6 : Int).toNat = 1000000 := by decide
theorem ne_int {i j : Int} {k : D → Prop} (h : i = j) (q : k (.bl false)) : dNe (.int i) (.int j) k := by
  show k (.bl (!decide (i = j)))
  rw [decide_eq_true h]
  exact q
theorem eq_int {i j : Int} {k : D → Prop} (h : i = j) (q : k (.bl true)) : dEq (.int i) (.int j) k := by
  show k (.bl (decide (i = j)))
  rw [decide_eq_true h]
  exact q
theorem allTrue {n : Nat} {k : D → Prop} (q : k (.bl true)) : dEq (.lst (List.replicate n (.bl true))) (.lst (List.replicate n (.bl true))) k := by
  have h : ∀ n, plainL (List.replicate n (D.bl true)) = true ∧ depL (List.replicate n (D.bl true)) = 0 := by
    intro n
    induction n with
    | zero => exact ⟨rfl, rfl⟩
    | succ n ih => rw [List.replicate_succ, plainL, depL, ih.1, ih.2]; exact ⟨rfl, rfl⟩
  exact dEq_self ⟨by rw [plainD]; exact (h n).1, by rw [depD, (h n).2]; decide⟩ q
theorem u_row6 {p : Nat} [Bs p] {n : Nat} (h : n ≤ 1000000) (q : Q (R (⟨n⟩ : Pol p)) G) : s__law_row [.int p, .int n] G Q E := u_row (Nat.lt_of_le_of_lt (len_20 (x := (⟨n⟩ : Pol p)) h) (by decide)) q
end
section
variable {p : Nat} [Bs p]
theorem n_lt {x : Pol p} {k : Nat} (h : x.len ≤ k) : x.n < p ^ k := len_le.mp h
theorem pow_len {x : Pol p} (h : x ≠ 0) : p ^ x.len ≤ 5 * x.n := by
  have h1 := len_le (x := x) (k := x.len - 1)
  have h2 := len_pos h
  have h5 := Bs.five p
  have h3 : p ^ (x.len - 1) ≤ x.n := by omega
  have e : p ^ x.len = p ^ (x.len - 1) * p := by rw [← Nat.pow_succ]; congr 1; omega
  rw [e, Nat.mul_comm]
  exact Nat.mul_le_mul h5 h3
theorem zero_n {x : Pol p} : x = 0 ↔ x.n = 0 := ⟨fun h => by rw [h]; rfl, fun h => Pol.eq_of_n h⟩
theorem n_le_of_len {x y : Pol p} (h : x.len ≤ y.len) : x.n ≤ 5 * y.n := by
  by_cases hy : y = 0
  · rw [hy, len_zero] at h
    have : x = 0 := len_eq_zero.mp (by omega)
    rw [this]; exact Nat.zero_le _
  · exact Nat.le_trans (Nat.le_of_lt (n_lt h)) (pow_len hy)
theorem n_add_le (x y : Pol p) : (x + y).n ≤ 5 * (x.n + y.n) := by
  by_cases h : x.len ≤ y.len
  · have := n_le_of_len (x := x + y) (y := y) (len_add_le h (Nat.le_refl _))
    omega
  · have := n_le_of_len (x := x + y) (y := x) (len_add_le (Nat.le_refl _) (by omega))
    omega
theorem n_sub_le (x y : Pol p) : (x - y).n ≤ 5 * (x.n + y.n) := by
  by_cases h : x.len ≤ y.len
  · have := n_le_of_len (x := x - y) (y := y) (len_sub_le h (Nat.le_refl _))
    omega
  · have := n_le_of_len (x := x - y) (y := x) (len_sub_le (Nat.le_refl _) (by omega))
    omega
theorem n_mul_le (x y : Pol p) : (x * y).n ≤ 5 * (x.n * y.n) := by
  by_cases hx : x = 0
  · have : x * y = 0 := by rw [hx]; grind
    rw [this]; exact Nat.zero_le _
  · by_cases hy : y = 0
    · have : x * y = 0 := by rw [hy]; grind
      rw [this]; exact Nat.zero_le _
    · have l := len_mul hx hy
      have h1 := len_pos hx
      have h2 := len_pos hy
      have h5 := Bs.five p
      have a1 := len_le (x := x) (k := x.len - 1)
      have a2 := len_le (x := y) (k := y.len - 1)
      have b1 : p ^ (x.len - 1) ≤ x.n := by omega
      have b2 : p ^ (y.len - 1) ≤ y.n := by omega
      have e : p ^ (x * y).len = p * (p ^ (x.len - 1) * p ^ (y.len - 1)) := by
        rw [← Nat.pow_add, Nat.mul_comm, ← Nat.pow_succ, l]
        congr 1
        omega
      have h3 := n_lt (x := x * y) (Nat.le_refl _)
      rw [e] at h3
      exact Nat.le_of_lt (Nat.lt_of_lt_of_le h3 (Nat.mul_le_mul h5 (Nat.mul_le_mul b1 b2)))
end
theorem u_caught {cls : Str} {figs : List Str} {m : VE} {L : Lo} {G : Gs} {Q : D → Gs → Prop} {E : EK} (hc : cls ∈ figs) (h : ∀ Qe : EK, (∀ G', GOk G' → Qe ⟨cls, none⟩ G') → m Qe (hideL L) G fun _ _ => False) (q : ∀ G', GOk G' → Q (.bl true) G') : vIsCls cls (vCaught figs m) E L G Q :=
  h (fun er G1 => er.cls ∈ figs ∧ ((er.cls = cls ∧ er.most = none) ∧ Q (.bl true) G1)) fun G' g => ⟨hc, ⟨rfl, rfl⟩, q G' g⟩
theorem smallT {n : Nat} (h : n + 1 ≤ 1000000) : n < lineN := Nat.lt_of_lt_of_le (Nat.lt_succ_self n) (smallN h)
end SP
set_option Elab.async false
set_option autoImplicit false
set_option linter.all false
namespace PO
section
variable {p : Nat} [Bs p]
/-! ### primes -/
structure Prm (P : Pol p) : Prop where
  mon : Monic P
  two : 2 ≤ P.len
  irr : ∀ a b, P = a * b → a.len = 1 ∨ b.len = 1
theorem Prm.ne {P : Pol p} (h : Prm P) : P ≠ 0 := h.mon.ne
theorem len_plain_one {d : Pol p} (hm : Monic d) (h : d.len = 1) : d = 1 := by
  obtain ⟨a, ha, rfl⟩ := len_one_iff.mp h
  have : (Cp a).lead = 1 := hm
  rw [lead_Cp ha] at this
  rw [this, one_eq]
theorem Prm.cop {P x : Pol p} (h : Prm P) (hx : ¬ P ∣ x) : Cop P x := by
  rw [cop_iff]
  have hm := gcd_monic (x := P) (y := x) (.inl h.ne)
  obtain ⟨c, hc⟩ := gcd_dl P x
  rcases h.irr _ _ hc with h1 | h1
  · exact len_plain_one hm h1
  · exfalso
    apply hx
    obtain ⟨d, hd⟩ := unit_of_len h1
    refine dvd_trans ⟨d, ?_⟩ (gcd_dr P x)
    have : P * d = gcd P x * (c * d) := by rw [show P * d = (gcd P x * c) * d by rw [← hc]]; grind
    rw [this, hd]; grind
theorem Prm.dvd_mul {P x y : Pol p} (h : Prm P) (hd : P ∣ x * y) : P ∣ x ∨ P ∣ y := by
  by_cases hx : P ∣ x
  · exact .inl hx
  · exact .inr ((h.cop hx).dvd_of_mul hd)
theorem Prm.dvd_pow {P x : Pol p} (h : Prm P) {k : Nat} (hd : P ∣ x ^ k) : P ∣ x := by
  induction k with
  | zero =>
    rw [Lean.Grind.Semiring.pow_zero] at hd
    have := len_dvd hd one_ne
    rw [len_one] at this
    have := h.two
    omega
  | succ k ih =>
    rw [Lean.Grind.Semiring.pow_succ] at hd
    rcases h.dvd_mul hd with h | h
    · exact ih h
    · exact h
theorem not_dvd_of_len {a b : Pol p} (h : b.len < a.len) (hb : b ≠ 0) : ¬ a ∣ b := fun hd => by
  have := len_dvd hd hb
  omega
theorem Prm.not_dvd_one {P : Pol p} (h : Prm P) : ¬ P ∣ 1 := not_dvd_of_len (by rw [len_one]; exact h.two) one_ne
theorem Prm.eq_of_dvd {P Q : Pol p} (h : Prm P) (hq : Prm Q) (hd : P ∣ Q) : P = Q := by
  obtain ⟨c, hc⟩ := hd
  rcases hq.irr _ _ hc with h1 | h1
  · have := h.two; omega
  · refine monic_dvd h.mon hq.mon ⟨c, hc⟩ ?_
    have hc0 : c ≠ 0 := fun e => hq.ne (by rw [hc, e]; grind)
    rw [hc, len_mul h.ne hc0]
    omega
theorem Prm.cop_prm {P Q : Pol p} (h : Prm P) (hq : Prm Q) (hn : P ≠ Q) : Cop P Q := h.cop fun hd => hn (h.eq_of_dvd hq hd)
theorem exists_prm : ∀ (n : Nat) (x : Pol p), x.len ≤ n → 2 ≤ x.len → ∃ P, Prm P ∧ P ∣ x
  | 0, x, h, h2 => by omega
  | n + 1, x, h, h2 => by
    have hx : x ≠ 0 := fun e => by rw [e, len_zero] at h2; omega
    by_cases hi : ∀ a b, plain x = a * b → a.len = 1 ∨ b.len = 1
    · exact ⟨plain x, ⟨plain_monic hx, by rw [plain_len]; exact h2, hi⟩, plain_dvd x⟩
    · have : ∃ a b, plain x = a * b ∧ a.len ≠ 1 ∧ b.len ≠ 1 := by
        refine Classical.byContradiction fun hn => hi fun a b e => ?_
        by_cases ha : a.len = 1
        · exact .inl ha
        · by_cases hb : b.len = 1
          · exact .inr hb
          · exact (hn ⟨a, b, e, ha, hb⟩).elim
      obtain ⟨a, b, e, ha, hb⟩ := this
      have hp := plain_len (x := x)
      have ha0 : a ≠ 0 := fun z => (plain_monic hx).ne (by rw [e, z]; grind)
      have hb0 : b ≠ 0 := fun z => (plain_monic hx).ne (by rw [e, z]; grind)
      rw [e, len_mul ha0 hb0] at hp
      have := len_pos ha0
      have := len_pos hb0
      obtain ⟨P, hP, hd⟩ := exists_prm n a (by omega) (by omega)
      exact ⟨P, hP, dvd_trans (dvd_trans hd ⟨b, e⟩) (plain_dvd x)⟩
theorem prm_of_two {x : Pol p} (h : 2 ≤ x.len) : ∃ P, Prm P ∧ P ∣ x := exists_prm _ x (Nat.le_refl _) h
theorem prm_len_two {P : Pol p} (hm : Monic P) (h : P.len = 2) : Prm P := ⟨hm, by omega, fun a b e => by
  have ha0 : a ≠ 0 := fun z => hm.ne (by rw [e, z]; grind)
  have hb0 : b ≠ 0 := fun z => hm.ne (by rw [e, z]; grind)
  have := len_pos ha0
  have := len_pos hb0
  rw [e, len_mul ha0 hb0] at h
  omega⟩
/-! ### how often a number divides another one -/
def vF : Nat → Pol p → Pol p → Nat
  | 0, _, _ => 0
  | k + 1, P, x => if x % P = 0 then vF k P (x / P) + 1 else 0
/-- how often P divides x, for P of two figures and more, x not 0 -/
def vP (P x : Pol p) : Nat := vF x.len P x
theorem vF_ok {P : Pol p} (hP : 2 ≤ P.len) : ∀ (k : Nat) (x : Pol p), x ≠ 0 → x.len ≤ k → P ^ (vF k P x) ∣ x ∧ ¬ P ^ (vF k P x + 1) ∣ x
  | 0, x, hx, h => (hx (len_eq_zero.mp (by omega))).elim
  | k + 1, x, hx, h => by
    have hP0 : P ≠ 0 := fun e => by rw [e, len_zero] at hP; omega
    rw [vF]
    by_cases hd : x % P = 0
    · rw [if_pos hd]
      have e := div_mul_of_dvd hP0 (mod_eq_zero.mp hd)
      have hq : x / P ≠ 0 := fun z => hx (by rw [← e, z]; grind)
      have hl : x.len = (x / P).len + P.len - 1 := by
        have := len_mul hq hP0
        rw [e] at this
        exact this
      have := len_pos hq
      obtain ⟨h1, h2⟩ := vF_ok hP k (x / P) hq (by omega)
      constructor
      · obtain ⟨c, hc⟩ := h1
        refine ⟨c, ?_⟩
        rw [Lean.Grind.Semiring.pow_succ]
        have : x = P * (P ^ vF k P (x / P) * c) := by rw [← hc]; grind
        grind
      · rintro ⟨c, hc⟩
        apply h2
        refine ⟨c, mul_cancel hP0 ?_⟩
        have : P * (x / P) = x := by rw [show P * (x / P) = x / P * P by grind, e]
        rw [this, hc, Lean.Grind.Semiring.pow_succ P (vF k P (x / P) + 1)]
        grind
    · rw [if_neg hd]
      constructor
      · rw [Lean.Grind.Semiring.pow_zero]; exact one_dvd x
      · intro h
        have : P ^ (0 + 1) = P := by grind
        rw [this] at h
        exact hd (mod_eq_zero.mpr h)
theorem vP_ok {P x : Pol p} (hP : 2 ≤ P.len) (hx : x ≠ 0) : P ^ (vP P x) ∣ x ∧ ¬ P ^ (vP P x + 1) ∣ x := vF_ok hP _ x hx (Nat.le_refl _)
theorem pow_dvd_pow (P : Pol p) {k n : Nat} (h : k ≤ n) : P ^ k ∣ P ^ n := by
  obtain ⟨d, rfl⟩ : ∃ d, n = k + d := ⟨n - k, by omega⟩
  exact ⟨P ^ d, by rw [Lean.Grind.Semiring.pow_add]⟩
theorem vP_eq {P x : Pol p} {k : Nat} (hP : 2 ≤ P.len) (hx : x ≠ 0) (h1 : P ^ k ∣ x) (h2 : ¬ P ^ (k + 1) ∣ x) : vP P x = k := by
  obtain ⟨a1, a2⟩ := vP_ok hP hx
  rcases Nat.lt_trichotomy (vP P x) k with h | h | h
  · exact (a2 (dvd_trans (pow_dvd_pow P h) h1)).elim
  · exact h
  · exact (h2 (dvd_trans (pow_dvd_pow P h) a1)).elim
theorem pow_dvd_iff {P x : Pol p} {k : Nat} (hP : 2 ≤ P.len) (hx : x ≠ 0) : P ^ k ∣ x ↔ k ≤ vP P x := by
  obtain ⟨a1, a2⟩ := vP_ok hP hx
  constructor
  · intro h
    refine Classical.byContradiction fun hn => a2 (dvd_trans (pow_dvd_pow P (show vP P x + 1 ≤ k by omega)) h)
  · intro h
    exact dvd_trans (pow_dvd_pow P h) a1
theorem vP_pos {P x : Pol p} (hP : 2 ≤ P.len) (hx : x ≠ 0) : 0 < vP P x ↔ P ∣ x := by
  have := pow_dvd_iff (k := 1) hP hx
  have e : P ^ 1 = P := by grind
  rw [e] at this
  rw [this]
  omega
theorem vP_zero {P x : Pol p} (hP : 2 ≤ P.len) (hx : x ≠ 0) (h : ¬ P ∣ x) : vP P x = 0 := by
  have := vP_pos hP hx
  refine Nat.eq_zero_of_not_pos fun hn => h (this.mp hn)
theorem vP_split {P x : Pol p} (hP : 2 ≤ P.len) (hx : x ≠ 0) : ∃ y, x = P ^ (vP P x) * y ∧ ¬ P ∣ y ∧ y ≠ 0 := by
  obtain ⟨a1, a2⟩ := vP_ok hP hx
  obtain ⟨y, hy⟩ := a1
  refine ⟨y, hy, ?_, fun e => hx (by rw [hy, e]; grind)⟩
  rintro ⟨c, hc⟩
  apply a2
  refine ⟨c, ?_⟩
  rw [Lean.Grind.Semiring.pow_succ]
  rw [hc] at hy
  grind
theorem pow_ne {P : Pol p} (hP : P ≠ 0) (k : Nat) : P ^ k ≠ 0 := (len_pow hP k).1
theorem vP_of_split {P y : Pol p} {k : Nat} (h : Prm P) (hy : ¬ P ∣ y) : vP P (P ^ k * y) = k := by
  have hy0 : y ≠ 0 := fun e => hy (by rw [e]; exact dvd_zero P)
  refine vP_eq h.two (mul_ne (pow_ne h.ne k) hy0) ⟨y, rfl⟩ ?_
  rintro ⟨c, hc⟩
  apply hy
  refine ⟨c, mul_cancel (pow_ne h.ne k) ?_⟩
  rw [hc, Lean.Grind.Semiring.pow_succ]
  grind
theorem vP_mul {P x y : Pol p} (h : Prm P) (hx : x ≠ 0) (hy : y ≠ 0) : vP P (x * y) = vP P x + vP P y := by
  obtain ⟨a, ha, na, _⟩ := vP_split h.two hx
  obtain ⟨b, hb, nb, _⟩ := vP_split h.two hy
  have e : x * y = P ^ (vP P x + vP P y) * (a * b) := by
    rw [Lean.Grind.Semiring.pow_add]
    conv => lhs; rw [ha, hb]
    grind
  rw [e]
  exact vP_of_split h fun hd => (h.dvd_mul hd).elim na nb
theorem vP_pow {P x : Pol p} (h : Prm P) (hx : x ≠ 0) (k : Nat) : vP P (x ^ k) = k * vP P x := by
  induction k with
  | zero =>
    rw [Lean.Grind.Semiring.pow_zero, Nat.zero_mul]
    exact vP_zero h.two one_ne h.not_dvd_one
  | succ k ih => rw [Lean.Grind.Semiring.pow_succ, vP_mul h (pow_ne hx k) hx, ih, Nat.add_mul, Nat.one_mul]
theorem vP_self {P : Pol p} (h : Prm P) : vP P P = 1 := by
  have := vP_of_split (k := 1) h h.not_dvd_one
  have e : P ^ 1 * 1 = P := by grind
  rw [e] at this
  exact this
theorem vP_le {P x y : Pol p} (h : Prm P) (hy : y ≠ 0) (hd : x ∣ y) : vP P x ≤ vP P y := by
  obtain ⟨c, rfl⟩ := hd
  have hx : x ≠ 0 := fun e => hy (by rw [e]; grind)
  have hc : c ≠ 0 := fun e => hy (by rw [e]; grind)
  rw [vP_mul h hx hc]
  omega
theorem vP_plain {P x : Pol p} (hP : 2 ≤ P.len) (hx : x ≠ 0) : vP P (plain x) = vP P x := by
  obtain ⟨a1, a2⟩ := vP_ok hP hx
  exact vP_eq hP (plain_monic hx).ne (dvd_trans a1 (dvd_plain x)) fun h => a2 (dvd_trans h (plain_dvd x))
/-- a number that no prime divides more often divides -/
theorem dvd_of_vP : ∀ (n : Nat) {x y : Pol p}, x.len ≤ n → x ≠ 0 → y ≠ 0 → (∀ P, Prm P → vP P x ≤ vP P y) → x ∣ y
  | 0, x, y, h, hx, _, _ => (hx (len_eq_zero.mp (by omega))).elim
  | n + 1, x, y, h, hx, hy, hv => by
    by_cases h2 : 2 ≤ x.len
    · obtain ⟨P, hP, c, hc⟩ := prm_of_two h2
      have hc0 : c ≠ 0 := fun e => hx (by rw [hc, e]; grind)
      have h1 : 0 < vP P x := (vP_pos hP.two hx).mpr ⟨c, hc⟩
      have h3 : 0 < vP P y := Nat.lt_of_lt_of_le h1 (hv P hP)
      obtain ⟨d, hd⟩ := (vP_pos hP.two hy).mp h3
      have hd0 : d ≠ 0 := fun e => hy (by rw [hd, e]; grind)
      have := len_mul hP.ne hc0
      rw [← hc] at this
      have l2 := hP.two
      have l3 := len_pos hc0
      have ih := dvd_of_vP n (x := c) (y := d) (by omega) hc0 hd0 fun Q hQ => by
        have := hv Q hQ
        rw [hc, hd, vP_mul hQ hP.ne hc0, vP_mul hQ hP.ne hd0] at this
        omega
      obtain ⟨e, he⟩ := ih
      exact ⟨e, by rw [hd, hc, he]; grind⟩
    · have h1 : x.len = 1 := by have := len_pos hx; omega
      obtain ⟨u, hu⟩ := unit_of_len h1
      exact ⟨u * y, by have : x * (u * y) = (x * u) * y := by grind
                       rw [this, hu]; grind⟩
theorem dvd_iff_vP {x y : Pol p} (hx : x ≠ 0) (hy : y ≠ 0) : x ∣ y ↔ ∀ P, Prm P → vP P x ≤ vP P y := ⟨fun h P hP => vP_le hP hy h, fun h => dvd_of_vP _ (Nat.le_refl _) hx hy h⟩
theorem eq_of_vP {x y : Pol p} (hx : Monic x) (hy : Monic y) (h : ∀ P, Prm P → vP P x = vP P y) : x = y :=
  dvd_antisymm hx hy ((dvd_iff_vP hx.ne hy.ne).mpr fun P hP => Nat.le_of_eq (h P hP)) ((dvd_iff_vP hy.ne hx.ne).mpr fun P hP => Nat.le_of_eq (h P hP).symm)
/-! ### factors -/
def prodF : List (Pol p × Nat) → Pol p
  | [] => 1
  | z :: L => z.1 ^ z.2 * prodF L
/-- the primes of x ascending, each with how often it divides -/
structure IsFac (x : Pol p) (L : List (Pol p × Nat)) : Prop where
  srt : L.Pairwise fun a b => a.1.n < b.1.n
  mem : ∀ z : Pol p × Nat, z ∈ L ↔ Prm z.1 ∧ z.1 ∣ x ∧ z.2 = vP z.1 x
theorem sorted_eq {L M : List (Pol p × Nat)} (h1 : L.Pairwise fun a b => a.1.n < b.1.n) (h2 : M.Pairwise fun a b => a.1.n < b.1.n) (h : ∀ z, z ∈ L ↔ z ∈ M) : L = M := by
  induction L generalizing M with
  | nil =>
    cases M with
    | nil => rfl
    | cons b M => exact absurd ((h b).mpr List.mem_cons_self) (by simp)
  | cons a L ih =>
    cases M with
    | nil => exact absurd ((h a).mp List.mem_cons_self) (by simp)
    | cons b M =>
      obtain ⟨a1, a2⟩ := List.pairwise_cons.mp h1
      obtain ⟨b1, b2⟩ := List.pairwise_cons.mp h2
      have e : a = b := by
        rcases List.mem_cons.mp ((h a).mp List.mem_cons_self) with h3 | h3
        · exact h3
        · rcases List.mem_cons.mp ((h b).mpr List.mem_cons_self) with h4 | h4
          · exact h4.symm
          · have := b1 a h3
            have := a1 b h4
            omega
      subst e
      congr 1
      refine ih a2 b2 fun z => ⟨fun hz => ?_, fun hz => ?_⟩
      · rcases List.mem_cons.mp ((h z).mp (List.mem_cons_of_mem _ hz)) with h3 | h3
        · have := a1 z hz; rw [h3] at this; omega
        · exact h3
      · rcases List.mem_cons.mp ((h z).mpr (List.mem_cons_of_mem _ hz)) with h3 | h3
        · have := b1 z hz; rw [h3] at this; omega
        · exact h3
theorem IsFac.unique {x : Pol p} {L M : List (Pol p × Nat)} (h1 : IsFac x L) (h2 : IsFac x M) : L = M := sorted_eq h1.srt h2.srt fun z => (h1.mem z).trans (h2.mem z).symm
theorem prodF_ne {L : List (Pol p × Nat)} (h : ∀ z ∈ L, Prm z.1) : prodF L ≠ 0 := by
  induction L with
  | nil => exact one_ne
  | cons a L ih => exact mul_ne (pow_ne (h a List.mem_cons_self).ne _) (ih fun z hz => h z (List.mem_cons_of_mem _ hz))
theorem prodF_monic {L : List (Pol p × Nat)} (h : ∀ z ∈ L, Prm z.1) : Monic (prodF L) := by
  induction L with
  | nil => exact monic_one
  | cons a L ih => exact ((h a List.mem_cons_self).mon.pow _).mul (ih fun z hz => h z (List.mem_cons_of_mem _ hz))
theorem vP_pow_other {P Q : Pol p} (hP : Prm P) (hQ : Prm Q) (h : P ≠ Q) (k : Nat) : vP P (Q ^ k) = 0 := by
  rw [vP_pow hP hQ.ne, vP_zero hP.two hQ.ne fun hd => h (hP.eq_of_dvd hQ hd), Nat.mul_zero]
theorem vP_prodF {P : Pol p} (hP : Prm P) {L : List (Pol p × Nat)} (hs : L.Pairwise fun a b => a.1.n < b.1.n) (h : ∀ z ∈ L, Prm z.1) : (∀ z ∈ L, z.1 = P → vP P (prodF L) = z.2) ∧ ((∀ z ∈ L, z.1 ≠ P) → vP P (prodF L) = 0) := by
  induction L with
  | nil => exact ⟨fun z hz => (by cases hz), fun _ => vP_zero hP.two one_ne hP.not_dvd_one⟩
  | cons a L ih =>
    obtain ⟨a1, a2⟩ := List.pairwise_cons.mp hs
    have hL : ∀ z ∈ L, Prm z.1 := fun z hz => h z (List.mem_cons_of_mem _ hz)
    have ha := h a List.mem_cons_self
    obtain ⟨i1, i2⟩ := ih a2 hL
    have e : vP P (prodF (a :: L)) = vP P (a.1 ^ a.2) + vP P (prodF L) := vP_mul hP (pow_ne ha.ne _) (prodF_ne hL)
    have e2 : vP P (a.1 ^ a.2) = if a.1 = P then a.2 else 0 := by
      split
      · rename_i h; rw [h, vP_pow hP hP.ne, vP_self hP, Nat.mul_one]
      · rename_i h; exact vP_pow_other hP ha (fun e => h e.symm) _
    constructor
    · intro z hz hzP
      rcases List.mem_cons.mp hz with h3 | h3
      · subst h3
        rw [e, e2, if_pos hzP, i2 fun w hw hwP => by have := a1 w hw; rw [hwP, hzP] at this; omega]
        omega
      · rw [e, e2, if_neg (fun e => by have := a1 z h3; rw [hzP, e] at this; omega), i1 z h3 hzP]
        omega
    · intro hn
      rw [e, e2, if_neg (hn a List.mem_cons_self), i2 fun z hz => hn z (List.mem_cons_of_mem _ hz)]
theorem IsFac.prod {x : Pol p} {L : List (Pol p × Nat)} (h : IsFac x L) (hx : x ≠ 0) : prodF L = plain x := by
  have hL : ∀ z ∈ L, Prm z.1 := fun z hz => ((h.mem z).mp hz).1
  refine eq_of_vP (prodF_monic hL) (plain_monic hx) fun P hP => ?_
  rw [vP_plain hP.two hx]
  obtain ⟨i1, i2⟩ := vP_prodF hP h.srt hL
  by_cases hd : P ∣ x
  · exact i1 (P, vP P x) ((h.mem _).mpr ⟨hP, hd, rfl⟩) rfl
  · rw [i2 fun z hz e => hd (by have := ((h.mem z).mp hz).2.1; rw [e] at this; exact this), vP_zero hP.two hx hd]
end
end PO
set_option Elab.async false
set_option autoImplicit false
set_option linter.all false
namespace PO
section
variable {p : Nat} [Bs p]
/-! ### codes and lengths -/
theorem n_lt_of_len {x y : Pol p} (h : x.len < y.len) : x.n < y.n := by
  have h1 := len_le (x := x) (k := x.len)
  have h2 := len_le (x := y) (k := x.len)
  omega
theorem len_of_code {x : Pol p} {s : Nat} (h1 : p ^ s ≤ x.n) (h2 : x.n < p ^ (s + 1)) : x.len = s + 1 := by
  have a1 := len_le (x := x) (k := s + 1)
  have a2 := len_le (x := x) (k := s)
  omega
theorem monic_code {x : Pol p} {s : Nat} (h1 : p ^ s ≤ x.n) (h2 : x.n < 2 * p ^ s) : Monic x ∧ x.len = s + 1 := by
  have p2 := Bs.two p
  have e : p ^ (s + 1) = p * p ^ s := by rw [Nat.pow_succ, Nat.mul_comm]
  have hl : x.len = s + 1 := len_of_code h1 (by rw [e]; exact Nat.lt_of_lt_of_le h2 (Nat.mul_le_mul_right _ p2))
  refine ⟨?_, hl⟩
  show x.c (x.len - 1) = 1
  rw [hl, Nat.add_sub_cancel]
  apply Fin.ext
  rw [fin_val_one]
  show x.n / p ^ s % p = 1
  have hp : 0 < p ^ s := Nat.pow_pos (by omega)
  have : x.n / p ^ s = 1 := by
    rw [Nat.div_eq_iff hp]
    omega
  rw [this, Nat.mod_eq_of_lt (by omega)]
theorem code_monic {x : Pol p} (h : Monic x) : p ^ (x.len - 1) ≤ x.n ∧ x.n < 2 * p ^ (x.len - 1) := by
  have h2 := Bs.two p
  have hl := len_pos h.ne
  have h1 : (x.lead).val = 1 := by rw [show x.lead = 1 from h, fin_val_one]
  have e : x.n / p ^ (x.len - 1) % p = 1 := h1
  have hlt : x.n < p ^ x.len := len_le.mp (Nat.le_refl _)
  have e3 : p ^ x.len = p ^ (x.len - 1) * p := by rw [← Nat.pow_succ]; congr 1; omega
  rw [e3] at hlt
  have hp : 0 < p ^ (x.len - 1) := Nat.pow_pos (by omega)
  have : x.n / p ^ (x.len - 1) < p := by rw [Nat.div_lt_iff_lt_mul hp, Nat.mul_comm]; exact hlt
  rw [Nat.mod_eq_of_lt this] at e
  have h3 := Nat.div_add_mod x.n (p ^ (x.len - 1))
  rw [e, Nat.mul_one] at h3
  have h4 := Nat.mod_lt x.n hp
  generalize x.n % p ^ (x.len - 1) = r at *
  omega
/-- no prime has its code from 2 b^s to b^(s+1) -/
theorem prm_gap {P : Pol p} (h : Prm P) {s : Nat} (h1 : P.n < p ^ (s + 1)) : P.n < 2 * p ^ s := by
  have p2 := Bs.two p
  have hl : P.len ≤ s + 1 := len_le.mpr h1
  have := (code_monic h.mon).2
  have e : p ^ (P.len - 1) ≤ p ^ s := Nat.pow_le_pow_right (by omega) (by omega)
  omega
/-! ### one division so often as it goes -/
def lapP : Nat → Pol p → Pol p → Nat → Pol p × Nat
  | 0, _, l, o => (l, o)
  | n + 1, d, l, o => if d.len ≤ l.len ∧ l % d = 0 then lapP n d (l / d) (o + 1) else lapP n d l o
theorem lapP_no {d l : Pol p} (hd : 2 ≤ d.len) (hl : l ≠ 0) (h : ¬ d ∣ l) : ∀ n o, lapP n d l o = (l, o)
  | 0, _ => rfl
  | n + 1, o => by
    rw [lapP, if_neg fun z => h (mod_eq_zero.mp z.2)]
    exact lapP_no hd hl h n o
theorem lapP_ok {d : Pol p} (hd : 2 ≤ d.len) : ∀ (n : Nat) (l : Pol p) (o : Nat), l ≠ 0 → l.len ≤ n → (lapP n d l o).2 = o + vP d l ∧ l = d ^ (vP d l) * (lapP n d l o).1 ∧ ¬ d ∣ (lapP n d l o).1
  | 0, l, o, hl, h => (hl (len_eq_zero.mp (by omega))).elim
  | n + 1, l, o, hl, h => by
    have hd0 : d ≠ 0 := fun e => by rw [e, len_zero] at hd; omega
    by_cases hdv : d ∣ l
    · rw [lapP, if_pos ⟨len_dvd hdv hl, mod_eq_zero.mpr hdv⟩]
      have e := div_mul_of_dvd hd0 hdv
      have hq : l / d ≠ 0 := fun z => hl (by rw [← e, z]; grind)
      have hlen := len_mul hq hd0
      rw [e] at hlen
      have := len_pos hq
      obtain ⟨i1, i2, i3⟩ := lapP_ok hd n (l / d) (o + 1) hq (by omega)
      have hv : vP d l = vP d (l / d) + 1 := by
        obtain ⟨a1, a2⟩ := vP_ok hd hq
        refine vP_eq hd hl ?_ ?_
        · obtain ⟨c, hc⟩ := a1
          refine ⟨c, ?_⟩
          rw [Lean.Grind.Semiring.pow_succ]
          conv => lhs; rw [← e, hc]
          grind
        · rintro ⟨c, hc⟩
          apply a2
          refine ⟨c, mul_cancel hd0 ?_⟩
          rw [Lean.Grind.Semiring.pow_succ] at hc
          have : d * (l / d) = l := by rw [show d * (l / d) = l / d * d by grind, e]
          rw [this, hc]
          grind
      refine ⟨by rw [i1, hv]; omega, ?_, i3⟩
      rw [hv, Lean.Grind.Semiring.pow_succ]
      conv => lhs; rw [← e]
      conv => lhs; rw [i2]
      grind
    · rw [lapP_no hd hl hdv]
      have hz := vP_eq (k := 0) hd hl (by rw [Lean.Grind.Semiring.pow_zero]; exact one_dvd l) (by rw [show d ^ (0 + 1) = d by grind]; exact hdv)
      rw [hz]
      exact ⟨rfl, by grind, hdv⟩
/-! ### all primes of codes below m taken out of x -/
structure Inv (x : Pol p) (m : Nat) (F : List (Pol p × Nat)) (l : Pol p) : Prop where
  srt : F.Pairwise fun a b => a.1.n < b.1.n
  mem : ∀ z : Pol p × Nat, z ∈ F ↔ Prm z.1 ∧ z.1.n < m ∧ z.1 ∣ x ∧ z.2 = vP z.1 x
  mon : Monic l
  val : ∀ P, Prm P → vP P l = if P.n < m then 0 else vP P x
  div : l.len ≤ x.len
theorem Inv.start {x : Pol p} (hx : x ≠ 0) : Inv x p [] (plain x) where
  srt := .nil
  mem := fun z => by
    refine ⟨fun h => by simp at h, fun ⟨h1, h2, _⟩ => ?_⟩
    have a := (code_monic h1.mon).1
    have : p ^ 1 ≤ p ^ (z.1.len - 1) := Nat.pow_le_pow_right (by have := Bs.two p; omega) (by have := h1.two; omega)
    rw [Nat.pow_one] at this
    omega
  mon := plain_monic hx
  val := fun P hP => by
    have a := (code_monic hP.mon).1
    have : p ^ 1 ≤ p ^ (P.len - 1) := Nat.pow_le_pow_right (by have := Bs.two p; omega) (by have := hP.two; omega)
    rw [Nat.pow_one] at this
    rw [vP_plain hP.two hx, if_neg (by omega)]
  div := Nat.le_of_eq plain_len
theorem Inv.skip {x : Pol p} {m m' : Nat} {F : List (Pol p × Nat)} {l : Pol p} (I : Inv x m F l) (h : m ≤ m') (hn : ∀ P : Pol p, Prm P → P.n < m' → P.n < m) : Inv x m' F l where
  srt := I.srt
  mem := fun z => (I.mem z).trans ⟨fun ⟨a, b, c⟩ => ⟨a, by omega, c⟩, fun ⟨a, b, c⟩ => ⟨a, hn _ a b, c⟩⟩
  mon := I.mon
  val := fun P hP => by
    rw [I.val P hP]
    by_cases h1 : P.n < m
    · rw [if_pos h1, if_pos (by omega)]
    · rw [if_neg h1, if_neg (fun z => h1 (hn P hP z))]
  div := I.div
theorem Inv.step {x : Pol p} {d : Pol p} {F : List (Pol p × Nat)} {l : Pol p} (hx : x ≠ 0) (I : Inv x d.n F l) (hd : Monic d) (h2 : 2 ≤ d.len) {n : Nat} (hn : l.len ≤ n) :
    Inv x (d.n + 1) (if 0 < (lapP n d l 0).2 then F ++ [(d, (lapP n d l 0).2)] else F) (lapP n d l 0).1 := by
  obtain ⟨i1, i2, i3⟩ := lapP_ok h2 n l 0 I.mon.ne hn
  rw [Nat.zero_add] at i1
  by_cases hP : Prm d
  · have hv : vP d l = vP d x := by rw [I.val d hP, if_neg (Nat.lt_irrefl _)]
    rw [hv] at i1 i2
    have hl0 : (lapP n d l 0).1 ≠ 0 := fun e => i3 (by rw [e]; exact dvd_zero d)
    have hm1 : Monic (lapP n d l 0).1 := by
      have hl := I.mon
      have h3 : l.lead = 1 := hl
      rw [i2, lead_mul (pow_ne hd.ne _) hl0, show (d ^ vP d x).lead = 1 from hd.pow _] at h3
      show (lapP n d l 0).1.lead = 1
      rw [← h3]; grind
    have hval : ∀ P, Prm P → vP P (lapP n d l 0).1 = if P.n < d.n + 1 then 0 else vP P x := by
      intro P hQ
      by_cases e : P = d
      · rw [e, if_pos (by omega), vP_zero h2 hl0 i3]
      · have h4 := I.val P hQ
        rw [i2, vP_mul hQ (pow_ne hd.ne _) hl0, vP_pow_other hQ hP e, Nat.zero_add] at h4
        rw [h4]
        have : P.n ≠ d.n := fun z => e (Pol.eq_of_n z)
        by_cases h5 : P.n < d.n
        · rw [if_pos h5, if_pos (by omega)]
        · rw [if_neg h5, if_neg (by omega)]
    have hdiv : (lapP n d l 0).1.len ≤ x.len := by
      refine Nat.le_trans ?_ I.div
      exact len_dvd ⟨d ^ vP d x, by conv => lhs; rw [i2]
                                    grind⟩ I.mon.ne
    rw [i1]
    by_cases hz : 0 < vP d x
    · rw [if_pos hz]
      have hdx := (vP_pos h2 hx).mp hz
      refine ⟨?_, fun z => ?_, hm1, hval, hdiv⟩
      · rw [List.pairwise_append]
        refine ⟨I.srt, List.pairwise_singleton .., fun a ha b hb => ?_⟩
        rw [List.mem_singleton.mp hb]
        exact ((I.mem a).mp ha).2.1
      · rw [List.mem_append, List.mem_singleton, I.mem z]
        constructor
        · rintro (⟨a, b, c⟩ | rfl)
          · exact ⟨a, by omega, c⟩
          · exact ⟨hP, Nat.lt_succ_self _, hdx, rfl⟩
        · rintro ⟨a, b, c, e⟩
          by_cases h5 : z.1.n < d.n
          · exact .inl ⟨a, h5, c, e⟩
          · have h6 : z.1 = d := Pol.eq_of_n (by omega)
            refine .inr (Prod.ext h6 ?_)
            rw [e, h6]
    · rw [if_neg hz]
      have hdx : ¬ d ∣ x := fun z => hz ((vP_pos h2 hx).mpr z)
      refine ⟨I.srt, fun z => (I.mem z).trans ⟨fun ⟨a, b, c⟩ => ⟨a, by omega, c⟩, fun ⟨a, b, c, e⟩ => ⟨a, ?_, c, e⟩⟩, hm1, hval, hdiv⟩
      have h6 : z.1.n ≠ d.n := fun h => hdx (by rw [← Pol.eq_of_n h]; exact c)
      omega
  · have hnd : ¬ d ∣ l := by
      intro hdl
      obtain ⟨P, hQ, hPd⟩ := prm_of_two h2
      have hPl := dvd_trans hPd hdl
      have h3 := (vP_pos hQ.two I.mon.ne).mpr hPl
      rw [I.val P hQ] at h3
      have hlt : P.len < d.len := by
        refine Nat.lt_of_le_of_ne (len_dvd hPd hd.ne) fun e => hP ?_
        rw [← monic_dvd hQ.mon hd hPd (Nat.le_of_eq e.symm)]
        exact hQ
      rw [if_pos (n_lt_of_len hlt)] at h3
      omega
    rw [lapP_no h2 I.mon.ne hnd]
    rw [if_neg (by show ¬ 0 < 0; omega)]
    exact I.skip (Nat.le_succ _) fun P hQ h3 => by
      have : P.n ≠ d.n := fun h => hP (by rw [← Pol.eq_of_n h]; exact hQ)
      omega
theorem Inv.next {x : Pol p} {s : Nat} {F : List (Pol p × Nat)} {l : Pol p} (I : Inv x (2 * p ^ s) F l) : Inv x (p ^ (s + 1)) F l :=
  I.skip (by rw [Nat.pow_succ, Nat.mul_comm]; exact Nat.mul_le_mul_left _ (Bs.two p)) fun P hP h => prm_gap hP h
theorem Inv.prime {x : Pol p} {s : Nat} {F : List (Pol p × Nat)} {l : Pol p} (I : Inv x (p ^ s) F l) (h : l.len ≤ 2 * s) (h2 : 2 ≤ l.len) : Prm l := by
  have big : ∀ P, Prm P → P ∣ l → s + 1 ≤ P.len := fun P hP hd => by
    have h3 := (vP_pos hP.two I.mon.ne).mpr hd
    rw [I.val P hP] at h3
    have : ¬ P.n < p ^ s := fun z => by rw [if_pos z] at h3; omega
    have h4 := len_le (x := P) (k := s)
    omega
  refine ⟨I.mon, h2, fun a b e => ?_⟩
  have ha0 : a ≠ 0 := fun z => I.mon.ne (by rw [e, z]; grind)
  have hb0 : b ≠ 0 := fun z => I.mon.ne (by rw [e, z]; grind)
  have l1 := len_pos ha0
  have l2 := len_pos hb0
  have l3 := len_mul ha0 hb0
  rw [← e] at l3
  by_cases h5 : 2 ≤ a.len
  · by_cases h6 : 2 ≤ b.len
    · obtain ⟨P, hP, hd⟩ := prm_of_two h5
      obtain ⟨Q, hQ, hd2⟩ := prm_of_two h6
      have := big P hP (dvd_trans hd ⟨b, e⟩)
      have := big Q hQ (dvd_trans hd2 ⟨a, by rw [e]; grind⟩)
      have := len_dvd hd ha0
      have := len_dvd hd2 hb0
      omega
    · exact .inr (by omega)
  · exact .inl (by omega)
theorem Inv.fin_one {x : Pol p} {m : Nat} {F : List (Pol p × Nat)} {l : Pol p} (hx : x ≠ 0) (I : Inv x m F l) (h : l.len = 1) : IsFac x F := by
  have hl : l = 1 := len_plain_one I.mon h
  refine ⟨I.srt, fun z => (I.mem z).trans ⟨fun ⟨a, _, c⟩ => ⟨a, c⟩, fun ⟨a, c⟩ => ⟨a, ?_, c⟩⟩⟩
  have h3 := I.val z.1 a
  rw [hl, vP_zero a.two one_ne a.not_dvd_one] at h3
  have h4 := (vP_pos a.two hx).mpr c.1
  refine Classical.byContradiction fun hn => ?_
  rw [if_neg hn] at h3
  omega
theorem Inv.fin_prime {x : Pol p} {m : Nat} {F : List (Pol p × Nat)} {l : Pol p} (hx : x ≠ 0) (I : Inv x m F l) (h : Prm l) : IsFac x (F ++ [(l, 1)]) ∧ (∀ z ∈ F, z.1 ≠ l) := by
  have hv := I.val l h
  rw [vP_self h] at hv
  have hm : ¬ l.n < m := fun z => by rw [if_pos z] at hv; omega
  rw [if_neg hm] at hv
  have hlx : l ∣ x := (vP_pos h.two hx).mp (by omega)
  refine ⟨⟨?_, fun z => ?_⟩, fun z hz e => ?_⟩
  · rw [List.pairwise_append]
    refine ⟨I.srt, List.pairwise_singleton .., fun a ha b hb => ?_⟩
    rw [List.mem_singleton.mp hb]
    have := ((I.mem a).mp ha).2.1
    show a.1.n < l.n
    omega
  · rw [List.mem_append, List.mem_singleton, I.mem z]
    constructor
    · rintro (⟨a, _, c⟩ | rfl)
      · exact ⟨a, c⟩
      · exact ⟨h, hlx, hv⟩
    · rintro ⟨a, c, e⟩
      by_cases h5 : z.1.n < m
      · exact .inl ⟨a, h5, c, e⟩
      · refine .inr ?_
        have h6 := I.val z.1 a
        rw [if_neg h5] at h6
        have h7 := (vP_pos a.two hx).mpr c
        have h8 := a.eq_of_dvd h ((vP_pos a.two I.mon.ne).mp (by omega))
        refine Prod.ext h8 ?_
        rw [e, h8]
        exact hv.symm
  · have := ((I.mem z).mp hz).2.1
    rw [e] at this
    exact hm this
theorem Inv.fin_all {x : Pol p} {F : List (Pol p × Nat)} {l : Pol p} (hx : x ≠ 0) (I : Inv x (p ^ x.len) F l) : l.len = 1 := by
  have h1 := len_pos I.mon.ne
  refine Classical.byContradiction fun hn => ?_
  obtain ⟨P, hP, hd⟩ := prm_of_two (x := l) (by omega)
  have h3 := (vP_pos hP.two I.mon.ne).mpr hd
  rw [I.val P hP, if_pos (len_le.mp (Nat.le_trans (len_dvd hd I.mon.ne) I.div))] at h3
  omega
/-- x is a prime exactly if it is its own only factor -/
theorem fac_prm {x : Pol p} {L : List (Pol p × Nat)} (hx : x ≠ 0) (h : IsFac x L) : Prm x ↔ L = [(x, 1)] := by
  constructor
  · intro hp
    refine sorted_eq h.srt (List.pairwise_singleton ..) fun z => ?_
    rw [h.mem z, List.mem_singleton]
    constructor
    · rintro ⟨a, c, e⟩
      have := a.eq_of_dvd hp c
      exact Prod.ext this (by rw [e, this, vP_self hp])
    · rintro rfl
      exact ⟨hp, dvd_refl x, (vP_self hp).symm⟩
  · intro e
    have := (h.mem (x, 1)).mp (by rw [e]; exact List.mem_singleton.mpr rfl)
    exact this.1
end
end PO
set_option Elab.async false
set_option autoImplicit false
set_option linter.all false
namespace PO
section
variable {p : Nat} [Bs p]
theorem prm_trial {x : Pol p} : Prm x ↔ Monic x ∧ 2 ≤ x.len ∧ ∀ d : Pol p, Monic d → 2 ≤ d.len → d.len ≤ (x.len - 1) / 2 + 1 → ¬ d ∣ x := by
  constructor
  · intro h
    refine ⟨h.mon, h.two, fun d hd h2 h3 ⟨c, hc⟩ => ?_⟩
    have hc0 : c ≠ 0 := fun e => h.ne (by rw [hc, e]; grind)
    have hl := len_mul hd.ne hc0
    rw [← hc] at hl
    have := h.two
    rcases h.irr _ _ hc with h4 | h4 <;> omega
  · rintro ⟨hm, h2, h⟩
    refine ⟨hm, h2, fun a b e => ?_⟩
    have ha0 : a ≠ 0 := fun z => hm.ne (by rw [e, z]; grind)
    have hb0 : b ≠ 0 := fun z => hm.ne (by rw [e, z]; grind)
    have l1 := len_pos ha0
    have l2 := len_pos hb0
    have hl := len_mul ha0 hb0
    rw [← e] at hl
    refine Classical.byContradiction fun hn => ?_
    have n1 : 2 ≤ a.len := by
      refine Nat.lt_of_le_of_ne l1 fun z => hn (.inl z.symm)
    have n2 : 2 ≤ b.len := by
      refine Nat.lt_of_le_of_ne l2 fun z => hn (.inr z.symm)
    by_cases hab : a.len ≤ b.len
    · refine h (plain a) (plain_monic ha0) (by rw [plain_len]; exact n1) (by rw [plain_len]; omega) (dvd_trans (plain_dvd a) ⟨b, e⟩)
    · refine h (plain b) (plain_monic hb0) (by rw [plain_len]; exact n2) (by rw [plain_len]; omega) (dvd_trans (plain_dvd b) ⟨a, by rw [e]; grind⟩)
end
end PO
set_option Elab.async false
set_option autoImplicit false
set_option linter.all false
namespace PO
/-! ### counting -/
def cnt : Nat → (Nat → Bool) → Nat
  | 0, _ => 0
  | n + 1, f => cnt n f + if f n then 1 else 0
theorem cnt_filter (n : Nat) (f : Nat → Bool) : ((List.range n).filter f).length = cnt n f := by
  induction n with
  | zero => rfl
  | succ n ih =>
    rw [List.range_succ, List.filter_append, List.length_append, ih, cnt]
    congr 1
    by_cases h : f n = true
    · simp [h]
    · simp [h]
theorem cnt_congr {n : Nat} {f g : Nat → Bool} (h : ∀ i, i < n → f i = g i) : cnt n f = cnt n g := by
  induction n with
  | zero => rfl
  | succ n ih => rw [cnt, cnt, ih fun i hi => h i (by omega), h n (by omega)]
theorem nodup_le {α : Type} [DecidableEq α] : ∀ {l m : List α}, l.Nodup → (∀ x ∈ l, x ∈ m) → l.length ≤ m.length
  | [], _, _, _ => Nat.zero_le _
  | a :: l, m, h, hs => by
    obtain ⟨h1, h2⟩ := List.nodup_cons.mp h
    have ha := hs a List.mem_cons_self
    have := nodup_le (l := l) (m := m.erase a) h2 fun x hx => by
      refine (List.mem_erase_of_ne fun e => h1 ?_).mpr (hs x (List.mem_cons_of_mem _ hx))
      rw [← e]; exact hx
    rw [List.length_erase_of_mem ha] at this
    have : 0 < m.length := List.length_pos_of_mem ha
    rw [List.length_cons]
    omega
theorem nodup_map {α β : Type} {φ : α → β} : ∀ {l : List α}, l.Nodup → (∀ x ∈ l, ∀ y ∈ l, φ x = φ y → x = y) → (l.map φ).Nodup
  | [], _, _ => List.nodup_nil
  | a :: l, h, hi => by
    obtain ⟨h1, h2⟩ := List.nodup_cons.mp h
    rw [List.map_cons, List.nodup_cons]
    refine ⟨fun hm => ?_, nodup_map h2 fun x hx y hy => hi x (List.mem_cons_of_mem _ hx) y (List.mem_cons_of_mem _ hy)⟩
    obtain ⟨y, hy, e⟩ := List.mem_map.mp hm
    have := hi y (List.mem_cons_of_mem _ hy) a List.mem_cons_self e
    rw [this] at hy
    exact h1 hy
theorem cnt_le {N M : Nat} {f g : Nat → Bool} (φ : Nat → Nat) (h1 : ∀ n, n < N → f n = true → φ n < M ∧ g (φ n) = true) (h2 : ∀ n m, n < N → m < N → f n = true → f m = true → φ n = φ m → n = m) : cnt N f ≤ cnt M g := by
  rw [← cnt_filter, ← cnt_filter, ← List.length_map (f := φ)]
  refine nodup_le (nodup_map (List.Pairwise.filter _ List.nodup_range) fun x hx y hy e => ?_) fun y hy => ?_
  · rw [List.mem_filter, List.mem_range] at hx hy
    exact h2 x y hx.1 hy.1 hx.2 hy.2 e
  · obtain ⟨x, hx, rfl⟩ := List.mem_map.mp hy
    rw [List.mem_filter, List.mem_range] at hx ⊢
    exact h1 x hx.1 hx.2
/-- the same number of things -/
theorem cnt_bij {N M : Nat} {f g : Nat → Bool} (φ ψ : Nat → Nat) (h1 : ∀ n, n < N → f n = true → φ n < M ∧ g (φ n) = true ∧ ψ (φ n) = n) (h2 : ∀ n, n < M → g n = true → ψ n < N ∧ f (ψ n) = true ∧ φ (ψ n) = n) : cnt N f = cnt M g := by
  refine Nat.le_antisymm (cnt_le φ (fun n a b => ⟨(h1 n a b).1, (h1 n a b).2.1⟩) fun n m a b c d e => ?_) (cnt_le ψ (fun n a b => ⟨(h2 n a b).1, (h2 n a b).2.1⟩) fun n m a b c d e => ?_)
  · rw [← (h1 n a c).2.2, e, (h1 m b d).2.2]
  · rw [← (h2 n a c).2.2, e, (h2 m b d).2.2]
theorem cnt_add (N K : Nat) (f : Nat → Bool) : cnt (N + K) f = cnt N f + cnt K fun i => f (N + i) := by
  induction K with
  | zero => rfl
  | succ K ih => rw [← Nat.add_assoc, cnt, ih, cnt, Nat.add_assoc]
theorem cnt_mul (M K : Nat) (g : Nat → Bool) (hM : 0 < M) : cnt (K * M) (fun i => g (i % M)) = K * cnt M g := by
  induction K with
  | zero => rw [Nat.zero_mul, Nat.zero_mul]; rfl
  | succ K ih =>
    rw [Nat.add_mul, Nat.one_mul, cnt_add, ih, Nat.add_mul, Nat.one_mul]
    congr 1
    refine cnt_congr fun i hi => ?_
    rw [Nat.add_comm, Nat.add_mul_mod_self_right, Nat.mod_eq_of_lt hi]
theorem cnt_split (N : Nat) (f g : Nat → Bool) : cnt N (fun i => f i && g i) + cnt N (fun i => f i && !g i) = cnt N f := by
  induction N with
  | zero => rfl
  | succ N ih =>
    simp only [cnt]
    rw [← ih]
    by_cases hf : f N = true <;> by_cases hg : g N = true <;> simp [hf, hg] <;> omega
theorem cnt_all (N : Nat) : cnt N (fun _ => true) = N := by
  induction N with
  | zero => rfl
  | succ N ih => rw [cnt, ih]; rfl
section
variable {p : Nat} [Bs p]
theorem code_lt {x : Pol p} {k : Nat} (h : x.len ≤ k) : x.n < p ^ k := len_le.mp h
theorem len_code {n k : Nat} (h : n < p ^ k) : (⟨n⟩ : Pol p).len ≤ k := len_le.mpr h
theorem div_len {x y : Pol p} (hy : y ≠ 0) : (x / y).len ≤ x.len + 1 - y.len := by
  have h1 := div_add_mod x hy
  have h2 := mod_len x hy
  by_cases hq : x / y = 0
  · rw [hq, len_zero]; omega
  · have h3 := len_mul hq hy
    have l1 := len_pos hq
    have h4 : (x / y * y + x % y).len = (x / y * y).len := (len_add_of_lt (by omega)).1
    rw [← h1, h3] at h4
    omega
/-- each number below p^(a+b) in one way as x times one of length b and a rest, x of length a and 1 -/
theorem cnt_rest {x : Pol p} {a b : Nat} (hx : x.len = a + 1) (g : Nat → Bool) : cnt (p ^ (a + b)) (fun n => g ((⟨n⟩ % x : Pol p).n)) = p ^ b * cnt (p ^ a) g := by
  have p2 := Bs.two p
  have hx0 : x ≠ 0 := fun e => by rw [e, len_zero] at hx; omega
  have hpa : 0 < p ^ a := Nat.pow_pos (by omega)
  rw [← cnt_mul (p ^ a) (p ^ b) g hpa]
  refine cnt_bij (fun n => (⟨n⟩ % x : Pol p).n + p ^ a * (⟨n⟩ / x : Pol p).n) (fun m => ((⟨m / p ^ a⟩ : Pol p) * x + ⟨m % p ^ a⟩).n) (fun n hn hf => ?_) (fun m hm hg => ?_)
  · have h1 : (⟨n⟩ % x : Pol p).n < p ^ a := code_lt (by have := mod_len (⟨n⟩ : Pol p) hx0; omega)
    have h2 : (⟨n⟩ / x : Pol p).n < p ^ b := code_lt (by have := div_len (x := (⟨n⟩ : Pol p)) hx0; have := len_code (p := p) hn; omega)
    refine ⟨?_, ?_, ?_⟩
    · have : p ^ a * ((⟨n⟩ / x : Pol p).n + 1) ≤ p ^ a * p ^ b := Nat.mul_le_mul_left _ h2
      rw [Nat.mul_add, Nat.mul_one] at this
      rw [Nat.mul_comm (p ^ b)]
      omega
    · rw [Nat.add_mul_mod_self_left, Nat.mod_eq_of_lt h1]; exact hf
    · rw [Nat.add_mul_mod_self_left, Nat.mod_eq_of_lt h1, Nat.add_mul_div_left _ _ hpa, Nat.div_eq_of_lt h1, Nat.zero_add]
      have := div_add_mod (⟨n⟩ : Pol p) hx0
      exact (congrArg Pol.n this).symm
  · have h1 : m % p ^ a < p ^ a := Nat.mod_lt _ hpa
    have h2 : m / p ^ a < p ^ b := by rw [Nat.div_lt_iff_lt_mul hpa]; exact hm
    have l1 := len_code (p := p) h1
    have l2 := len_code (p := p) h2
    have hu := div_unique (x := (⟨m / p ^ a⟩ : Pol p) * x + ⟨m % p ^ a⟩) (y := x) (q := ⟨m / p ^ a⟩) (r := ⟨m % p ^ a⟩) rfl (by omega)
    refine ⟨code_lt ?_, ?_, ?_⟩
    · refine len_add_le ?_ (by omega)
      have := len_mul_le (⟨m / p ^ a⟩ : Pol p) x
      omega
    · show g ((((⟨m / p ^ a⟩ : Pol p) * x + ⟨m % p ^ a⟩) % x).n) = true
      rw [← hu.2]; exact hg
    · show (((⟨m / p ^ a⟩ : Pol p) * x + ⟨m % p ^ a⟩) % x).n + p ^ a * (((⟨m / p ^ a⟩ : Pol p) * x + ⟨m % p ^ a⟩) / x).n = m
      rw [← hu.1, ← hu.2]
      exact Nat.mod_add_div m (p ^ a)
/-- the multiples of P below p^(a+b), P of length b and 1 -/
theorem cnt_mult {P : Pol p} {a b : Nat} (hP : P.len = b + 1) (g : Pol p → Bool) : cnt (p ^ (a + b)) (fun n => decide (P ∣ (⟨n⟩ : Pol p)) && g (⟨n⟩ / P)) = cnt (p ^ a) fun m => g ⟨m⟩ := by
  have hP0 : P ≠ 0 := fun e => by rw [e, len_zero] at hP; omega
  refine cnt_bij (fun n => (⟨n⟩ / P : Pol p).n) (fun m => ((⟨m⟩ : Pol p) * P).n) (fun n hn hf => ?_) (fun m hm hg => ?_)
  · rw [Bool.and_eq_true, decide_eq_true_eq] at hf
    refine ⟨code_lt ?_, hf.2, ?_⟩
    · have := div_len (x := (⟨n⟩ : Pol p)) hP0; have := len_code (p := p) hn; omega
    · exact congrArg Pol.n (div_mul_of_dvd hP0 hf.1)
  · have e : (⟨m⟩ : Pol p) * P / P = ⟨m⟩ := mul_div_self _ hP0
    refine ⟨code_lt ?_, ?_, ?_⟩
    · have := len_mul_le (⟨m⟩ : Pol p) P; have := len_code (p := p) hm; omega
    · rw [Bool.and_eq_true, decide_eq_true_eq]
      refine ⟨⟨⟨m⟩, by show (⟨m⟩ : Pol p) * P = _; grind⟩, ?_⟩
      show g ((⟨m⟩ : Pol p) * P / P) = true
      rw [e]; exact hg
    · show ((⟨m⟩ : Pol p) * P / P).n = m
      rw [e]
/-! ### how many numbers share nothing -/
noncomputable instance decCop (x y : Pol p) : Decidable (Cop x y) := Classical.propDecidable _
noncomputable def phi (x : Pol p) : Nat := cnt (p ^ (x.len - 1)) fun n => decide (Cop (⟨n⟩ : Pol p) x)
theorem cop_mod {x y : Pol p} : Cop (y % x) x ↔ Cop y x := by
  obtain ⟨q, hq⟩ := mod_sub_self y x
  constructor
  · rintro ⟨a, b, e⟩
    exact ⟨a, b - a * q, by grind⟩
  · rintro ⟨a, b, e⟩
    exact ⟨a, b + a * q, by grind⟩
theorem phi_unit {x : Pol p} (h : x.len = 1) : phi x = 1 := by
  unfold phi
  rw [h, Nat.sub_self, Nat.pow_zero, cnt, cnt]
  obtain ⟨u, hu⟩ := unit_of_len h
  rw [if_pos (decide_eq_true ⟨0, u, by grind⟩)]
theorem phi_same {x P : Pol p} (hP : Prm P) (hx : x ≠ 0) (hd : P ∣ x) : phi (x * P) = p ^ (P.len - 1) * phi x := by
  have l1 := len_pos hx
  have l2 := hP.two
  have hl := len_mul hx hP.ne
  unfold phi
  rw [show (x * P).len - 1 = (x.len - 1) + (P.len - 1) by omega, ← cnt_rest (x := x) (a := x.len - 1) (by omega) fun n => decide (Cop (⟨n⟩ : Pol p) x)]
  refine cnt_congr fun n _ => ?_
  have : Cop (⟨n⟩ : Pol p) (x * P) ↔ Cop ((⟨n⟩ : Pol p) % x) x := by
    rw [cop_mod]
    constructor
    · intro h; exact h.of_dvd (dvd_refl _) ⟨P, rfl⟩
    · intro h; exact h.mul (h.of_dvd (dvd_refl _) hd)
  exact decide_eq_decide.mpr this
theorem phi_new {x P : Pol p} (hP : Prm P) (hx : x ≠ 0) (hd : ¬ P ∣ x) : phi (x * P) = (p ^ (P.len - 1) - 1) * phi x := by
  have l1 := len_pos hx
  have l2 := hP.two
  have hl := len_mul hx hP.ne
  have hc : Cop P x := hP.cop hd
  have h1 := cnt_rest (x := x) (a := x.len - 1) (b := P.len - 1) (by omega) fun n => decide (Cop (⟨n⟩ : Pol p) x)
  have h2 := cnt_split (p ^ (x.len - 1 + (P.len - 1))) (fun n => decide (Cop ((⟨n⟩ : Pol p) % x) x)) fun n => decide (P ∣ (⟨n⟩ : Pol p))
  have h3 : cnt (p ^ (x.len - 1 + (P.len - 1))) (fun n => decide (Cop ((⟨n⟩ : Pol p) % x) x) && decide (P ∣ (⟨n⟩ : Pol p))) = phi x := by
    unfold phi
    rw [← cnt_mult (P := P) (a := x.len - 1) (b := P.len - 1) (by omega) fun y => decide (Cop y x)]
    refine cnt_congr fun n _ => ?_
    by_cases hn : P ∣ (⟨n⟩ : Pol p)
    · rw [decide_eq_true hn, Bool.and_true, Bool.true_and]
      refine decide_eq_decide.mpr (cop_mod.trans ?_)
      have e := div_mul_of_dvd hP.ne hn
      constructor
      · intro h; exact h.of_dvd ⟨P, e.symm⟩ (dvd_refl _)
      · intro h
        rw [← e]
        exact (h.symm.mul hc.symm).symm
    · rw [decide_eq_false hn, Bool.and_false, Bool.false_and]
  have h4 : cnt (p ^ (x.len - 1 + (P.len - 1))) (fun n => decide (Cop ((⟨n⟩ : Pol p) % x) x) && !decide (P ∣ (⟨n⟩ : Pol p))) = phi (x * P) := by
    unfold phi
    rw [show (x * P).len - 1 = (x.len - 1) + (P.len - 1) by omega]
    refine cnt_congr fun n _ => ?_
    have : Cop (⟨n⟩ : Pol p) (x * P) ↔ Cop ((⟨n⟩ : Pol p) % x) x ∧ ¬ P ∣ (⟨n⟩ : Pol p) := by
      rw [cop_mod]
      constructor
      · intro h
        refine ⟨h.of_dvd (dvd_refl _) ⟨P, rfl⟩, fun hn => ?_⟩
        have h5 : Cop P P := h.of_dvd hn ⟨x, by grind⟩
        obtain ⟨a, b, e⟩ := h5
        exact hP.not_dvd_one ⟨a + b, by grind⟩
      · rintro ⟨h, hn⟩
        exact h.mul (hP.cop hn).symm
    rw [show decide (Cop (⟨n⟩ : Pol p) (x * P)) = decide (Cop ((⟨n⟩ : Pol p) % x) x ∧ ¬ P ∣ (⟨n⟩ : Pol p)) from decide_eq_decide.mpr this]
    by_cases ha : Cop ((⟨n⟩ : Pol p) % x) x <;> by_cases hb : P ∣ (⟨n⟩ : Pol p) <;> simp [ha, hb]
  rw [h3, h4] at h2
  have h5 : cnt (p ^ (x.len - 1 + (P.len - 1))) (fun n => decide (Cop ((⟨n⟩ : Pol p) % x) x)) = p ^ (P.len - 1) * phi x := h1
  rw [h5] at h2
  have : (p ^ (P.len - 1) - 1) * phi x = p ^ (P.len - 1) * phi x - phi x := by rw [Nat.sub_mul, Nat.one_mul]
  omega
theorem phi_pow {P : Pol p} (hP : Prm P) {x : Pol p} (hx : x ≠ 0) (hd : ¬ P ∣ x) : ∀ k : Nat, phi (x * P ^ (k + 1)) = (p ^ (P.len - 1) - 1) * (p ^ (P.len - 1)) ^ k * phi x
  | 0 => by
    rw [show x * P ^ (0 + 1) = x * P by grind, phi_new hP hx hd, Nat.pow_zero, Nat.mul_one]
  | k + 1 => by
    rw [show x * P ^ (k + 1 + 1) = x * P ^ (k + 1) * P by rw [Lean.Grind.Semiring.pow_succ]; grind, phi_same hP (mul_ne hx (pow_ne hP.ne _)) ⟨x * P ^ k, by rw [Lean.Grind.Semiring.pow_succ]; grind⟩, phi_pow hP hx hd k, Nat.pow_succ]
    simp only [Nat.mul_comm, Nat.mul_left_comm, Nat.mul_assoc]
def phiL (p : Nat) : List (Pol p × Nat) → Nat
  | [] => 1
  | z :: L => (p ^ (lenN p z.1.n - 1) - 1) * (p ^ (lenN p z.1.n - 1)) ^ (z.2 - 1) * phiL p L
theorem phi_prodF {L : List (Pol p × Nat)} (hs : L.Pairwise fun a b => a.1.n < b.1.n) (h : ∀ z ∈ L, Prm z.1 ∧ 0 < z.2) : phi (prodF L) = phiL p L := by
  induction L with
  | nil => exact phi_unit len_one
  | cons a L ih =>
    obtain ⟨a1, a2⟩ := List.pairwise_cons.mp hs
    have hL : ∀ z ∈ L, Prm z.1 ∧ 0 < z.2 := fun z hz => h z (List.mem_cons_of_mem _ hz)
    obtain ⟨hP, hk⟩ := h a List.mem_cons_self
    have hnd : ¬ a.1 ∣ prodF L := fun hd => by
      have := (vP_pos hP.two (prodF_ne fun z hz => (hL z hz).1)).mpr hd
      rw [(vP_prodF hP a2 fun z hz => (hL z hz).1).2 fun z hz e => by have := a1 z hz; rw [e] at this; omega] at this
      omega
    have := phi_pow hP (prodF_ne fun z hz => (hL z hz).1) hnd (a.2 - 1)
    rw [show a.2 - 1 + 1 = a.2 by omega] at this
    rw [prodF, show a.1 ^ a.2 * prodF L = prodF L * a.1 ^ a.2 by grind, this, ih a2 hL, phiL]
    rfl
theorem cop_plain {x y : Pol p} (hx : x ≠ 0) : Cop y (plain x) ↔ Cop y x :=
  ⟨fun h => h.of_dvd (dvd_refl _) (dvd_plain x), fun h => h.of_dvd (dvd_refl _) (plain_dvd x)⟩
theorem phi_plain {x : Pol p} (hx : x ≠ 0) : phi (plain x) = phi x := by
  unfold phi
  rw [plain_len]
  exact cnt_congr fun n _ => decide_eq_decide.mpr (cop_plain hx)
theorem IsFac.phi {x : Pol p} {L : List (Pol p × Nat)} (h : IsFac x L) (hx : x ≠ 0) : phiL p L = phi x := by
  rw [← phi_plain hx, ← h.prod hx]
  refine (phi_prodF h.srt fun z hz => ?_).symm
  obtain ⟨a, b, c⟩ := (h.mem z).mp hz
  exact ⟨a, by rw [c]; exact (vP_pos a.two hx).mpr b⟩
/-- of two that share nothing -/
theorem phi_mul : ∀ (n : Nat) {x y : Pol p}, y.len ≤ n → x ≠ 0 → y ≠ 0 → Cop x y → phi (x * y) = phi x * phi y
  | 0, x, y, h, _, hy, _ => (hy (len_eq_zero.mp (by omega))).elim
  | n + 1, x, y, h, hx, hy, hc => by
    by_cases h2 : 2 ≤ y.len
    · obtain ⟨P, hP, hd⟩ := prm_of_two h2
      obtain ⟨z, hz, nz, z0⟩ := vP_split hP.two hy
      have hk := (vP_pos hP.two hy).mpr hd
      obtain ⟨k, ek⟩ : ∃ k, vP P y = k + 1 := ⟨vP P y - 1, by omega⟩
      rw [ek] at hz
      have hPx : ¬ P ∣ x := fun hp => by
        obtain ⟨a, b, e⟩ := hc.of_dvd hp hd
        exact hP.not_dvd_one ⟨a + b, by grind⟩
      have hlen : z.len < y.len := by
        have := len_mul (pow_ne hP.ne (k + 1)) z0
        rw [← hz] at this
        have := (len_pow hP.ne (k + 1)).2
        have : (k + 1) * (P.len - 1) ≥ 1 * 1 := Nat.mul_le_mul (by omega) (by have := hP.two; omega)
        have := len_pos z0
        omega
      have hcz : Cop x z := hc.of_dvd (dvd_refl _) ⟨P ^ (k + 1), by rw [hz]; grind⟩
      have ih := phi_mul n (x := x) (y := z) (by omega) hx z0 hcz
      have e1 : x * y = (x * z) * P ^ (k + 1) := by rw [hz]; grind
      have e2 : y = z * P ^ (k + 1) := by rw [hz]; grind
      have hPz : ¬ P ∣ x * z := fun hp => (hP.dvd_mul hp).elim hPx nz
      rw [e1, phi_pow hP (mul_ne hx z0) hPz, ih]
      conv => rhs; rw [e2, phi_pow hP z0 nz]
      simp only [Nat.mul_comm, Nat.mul_left_comm, Nat.mul_assoc]
    · have l1 : y.len = 1 := by have := len_pos hy; omega
      rw [phi_unit l1, Nat.mul_one]
      obtain ⟨u, hu⟩ := unit_of_len l1
      unfold phi
      rw [show (x * y).len = x.len by rw [len_mul hx hy]; omega]
      refine cnt_congr fun m _ => decide_eq_decide.mpr ?_
      have e : x = x * y * u := by
        have : x * y * u = x * (y * u) := by grind
        rw [this, hu]
        grind
      exact ⟨fun h => h.of_dvd (dvd_refl _) ⟨y, rfl⟩, fun h => h.of_dvd (dvd_refl _) ⟨u, e⟩⟩
end
end PO
set_option Elab.async false
set_option autoImplicit false
set_option linter.all false
set_option maxRecDepth 100000
set_option maxHeartbeats 2000000
namespace PO
open PySem SP VL
section
variable {p : Nat} [Bs p]
def toL (z : Pol p × Nat) : List Int × Nat := (rowL z.1, z.2)
theorem divL_monic {l d : Pol p} (hd : Monic d) : divL p (invN p 1 : Nat) (rowL l) (rowL d) = (rowL (l / d), rowL (l % d)) := by
  have h := divL_pol (x := l) hd.ne
  rw [show d.lead = 1 from hd, fin_val_one] at h
  exact h
theorem lapF_eq {d : Pol p} (hd : Monic d) : ∀ (n : Nat) (l : Pol p) (o : Nat), lapF p (rowL d) n (rowL l) o = (rowL (lapP n d l o).1, (lapP n d l o).2)
  | 0, _, _ => rfl
  | n + 1, l, o => by
    rw [lapF, lapP]
    have e1 : (rowL d).length = d.len := rowL_length d
    have e2 : (rowL l).length = l.len := rowL_length l
    rw [e1, e2]
    by_cases h : d.len ≤ l.len
    · simp only [if_pos h, divL_monic hd]
      by_cases h2 : l % d = 0
      · rw [if_pos (rowL_nil.mpr h2), if_pos ⟨h, h2⟩]
        exact lapF_eq hd n _ _
      · rw [if_neg fun z => h2 (rowL_nil.mp z), if_neg fun z => h2 z.2]
        exact lapF_eq hd n _ _
    · simp only [if_neg h]
      rw [if_neg (by simp), if_neg fun z => h z.1]
      exact lapF_eq hd n _ _
theorem numF_ok {x : Pol p} (hx : x ≠ 0) (len : Nat) (hlen : x.len ≤ len) : ∀ (k m : Nat) (F : List (Pol p × Nat)) (l : Pol p), Inv x m F l → (∀ i, m ≤ i → i < m + k → Monic (⟨i⟩ : Pol p) ∧ 2 ≤ (⟨i⟩ : Pol p).len) →
    ∃ F' l', numF p len (List.range' m k) (F.map toL) (rowL l) = (F'.map toL, rowL l') ∧ Inv x (m + k) F' l'
  | 0, m, F, l, I, _ => ⟨F, l, rfl, I⟩
  | k + 1, m, F, l, I, h => by
    obtain ⟨h1, h2⟩ := h m (Nat.le_refl _) (by omega)
    rw [List.range'_succ, numF]
    have e : lapF p (cR (digs p m)) len (rowL l) 0 = _ := lapF_eq (d := (⟨m⟩ : Pol p)) h1 len l 0
    have I2 := I.step (d := (⟨m⟩ : Pol p)) hx h1 h2 (n := len) (Nat.le_trans I.div hlen)
    have ef : (if 0 < (lapP len (⟨m⟩ : Pol p) l 0).2 then (F.map toL) ++ [(cR (digs p m), (lapP len (⟨m⟩ : Pol p) l 0).2)] else F.map toL) = (if 0 < (lapP len (⟨m⟩ : Pol p) l 0).2 then F ++ [((⟨m⟩ : Pol p), (lapP len (⟨m⟩ : Pol p) l 0).2)] else F).map toL := by
      split
      · rw [List.map_append]; rfl
      · rfl
    simp only [e]
    rw [ef]
    obtain ⟨F', l', e', I'⟩ := numF_ok hx len hlen k (m + 1) _ _ I2 fun i a b => h i (by omega) (by omega)
    exact ⟨F', l', e', by rw [show m + (k + 1) = m + 1 + k by omega]; exact I'⟩
theorem numsF_eq (b s : Nat) : numsF b s = List.range' (b ^ s) (b ^ s) := by
  unfold numsF
  rw [List.range'_eq_map_range]
theorem size_codes {s : Nat} (hs : 1 ≤ s) : ∀ i, p ^ s ≤ i → i < p ^ s + p ^ s → Monic (⟨i⟩ : Pol p) ∧ 2 ≤ (⟨i⟩ : Pol p).len := fun i h1 h2 => by
  obtain ⟨a, b⟩ := monic_code (x := (⟨i⟩ : Pol p)) (s := s) h1 (by show i < _; omega)
  exact ⟨a, by omega⟩
theorem sizeF_ok {x : Pol p} (hx : x ≠ 0) : ∀ (k s : Nat) (F : List (Pol p × Nat)) (l : Pol p), 1 ≤ s → Inv x (p ^ s) F l →
    ∃ F' l', sizeF p x.len (List.range' s k) (F.map toL) (rowL l) = (F'.map toL, rowL l') ∧ ((∃ s', Inv x (p ^ s') F' l' ∧ l'.len ≤ 2 * s') ∨ Inv x (p ^ (s + k)) F' l')
  | 0, s, F, l, _, I => ⟨F, l, rfl, .inr I⟩
  | k + 1, s, F, l, hs, I => by
    rw [List.range'_succ, sizeF]
    have e2 : (rowL l).length = l.len := rowL_length l
    rw [e2]
    by_cases h : l.len ≤ 2 * s
    · rw [if_pos h]
      exact ⟨F, l, rfl, .inl ⟨s, I, h⟩⟩
    · rw [if_neg h]
      obtain ⟨F1, l1, e1, I1⟩ := numF_ok hx x.len (Nat.le_refl _) (p ^ s) (p ^ s) F l I (size_codes hs)
      rw [← numsF_eq] at e1
      simp only [e1]
      rw [show p ^ s + p ^ s = 2 * p ^ s by omega] at I1
      obtain ⟨F', l', e', I'⟩ := sizeF_ok hx k (s + 1) F1 l1 (by omega) I1.next
      exact ⟨F', l', e', by rw [show s + (k + 1) = s + 1 + k by omega]; exact I'⟩
theorem factF_ok {x : Pol p} (hx : x ≠ 0) : ∃ L, factF p (digs p x.n) = L.map toL ∧ IsFac x L := by
  obtain ⟨s, e, h1, h2, h3⟩ := digs_last hx
  have hl : (digs p x.n).getLastD 0 = x.lead.val := by rw [e, List.getLastD_concat]
  have lx := len_pos hx
  unfold factF
  rw [hl, plain_row hx, rowL_len]
  have er : (List.range (x.len - 1)).map (· + 1) = List.range' 1 (x.len - 1) := by
    rw [List.range'_eq_map_range]
    exact List.map_congr_left fun i _ => by omega
  rw [er]
  have I0 : Inv x (p ^ 1) [] (plain x) := by rw [Nat.pow_one]; exact Inv.start hx
  obtain ⟨F, l, e1, I1⟩ := sizeF_ok hx (x.len - 1) 1 [] (plain x) (Nat.le_refl 1) I0
  rw [show sizeF p x.len (List.range' 1 (x.len - 1)) [] (rowL (plain x)) = _ from e1]
  rw [show 1 + (x.len - 1) = x.len by omega] at I1
  unfold lastF
  have el : (rowL l).length = l.len := rowL_length l
  simp only [el]
  have lm : Monic l := by rcases I1 with ⟨_, I, _⟩ | I <;> exact I.mon
  have l1 := len_pos lm.ne
  by_cases h : 1 < l.len
  · rw [if_pos h]
    rcases I1 with ⟨s', I, hs⟩ | I
    · have hP := I.prime hs (by omega)
      obtain ⟨hf, hn⟩ := I.fin_prime hx hP
      refine ⟨F ++ [(l, 1)], ?_, hf⟩
      have e2 : (F.map toL).filter (fun q => decide (q.1 ≠ rowL l)) = F.map toL := List.filter_eq_self.mpr fun q hq => by
        obtain ⟨z, hz, rfl⟩ := List.mem_map.mp hq
        exact decide_eq_true fun e => hn z hz (rowL_inj e)
      have e3 : (F.map toL).filter (fun q => decide (q.1 = rowL l)) = [] := List.filter_eq_nil_iff.mpr fun q hq => by
        obtain ⟨z, hz, rfl⟩ := List.mem_map.mp hq
        intro e
        exact hn z hz (rowL_inj (of_decide_eq_true e))
      rw [e2, e3, List.map_append]
      rfl
    · have := I.fin_all hx
      omega
  · rw [if_neg h]
    rcases I1 with ⟨s', I, hs⟩ | I
    · exact ⟨F, rfl, I.fin_one hx (by omega)⟩
    · exact ⟨F, rfl, I.fin_one hx (by omega)⟩
noncomputable instance (x : Pol p) : Decidable (Prm x) := Classical.propDecidable _
theorem isPr_eq {x : Pol p} (hx : x ≠ 0) : isPr p (digs p x.n) = decide (Prm x) := by
  obtain ⟨s, e, h1, h2, h3⟩ := digs_last hx
  obtain ⟨L, eL, hL⟩ := factF_ok hx
  unfold isPr
  rw [eL, rowL_len]
  have hl : (digs p x.n).getLastD 0 = x.lead.val := by rw [e, List.getLastD_concat]
  rw [hl]
  have em : (L.map toL = [(cR (digs p x.n), 1)]) ↔ Prm x := by
    rw [fac_prm hx hL]
    constructor
    · intro h
      cases L with
      | nil => cases h
      | cons z L =>
        cases L with
        | nil =>
          have := List.cons.inj h
          have e5 : toL z = (rowL x, 1) := this.1
          have e6 : rowL z.1 = rowL x := congrArg Prod.fst e5
          have e7 : z.2 = 1 := congrArg Prod.snd e5
          rw [show z = (x, 1) from Prod.ext (rowL_inj e6) e7]
        | cons w L => cases (List.cons.inj h).2
    · intro h; rw [h]; rfl
  by_cases hp : Prm x
  · rw [decide_eq_true hp, decide_eq_true (em.mpr hp), decide_eq_true (show 1 < x.len from hp.two), decide_eq_true (by rw [show x.lead = 1 from hp.mon, fin_val_one])]
    rfl
  · rw [decide_eq_false hp, decide_eq_false fun z => hp (em.mp z), Bool.and_false, Bool.and_false]
end
section
variable {p : Nat} [hp : Bs p] {G : Gs} {Q : D → Gs → Prop} {E : EK}
theorem u_is_prime {x : Pol p} (hx : x ≠ 0) (hl : x.len ≤ 30) (q : Q (.bl (decide (Prm x))) G) : s__law_is_prime [.int p, R x] G Q E := by
  obtain ⟨s, e, h1, h2, h3⟩ := digs_last hx
  exact ⟨p, x.lead.val, s, by rw [← e], hp.h, h1, h2, by omega, by rw [← e, isPr_eq hx]; exact q⟩
/-- pairs of rows and how often -/
def facD (L : List (Pol p × Nat)) : D := .lst (L.map fun z => .tup [R z.1, .int z.2])
theorem u_factors {x : Pol p} (hx : x ≠ 0) (hl : x.len ≤ 30) (q : ∀ L, IsFac x L → Q (facD L) G) : s__law_factors [.int p, R x] G Q E := by
  obtain ⟨s, e, h1, h2, h3⟩ := digs_last hx
  obtain ⟨L, eL, hL⟩ := factF_ok hx
  refine ⟨p, x.lead.val, s, by rw [← e], hp.h, h1, h2, by omega, ?_⟩
  rw [← e, eL, List.map_map]
  exact q L hL
end
end PO
set_option Elab.async false
set_option autoImplicit false
set_option linter.all false
set_option maxRecDepth 100000
set_option maxHeartbeats 2000000
namespace SP
open PySem PySem.Spec PyProof.Rows L2 VL PO
local macro_rules | `(tactic| walk_at "v") => `(tactic| simp only [vSeq, vNext, vVar, vPk, vC, vOp, vB, vSet, vPar, vApp, vShare, vRet, vRetN, vDrop, vIfS, vSetIx, ownLst, setL, setAll, slotN, xN, xNil, nE, nF, eN, nOp, nSl, nRev, nIf, vNo, vPart, vNil, vCons, vTup, vLst, vCall, vDef, vNeg, vChain, vAnd, vOr, vNot, vAndT, vOrT, vNotT, vIf, vRaise, vBrk, vCnt, vUnp, vgName, vgNil, vgCons, vgTup, vqVar, vqVal, viRng1, viRng2, viRng3, viEnum, vYes, lockL, lock1, unlL, unl1, wipeV, vComp, vFor, vTru, vIsTy, vOwn, vExt, vPop, vDrwW, vDrwC, vDrwN, vPutW, vPutN, vDct, vpNil, vpCons, vDGet, vDGet2, vDIn, dAdd, dSub, dMul, dMod, dDiv, dPow, dCmp, dLt, dLe, dGt, dGe, dAddN, dMulN, dIx, dLen, dInt, dTupOf, dLstOf, dMax2, dMin2, dIs, dIsN, dRepr, vDefK, permD, hideL, List.map_cons, List.map_nil, viZip, vqVarK, vqValK, lockL, lock1, unlL, unl1, seqD, List.set_cons_zero, List.set_cons_succ, List.getElem?_cons_zero, List.getElem?_cons_succ, List.getElem?_nil, List.set_nil])
/-! ### primes -/
theorem rangeD_cast (a n : Nat) : rangeD (a : Int) 1 n = (List.range' a n).map fun i => D.int (i : Nat) := by
  rw [rangeD, List.range'_eq_map_range, List.map_map]
  exact List.map_congr_left fun i _ => by
    show D.int _ = D.int _
    congr 1
    show (a : Int) + (i : Int) * 1 = ((a + i : Nat) : Int)
    omega
abbrev s_powered : SpD := s__law_power
theorem v_powered_eq : True := trivial
def p_powered_2 : VS := (vRet (vVar 2))
def p_powered_1 : VS := (vSeq (vFor (viRng1 (vCons (vVar 1) vNil)) (vgName 3) (vSet 2 (nOp dMulN (vPk 2) (vPk 0)))) p_powered_2)
def p_powered : VS := (vSeq (vSet 2 (nE (vC (.int 1)))) p_powered_1)
theorem v_powered (ds : List D) (G : Gs) (Qd : D → Gs → Prop) (Ed : EK) (h : s_powered ds G Qd Ed) : ds.length = 2 ∧ p_powered Ed (ends0 Qd) (startL ["number", "times", "found", "lap"] ds) G := by
  exact v__law_power ds G Qd Ed h
/-- the codes of the plain numbers of s figures and 1 -/
abbrev codes (p s : Nat) : List Nat := List.range' (p ^ s) (p ^ s)
def s_plain_rows : SpD := fun ds G Q _ => ∃ (p : Nat) (_ : Bs p) (s : Nat), ds = [.int p, .int s] ∧ p ^ s ≤ 500000 ∧ s ≤ 100 ∧ Q (.lst ((codes p s).map fun i => R (⟨i⟩ : Pol p))) G
def p_plain_rows_1 : VS := (vRet (vComp (viRng2 (vCons (vVar 2) (vCons (eN (nOp dMulN (vC (.int 2)) (vPk 2))) vNil))) (vgName 3) [3] vYes (vDef s_row_of (vCons (vVar 0) (vCons (vVar 3) vNil)))))
def p_plain_rows : VS := (vSeq (vSet 2 (nE (vDef s_powered (vCons (vVar 0) (vCons (vVar 1) vNil))))) p_plain_rows_1)
theorem v_plain_rows (ds : List D) (G : Gs) (Qd : D → Gs → Prop) (Ed : EK) (h : s_plain_rows ds G Qd Ed) : ds.length = 2 ∧ p_plain_rows Ed (ends0 Qd) (startL ["base", "size", "first", "number"] ds) G := by
  obtain ⟨p, hp, s, rfl, h1, h2, q⟩ := h
  refine ⟨rfl, ?_⟩
  have p5 := Bs.five p
  show p_plain_rows Ed (ends0 Qd) [.val (.int p), .val (.int s), .no, .no] G
  unfold p_plain_rows p_plain_rows_1
  walk_at "v"
  refine u_power (by omega) (by omega) ?_
  dsimp only
  refine ⟨mul_small (by omega), ⟨by omega, by omega⟩, ⟨by omega, by omega⟩, ?_⟩
  rw [show ((2 : Int) * ((p ^ s : Nat) : Int) - ((p ^ s : Nat) : Int)).toNat = p ^ s by omega, rangeD_cast]
  refine compV_map (fun i : Nat => D.int i) (fun i : Nat => R (⟨i⟩ : Pol p)) (smallN (by rw [List.length_range']; omega)) ?_ q
  intro i hi acc N n1 n2
  rw [List.mem_range'_1] at hi
  walk_at "v"
  exact u_row_of (Nat.le_trans (len_20 (by show i ≤ 1000000; omega)) (by decide)) ⟨n2, n1⟩
def s_is_prime_row : SpD := fun ds G Q _ => ∃ (p : Nat) (_ : Bs p) (x : Pol p), ds = [.int p, R x] ∧ x.len ≤ 200 ∧ p ^ ((x.len - 1) / 2) ≤ 500000 ∧ Q (.bl (decide (Prm x))) G
theorem atI_rowL {p : Nat} [Bs p] {x : Pol p} (hx : x ≠ 0) : atI (iL (rowL x)) (-1) = some (.int (x.lead.val : Nat)) := by
  obtain ⟨s, e, _⟩ := digs_last hx
  unfold rowL
  rw [e, iL, cR, List.map_append, List.map_append]
  exact atI_last
def p_is_prime_row_2 : VS := (vRet (vC (.bl true)))
def p_is_prime_row_1 : VS := (vSeq (vFor (viRng2 (vCons (vC (.int 1)) (vCons (eN (nOp dAddN (vOp dDiv (vOp dSub (vCall dLen (vCons (vPk 1) vNil)) (vC (.int 1))) (vC (.int 2))) (vC (.int 1)))) vNil))) (vgName 2) (vFor (vqVal (vDef s_plain_rows (vCons (vVar 0) (vCons (vVar 2) vNil)))) (vgName 3) (vIfS (vB (vOp dEq (vOp dIx (vDef s_divided_rows (vCons (vVar 0) (vCons (vVar 1) (vCons (vVar 3) vNil)))) (vC (.int 1))) (vTup vNil))) (vRet (vC (.bl false))) vNext))) p_is_prime_row_2)
def p_is_prime_row : VS := (vSeq (vIfS (vOrT (vB (vOp dLt (vCall dLen (vCons (vPk 1) vNil)) (vC (.int 2)))) (vB (vOp dNe (vOp dIx (vPk 1) (vNeg (vC (.int 1)))) (vC (.int 1))))) (vRet (vC (.bl false))) vNext) p_is_prime_row_1)
theorem v_is_prime_row (ds : List D) (G : Gs) (Qd : D → Gs → Prop) (Ed : EK) (h : s_is_prime_row ds G Qd Ed) : ds.length = 2 ∧ p_is_prime_row Ed (ends0 Qd) (startL ["base", "row", "size", "late"] ds) G := by
  obtain ⟨p, hp, x, rfl, h1, h2, q⟩ := h
  refine ⟨rfl, ?_⟩
  have p2 := Bs.two p
  have p5 := Bs.five p
  show p_is_prime_row Ed (ends0 Qd) [.val (.int p), .val (R x), .no, .no] G
  unfold p_is_prime_row
  walk_at "v"
  have ex : (List.map D.int (rowL x)).length = x.len := by rw [List.length_map, rowL_length]
  rw [ex]
  by_cases hl : (x.len : Int) < 2
  · rw [decide_eq_true hl]
    rw [decide_eq_false fun h => by have := (show Prm x from h).two; omega] at q
    exact q
  rw [decide_eq_false hl]
  have hx : x ≠ 0 := fun e => by rw [e, len_zero] at hl; omega
  refine ⟨_, atI_rowL hx, ?_⟩
  show match !decide (((x.lead.val : Nat) : Int) = 1) with
    | true => _
    | false => _
  by_cases hm : ((x.lead.val : Nat) : Int) = 1
  · rw [decide_eq_true hm]
    have hmon : Monic x := Fin.ext (by rw [fin_val_one]; omega)
    show p_is_prime_row_1 _ _ _ _
    unfold p_is_prime_row_1
    walk_at "v"
    rw [ex]
    have e2 : ((x.len : Int) - 1) / 2 = (((x.len - 1) / 2 : Nat) : Int) := by omega
    rw [e2]
    generalize hM : (x.len - 1) / 2 = M at *
    refine ⟨⟨by omega, by decide⟩, ⟨by omega, by omega⟩, ⟨by omega, by omega⟩, ?_⟩
    rw [show ((M : Int) + 1 - 1).toNat = M by omega]
    rw [show rangeD 1 1 M = (List.range' 1 M).map fun i => D.int (i : Nat) from rangeD_cast 1 M]
    refine forV_ind (fun rem L G' => ∃ (s k : Nat) (a b : Option D), rem = (List.range' s k).map (fun i => D.int (i : Nat)) ∧ s + k = M + 1 ∧ 1 ≤ s ∧ G' = G ∧ L = [.val (.int p), .val (R x), optS a, optS b] ∧ ∀ d : Pol p, Monic d → 2 ≤ d.len → d.len ≤ s → ¬ d ∣ x) ⟨1, M, none, none, rfl, by omega, by omega, rfl, rfl, fun d _ h3 h4 => by omega⟩ ?_ ?_
    · rintro L G' ⟨s, k, a, b, hr, hs, _, rfl, rfl, hd⟩
      have hk : k = 0 := by
        cases k with
        | zero => rfl
        | succ k => rw [List.range'_succ] at hr; exact nomatch hr
      have hP : Prm x := prm_trial.mpr ⟨hmon, by omega, fun d a b c => hd d a b (by omega)⟩
      rw [decide_eq_true hP] at q
      cases a <;> cases b <;> (simp only [optS]; unfold p_is_prime_row_2; walk_at "v"; exact q)
    · rintro d ds L G' N ⟨s, k, a, b, hr, hs, h1s, rfl, rfl, hd⟩ hN
      cases k with
      | zero => exact nomatch hr
      | succ kk =>
        rw [List.range'_succ] at hr
        have hr' : d = D.int (s : Nat) ∧ ds = (List.range' (s + 1) kk).map (fun i => D.int (i : Nat)) := List.cons.inj hr
        obtain ⟨rfl, rfl⟩ := hr'
        have hps : p ^ s ≤ 500000 := Nat.le_trans (Nat.pow_le_pow_right (by omega) (by omega)) h2
        have inner : ∀ (b : Option D) (E2 : VEnds), E2.nx = N → E2.rt = Qd → forV (vgName 3) (vIfS (vB (vOp dEq (vOp dIx (vDef s_divided_rows (vCons (vVar 0) (vCons (vVar 1) (vCons (vVar 3) vNil)))) (vC (.int 1))) (vTup vNil))) (vRet (vC (.bl false))) vNext) [] Ed E2 ((codes p s).map fun i => R (⟨i⟩ : Pol p)) [.val (.int p), .val (R x), .val (.int s), optS b] G' := by
          intro b E2 hE2 hE3
          refine forV_ind (fun rem L G2 => ∃ (i k : Nat) (b : Option D), rem = (List.range' i k).map (fun i => R (⟨i⟩ : Pol p)) ∧ i + k = p ^ s + p ^ s ∧ p ^ s ≤ i ∧ G2 = G' ∧ L = [.val (.int p), .val (R x), .val (.int s), optS b] ∧ ∀ j, p ^ s ≤ j → j < i → ¬ (⟨j⟩ : Pol p) ∣ x) ⟨p ^ s, p ^ s, b, rfl, rfl, Nat.le_refl _, rfl, rfl, fun j h3 h4 => by omega⟩ ?_ ?_
          · rintro L G2 ⟨i, k, b, hr, hi, _, rfl, rfl, hj⟩
            have hk : k = 0 := by
              cases k with
              | zero => rfl
              | succ k => rw [List.range'_succ] at hr; exact nomatch hr
            rw [hE2]
            refine hN _ _ ⟨s + 1, kk, some _, b, rfl, by omega, by omega, rfl, rfl, fun d hm h3 h4 => ?_⟩
            by_cases h5 : d.len ≤ s
            · exact hd d hm h3 h5
            · have h6 := code_monic hm
              rw [show d.len - 1 = s by omega] at h6
              exact hj d.n h6.1 (by omega)
          · rintro d ds L G2 N2 ⟨i, k, b, hr, hi, hpi, rfl, rfl, hj⟩ hN2
            cases k with
            | zero => exact nomatch hr
            | succ k =>
              rw [List.range'_succ] at hr
              have hr' : d = R (⟨i⟩ : Pol p) ∧ ds = (List.range' (i + 1) k).map (fun i => R (⟨i⟩ : Pol p)) := List.cons.inj hr
              obtain ⟨rfl, rfl⟩ := hr'
              obtain ⟨hmi, hli⟩ := size_codes h1s i hpi (by omega)
              have hlen : (⟨i⟩ : Pol p).len ≤ 20 := len_20 (by show i ≤ 1000000; omega)
              have go : ∀ L1, L1 = [.val (.int p), .val (R x), .val (.int s), .val (R (⟨i⟩ : Pol p))] → match decide (rowL (x % (⟨i⟩ : Pol p)) = []) with
                  | true => E2.rt (.bl false) G2
                  | false => N2 L1 G2 := by
                rintro L1 rfl
                by_cases hdv : (⟨i⟩ : Pol p) ∣ x
                · rw [decide_eq_true (rowL_nil.mpr (mod_eq_zero.mpr hdv))]
                  have hnP : ¬ Prm x := fun hP => (prm_trial.mp hP).2.2 _ hmi hli (by rw [(monic_code (x := (⟨i⟩ : Pol p)) (s := s) hpi (by show i < _; omega)).2]; omega) hdv
                  rw [decide_eq_false hnP] at q
                  rw [hE3]
                  exact q
                · rw [decide_eq_false fun z => hdv (mod_eq_zero.mp (rowL_nil.mp z))]
                  exact hN2 _ _ ⟨i + 1, k, some _, rfl, by omega, by omega, rfl, rfl, fun j h3 h4 => by
                    by_cases h5 : j < i
                    · exact hj j h3 h5
                    · rw [show j = i by omega]; exact hdv⟩
              cases b <;> (simp only [optS]; walk_at "v"; refine u_pdivided hmi.ne (by omega) (by omega) ?_; dsimp only; refine ⟨_, rfl, smallN (by simp), dEq_row (b := []) ?_⟩; exact go _ rfl)
        cases a <;> cases b <;> (simp only [optS]; walk_at "v"; refine ⟨p, hp, s, rfl, hps, by omega, ?_⟩)
        all_goals first | exact inner none _ rfl rfl | exact inner (some _) _ rfl rfl
  · rw [decide_eq_false hm]
    rw [decide_eq_false fun h => hm (by rw [show x.lead = 1 from (show Prm x from h).mon, fin_val_one]; rfl)] at q
    exact q
end SP
set_option Elab.async false
set_option autoImplicit false
set_option linter.all false
set_option maxRecDepth 100000
set_option maxHeartbeats 2000000
namespace SP
open PySem PySem.Spec PyProof.Rows L2 VL PO
local macro_rules | `(tactic| walk_at "v") => `(tactic| simp only [vSeq, vNext, vVar, vPk, vC, vOp, vB, vSet, vPar, vApp, vShare, vRet, vRetN, vDrop, vIfS, vSetIx, ownLst, setL, setAll, slotN, xN, xNil, nE, nF, eN, nOp, nSl, nRev, nIf, vNo, vPart, vNil, vCons, vTup, vLst, vCall, vDef, vNeg, vChain, vAnd, vOr, vNot, vAndT, vOrT, vNotT, vIf, vRaise, vBrk, vCnt, vUnp, vgName, vgNil, vgCons, vgTup, vqVar, vqVal, viRng1, viRng2, viRng3, viEnum, vYes, lockL, lock1, unlL, unl1, wipeV, vComp, vFor, vTru, vIsTy, vOwn, vExt, vPop, vDrwW, vDrwC, vDrwN, vPutW, vPutN, vDct, vpNil, vpCons, vDGet, vDGet2, vDIn, dAdd, dSub, dMul, dMod, dDiv, dPow, dCmp, dLt, dLe, dGt, dGe, dAddN, dMulN, dIx, dLen, dInt, dTupOf, dLstOf, dMax2, dMin2, dIs, dIsN, dRepr, vDefK, permD, hideL, List.map_cons, List.map_nil, viZip, vqVarK, vqValK, lockL, lock1, unlL, unl1, seqD, List.set_cons_zero, List.set_cons_succ, List.getElem?_cons_zero, List.getElem?_cons_succ, List.getElem?_nil, List.set_nil])
/-! ### judged to be primes -/
theorem compV_fm {α : Type} {vg : VG} {tt : VT} {te : VE} {L : Lo} {Q : D → Gs → Prop} {G : Gs} {items : List α} (e : α → D) (f : α → Bool) (g : α → D) (hlen : items.length ≤ lineN)
    (hs : ∀ x ∈ items, ∀ (acc : List D) (N : List D → Gs → Prop), (f x = true → N (acc ++ [g x]) G) → (f x = false → N acc G) → acc.length < lineN → vg (e x) L fun L2 => tt Ev0 L2 G fun b G1 => match b with
      | true => te Ev0 L2 G1 fun y G2 => acc.length < lineN ∧ N (acc ++ [y]) G2
      | false => N acc G1)
    (q : Q (.lst ((items.filter f).map g)) G) : compV vg tt te L (items.map e) [] G Q := by
  refine compV_ind (fun rem acc G' => ∃ dn rs : List α, rem = rs.map e ∧ acc = (dn.filter f).map g ∧ G' = G ∧ items = dn ++ rs) ⟨[], items, rfl, rfl, rfl, rfl⟩ ?_ ?_
  · rintro acc G' ⟨dn, rs, h1, rfl, rfl, rfl⟩
    have : rs = [] := List.map_eq_nil_iff.mp h1.symm
    subst this
    rw [List.append_nil] at q
    exact q
  · rintro d ds acc G' N ⟨dn, rs, h1, rfl, rfl, h4⟩ hN
    cases rs with
    | nil => exact nomatch h1
    | cons x rs =>
      have h1' : d = e x ∧ ds = rs.map e := List.cons.inj h1
      obtain ⟨rfl, rfl⟩ := h1'
      have hl2 : items.length = dn.length + (rs.length + 1) := by rw [h4, List.length_append, List.length_cons]
      have hle : ((dn.filter f).map g).length ≤ dn.length := by rw [List.length_map]; exact List.length_filter_le ..
      refine hs x (by rw [h4]; simp) _ N (fun hx => ?_) (fun hx => ?_) (by omega)
      · exact hN _ _ ⟨dn ++ [x], rs, rfl, by rw [List.filter_append, List.map_append]; simp [hx], rfl, by rw [h4]; simp⟩
      · exact hN _ _ ⟨dn ++ [x], rs, rfl, by rw [List.filter_append, List.map_append]; simp [hx], rfl, by rw [h4]; simp⟩
theorem half_pow {p : Nat} [Bs p] {x : Pol p} (h : x.n ≤ 1000000) : p ^ ((x.len - 1) / 2) ≤ 500000 := by
  by_cases hx : x = 0
  · rw [hx, len_zero, Nat.zero_sub, Nat.zero_div, Nat.pow_zero]; omega
  · have h1 := len_pos hx
    have h2 := len_le (x := x) (k := x.len - 1)
    have h3 : p ^ (x.len - 1) ≤ 1000000 := by omega
    have h4 : p ^ ((x.len - 1) / 2) * p ^ ((x.len - 1) / 2) ≤ p ^ (x.len - 1) := by
      rw [← Nat.pow_add]
      exact Nat.pow_le_pow_right (by have := Bs.two p; omega) (by omega)
    generalize p ^ ((x.len - 1) / 2) = k at *
    refine Classical.byContradiction fun hn => ?_
    have : 1001 * 1001 ≤ k * k := Nat.mul_le_mul (by omega) (by omega)
    omega
noncomputable def primeD (p : Nat) [Bs p] (d : D) : Bool := match d with
  | .int i => decide ((p : Int) ≤ i ∧ i ≤ 1000000 ∧ Prm (⟨i.toNat⟩ : Pol p))
  | _ => false
def s_is_prime_number : SpD := fun ds G Q _ => ∃ (p : Nat) (_ : Bs p) (d : D), ds = [.int p, d] ∧ tyOk d = true ∧ Q (.bl (primeD p d)) G
def p_is_prime_number : VS := (vRet (vAnd (vDef s_is_within (vCons (vVar 1) (vCons (vVar 0) (vCons (vC (.int 1000000)) vNil)))) (vDef s_is_prime_row (vCons (vVar 0) (vCons (vDef s_row_of (vCons (vVar 0) (vCons (vVar 1) vNil))) vNil)))))
theorem v_is_prime_number (ds : List D) (G : Gs) (Qd : D → Gs → Prop) (Ed : EK) (h : s_is_prime_number ds G Qd Ed) : ds.length = 2 ∧ p_is_prime_number Ed (ends0 Qd) (startL ["base", "thing"] ds) G := by
  obtain ⟨p, hp, d, rfl, ht, q⟩ := h
  refine ⟨rfl, ?_⟩
  have p2 := Bs.two p
  obtain ⟨t, ht⟩ := tyOk_of ht
  show p_is_prime_number Ed (ends0 Qd) [.val (.int p), .val d] G
  unfold p_is_prime_number
  walk_at "v"
  refine ⟨d, t, p, 1000000, rfl, ht, ?_⟩
  cases hb : inR p 1000000 d with
  | false =>
    have e : primeD p d = false := by
      cases d with
      | int i =>
        refine decide_eq_false fun h => ?_
        rw [inR_true h.1 h.2.1] at hb
        cases hb
      | _ => rfl
    rw [e] at q
    exact q
  | true =>
    obtain ⟨i, rfl, h1, h2⟩ := inR_of hb
    obtain ⟨n, rfl⟩ := Int.eq_ofNat_of_zero_le (show 0 ≤ i by omega)
    have hl : (⟨n⟩ : Pol p).len ≤ 20 := len_20 (by show n ≤ 1000000; omega)
    refine u_row_of (by omega) ⟨p, hp, ⟨n⟩, rfl, by omega, half_pow (by show n ≤ 1000000; omega), ?_⟩
    have e : primeD p (.int n) = decide (Prm (⟨n⟩ : Pol p)) := by
      show decide ((p : Int) ≤ n ∧ (n : Int) ≤ 1000000 ∧ Prm (⟨n⟩ : Pol p)) = _
      by_cases h : Prm (⟨n⟩ : Pol p)
      · rw [decide_eq_true h, decide_eq_true ⟨h1, h2, h⟩]
      · rw [decide_eq_false h, decide_eq_false fun z => h z.2.2]
    rw [← e]
    exact q
def anyOne : List (Str × (Nat → D → Bool)) := [("", fun _ _ => true)]
noncomputable def okPrime : OkS := fun p hp ds G Q _ => match ds with
  | [d] => Q (.bl (primeD p d)) G
  | _ => False
noncomputable def s_is_prime : SpD := pubG anyOne okPrime
def p_is_prime_1 : VS := (vRet (vDef s_is_prime_number (vCons (vVar 0) (vCons (vVar 1) vNil))))
def p_is_prime : VS := (vSeq (vDrop (vDef s_need_base (vCons (vVar 0) vNil))) p_is_prime_1)
theorem v_is_prime (ds : List D) (G : Gs) (Qd : D → Gs → Prop) (Ed : EK) (h : s_is_prime ds G Qd Ed) : ds.length = 2 ∧ p_is_prime Ed (ends0 Qd) (startL ["base", "thing"] ds) G := by
  obtain ⟨db, ds', rfl, hl, t, t2, e1, q⟩ := h
  obtain ⟨d1, rfl⟩ : ∃ d1, ds' = [d1] := match ds', hl with | [d1], _ => ⟨d1, rfl⟩
  refine ⟨rfl, ?_⟩
  show p_is_prime Ed (ends0 Qd) [.val db, .val d1] G
  obtain ⟨t, ht⟩ := tyOk_of t
  rw [List.all_cons, Bool.and_eq_true] at t2
  unfold p_is_prime p_is_prime_1
  walk_at "v"
  refine ⟨db, t, rfl, ht, fun ok => ?_, e1⟩
  obtain ⟨p, hp, rfl⟩ := baseOk_bs ok
  exact ⟨p, hp, d1, rfl, t2.1, q p hp rfl⟩
def mostCk : List (Str × (Nat → D → Bool)) := [("BadMost", fun _ d => inR 1 2000 d)]
noncomputable def primesL (p : Nat) [Bs p] (m : Nat) : List Nat := (List.range' p (m + 1 - p)).filter fun n => decide (Prm (⟨n⟩ : Pol p))
noncomputable def okPrimes : OkS := fun p hp ds G Q _ => match ds with
  | [.int m] => Q (.tup ((primesL p m.toNat).map fun n => D.int (n : Nat))) G
  | _ => False
noncomputable def s_primes_to : SpD := pubG mostCk okPrimes
def p_primes_to_2 : VS := (vRet (vCall dTupOf (vCons (vComp (viRng2 (vCons (vVar 0) (vCons (eN (nOp dAddN (vPk 1) (vC (.int 1)))) vNil))) (vgName 2) [2] (vB (vDef s_is_prime_row (vCons (vVar 0) (vCons (vDef s_row_of (vCons (vVar 0) (vCons (vVar 2) vNil))) vNil)))) (vVar 2)) vNil)))
def p_primes_to_1 : VS := (vSeq (vIfS (vNotT (vB (vDef s_is_within (vCons (vVar 1) (vCons (vC (.int 1)) (vCons (vC (.int 2000)) vNil)))))) (vRaise ⟨"BadMost", none⟩) vNext) p_primes_to_2)
def p_primes_to : VS := (vSeq (vDrop (vDef s_need_base (vCons (vVar 0) vNil))) p_primes_to_1)
theorem v_primes_to (ds : List D) (G : Gs) (Qd : D → Gs → Prop) (Ed : EK) (h : s_primes_to ds G Qd Ed) : ds.length = 2 ∧ p_primes_to Ed (ends0 Qd) (startL ["base", "most", "number"] ds) G := by
  obtain ⟨db, ds', rfl, hl, t, t2, e1, q⟩ := h
  obtain ⟨d1, rfl⟩ : ∃ d1, ds' = [d1] := match ds', hl with | [d1], _ => ⟨d1, rfl⟩
  refine ⟨rfl, ?_⟩
  show p_primes_to Ed (ends0 Qd) [.val db, .val d1, .no] G
  obtain ⟨t, ht⟩ := tyOk_of t
  rw [List.all_cons, Bool.and_eq_true] at t2
  obtain ⟨u, hu⟩ := tyOk_of t2.1
  unfold p_primes_to
  walk_at "v"
  refine ⟨db, t, rfl, ht, fun ok => ?_, e1⟩
  obtain ⟨p, hp, rfl⟩ := baseOk_bs ok
  have p2 := Bs.two p
  have p5 := Bs.five p
  replace q := q p hp rfl
  unfold mostCk at q
  show p_primes_to_1 _ _ _ _
  unfold p_primes_to_1
  walk_at "v"
  refine ⟨d1, u, 1, 2000, rfl, hu, ?_⟩
  cases hb : inR 1 2000 d1 with
  | false =>
    rw [firstBad_bad hb] at q
    exact q
  | true =>
    rw [firstBad_ok hb, firstBad_nil] at q
    obtain ⟨i, rfl, h1, h2⟩ := inR_of hb
    obtain ⟨m, rfl⟩ := Int.eq_ofNat_of_zero_le (show 0 ≤ i by omega)
    show p_primes_to_2 _ _ _ _
    unfold p_primes_to_2
    walk_at "v"
    refine ⟨⟨by omega, by omega⟩, ⟨by omega, by omega⟩, ?_⟩
    rw [show ((m : Int) + 1 - p).toNat = m + 1 - p by omega, rangeD_cast]
    refine compV_fm (fun i : Nat => D.int i) (fun n => decide (Prm (⟨n⟩ : Pol p))) (fun i : Nat => D.int i) (smallN (by rw [List.length_range']; omega)) ?_ q
    intro n hn acc N n1 n2 n3
    rw [List.mem_range'_1] at hn
    walk_at "v"
    have hl : (⟨n⟩ : Pol p).len ≤ 20 := len_20 (by show n ≤ 1000000; omega)
    refine u_row_of (by omega) ⟨p, hp, ⟨n⟩, rfl, by omega, half_pow (by show n ≤ 1000000; omega), ?_⟩
    dsimp only
    cases h : decide (Prm (⟨n⟩ : Pol p)) with
    | true => exact ⟨n3, n1 h⟩
    | false => exact n2 h
def s__law_is_number : SpD := s_is_whole
def p__law_is_number : VS := (vRet (vAnd (vIsTy "int" (vPk 0)) (vNot (vIsTy "bool" (vPk 0)))))
theorem v__law_is_number (ds : List D) (G : Gs) (Qd : D → Gs → Prop) (Ed : EK) (h : s__law_is_number ds G Qd Ed) : ds.length = 1 ∧ p__law_is_number Ed (ends0 Qd) (startL ["thing"] ds) G := by
  obtain ⟨d, t, rfl, ht, q⟩ := h
  refine ⟨rfl, ?_⟩
  show p__law_is_number Ed (ends0 Qd) [.val d] G
  unfold p__law_is_number
  walk_at "v"
  rw [ht]
  cases d <;> cases ht <;> exact q
def oddL : List D := [.non, .bl true, .int (-1), .str "2", .tup [], .lst [], .dct [] [], .tup [.int 1], .tup [.int 1, .non], .int 1000001, .lst [.int 3], .tup [.tup [.int 2, .int 2]]]
def s__law_odd : SpD := fun ds G Q _ => ds = [.draw] ∧ GOk G ∧ ∀ d ∈ oddL, ∀ G', GOk G' → Q d G'
def p__law_odd : VS := (vRet (vDef s__law_pick (vCons (vVar 0) (vCons (vLst (vCons (vC .non) (vCons (vC (.bl true)) (vCons (vOp dSub (vC (.int 0)) (vC (.int 1))) (vCons (vC (.str "2")) (vCons (vTup vNil) (vCons (vLst vNil) (vCons (vC (.dct [] [])) (vCons (vTup (vCons (vC (.int 1)) vNil)) (vCons (vTup (vCons (vC (.int 1)) (vCons (vC .non) vNil))) (vCons (eN (nOp dAddN (vOp dPow (vC (.int 10)) (vC (.int 6))) (vC (.int 1)))) (vCons (vLst (vCons (vC (.int 3)) vNil)) (vCons (vTup (vCons (vTup (vCons (vC (.int 2)) (vCons (vC (.int 2)) vNil))) vNil)) vNil))))))))))))) vNil))))
theorem v__law_odd (ds : List D) (G : Gs) (Qd : D → Gs → Prop) (Ed : EK) (h : s__law_odd ds G Qd Ed) : ds.length = 1 ∧ p__law_odd Ed (ends0 Qd) (startL ["draw"] ds) G := by
  obtain ⟨rfl, hG, q⟩ := h
  refine ⟨rfl, ?_⟩
  show p__law_odd Ed (ends0 Qd) [.val .draw] G
  unfold p__law_odd
  walk_at "v"
  rw [ten6]
  refine ⟨smallN (by simp), smallN (by simp), smallN (by simp), smallN (by simp), ⟨by omega, by omega, by decide⟩, smallN (by simp), smallN (by simp), smallN (by simp), smallN (by simp), ?_⟩
  exact ⟨oddL, rfl, by simp [oddL], by simp [oddL], hG, q⟩
end SP
set_option Elab.async false
set_option autoImplicit false
set_option linter.all false
set_option maxRecDepth 100000
set_option maxHeartbeats 2000000
namespace SP
open PySem PySem.Spec PyProof.Rows L2 VL PO
local macro_rules | `(tactic| walk_at "v") => `(tactic| simp only [vSeq, vNext, vVar, vPk, vC, vOp, vB, vSet, vPar, vApp, vShare, vRet, vRetN, vDrop, vIfS, vSetIx, ownLst, setL, setAll, slotN, xN, xNil, nE, nF, eN, nOp, nSl, nRev, nIf, vNo, vPart, vNil, vCons, vTup, vLst, vCall, vDef, vNeg, vChain, vAnd, vOr, vNot, vAndT, vOrT, vNotT, vIf, vRaise, vBrk, vCnt, vUnp, vgName, vgNil, vgCons, vgTup, vqVar, vqVal, viRng1, viRng2, viRng3, viEnum, vYes, lockL, lock1, unlL, unl1, wipeV, vComp, vFor, vTru, vIsTy, vOwn, vExt, vPop, vDrwW, vDrwC, vDrwN, vPutW, vPutN, vDct, vpNil, vpCons, vDGet, vDGet2, vDIn, dAdd, dSub, dMul, dMod, dDiv, dPow, dCmp, dLt, dLe, dGt, dGe, dAddN, dMulN, dIx, dLen, dInt, dTupOf, dLstOf, dMax2, dMin2, dIs, dIsN, dRepr, vDefK, permD, hideL, List.map_cons, List.map_nil, viZip, vqVarK, vqValK, lockL, lock1, unlL, unl1, seqD, List.set_cons_zero, List.set_cons_succ, List.getElem?_cons_zero, List.getElem?_cons_succ, List.getElem?_nil, List.set_nil])
/-! ### how many primes -/
theorem eq_dec {i j : Int} {k : D → Prop} (q : k (.bl (decide (i = j)))) : dEq (.int i) (.int j) k := q
def manyF (p : Nat) : Nat → Nat → Int
  | 0, _ => 0
  | n + 1, s => ((List.range' 1 (s - 1)).foldl (fun l late => if s % late = 0 then l - (late : Int) * manyF p n late else l) (((p ^ s : Nat) : Int))) / (s : Int)
def sMany (n : Nat) : SpD := fun ds G Q _ => ∃ (p : Nat) (_ : Bs p) (s : Nat), ds = [.int p, .int s] ∧ 1 ≤ s ∧ s ≤ n ∧ s ≤ 12 ∧ Q (.int (manyF p n s)) G
abbrev s_many_by : SpD := sMany 12
def p_many_by_2 (s_many_by : SpD) : VS := (vRet (vOp dDiv (vPk 2) (vPk 1)))
def p_many_by_1 (s_many_by : SpD) : VS := (vSeq (vFor (viRng2 (vCons (vC (.int 1)) (vCons (vVar 1) vNil))) (vgName 3) (vIfS (vB (vOp dEq (vOp dMod (vPk 1) (vPk 3)) (vC (.int 0)))) (vSet 2 (nE (vOp dSub (vPk 2) (eN (nOp dMulN (vPk 3) (vDef s_many_by (vCons (vVar 0) (vCons (vVar 3) vNil)))))))) vNext)) (p_many_by_2 s_many_by))
def p_many_by (s_many_by : SpD) : VS := (vSeq (vSet 2 (nE (vDef s_powered (vCons (vVar 0) (vCons (vVar 1) vNil))))) (p_many_by_1 s_many_by))
theorem v_many_by (n : Nat) (ds : List D) (G : Gs) (Qd : D → Gs → Prop) (Ed : EK) (h : sMany (n + 1) ds G Qd Ed) : ds.length = 2 ∧ p_many_by (sMany n) Ed (ends0 Qd) (startL ["base", "size", "left", "late"] ds) G := by
  obtain ⟨p, hp, s, rfl, h1, h2, h3, q⟩ := h
  refine ⟨rfl, ?_⟩
  have p2 := Bs.two p
  have p5 := Bs.five p
  show p_many_by (sMany n) Ed (ends0 Qd) [.val (.int p), .val (.int s), .no, .no] G
  unfold p_many_by p_many_by_1
  walk_at "v"
  refine u_power (by omega) (by omega) ?_
  refine ⟨⟨by omega, by omega⟩, ⟨by omega, by omega⟩, ?_⟩
  rw [show ((s : Int) - 1).toNat = s - 1 by omega, show rangeD 1 1 (s - 1) = (List.range' 1 (s - 1)).map fun i => D.int (i : Nat) from rangeD_cast 1 (s - 1)]
  refine forV_ind (fun rem L G' => ∃ (dn rs : List Nat) (a : Option D), rem = rs.map (fun i => D.int (i : Nat)) ∧ List.range' 1 (s - 1) = dn ++ rs ∧ G' = G ∧ L = [.val (.int p), .val (.int s), .val (.int (dn.foldl (fun l late => if s % late = 0 then l - (late : Int) * manyF p n late else l) ((p ^ s : Nat) : Int))), optS a]) ⟨[], _, none, rfl, rfl, rfl, rfl⟩ ?_ ?_
  · rintro L G' ⟨dn, rs, a, hr, hs, rfl, rfl⟩
    have : rs = [] := List.map_eq_nil_iff.mp hr.symm
    subst this
    rw [List.append_nil] at hs
    rw [← hs]
    cases a <;> (simp only [optS]; unfold p_many_by_2; walk_at "v"; exact ⟨⟨by omega, log2_small (by omega)⟩, q⟩)
  · rintro d ds L G' N ⟨dn, rs, a, hr, hs, rfl, rfl⟩ hN
    cases rs with
    | nil => exact nomatch hr
    | cons x rs =>
      have hr' : d = D.int (x : Nat) ∧ ds = rs.map (fun i => D.int (i : Nat)) := List.cons.inj hr
      obtain ⟨rfl, rfl⟩ := hr'
      have hx : x ∈ List.range' 1 (s - 1) := by rw [hs]; simp
      rw [List.mem_range'_1] at hx
      have hN2 := hN [.val (.int p), .val (.int s), .val (.int ((dn ++ [x]).foldl (fun l late => if s % late = 0 then l - (late : Int) * manyF p n late else l) ((p ^ s : Nat) : Int))), .val (.int x)] G' ⟨dn ++ [x], rs, some _, rfl, by rw [hs]; simp, rfl, rfl⟩
      rw [List.foldl_append, List.foldl_cons, List.foldl_nil] at hN2
      generalize dn.foldl (fun l late => if s % late = 0 then l - (late : Int) * manyF p n late else l) ((p ^ s : Nat) : Int) = l at *
      cases a <;> (simp only [optS]; walk_at "v"; refine ⟨by omega, eq_dec ?_⟩)
      all_goals
        by_cases hd : s % x = 0
        · rw [if_pos hd] at hN2
          rw [decide_eq_true (show (s : Int) % (x : Int) = 0 by omega)]
          exact ⟨p, hp, x, rfl, by omega, by omega, by omega, mul_smallL (by omega), hN2⟩
        · rw [if_neg hd] at hN2
          rw [decide_eq_false (show ¬ (s : Int) % (x : Int) = 0 by omega)]
          exact hN2
end SP
set_option Elab.async false
set_option autoImplicit false
set_option linter.all false
set_option maxRecDepth 100000
set_option maxHeartbeats 2000000
namespace SP
open PySem PySem.Spec PyProof.Rows L2 VL PO
local macro_rules | `(tactic| walk_at "v") => `(tactic| simp only [vSeq, vNext, vVar, vPk, vC, vOp, vB, vSet, vPar, vApp, vShare, vRet, vRetN, vDrop, vIfS, vSetIx, ownLst, setL, setAll, slotN, xN, xNil, nE, nF, eN, nOp, nSl, nRev, nIf, vNo, vPart, vNil, vCons, vTup, vLst, vCall, vDef, vNeg, vChain, vAnd, vOr, vNot, vAndT, vOrT, vNotT, vIf, vRaise, vBrk, vCnt, vUnp, vgName, vgNil, vgCons, vgTup, vqVar, vqVal, viRng1, viRng2, viRng3, viEnum, vYes, lockL, lock1, unlL, unl1, wipeV, vComp, vFor, vTru, vIsTy, vOwn, vExt, vPop, vDrwW, vDrwC, vDrwN, vPutW, vPutN, vDct, vpNil, vpCons, vDGet, vDGet2, vDIn, dAdd, dSub, dMul, dMod, dDiv, dPow, dCmp, dLt, dLe, dGt, dGe, dAddN, dMulN, dIx, dLen, dInt, dTupOf, dLstOf, dMax2, dMin2, dIs, dIsN, dRepr, vDefK, permD, hideL, List.map_cons, List.map_nil, viZip, vqVarK, vqValK, lockL, lock1, unlL, unl1, seqD, List.set_cons_zero, List.set_cons_succ, List.getElem?_cons_zero, List.getElem?_cons_succ, List.getElem?_nil, List.set_nil])
/-! ### common divisors -/
def s_common_rows : SpD := fun ds G Q _ => ∃ (p : Nat) (_ : Bs p) (x y : Pol p), ds = [.int p, R x, R y] ∧ x.len ≤ 1000 ∧ y.len ≤ 1000 ∧ Q (R (gcd x y)) G
def s__law_common : SpD := s_common_rows
theorem gcd_zero_zero {p : Nat} [Bs p] {x y : Pol p} (h : gcdP x y = 0) : gcd x y = 0 := by unfold gcd; rw [h, plain_zero]
theorem dNe_R {p : Nat} [Bs p] {x : Pol p} {k : D → Prop} (h0 : x = 0 → k (.bl false)) (h1 : x ≠ 0 → k (.bl true)) : dNe (R x) (.tup []) k := by
  refine dNe_row (b := []) ?_
  by_cases h : x = 0
  · rw [decide_eq_true (rowL_nil.mpr h)]; exact h0 h
  · rw [decide_eq_false fun z => h (rowL_nil.mp z)]; exact h1 h
theorem dEq_R {p : Nat} [Bs p] {x : Pol p} {k : D → Prop} (h0 : x = 0 → k (.bl true)) (h1 : x ≠ 0 → k (.bl false)) : dEq (R x) (.tup []) k := by
  refine dEq_row (b := []) ?_
  by_cases h : x = 0
  · rw [decide_eq_true (rowL_nil.mpr h)]; exact h0 h
  · rw [decide_eq_false fun z => h (rowL_nil.mp z)]; exact h1 h
def p_common_rows_2 : VS := (vRet (eN (nIf (vB (vOp dNe (vPk 3) (vTup vNil))) (nE (vDef s_plain_row (vCons (vVar 0) (vCons (vVar 3) vNil)))) (nE (vTup vNil)))))
def p_common_rows_1 : VS := (vSeq (vWhile (vB (vOp dNe (vPk 4) (vTup vNil))) (vPar [3, 4] (xN (nE (vVar 4)) (xN (nE (vOp dIx (vDef s_divided_rows (vCons (vVar 0) (vCons (vVar 3) (vCons (vVar 4) vNil)))) (vC (.int 1)))) xNil)))) p_common_rows_2)
def p_common_rows : VS := (vSeq (vPar [3, 4] (xN (nE (vVar 1)) (xN (nE (vVar 2)) xNil))) p_common_rows_1)
theorem v_common_rows (ds : List D) (G : Gs) (Qd : D → Gs → Prop) (Ed : EK) (h : s_common_rows ds G Qd Ed) : ds.length = 3 ∧ p_common_rows Ed (ends0 Qd) (startL ["base", "one", "other", "here", "late"] ds) G := by
  obtain ⟨p, hp, x, y, rfl, h1, h2, q⟩ := h
  refine ⟨rfl, ?_⟩
  show p_common_rows Ed (ends0 Qd) [.val (.int p), .val (R x), .val (R y), .no, .no] G
  unfold p_common_rows p_common_rows_1
  walk_at "v"
  refine vWhile_ind (n := y.len) (fun k L G' => ∃ a b : Pol p, G' = G ∧ L = [.val (.int p), .val (R x), .val (R y), .val (R a), .val (R b)] ∧ k = b.len ∧ a.len ≤ 1000 ∧ b.len ≤ 1000 ∧ gcdP a b = gcdP x y) ⟨x, y, rfl, rfl, rfl, h1, h2, rfl⟩ ?_
  rintro k L G' ⟨a, b, rfl, rfl, rfl, l1, l2, e⟩
  walk_at "v"
  refine ⟨smallN (by simp), dNe_R (fun hb => ?_) (fun hb => ?_)⟩
  · rw [hb, gcd_zero] at e
    show p_common_rows_2 Ed (ends0 Qd) _ _
    unfold p_common_rows_2
    walk_at "v"
    refine ⟨smallN (by simp), dNe_R (fun ha => ?_) (fun ha => ?_)⟩
    · rw [gcd_zero_zero (by rw [← e, ha]), R_zero] at q
      exact ⟨smallN (by simp), q⟩
    · refine u_plain_row ha (by omega) ?_
      rw [e]
      exact q
  · refine u_pdivided hb (by omega) (by omega) ⟨_, rfl, ?_⟩
    have := mod_len a hb
    exact ⟨(a % b).len, this, b, a % b, rfl, rfl, rfl, l2, by omega, by rw [← gcd_step a hb]; exact e⟩
def p__law_common_2 : VS := (vRet (eN (nIf (vB (vOp dNe (vPk 3) (vTup vNil))) (nE (vDef s__law_plain (vCons (vVar 0) (vCons (vVar 3) vNil)))) (nE (vTup vNil)))))
def p__law_common_1 : VS := (vSeq (vFor (viRng1 (vCons (vC (.int 2000)) vNil)) (vgName 5) (vSeq (vIfS (vB (vOp dEq (vPk 4) (vTup vNil))) vBrk vNext) (vPar [3, 4] (xN (nE (vVar 4)) (xN (nE (vOp dIx (vDef s__law_divided (vCons (vVar 0) (vCons (vVar 3) (vCons (vVar 4) vNil)))) (vC (.int 1)))) xNil))))) p__law_common_2)
def p__law_common : VS := (vSeq (vPar [3, 4] (xN (nE (vVar 1)) (xN (nE (vVar 2)) xNil))) p__law_common_1)
theorem v__law_common (ds : List D) (G : Gs) (Qd : D → Gs → Prop) (Ed : EK) (h : s__law_common ds G Qd Ed) : ds.length = 3 ∧ p__law_common Ed (ends0 Qd) (startL ["base", "one", "other", "here", "late", "lap"] ds) G := by
  obtain ⟨p, hp, x, y, rfl, h1, h2, q⟩ := h
  refine ⟨rfl, ?_⟩
  show p__law_common Ed (ends0 Qd) [.val (.int p), .val (R x), .val (R y), .no, .no, .no] G
  unfold p__law_common p__law_common_1
  walk_at "v"
  have fin : ∀ (a : Pol p) (b : D) (s5 : Option D), gcdP x y = a → a.len ≤ 1000 → p__law_common_2 Ed (ends0 Qd) [.val (.int p), .val (R x), .val (R y), .val (R a), .val b, optS s5] G := by
    intro a b s5 e l1
    unfold p__law_common_2
    walk_at "v"
    refine ⟨smallN (by simp), dNe_R (fun ha => ?_) (fun ha => ?_)⟩
    · rw [gcd_zero_zero (by rw [e, ha]), R_zero] at q
      exact ⟨smallN (by simp), q⟩
    · refine u_plain ha (by omega) ?_
      rw [← e]
      exact q
  refine ⟨⟨by omega, by omega⟩, ?_⟩
  refine forV_ind (fun rem L G' => ∃ (a b : Pol p) (s5 : Option D), G' = G ∧ L = [.val (.int p), .val (R x), .val (R y), .val (R a), .val (R b), optS s5] ∧ b.len < rem.length + 1 ∧ a.len ≤ 1000 ∧ b.len ≤ 1000 ∧ gcdP a b = gcdP x y) ⟨x, y, none, rfl, rfl, by rw [rangeD_length]; show y.len < 2000 + 1; omega, h1, h2, rfl⟩ ?_ ?_
  · rintro L G' ⟨a, b, s5, rfl, rfl, l0, l1, l2, e⟩
    have hb : b = 0 := len_eq_zero.mp (by have : b.len < 0 + 1 := l0; omega)
    rw [hb, gcd_zero] at e
    exact fin a _ s5 e.symm l1
  · rintro d ds L G' N ⟨a, b, s5, rfl, rfl, l0, l1, l2, e⟩ hN
    rw [List.length_cons] at l0
    cases s5 <;> (simp only [optS]; walk_at "v"; refine ⟨smallN (by simp), dEq_R (fun hb => ?_) (fun hb => ?_)⟩)
    all_goals first
      | (rw [hb, gcd_zero] at e
         exact fin a _ (some d) e.symm l1)
      | (have := mod_len a hb
         exact u_divided hb (by omega) (by omega) ⟨_, rfl, hN _ _ ⟨b, a % b, some d, rfl, rfl, by omega, l2, by omega, by rw [← gcd_step a hb]; exact e⟩⟩)
def s_common_of : SpD := pubG two (okN2 fun _ _ x y => (gcd x y).n)
theorem u_common {p : Nat} [hp : Bs p] {x y : Pol p} {G : Gs} {Q : D → Gs → Prop} {E : EK} (h1 : x.len ≤ 1000) (h2 : y.len ≤ 1000) (q : Q (R (gcd x y)) G) : s_common_rows [.int p, R x, R y] G Q E := ⟨p, hp, x, y, rfl, h1, h2, q⟩
theorem u_lcommon {p : Nat} [hp : Bs p] {x y : Pol p} {G : Gs} {Q : D → Gs → Prop} {E : EK} (h1 : x.len ≤ 1000) (h2 : y.len ≤ 1000) (q : Q (R (gcd x y)) G) : s__law_common [.int p, R x, R y] G Q E := ⟨p, hp, x, y, rfl, h1, h2, q⟩
def p_common_of_1 : VS := (vRet (vDef s_number_by (vCons (vVar 0) (vCons (vDef s_common_rows (vCons (vVar 0) (vCons (vDef s_row_of (vCons (vVar 0) (vCons (vVar 1) vNil))) (vCons (vDef s_row_of (vCons (vVar 0) (vCons (vVar 2) vNil))) vNil)))) vNil))))
def p_common_of : VS := (vSeq (vDrop (vDef s_need_two (vCons (vVar 0) (vCons (vVar 1) (vCons (vVar 2) vNil))))) p_common_of_1)
theorem v_common_of (ds : List D) (G : Gs) (Qd : D → Gs → Prop) (Ed : EK) (h : s_common_of ds G Qd Ed) : ds.length = 3 ∧ p_common_of Ed (ends0 Qd) (startL ["base", "one", "other"] ds) G := by
  obtain ⟨db, ds', rfl, hl, t, t2, e1, q⟩ := h
  obtain ⟨d1, d2, rfl⟩ : ∃ d1 d2, ds' = [d1, d2] := match ds', hl with | [d1, d2], _ => ⟨d1, d2, rfl⟩
  refine ⟨rfl, ?_⟩
  show p_common_of Ed (ends0 Qd) [.val db, .val d1, .val d2] G
  unfold p_common_of p_common_of_1
  walk_at "v"
  refine ⟨db, [d1, d2], rfl, rfl, t, t2, e1, fun p hp e => ?_⟩
  replace q := q p hp e
  cases hf : firstBad p two [d1, d2] with
  | some c => rw [hf] at q; exact q
  | none =>
    rw [hf] at q
    obtain ⟨m, n, e2, hm, hn⟩ := two_none rfl hf
    cases e2
    subst e
    have lm : (⟨m⟩ : Pol p).len ≤ 20 := len_20 hm
    have ln : (⟨n⟩ : Pol p).len ≤ 20 := len_20 hn
    exact u_row_of (by omega) (u_row_of (by omega) (u_common (by omega) (by omega) (u_worth q)))
theorem u_common_of {p : Nat} [hp : Bs p] {m n : Nat} {G : Gs} {Q : D → Gs → Prop} {E : EK} (hm : m ≤ 1000000) (hn : n ≤ 1000000) (q : Q (.int ((gcd (⟨m⟩ : Pol p) ⟨n⟩).n : Nat)) G) : s_common_of [.int p, .int m, .int n] G Q E := u_K (two_ok hm hn) rfl rfl q
/-- plain numbers are the least of their length -/
theorem plain_n_le {p : Nat} [Bs p] (x : Pol p) : (plain x).n ≤ x.n := by
  by_cases hx : x = 0
  · rw [hx, plain_zero]; exact Nat.le_refl _
  · by_cases hm : x.lead.val = 1
    · have : Monic x := Fin.ext (by rw [fin_val_one]; exact hm)
      rw [Monic.plain this]
      exact Nat.le_refl _
    · have h1 := code_monic (plain_monic hx)
      rw [PO.plain_len] at h1
      have h0 : x.lead.val ≠ 0 := fun e => lead_ne hx (Fin.ext e)
      have hp : 0 < p ^ (x.len - 1) := Nat.pow_pos (by have := Bs.two p; omega)
      have hlt : x.n < p ^ x.len := len_le.mp (Nat.le_refl _)
      have e3 : p ^ x.len = p * p ^ (x.len - 1) := by
        rw [Nat.mul_comm, ← Nat.pow_succ]
        congr 1
        have := len_pos hx
        omega
      have hdiv : x.n / p ^ (x.len - 1) < p := by rw [Nat.div_lt_iff_lt_mul hp, ← e3]; exact hlt
      have e : x.lead.val = x.n / p ^ (x.len - 1) % p := rfl
      rw [Nat.mod_eq_of_lt hdiv] at e
      have h3 : 2 ≤ x.n / p ^ (x.len - 1) := by omega
      have h4 := (Nat.le_div_iff_mul_le hp).mp h3
      omega
theorem gcd_n_le {p : Nat} [Bs p] {x : Pol p} (y : Pol p) (hx : x ≠ 0) : (gcd x y).n ≤ x.n := by
  have hd := gcd_dl x y
  have hl := len_dvd hd hx
  by_cases h : (gcd x y).len < x.len
  · exact Nat.le_of_lt (n_lt_of_len h)
  · have e : gcd x y = plain x := monic_dvd (gcd_monic (.inl hx)) (plain_monic hx) (dvd_trans hd (dvd_plain x)) (by rw [PO.plain_len]; omega)
    rw [e]
    exact plain_n_le x
theorem gcd_comm {p : Nat} [Bs p] (x y : Pol p) : gcd x y = gcd y x := by
  by_cases h : x ≠ 0 ∨ y ≠ 0
  · exact gcd_unique (gcd_monic (h.symm)) (gcd_dr y x) (gcd_dl y x) fun e h1 h2 => gcd_gr h2 h1
  · have hx : x = 0 := Classical.byContradiction fun z => h (.inl z)
    have hy : y = 0 := Classical.byContradiction fun z => h (.inr z)
    rw [hx, hy]
end SP
set_option Elab.async false
set_option autoImplicit false
set_option linter.all false
set_option maxRecDepth 100000
set_option maxHeartbeats 2000000
namespace SP
open PySem PySem.Spec PyProof.Rows L2 VL PO
local macro_rules | `(tactic| walk_at "v") => `(tactic| simp only [vSeq, vNext, vVar, vPk, vC, vOp, vB, vSet, vPar, vApp, vShare, vRet, vRetN, vDrop, vIfS, vSetIx, ownLst, setL, setAll, slotN, xN, xNil, nE, nF, eN, nOp, nSl, nRev, nIf, vNo, vPart, vNil, vCons, vTup, vLst, vCall, vDef, vNeg, vChain, vAnd, vOr, vNot, vAndT, vOrT, vNotT, vIf, vRaise, vBrk, vCnt, vUnp, vgName, vgNil, vgCons, vgTup, vqVar, vqVal, viRng1, viRng2, viRng3, viEnum, vYes, lockL, lock1, unlL, unl1, wipeV, vComp, vFor, vTru, vIsTy, vOwn, vExt, vPop, vDrwW, vDrwC, vDrwN, vPutW, vPutN, vDct, vpNil, vpCons, vDGet, vDGet2, vDIn, dAdd, dSub, dMul, dMod, dDiv, dPow, dCmp, dLt, dLe, dGt, dGe, dAddN, dMulN, dIx, dLen, dInt, dTupOf, dLstOf, dMax2, dMin2, dIs, dIsN, dRepr, vDefK, permD, hideL, List.map_cons, List.map_nil, viZip, vqVarK, vqValK, lockL, lock1, unlL, unl1, seqD, List.set_cons_zero, List.set_cons_succ, List.getElem?_cons_zero, List.getElem?_cons_succ, List.getElem?_nil, List.set_nil])
/-! ### factors -/
abbrev facL {p : Nat} [Bs p] (F : List (Pol p × Nat)) : List D := F.map fun z => .tup [R z.1, .int z.2]
def s_factors_by : SpD := fun ds G Q _ => ∃ (p : Nat) (_ : Bs p) (x : Pol p), ds = [.int p, R x] ∧ x ≠ 0 ∧ x.len ≤ 200 ∧ p ^ ((x.len - 1) / 2) ≤ 500000 ∧ ∀ L, IsFac x L → Q (.lst (facL L)) G
theorem nilNe {k : D → Prop} (q : k (.bl false)) : dNe (.lst []) (.lst []) k := by
  have g : Good (.lst []) := ⟨by decide, by decide⟩
  exact ⟨true, g.eqD, q⟩
theorem Inv.flen {p : Nat} [Bs p] {x : Pol p} {m : Nat} {F : List (Pol p × Nat)} {l : Pol p} (hx : x ≠ 0) (I : Inv x m F l) : F.length ≤ x.len := by
  have hL : ∀ z ∈ F, Prm z.1 := fun z hz => ((I.mem z).mp hz).1
  have key : ∀ F : List (Pol p × Nat), (∀ z ∈ F, Prm z.1 ∧ 0 < z.2) → F.length + 1 ≤ (prodF F).len := by
    intro F
    induction F with
    | nil => intro _; show 0 + 1 ≤ (1 : Pol p).len; rw [len_one]; exact Nat.le_refl 1
    | cons a F ih =>
      intro h
      have ih := ih fun z hz => h z (List.mem_cons_of_mem _ hz)
      obtain ⟨hP, hk⟩ := h a List.mem_cons_self
      have h1 := (len_pow hP.ne a.2).2
      have h2 : 1 * 1 ≤ a.2 * (a.1.len - 1) := Nat.mul_le_mul hk (by have := hP.two; omega)
      have h3 := len_mul (pow_ne hP.ne a.2) (prodF_ne fun z hz => (h z (List.mem_cons_of_mem _ hz)).1)
      show (a :: F).length + 1 ≤ (a.1 ^ a.2 * prodF F).len
      rw [h3, List.length_cons]
      omega
  have h1 := key F fun z hz => by
    obtain ⟨a, b, c, d⟩ := (I.mem z).mp hz
    exact ⟨a, by rw [d]; exact (vP_pos a.two hx).mpr c⟩
  have h2 : prodF F ∣ plain x := by
    refine (dvd_iff_vP (prodF_ne hL) (plain_monic hx).ne).mpr fun P hP => ?_
    rw [vP_plain hP.two hx]
    obtain ⟨i1, i2⟩ := vP_prodF hP I.srt hL
    by_cases h : ∃ z ∈ F, z.1 = P
    · obtain ⟨z, hz, e⟩ := h
      rw [i1 z hz e, ((I.mem z).mp hz).2.2.2, e]
      exact Nat.le_refl _
    · rw [i2 fun z hz e => h ⟨z, hz, e⟩]
      exact Nat.zero_le _
  have h3 := len_dvd h2 (plain_monic hx).ne
  rw [PO.plain_len] at h3
  omega
def p_factors_by_3 : VS := (vShare 2 (vRet (vVar 2)))
def p_factors_by_2 : VS := (vSeq (vIfS (vB (vOp dGt (vCall dLen (vCons (vPk 3) vNil)) (vC (.int 1)))) (vSeq (vOwn 7 (vComp (viEnum (vqVar 2)) (vgTup 2 (vgCons (vgName 8) (vgCons (vgName 9) vgNil))) [8, 9] (vB (vOp dEq (vOp dIx (vPk 9) (vC (.int 0))) (vPk 3))) (vVar 8))) (vIfS (vB (vOp dNe (vPk 7) (vLst vNil))) (vSetIx 2 (vOp dIx (vPk 7) (vC (.int 0))) (vTup (vCons (vVar 3) (vCons (eN (nOp dAddN (vOp dIx (vOp dIx (vPk 2) (vOp dIx (vPk 7) (vC (.int 0)))) (vC (.int 1))) (vC (.int 1)))) vNil)))) (vApp 2 (vTup (vCons (vVar 3) (vCons (vC (.int 1)) vNil)))))) vNext) p_factors_by_3)
def p_factors_by_1 : VS := (vSeq (vWhile (vB (vOp dGt (vCall dLen (vCons (vPk 3) vNil)) (eN (nOp dMulN (vC (.int 2)) (vPk 4))))) (vSeq (vFor (vqVal (vDef s_plain_rows (vCons (vVar 0) (vCons (vVar 4) vNil)))) (vgName 5) (vSeq (vSet 6 (nE (vC (.int 0)))) (vSeq (vWhile (vAndT (vB (vOp dGe (vCall dLen (vCons (vPk 3) vNil)) (vCall dLen (vCons (vPk 5) vNil)))) (vB (vOp dEq (vOp dIx (vDef s_divided_rows (vCons (vVar 0) (vCons (vVar 3) (vCons (vVar 5) vNil)))) (vC (.int 1))) (vTup vNil)))) (vPar [3, 6] (xN (nE (vOp dIx (vDef s_divided_rows (vCons (vVar 0) (vCons (vVar 3) (vCons (vVar 5) vNil)))) (vC (.int 0)))) (xN (nOp dAddN (vPk 6) (vC (.int 1))) xNil)))) (vIfS (vB (vOp dGt (vPk 6) (vC (.int 0)))) (vApp 2 (vTup (vCons (vVar 5) (vCons (vVar 6) vNil)))) vNext)))) (vSet 4 (nOp dAddN (vPk 4) (vC (.int 1)))))) p_factors_by_2)
def p_factors_by : VS := (vSeq (vPar [2, 3, 4] (xN (nF (vLst vNil)) (xN (nE (vDef s_plain_row (vCons (vVar 0) (vCons (vVar 1) vNil)))) (xN (nE (vC (.int 1))) xNil)))) p_factors_by_1)
theorem v_factors_by (ds : List D) (G : Gs) (Qd : D → Gs → Prop) (Ed : EK) (h : s_factors_by ds G Qd Ed) : ds.length = 2 ∧ p_factors_by Ed (ends0 Qd) (startL ["base", "row", "found", "left", "size", "late", "often", "some", "at", "pair"] ds) G := by
  obtain ⟨p, hp, x, rfl, hx, hl, hpw, q⟩ := h
  refine ⟨rfl, ?_⟩
  have p2 := Bs.two p
  have p5 := Bs.five p
  show p_factors_by Ed (ends0 Qd) [.val (.int p), .val (R x), .no, .no, .no, .no, .no, .no, .no, .no] G
  unfold p_factors_by
  walk_at "v"
  refine ⟨Nat.zero_le _, u_plain_row hx (by omega) ?_⟩
  unfold p_factors_by_1
  have ln : ∀ y : Pol p, (List.map D.int (rowL y)).length = y.len := fun y => by rw [List.length_map, rowL_length]
  have fin : ∀ (F : List (Pol p × Nat)) (l : Pol p) (s : Nat) (a b : Option D), Inv x (p ^ s) F l → l.len ≤ 2 * s → p_factors_by_2 Ed (ends0 Qd) [.val (.int p), .val (R x), .own (.lst (facL F)), .val (R l), .val (.int s), optS a, optS b, .no, .no, .no] G := by
    intro F l s a b I hls
    have hF := Inv.flen hx I
    unfold p_factors_by_2
    walk_at "v"
    rw [ln]
    by_cases h1 : (1 : Int) < l.len
    · rw [decide_eq_true h1]
      obtain ⟨hf, hn⟩ := I.fin_prime hx (I.prime hls (by omega))
      have q1 := q _ hf
      have comp : ∀ (L0 : Lo) (k : D → Gs → Prop) (al : Lo → Gs → Prop), (∀ i : Nat, ∀ z ∈ F, ∀ N : List D → Gs → Prop, N [] G → vgTup 2 (vgCons (vgName 8) (vgCons (vgName 9) vgNil)) (.tup [.int i, .tup [R z.1, .int z.2]]) L0 fun L2 => (vB (vOp dEq (vOp dIx (vPk 9) (vC (.int 0))) (vPk 3))) Ev0 L2 G fun b G1 => match b with
            | true => (vVar 8) Ev0 L2 G1 fun y G2 => ([] : List D).length < lineN ∧ N ([] ++ [y]) G2
            | false => N [] G1) → k (.lst []) G → compV (vgTup 2 (vgCons (vgName 8) (vgCons (vgName 9) vgNil))) (vB (vOp dEq (vOp dIx (vPk 9) (vC (.int 0))) (vPk 3))) (vVar 8) L0 (enumD 0 (facL F)) [] G k := by
        intro L0 k al hstep hk
        refine compV_ind (fun rem acc G' => ∃ (i : Nat) (rs : List (Pol p × Nat)), rem = enumD i (facL rs) ∧ acc = [] ∧ G' = G ∧ ∀ z ∈ rs, z ∈ F) ⟨0, F, rfl, rfl, rfl, fun z hz => hz⟩ ?_ ?_
        · rintro acc G' ⟨i, rs, _, rfl, rfl, _⟩
          exact hk
        · rintro d ds acc G' N ⟨i, rs, hr, rfl, rfl, hz⟩ hN
          cases rs with
          | nil => exact nomatch hr
          | cons z rs =>
            have hr' : d = .tup [.int (i : Nat), .tup [R z.1, .int z.2]] ∧ ds = enumD (i + 1) (facL rs) := List.cons.inj hr
            obtain ⟨rfl, rfl⟩ := hr'
            exact hstep i z (hz z List.mem_cons_self) N (hN _ _ ⟨i + 1, rs, rfl, rfl, rfl, fun w hw => hz w (List.mem_cons_of_mem _ hw)⟩)
      have ql : F.length < lineN := Nat.lt_of_le_of_lt (show F.length ≤ 1000000 by omega) lineN_big
      cases a <;> cases b <;> simp only [optS, vSeq, vOwn, vComp, viEnum, vqVar, List.getElem?_cons_succ, List.getElem?_cons_zero, lockL, lock1, wipeV, setL, List.set_cons_succ, List.set_cons_zero] <;> refine comp _ _ (fun _ _ => True) (fun i z hz N hN => ?_) ?_
      all_goals first
        | (walk_at "v"
           refine ⟨rfl, _, rfl, dEq_row ?_⟩
           rw [decide_eq_false fun e => hn z hz (rowL_inj e)]
           exact hN)
        | (refine ⟨by simp, nilNe ?_⟩
           refine ⟨smallN (by simp), by rw [List.length_map]; exact ql, ?_⟩
           show p_factors_by_3 Ed (ends0 Qd) _ _
           unfold p_factors_by_3
           walk_at "v"
           rw [facL, List.map_append] at q1
           exact q1)
    · rw [decide_eq_false h1]
      have l1 := len_pos I.mon.ne
      have q1 := q _ (I.fin_one hx (by omega))
      cases a <;> cases b <;> (simp only [optS]; unfold p_factors_by_3; walk_at "v"; exact q1)
  have inner : ∀ (d : Pol p) (l : Pol p) (F : List (Pol p × Nat)) (s : Nat) (E2 : VEnds), Monic d → 2 ≤ d.len → d.len ≤ 200 → l ≠ 0 → l.len ≤ x.len → E2.nx [.val (.int p), .val (R x), .own (.lst (facL F)), .val (R (lapP x.len d l 0).1), .val (.int s), .val (R d), .val (.int (lapP x.len d l 0).2), .no, .no, .no] G →
      vWhile (vAndT (vB (vOp dGe (vCall dLen (vCons (vPk 3) vNil)) (vCall dLen (vCons (vPk 5) vNil)))) (vB (vOp dEq (vOp dIx (vDef s_divided_rows (vCons (vVar 0) (vCons (vVar 3) (vCons (vVar 5) vNil)))) (vC (.int 1))) (vTup vNil)))) (vPar [3, 6] (xN (nE (vOp dIx (vDef s_divided_rows (vCons (vVar 0) (vCons (vVar 3) (vCons (vVar 5) vNil)))) (vC (.int 0)))) (xN (nOp dAddN (vPk 6) (vC (.int 1))) xNil))) Ed E2 [.val (.int p), .val (R x), .own (.lst (facL F)), .val (R l), .val (.int s), .val (R d), .val (.int 0), .no, .no, .no] G := by
    intro d l F s E2 hd h2 hd2 hl0 hlx hE2
    refine vWhile_ind (n := x.len) (fun k L G' => ∃ (l' : Pol p) (o : Nat), G' = G ∧ L = [.val (.int p), .val (R x), .own (.lst (facL F)), .val (R l'), .val (.int s), .val (R d), .val (.int o), .no, .no, .no] ∧ l' ≠ 0 ∧ l'.len ≤ k ∧ l'.len ≤ x.len ∧ lapP k d l' o = lapP x.len d l 0) ⟨l, 0, rfl, rfl, hl0, hlx, hlx, rfl⟩ ?_
    rintro k L G' ⟨l', o, rfl, rfl, h0, hk, hkx, e⟩
    walk_at "v"
    rw [ln, ln]
    have out : ¬ (d.len ≤ l'.len ∧ l' % d = 0) → E2.nx [.val (.int p), .val (R x), .own (.lst (facL F)), .val (R l'), .val (.int s), .val (R d), .val (.int o), .no, .no, .no] G' := fun hn => by
      have hnd : ¬ d ∣ l' := fun hdv => hn ⟨len_dvd hdv h0, mod_eq_zero.mpr hdv⟩
      rw [lapP_no h2 h0 hnd] at e
      rw [← e] at hE2
      exact hE2
    by_cases hle : (d.len : Int) ≤ l'.len
    · rw [decide_eq_true hle]
      refine u_pdivided hd.ne (by omega) (by omega) ⟨_, rfl, smallN (by simp), dEq_R (fun hz => ?_) fun hz => out fun z => hz z.2⟩
      have hdv := dvd_of_mod hz
      have e2 := div_mul_of_dvd hd.ne hdv
      have hq : l' / d ≠ 0 := fun z => h0 (by rw [← e2, z]; grind)
      have hlen := len_mul hq hd.ne
      rw [e2] at hlen
      have := len_pos hq
      obtain ⟨k, rfl⟩ : ∃ m, k = m + 1 := ⟨k - 1, by have := len_pos h0; omega⟩
      rw [lapP, if_pos ⟨by omega, hz⟩] at e
      refine u_pdivided hd.ne (by omega) (by omega) ⟨_, rfl, ?_⟩
      exact ⟨k, by omega, l' / d, o + 1, rfl, rfl, hq, by omega, by omega, e⟩
    · rw [decide_eq_false hle]
      exact out fun z => hle (by omega)
  show vWhile _ _ Ed { ends0 Qd with nx := fun L G => p_factors_by_2 Ed (ends0 Qd) L G } _ G
  obtain ⟨WI, hWI⟩ : ∃ WI : Nat → Lo → Gs → Prop, WI = (fun k L G' => ∃ (F : List (Pol p × Nat)) (l : Pol p) (s : Nat) (a b : Option D), G' = G ∧ L = [.val (.int p), .val (R x), .own (.lst (facL F)), .val (R l), .val (.int s), optS a, optS b, .no, .no, .no] ∧ 1 ≤ s ∧ Inv x (p ^ s) F l ∧ k + s = x.len + 1) := ⟨_, rfl⟩
  refine vWhile_ind (n := x.len) WI (by rw [hWI]; exact ⟨[], PO.plain x, 1, none, none, rfl, rfl, Nat.le_refl 1, by rw [Nat.pow_one]; exact Inv.start hx, rfl⟩) ?_
  intro k L G' hW
  rw [hWI] at hW
  obtain ⟨F, l, s, a, b, rfl, rfl, hs, I, hk⟩ := hW
  have test : ∀ (a b : Option D) (k : Bool → Gs → Prop), k (decide ((2 : Int) * s < l.len)) G' → (vB (vOp dGt (vCall dLen (vCons (vPk 3) vNil)) (eN (nOp dMulN (vC (.int 2)) (vPk 4))))) Ed [.val (.int p), .val (R x), .own (.lst (facL F)), .val (R l), .val (.int s), optS a, optS b, .no, .no, .no] G' k := by
    intro a b k hk
    have hlx := I.div
    walk_at "v"
    rw [ln]
    exact ⟨mul_smallL (by decide), hk⟩
  refine test a b _ ?_
  by_cases hls : (2 : Int) * s < l.len
  · rw [decide_eq_true hls]
    have hlx := I.div
    have hps : p ^ s ≤ 500000 := Nat.le_trans (Nat.pow_le_pow_right (by omega) (by omega)) hpw
    have loop : ∀ (b : Option D) (a : Option D) (E2 : VEnds), (∀ (F' : List (Pol p × Nat)) (l' : Pol p) (a b : Option D), Inv x (p ^ (s + 1)) F' l' → E2.nx [.val (.int p), .val (R x), .own (.lst (facL F')), .val (R l'), .val (.int s), optS a, optS b, .no, .no, .no] G') →
        forV (vgName 5) (vSeq (vSet 6 (nE (vC (.int 0)))) (vSeq (vWhile (vAndT (vB (vOp dGe (vCall dLen (vCons (vPk 3) vNil)) (vCall dLen (vCons (vPk 5) vNil)))) (vB (vOp dEq (vOp dIx (vDef s_divided_rows (vCons (vVar 0) (vCons (vVar 3) (vCons (vVar 5) vNil)))) (vC (.int 1))) (vTup vNil)))) (vPar [3, 6] (xN (nE (vOp dIx (vDef s_divided_rows (vCons (vVar 0) (vCons (vVar 3) (vCons (vVar 5) vNil)))) (vC (.int 0)))) (xN (nOp dAddN (vPk 6) (vC (.int 1))) xNil)))) (vIfS (vB (vOp dGt (vPk 6) (vC (.int 0)))) (vApp 2 (vTup (vCons (vVar 5) (vCons (vVar 6) vNil)))) vNext))) [] Ed E2 ((codes p s).map fun i => R (⟨i⟩ : Pol p)) [.val (.int p), .val (R x), .own (.lst (facL F)), .val (R l), .val (.int s), optS a, optS b, .no, .no, .no] G' := by
      intro b a E2 hE2
      refine forV_ind (fun rem L G2 => ∃ (i k : Nat) (F' : List (Pol p × Nat)) (l' : Pol p) (a b : Option D), rem = (List.range' i k).map (fun i => R (⟨i⟩ : Pol p)) ∧ i + k = p ^ s + p ^ s ∧ p ^ s ≤ i ∧ G2 = G' ∧ L = [.val (.int p), .val (R x), .own (.lst (facL F')), .val (R l'), .val (.int s), optS a, optS b, .no, .no, .no] ∧ Inv x i F' l') ⟨p ^ s, p ^ s, F, l, a, b, rfl, rfl, Nat.le_refl _, rfl, rfl, I⟩ ?_ ?_
      · rintro L G2 ⟨i, k, F', l', a, b, hr, hi, _, rfl, rfl, I'⟩
        have hk : k = 0 := by
          cases k with
          | zero => rfl
          | succ k => rw [List.range'_succ] at hr; exact nomatch hr
        refine hE2 F' l' a b (Inv.next ?_)
        rw [show 2 * p ^ s = i by omega]
        exact I'
      · rintro d ds L G2 N ⟨i, k, F', l', a, b, hr, hi, hpi, rfl, rfl, I'⟩ hN
        cases k with
        | zero => exact nomatch hr
        | succ k =>
          rw [List.range'_succ] at hr
          have hr' : d = R (⟨i⟩ : Pol p) ∧ ds = (List.range' (i + 1) k).map (fun i => R (⟨i⟩ : Pol p)) := List.cons.inj hr
          obtain ⟨rfl, rfl⟩ := hr'
          obtain ⟨hmi, hli⟩ := size_codes hs i hpi (by omega)
          have hlen : (⟨i⟩ : Pol p).len ≤ 20 := len_20 (by show i ≤ 1000000; omega)
          have I2 := I'.step (d := (⟨i⟩ : Pol p)) hx hmi hli (n := x.len) I'.div
          have hF := Inv.flen hx I'
          have after : ∀ (E3 : VEnds), E3.nx = N → (vIfS (vB (vOp dGt (vPk 6) (vC (.int 0)))) (vApp 2 (vTup (vCons (vVar 5) (vCons (vVar 6) vNil)))) vNext) Ed E3 [.val (.int p), .val (R x), .own (.lst (facL F')), .val (R (lapP x.len (⟨i⟩ : Pol p) l' 0).1), .val (.int s), .val (R (⟨i⟩ : Pol p)), .val (.int (lapP x.len (⟨i⟩ : Pol p) l' 0).2), .no, .no, .no] G2 := by
            intro E3 hE3
            walk_at "v"
            by_cases ho : 0 < (lapP x.len (⟨i⟩ : Pol p) l' 0).2
            · rw [if_pos ho] at I2
              rw [decide_eq_true (show (0 : Int) < ((lapP x.len (⟨i⟩ : Pol p) l' 0).2 : Nat) by omega)]
              have := hN _ _ ⟨i + 1, k, _, _, some (R (⟨i⟩ : Pol p)), some (.int (lapP x.len (⟨i⟩ : Pol p) l' 0).2), rfl, by omega, by omega, rfl, rfl, I2⟩
              rw [facL, List.map_append] at this
              rw [hE3]
              exact ⟨smallN (by simp), by rw [List.length_map]; exact Nat.lt_of_le_of_lt (show F'.length ≤ 1000000 by omega) lineN_big, this⟩
            · rw [if_neg ho] at I2
              rw [decide_eq_false (show ¬ (0 : Int) < ((lapP x.len (⟨i⟩ : Pol p) l' 0).2 : Nat) by omega), hE3]
              exact hN _ _ ⟨i + 1, k, _, _, some _, some _, rfl, by omega, by omega, rfl, rfl, I2⟩
          cases a <;> cases b <;> (simp only [optS, vgName, setL, vSeq, vSet, nE, vC, slotN, List.set_cons_zero, List.set_cons_succ, List.getElem?_cons_zero, List.getElem?_cons_succ]; refine inner (⟨i⟩ : Pol p) l' F' s _ hmi hli (by omega) I'.mon.ne I'.div ?_; exact after _ rfl)
    have step : ∀ (F' : List (Pol p × Nat)) (l' : Pol p) (a b : Option D), Inv x (p ^ (s + 1)) F' l' → ∃ m, m < k ∧ WI m [.val (.int p), .val (R x), .own (.lst (facL F')), .val (R l'), .val (.int ((s : Int) + 1)), optS a, optS b, .no, .no, .no] G' :=
      fun F' l' a b I' => ⟨k - 1, by omega, by rw [hWI]; exact ⟨F', l', s + 1, a, b, rfl, rfl, by omega, I', by omega⟩⟩
    have pr : ∀ (k : D → Gs → Prop), k (.lst ((codes p s).map fun i => R (⟨i⟩ : Pol p))) G' → s_plain_rows [.int p, .int s] G' k Ed := fun k hk => ⟨p, hp, s, rfl, hps, by omega, hk⟩
    have nxt : ∀ (E3 : VEnds), (∀ L G, (∃ m, m < k ∧ WI m L G) → E3.nx L G) → ∀ (F' : List (Pol p × Nat)) (l' : Pol p) (a b : Option D), Inv x (p ^ (s + 1)) F' l' → (vSet 4 (nOp dAddN (vPk 4) (vC (.int 1)))) Ed E3 [.val (.int p), .val (R x), .own (.lst (facL F')), .val (R l'), .val (.int s), optS a, optS b, .no, .no, .no] G' := by
      intro E3 hE3 F' l' a b I'
      have := hE3 _ _ (step F' l' a b I')
      cases a <;> cases b <;> (simp only [optS] at this ⊢; walk_at "v"; exact this)
    cases a <;> cases b <;> (simp only [optS, vSeq, vFor, vqVal, vDef, vCons, vVar, vNil, List.getElem?_cons_zero, List.getElem?_cons_succ]; refine pr _ ?_; simp only [seqD, lockL])
    · refine loop none none _ ?_
      refine nxt ⟨fun L G => ∃ m, m < k ∧ WI m L G, Qd, noEnd, noEnd⟩ ?_
      exact fun L G h => h
    · refine loop (some _) none _ ?_
      refine nxt ⟨fun L G => ∃ m, m < k ∧ WI m L G, Qd, noEnd, noEnd⟩ ?_
      exact fun L G h => h
    · refine loop none (some _) _ ?_
      refine nxt ⟨fun L G => ∃ m, m < k ∧ WI m L G, Qd, noEnd, noEnd⟩ ?_
      exact fun L G h => h
    · refine loop (some _) (some _) _ ?_
      refine nxt ⟨fun L G => ∃ m, m < k ∧ WI m L G, Qd, noEnd, noEnd⟩ ?_
      exact fun L G h => h
  · rw [decide_eq_false hls]
    exact fin F l s a b I (by omega)
end SP
set_option Elab.async false
set_option autoImplicit false
set_option linter.all false
set_option maxRecDepth 100000
set_option maxHeartbeats 2000000
namespace SP
open PySem PySem.Spec PyProof.Rows L2 VL PO
local macro_rules | `(tactic| walk_at "v") => `(tactic| simp only [vSeq, vNext, vVar, vPk, vC, vOp, vB, vSet, vPar, vApp, vShare, vRet, vRetN, vDrop, vIfS, vSetIx, ownLst, setL, setAll, slotN, xN, xNil, nE, nF, eN, nOp, nSl, nRev, nIf, vNo, vPart, vNil, vCons, vTup, vLst, vCall, vDef, vNeg, vChain, vAnd, vOr, vNot, vAndT, vOrT, vNotT, vIf, vRaise, vBrk, vCnt, vUnp, vgName, vgNil, vgCons, vgTup, vqVar, vqVal, viRng1, viRng2, viRng3, viEnum, vYes, lockL, lock1, unlL, unl1, wipeV, vComp, vFor, vTru, vIsTy, vOwn, vExt, vPop, vDrwW, vDrwC, vDrwN, vPutW, vPutN, vDct, vpNil, vpCons, vDGet, vDGet2, vDIn, dAdd, dSub, dMul, dMod, dDiv, dPow, dCmp, dLt, dLe, dGt, dGe, dAddN, dMulN, dIx, dLen, dInt, dTupOf, dLstOf, dMax2, dMin2, dIs, dIsN, dRepr, vDefK, permD, hideL, List.map_cons, List.map_nil, viZip, vqVarK, vqValK, lockL, lock1, unlL, unl1, seqD, List.set_cons_zero, List.set_cons_succ, List.getElem?_cons_zero, List.getElem?_cons_succ, List.getElem?_nil, List.set_nil])
/-! ### numbers that share nothing -/
theorem u_prime {p : Nat} [hp : Bs p] {m : Nat} {G : Gs} {Q : D → Gs → Prop} {E : EK} (h1 : 1 ≤ m) (h2 : m ≤ 8) (hG : GOk G) (q : ∀ (r : Nat) (G' : Gs), Prm (⟨r⟩ : Pol p) → (⟨r⟩ : Pol p).len ≤ m + 1 → r ≤ 1000000 → GOk G' → Q (.int r) G') : s__law_prime [.draw, .int p, .int m] G Q E :=
  ⟨p, m, rfl, hp.h, h1, h2, hG, fun r G' g a b c d => q r G' (by
    rw [isPr_eq (x := (⟨r⟩ : Pol p)) (ne_of_n (by omega))] at c
    exact of_decide_eq_true c) (by rw [digs_length] at d; exact d) b g⟩
theorem u_factors_by {p : Nat} [hp : Bs p] {x : Pol p} {G : Gs} {Q : D → Gs → Prop} {E : EK} (hx : x ≠ 0) (hl : x.len ≤ 200) (h : p ^ ((x.len - 1) / 2) ≤ 500000) (q : ∀ L, IsFac x L → Q (.lst (facL L)) G) : s_factors_by [.int p, R x] G Q E := ⟨p, hp, x, rfl, hx, hl, h, q⟩
def s_free_by : SpD := fun ds G Q _ => ∃ (p : Nat) (_ : Bs p) (x : Pol p), ds = [.int p, R x] ∧ x ≠ 0 ∧ x.len ≤ 20 ∧ p ^ ((x.len - 1) / 2) ≤ 500000 ∧ Q (.int (phi x : Nat)) G
theorem phiL_append {p : Nat} [Bs p] : ∀ L M : List (Pol p × Nat), phiL p (L ++ M) = phiL p L * phiL p M
  | [], M => by rw [List.nil_append, phiL, Nat.one_mul]
  | a :: L, M => by rw [List.cons_append, phiL, phiL, phiL_append L M]; simp only [Nat.mul_assoc]
/-- a prime's power is no longer than what it divides -/
theorem fac_pow {p : Nat} [Bs p] {x : Pol p} {L : List (Pol p × Nat)} (hx : x ≠ 0) (h : IsFac x L) {z : Pol p × Nat} (hz : z ∈ L) : Prm z.1 ∧ 1 ≤ z.2 ∧ z.2 * (z.1.len - 1) + 1 ≤ x.len ∧ z.1 ∣ x ∧ z.1 ^ z.2 ∣ x := by
  obtain ⟨a, b, c⟩ := (h.mem z).mp hz
  have h1 := (vP_pos a.two hx).mpr b
  have h2 := (vP_ok a.two hx).1
  rw [← c] at h1 h2
  have h3 := len_dvd h2 hx
  rw [(len_pow a.ne z.2).2] at h3
  exact ⟨a, h1, h3, b, h2⟩
theorem pow20 {p k : Nat} [Bs p] (h : k ≤ 20) : p ^ k < 2 ^ 50 :=
  Nat.lt_of_le_of_lt (Nat.le_trans (Nat.pow_le_pow_left (Bs.five p) k) (Nat.pow_le_pow_right (by decide) h)) (by decide)
def p_free_by_2 : VS := (vShare 2 (vRet (vVar 2)))
def p_free_by_1 : VS := (vSeq (vFor (vqVal (vDef s_factors_by (vCons (vVar 0) (vCons (vVar 1) vNil)))) (vgTup 2 (vgCons (vgName 3) (vgCons (vgName 4) vgNil))) (vSeq (vSet 5 (nE (vDef s_powered (vCons (vVar 0) (vCons (vOp dSub (vCall dLen (vCons (vPk 3) vNil)) (vC (.int 1))) vNil))))) (vSet 2 (nOp dMulN (eN (nOp dMulN (vPk 2) (vOp dSub (vPk 5) (vC (.int 1))))) (vDef s_powered (vCons (vVar 5) (vCons (vOp dSub (vPk 4) (vC (.int 1))) vNil))))))) p_free_by_2)
def p_free_by : VS := (vSeq (vSet 2 (nE (vC (.int 1)))) p_free_by_1)
theorem v_free_by (ds : List D) (G : Gs) (Qd : D → Gs → Prop) (Ed : EK) (h : s_free_by ds G Qd Ed) : ds.length = 2 ∧ p_free_by Ed (ends0 Qd) (startL ["base", "row", "found", "prime", "often", "whole"] ds) G := by
  obtain ⟨p, hp, x, rfl, hx, hl, hpw, q⟩ := h
  refine ⟨rfl, ?_⟩
  have p2 := Bs.two p
  have p5 := Bs.five p
  show p_free_by Ed (ends0 Qd) [.val (.int p), .val (R x), .no, .no, .no, .no] G
  unfold p_free_by p_free_by_1
  walk_at "v"
  refine u_factors_by hx (by omega) hpw fun L hL => ?_
  rw [← hL.phi hx] at q
  have fin : ∀ a b c : Option D, p_free_by_2 Ed (ends0 Qd) [.val (.int p), .val (R x), .val (.int (phiL p L : Nat)), optS a, optS b, optS c] G := by
    intro a b c
    unfold p_free_by_2
    walk_at "v"
    exact q
  show forV _ _ _ Ed _ (facL L) _ G
  refine forV_ind (fun rem L' G' => ∃ (dn rs : List (Pol p × Nat)) (a b c : Option D), rem = facL rs ∧ L = dn ++ rs ∧ G' = G ∧ L' = [.val (.int p), .val (R x), .val (.int (phiL p dn : Nat)), optS a, optS b, optS c]) ⟨[], L, none, none, none, rfl, rfl, rfl, rfl⟩ ?_ ?_
  · rintro L' G' ⟨dn, rs, a, b, c, hr, hs, rfl, rfl⟩
    have : rs = [] := List.map_eq_nil_iff.mp hr.symm
    subst this
    rw [List.append_nil] at hs
    rw [← hs]
    exact fin a b c
  · rintro d ds L' G' N ⟨dn, rs, a, b, c, hr, hs, rfl, rfl⟩ hN
    cases rs with
    | nil => exact nomatch hr
    | cons z rs =>
      have hr' : d = .tup [R z.1, .int z.2] ∧ ds = facL rs := List.cons.inj hr
      obtain ⟨rfl, rfl⟩ := hr'
      have hz : z ∈ L := by rw [hs]; simp
      obtain ⟨hP, hk, hlen, _⟩ := fac_pow hx hL hz
      have l2 := hP.two
      have e1 : ((List.map D.int (rowL z.1)).length : Int) - 1 = ((z.1.len - 1 : Nat) : Int) := by
        rw [List.length_map, rowL_length]
        omega
      have hk20 : z.2 ≤ 20 ∧ z.1.len ≤ 20 := by
        have h1 : z.2 * 1 ≤ z.2 * (z.1.len - 1) := Nat.mul_le_mul_left _ (by omega)
        have h2 : 1 * (z.1.len - 1) ≤ z.2 * (z.1.len - 1) := Nat.mul_le_mul_right _ (by omega)
        omega
      have hw := pow20 (p := p) (k := z.1.len - 1) (by omega)
      have hpos : 0 < p ^ (z.1.len - 1) := Nat.pow_pos (by omega)
      have hN2 := hN [.val (.int p), .val (R x), .val (.int (phiL p (dn ++ [z]) : Nat)), .val (R z.1), .val (.int z.2), .val (.int (p ^ (z.1.len - 1) : Nat))] G' ⟨dn ++ [z], rs, some _, some _, some _, rfl, by rw [hs, List.append_assoc]; rfl, rfl, rfl⟩
      have e2 : ((phiL p (dn ++ [z]) : Nat) : Int) = (phiL p dn : Nat) * (((p ^ (z.1.len - 1) : Nat) : Int) - 1) * (((p ^ (z.1.len - 1)) ^ (z.2 - 1) : Nat) : Int) := by
        rw [phiL_append]
        show ((phiL p dn * ((p ^ (z.1.len - 1) - 1) * (p ^ (z.1.len - 1)) ^ (z.2 - 1) * 1) : Nat) : Int) = _
        rw [Nat.mul_one, ← Nat.mul_assoc, Int.natCast_mul, Int.natCast_mul, Int.natCast_sub hpos]
        rfl
      rw [e2] at hN2
      have hpp : (p ^ (z.1.len - 1)) ^ (z.2 - 1) < 2 ^ 50 := by
        rw [← Nat.pow_mul]
        refine pow20 ?_
        have h1 : (z.1.len - 1) * (z.2 - 1) ≤ (z.1.len - 1) * z.2 := Nat.mul_le_mul_left _ (by omega)
        rw [Nat.mul_comm (z.1.len - 1) z.2] at h1
        omega
      have e3 : (z.2 : Int) - 1 = ((z.2 - 1 : Nat) : Int) := by omega
      cases a <;> cases b <;> cases c <;> (simp only [optS]; walk_at "v"; refine ⟨rfl, ?_⟩; rw [e1]; refine u_power (by omega) (by omega) ?_)
      all_goals
        rw [e3]
        refine ⟨mul_small (by omega), u_power (by omega) (by omega) ⟨mul_small (by omega), hN2⟩⟩
def numCk : List (Str × (Nat → D → Bool)) := [("BadNumber", isN 1)]
noncomputable def okFree : OkS := fun p hp ds G Q _ => match ds with
  | [.int m] => Q (.int (phi (⟨m.toNat⟩ : Pol p) : Nat)) G
  | _ => False
noncomputable def s_free_many : SpD := pubG numCk okFree
theorem numCk_none {p : Nat} {ds : List D} (hl : ds.length = numCk.length) (h : firstBad p numCk ds = none) : ∃ m : Nat, ds = [.int m] ∧ 1 ≤ m ∧ m ≤ 1000000 := by
  obtain ⟨d1, rfl⟩ : ∃ d1, ds = [d1] := match ds, hl with | [d1], _ => ⟨d1, rfl⟩
  unfold numCk at h
  cases h1 : isN 1 p d1 with
  | false => rw [firstBad_bad h1] at h; cases h
  | true =>
    obtain ⟨m, rfl, hm, hm2⟩ := isN_of h1
    exact ⟨m, rfl, hm, hm2⟩
theorem numCk_ok {p m : Nat} (h1 : 1 ≤ m) (h2 : m ≤ 1000000) : firstBad p numCk [.int m] = none := by
  unfold numCk
  rw [firstBad_ok (isN_nat h1 h2), firstBad_nil]
/-- the start of a function of a base and a number from 1 on -/
theorem need_num {cks : List (Str × (Nat → D → Bool))} {ok : OkS} {db d1 : D} {G : Gs} {Qd : D → Gs → Prop} {Ed : EK} {K : Gs → Prop} (h : pubG numCk ok [db, d1] G Qd Ed) (fin : ∀ (p : Nat) (hp : Bs p) (m : Nat), db = .int p → d1 = .int m → 1 ≤ m → m ≤ 1000000 → ok p hp [.int m] G Qd Ed → K G) :
    s_need_base [db] G (fun _ G1 => s_need_as [d1, .str "number", .int 1] G1 (fun _ G2 => K G2) Ed) Ed := by
  obtain ⟨db', ds', e0, hl, t, t2, e1, q⟩ := h
  obtain ⟨rfl, rfl⟩ : db = db' ∧ [d1] = ds' := List.cons.inj e0
  obtain ⟨t, ht⟩ := tyOk_of t
  rw [List.all_cons, Bool.and_eq_true] at t2
  obtain ⟨u, hu⟩ := tyOk_of t2.1
  refine ⟨db, t, rfl, ht, fun ok => ?_, e1⟩
  obtain ⟨p, hp, rfl⟩ := baseOk_bs ok
  replace q := q p hp rfl
  refine ⟨d1, u, _, _, rfl, hu, fun ok1 => ?_, fun bad => ?_⟩
  · obtain ⟨m, rfl, hm, hm2⟩ := inR_nat (lo := 1) (hi := 1000000) ok1
    rw [numCk_ok hm hm2] at q
    exact fin p hp m rfl rfl hm hm2 q
  · unfold numCk at q
    rw [firstBad_bad (show isN 1 p d1 = false from bad)] at q
    exact q
def p_free_many_2 : VS := (vRet (vDef s_free_by (vCons (vVar 0) (vCons (vDef s_row_of (vCons (vVar 0) (vCons (vVar 1) vNil))) vNil))))
def p_free_many_1 : VS := (vSeq (vDrop (vDef s_need_as (vCons (vVar 1) (vCons (vC (.str "number")) (vCons (vC (.int 1)) vNil))))) p_free_many_2)
def p_free_many : VS := (vSeq (vDrop (vDef s_need_base (vCons (vVar 0) vNil))) p_free_many_1)
theorem v_free_many (ds : List D) (G : Gs) (Qd : D → Gs → Prop) (Ed : EK) (h : s_free_many ds G Qd Ed) : ds.length = 2 ∧ p_free_many Ed (ends0 Qd) (startL ["base", "number"] ds) G := by
  obtain ⟨db, d1, rfl⟩ : ∃ db d1, ds = [db, d1] := by
    obtain ⟨db, ds', rfl, hl, _⟩ := h
    match ds', hl with
    | [d1], _ => exact ⟨db, d1, rfl⟩
  refine ⟨rfl, ?_⟩
  show p_free_many Ed (ends0 Qd) [.val db, .val d1] G
  unfold p_free_many p_free_many_1
  walk_at "v"
  refine need_num (cks := numCk) h fun p hp m e1 e2 h1 h2 q => ?_
  subst e1 e2
  unfold p_free_many_2
  walk_at "v"
  have lm : (⟨m⟩ : Pol p).len ≤ 20 := len_20 h2
  exact u_row_of (by omega) ⟨p, hp, ⟨m⟩, rfl, ne_of_n (by omega), by omega, half_pow h2, q⟩
theorem u_free_many {p : Nat} [hp : Bs p] {m : Nat} {G : Gs} {Q : D → Gs → Prop} {E : EK} (h1 : 1 ≤ m) (h2 : m ≤ 1000000) (q : Q (.int (phi (⟨m⟩ : Pol p) : Nat)) G) : s_free_many [.int p, .int m] G Q E := u_K (numCk_ok h1 h2) rfl rfl q
def s__law_free : SpD := fun ds G Q _ => ∃ (p : Nat) (_ : Bs p) (x : Pol p), ds = [.int p, R x] ∧ x ≠ 0 ∧ x.len ≤ 20 ∧ p ^ (x.len - 1) ≤ 500000 ∧ Q (.int (phi x : Nat)) G
def p__law_free : VS := (vRet (vCall dLen (vCons (vComp (viRng1 (vCons (vDef s__law_power (vCons (vVar 0) (vCons (vOp dSub (vCall dLen (vCons (vPk 1) vNil)) (vC (.int 1))) vNil))) vNil)) (vgName 2) [2] (vB (vOp dEq (vCall dLen (vCons (vDef s__law_common (vCons (vVar 0) (vCons (vDef s__law_row (vCons (vVar 0) (vCons (vVar 2) vNil))) (vCons (vVar 1) vNil)))) vNil)) (vC (.int 1)))) (vC (.int 1))) vNil)))
theorem v__law_free (ds : List D) (G : Gs) (Qd : D → Gs → Prop) (Ed : EK) (h : s__law_free ds G Qd Ed) : ds.length = 2 ∧ p__law_free Ed (ends0 Qd) (startL ["base", "row", "number"] ds) G := by
  obtain ⟨p, hp, x, rfl, hx, hl, hpw, q⟩ := h
  refine ⟨rfl, ?_⟩
  have p2 := Bs.two p
  have p5 := Bs.five p
  show p__law_free Ed (ends0 Qd) [.val (.int p), .val (R x), .no] G
  unfold p__law_free
  walk_at "v"
  have lx := len_pos hx
  have e1 : ((List.map D.int (rowL x)).length : Int) - 1 = ((x.len - 1 : Nat) : Int) := by
    rw [List.length_map, rowL_length]
    omega
  rw [e1]
  refine u_power (by omega) (by omega) ⟨⟨by omega, by omega⟩, ?_⟩
  rw [Int.toNat_natCast, show rangeD 0 1 (p ^ (x.len - 1)) = (List.range' 0 (p ^ (x.len - 1))).map fun i => D.int (i : Nat) from rangeD_cast 0 _]
  refine compV_fm (fun i : Nat => D.int i) (fun n => decide (Cop (⟨n⟩ : Pol p) x)) (fun _ => .int 1) (smallN (by rw [List.length_range']; omega)) ?_ ?_
  · intro n hn acc N n1 n2 n3
    rw [List.mem_range'_1] at hn
    walk_at "v"
    have ln : (⟨n⟩ : Pol p).len ≤ 20 := len_20 (by show n ≤ 1000000; omega)
    refine u_row6 (by omega) (u_lcommon (by omega) (by omega) ?_)
    show dEq (D.int ((List.map D.int (rowL (gcd (⟨n⟩ : Pol p) x))).length : Nat)) (D.int 1) _
    rw [List.length_map, rowL_length]
    refine eq_dec ?_
    have hc : Cop (⟨n⟩ : Pol p) x ↔ (gcd (⟨n⟩ : Pol p) x).len = 1 := by
      rw [cop_iff]
      constructor
      · intro h; rw [h, len_one]
      · intro h; exact len_plain_one (gcd_monic (.inr hx)) h
    by_cases h : Cop (⟨n⟩ : Pol p) x
    · rw [decide_eq_true (show ((gcd (⟨n⟩ : Pol p) x).len : Int) = 1 by have := hc.mp h; omega)]
      exact ⟨n3, n1 (decide_eq_true h)⟩
    · rw [decide_eq_false (show ¬ ((gcd (⟨n⟩ : Pol p) x).len : Int) = 1 from fun z => h (hc.mpr (by omega)))]
      exact n2 (decide_eq_false h)
  · dsimp only
    rw [List.length_map]
    unfold phi at q
    rw [← cnt_filter, List.range_eq_range'] at q
    exact q
theorem u_lfree {p : Nat} [hp : Bs p] {x : Pol p} {G : Gs} {Q : D → Gs → Prop} {E : EK} (hx : x ≠ 0) (hl : x.len ≤ 20) (h : p ^ (x.len - 1) ≤ 500000) (q : Q (.int (phi x : Nat)) G) : s__law_free [.int p, R x] G Q E := ⟨p, hp, x, rfl, hx, hl, h, q⟩
end SP
set_option Elab.async false
set_option autoImplicit false
set_option linter.all false
set_option maxRecDepth 100000
set_option maxHeartbeats 2000000
namespace SP
open PySem PySem.Spec PyProof.Rows L2 VL PO
local macro_rules | `(tactic| walk_at "v") => `(tactic| simp only [vSeq, vNext, vVar, vPk, vC, vOp, vB, vSet, vPar, vApp, vShare, vRet, vRetN, vDrop, vIfS, vSetIx, ownLst, setL, setAll, slotN, xN, xNil, nE, nF, eN, nOp, nSl, nRev, nIf, vNo, vPart, vNil, vCons, vTup, vLst, vCall, vDef, vNeg, vChain, vAnd, vOr, vNot, vAndT, vOrT, vNotT, vIf, vRaise, vBrk, vCnt, vUnp, vgName, vgNil, vgCons, vgTup, vqVar, vqVal, viRng1, viRng2, viRng3, viEnum, vYes, lockL, lock1, unlL, unl1, wipeV, vComp, vFor, vTru, vIsTy, vOwn, vExt, vPop, vDrwW, vDrwC, vDrwN, vPutW, vPutN, vDct, vpNil, vpCons, vDGet, vDGet2, vDIn, dAdd, dSub, dMul, dMod, dDiv, dPow, dCmp, dLt, dLe, dGt, dGe, dAddN, dMulN, dIx, dLen, dInt, dTupOf, dLstOf, dMax2, dMin2, dIs, dIsN, dRepr, vDefK, permD, hideL, List.map_cons, List.map_nil, viZip, vqVarK, vqValK, lockL, lock1, unlL, unl1, seqD, List.set_cons_zero, List.set_cons_succ, List.getElem?_cons_zero, List.getElem?_cons_succ, List.getElem?_nil, List.set_nil])
/-! ### moduli drawn -/
def s__law_modulus : SpD := fun ds G Q _ => ∃ (p : Nat) (_ : Bs p) (m : Nat), ds = [.draw, .int p, .int m] ∧ 3 ≤ m ∧ m ≤ 9 ∧ GOk G ∧ ∀ (r : Nat) (G' : Gs), p ≤ r → (⟨r⟩ : Pol p).len ≤ m → GOk G' → Q (.int r) G'
theorem len_ge_two {p : Nat} [Bs p] {x : Pol p} : 2 ≤ x.len ↔ p ≤ x.n := by
  have h := len_le (x := x) (k := 1)
  rw [Nat.pow_one] at h
  omega
theorem R_fig {p : Nat} [Bs p] {a : Nat} (h0 : 0 < a) (h : a < p) : R (⟨a⟩ : Pol p) = .tup [.int a] := by
  have h2 := Bs.two p
  show D.tup (List.map D.int (cR (digs p a))) = _
  rw [digs_pos h2 h0, Nat.mod_eq_of_lt h, Nat.div_eq_of_lt h, digs_zero]
  rfl
theorem len_fig {p : Nat} [Bs p] {a : Nat} (h0 : 0 < a) (h : a < p) : (⟨a⟩ : Pol p).len = 1 := by
  have h1 := len_le (x := (⟨a⟩ : Pol p)) (k := 1)
  have h2 := len_le (x := (⟨a⟩ : Pol p)) (k := 0)
  rw [Nat.pow_one] at h1
  rw [Nat.pow_zero] at h2
  have e : (⟨a⟩ : Pol p).n = a := rfl
  omega
def p__law_modulus_5 : VS := (vRet (eN (nIf (vB (vOp dLt (vPk 3) (vC (.int 4)))) (nE (vDef s__law_worth (vCons (vVar 1) (vCons (vVar 5) vNil)))) (nOp dAddN (vPk 1) (vDef s__law_take (vCons (vVar 0) (vCons (vOp dSub (vDef s__law_power (vCons (vVar 1) (vCons (vVar 2) vNil))) (vPk 1)) vNil)))))))
def p__law_modulus_4 : VS := (vSeq (vIfS (vB (vOp dEq (vPk 3) (vC (.int 3)))) (vSet 5 (nE (vDef s__law_times (vCons (vVar 1) (vCons (vVar 5) (vCons (vTup (vCons (eN (nOp dAddN (vC (.int 1)) (vDef s__law_take (vCons (vVar 0) (vCons (vOp dSub (vPk 1) (vC (.int 1))) vNil))))) vNil)) vNil)))))) vNext) p__law_modulus_5)
def p__law_modulus_3 : VS := (vSeq (vFor (viRng1 (vCons (eN (nOp dAddN (vC (.int 1)) (vDef s__law_take (vCons (vVar 0) (vCons (vC (.int 4)) vNil))))) vNil)) (vgName 6) (vSeq (vSet 7 (nIf (vB (vOp dEq (vPk 3) (vC (.int 1)))) (nE (vVar 4)) (nE (vDef s__law_row (vCons (vVar 1) (vCons (vDef s__law_prime (vCons (vVar 0) (vCons (vVar 1) (vCons (vC (.int 2)) vNil)))) vNil)))))) (vSeq (vSet 8 (nE (vDef s__law_times (vCons (vVar 1) (vCons (vVar 5) (vCons (vVar 7) vNil)))))) (vSet 5 (nIf (vAndT (vB (vOp dLe (vCall dLen (vCons (vPk 8) vNil)) (vPk 2))) (vB (vOp dLt (vPk 3) (vC (.int 4))))) (nE (vVar 8)) (nE (vVar 5))))))) p__law_modulus_4)
def p__law_modulus_2 : VS := (vSeq (vSet 5 (nE (vVar 4))) p__law_modulus_3)
def p__law_modulus_1 : VS := (vSeq (vIfS (vB (vOp dEq (vPk 3) (vC (.int 0)))) (vRet (vDef s__law_prime (vCons (vVar 0) (vCons (vVar 1) (vCons (vOp dSub (vPk 2) (vC (.int 1))) vNil))))) vNext) p__law_modulus_2)
def p__law_modulus : VS := (vSeq (vPar [3, 4] (xN (nE (vDef s__law_take (vCons (vVar 0) (vCons (vC (.int 5)) vNil)))) (xN (nE (vDef s__law_row (vCons (vVar 1) (vCons (vDef s__law_prime (vCons (vVar 0) (vCons (vVar 1) (vCons (vC (.int 2)) vNil)))) vNil)))) xNil))) p__law_modulus_1)
theorem modulus5 {p m w : Nat} [hp : Bs p] {Qd : D → Gs → Prop} {Ed : EK} {P : Pol p} (hm3 : 3 ≤ m) (hm9 : m ≤ 9) (q : ∀ (r : Nat) (G' : Gs), p ≤ r → (⟨r⟩ : Pol p).len ≤ m → GOk G' → Qd (.int r) G') (x : Pol p) (a b c : Option D) (G : Gs) (h2 : 2 ≤ x.len) (hm : x.len ≤ m) (g : GOk G) : p__law_modulus_5 Ed (ends0 Qd) [.val .draw, .val (.int p), .val (.int m), .val (.int w), .val (R P), .val (R x), optS a, optS b, optS c] G := by
  have p2 := Bs.two p
  have p5 := Bs.five p
  unfold p__law_modulus_5
  walk_at "v"
  by_cases hw4 : (w : Int) < 4
  · rw [decide_eq_true hw4]
    exact u_worth (q x.n G (len_ge_two.mp h2) hm g)
  · rw [decide_eq_false hw4]
    refine u_power (by omega) (by omega) ?_
    dsimp only
    have hpm : p ^ 2 ≤ p ^ m := Nat.pow_le_pow_right (by omega) (by omega)
    have hpp : p * 2 ≤ p * p := Nat.mul_le_mul_left _ p2
    rw [Nat.pow_two] at hpm
    have hpb := pow20 (p := p) (k := m) (by omega)
    rw [show ((p ^ m : Nat) : Int) - p = ((p ^ m - p : Nat) : Int) by omega]
    refine u_take (by omega) (by omega) g fun t G' ht g' => ?_
    have := q (p + t) G' (by omega) (len_code (by omega)) g'
    exact this
theorem modulus4 {p m w : Nat} [hp : Bs p] {Qd : D → Gs → Prop} {Ed : EK} {P : Pol p} (hm3 : 3 ≤ m) (hm9 : m ≤ 9) (q : ∀ (r : Nat) (G' : Gs), p ≤ r → (⟨r⟩ : Pol p).len ≤ m → GOk G' → Qd (.int r) G') (x : Pol p) (a b c : Option D) (G : Gs) (h2 : 2 ≤ x.len) (hm : x.len ≤ m) (g : GOk G) : p__law_modulus_4 Ed (ends0 Qd) [.val .draw, .val (.int p), .val (.int m), .val (.int w), .val (R P), .val (R x), optS a, optS b, optS c] G := by
  have p2 := Bs.two p
  have p5 := Bs.five p
  unfold p__law_modulus_4
  walk_at "v"
  refine eq_dec ?_
  by_cases hw3 : (w : Int) = 3
  · rw [decide_eq_true hw3]
    rw [show (p : Int) - 1 = ((p - 1 : Nat) : Int) by omega]
    refine u_take (by omega) (by omega) g fun t G' ht g' => ?_
    dsimp only
    obtain ⟨y, hy⟩ : ∃ y : Pol p, y = ⟨1 + t⟩ := ⟨_, rfl⟩
    have ey : D.tup [D.int ((1 : Int) + t)] = R y := by
      rw [hy, R_fig (p := p) (a := 1 + t) (by omega) (by omega)]
      rfl
    have lf : y.len = 1 := by rw [hy]; exact len_fig (p := p) (a := 1 + t) (by omega) (by omega)
    rw [ey]
    have hx0 : x ≠ 0 := fun e => by rw [e, len_zero] at h2; omega
    have hf0 : y ≠ 0 := fun e => by rw [e, len_zero] at lf; omega
    have hl := len_mul hx0 hf0
    refine ⟨smallN (by simp), u_times (by omega) (by omega) ?_⟩
    exact modulus5 hm3 hm9 q (x * y) a b c G' (by omega) (by omega) g'
  · rw [decide_eq_false hw3]
    exact modulus5 hm3 hm9 q x a b c G h2 hm g
theorem v__law_modulus (ds : List D) (G : Gs) (Qd : D → Gs → Prop) (Ed : EK) (h : s__law_modulus ds G Qd Ed) : ds.length = 3 ∧ p__law_modulus Ed (ends0 Qd) (startL ["draw", "base", "most", "way", "prime", "found", "lap", "late", "longer"] ds) G := by
  obtain ⟨p, hp, m, rfl, hm3, hm9, hG, q⟩ := h
  refine ⟨rfl, ?_⟩
  have p2 := Bs.two p
  have p5 := Bs.five p
  show p__law_modulus Ed (ends0 Qd) [.val .draw, .val (.int p), .val (.int m), .no, .no, .no, .no, .no, .no] G
  unfold p__law_modulus
  walk_at "v"
  refine u_take (n := 5) (by decide) (by decide) hG fun w G1 hw g1 => u_prime (m := 2) (by decide) (by decide) g1 fun r G2 hr lr hr6 g2 => u_row6 hr6 ?_
  obtain ⟨P, hP⟩ : ∃ P : Pol p, P = ⟨r⟩ := ⟨_, rfl⟩
  rw [← hP] at hr lr ⊢
  unfold p__law_modulus_1
  walk_at "v"
  refine eq_dec ?_
  by_cases hw0 : (w : Int) = 0
  · rw [decide_eq_true hw0]
    rw [show (m : Int) - 1 = ((m - 1 : Nat) : Int) by omega]
    refine u_prime (by omega) (by omega) g2 fun s G3 hs ls hs6 g3 => ?_
    exact q s G3 (len_ge_two.mp hs.two) (by omega) g3
  · rw [decide_eq_false hw0]
    unfold p__law_modulus_2
    show p__law_modulus_3 Ed (ends0 Qd) [.val .draw, .val (.int p), .val (.int m), .val (.int w), .val (R P), .val (R P), .no, .no, .no] G2
    unfold p__law_modulus_3
    walk_at "v"
    refine u_take (n := 4) (by decide) (by decide) g2 fun t G3 ht g3 => ?_
    refine ⟨⟨by omega, by omega⟩, ?_⟩
    refine forV_ind (fun rem L G' => ∃ (x : Pol p) (a b c : Option D), GOk G' ∧ L = [.val .draw, .val (.int p), .val (.int m), .val (.int w), .val (R P), .val (R x), optS a, optS b, optS c] ∧ 2 ≤ x.len ∧ x.len ≤ m) ⟨P, none, none, none, g3, rfl, hr.two, by omega⟩ ?_ ?_
    · rintro L G' ⟨x, a, b, c, g, rfl, h2, hm⟩
      exact modulus4 hm3 hm9 q x a b c G' h2 hm g
    · rintro d ds L G' N ⟨x, a, b, c, g, rfl, h2, hm⟩ hN
      have hx0 : x ≠ 0 := fun e => by rw [e, len_zero] at h2; omega
      have go : ∀ (y : Pol p) (G : Gs), GOk G → y ≠ 0 → y.len ≤ 20 → s__law_times [.int p, R x, R y] G (fun z G1 => match [z] with
          | [.lst ds] => (match decide ((ds.length : Int) ≤ m) with
            | true => (match decide ((w : Int) < 4) with
              | true => N [.val .draw, .val (.int p), .val (.int m), .val (.int w), .val (R P), .val z, .val d, .val (R y), .val z] G1
              | false => N [.val .draw, .val (.int p), .val (.int m), .val (.int w), .val (R P), .val (R x), .val d, .val (R y), .val z] G1)
            | false => N [.val .draw, .val (.int p), .val (.int m), .val (.int w), .val (R P), .val (R x), .val d, .val (R y), .val z] G1)
          | [.tup ds] => (match decide ((ds.length : Int) ≤ m) with
            | true => (match decide ((w : Int) < 4) with
              | true => N [.val .draw, .val (.int p), .val (.int m), .val (.int w), .val (R P), .val z, .val d, .val (R y), .val z] G1
              | false => N [.val .draw, .val (.int p), .val (.int m), .val (.int w), .val (R P), .val (R x), .val d, .val (R y), .val z] G1)
            | false => N [.val .draw, .val (.int p), .val (.int m), .val (.int w), .val (R P), .val (R x), .val d, .val (R y), .val z] G1)
          | [.scr ds] => (match decide ((ds.length : Int) ≤ m) with
            | true => (match decide ((w : Int) < 4) with
              | true => N [.val .draw, .val (.int p), .val (.int m), .val (.int w), .val (R P), .val z, .val d, .val (R y), .val z] G1
              | false => N [.val .draw, .val (.int p), .val (.int m), .val (.int w), .val (R P), .val (R x), .val d, .val (R y), .val z] G1)
            | false => N [.val .draw, .val (.int p), .val (.int m), .val (.int w), .val (R P), .val (R x), .val d, .val (R y), .val z] G1)
          | _ => False) Ed := by
        intro y G g hy ly
        refine u_times (by omega) (by omega) ?_
        have el : (List.map D.int (rowL (x * y))).length = (x * y).len := by rw [List.length_map, rowL_length]
        have keep : N [.val .draw, .val (.int p), .val (.int m), .val (.int w), .val (R P), .val (R x), .val d, .val (R y), .val (R (x * y))] G := hN _ _ ⟨x, some d, some _, some _, g, rfl, h2, hm⟩
        show match decide (((List.map D.int (rowL (x * y))).length : Int) ≤ m) with
          | true => _
          | false => _
        rw [el]
        by_cases hlm : ((x * y).len : Int) ≤ m
        · rw [decide_eq_true hlm]
          by_cases hw4 : (w : Int) < 4
          · rw [decide_eq_true hw4]
            refine hN _ _ ⟨x * y, some d, some _, some _, g, rfl, ?_, by omega⟩
            have := len_mul hx0 hy
            have := len_pos hy
            omega
          · rw [decide_eq_false hw4]
            exact keep
        · rw [decide_eq_false hlm]
          exact keep
      by_cases hw1 : (w : Int) = 1
      · cases a <;> cases b <;> cases c <;> (simp only [optS]; walk_at "v"; refine eq_dec ?_; rw [decide_eq_true hw1])
        all_goals exact go P G' g hr.ne (by omega)
      · cases a <;> cases b <;> cases c <;> (simp only [optS]; walk_at "v"; refine eq_dec ?_; rw [decide_eq_false hw1])
        all_goals
          refine u_prime (m := 2) (by decide) (by decide) g fun s G4 hs ls hs6 g4 => u_row6 hs6 ?_
          exact go ⟨s⟩ G4 g4 hs.ne (by omega)
theorem u_modulus {p m : Nat} [hp : Bs p] {G : Gs} {Q : D → Gs → Prop} {E : EK} (h3 : 3 ≤ m) (h9 : m ≤ 9) (hG : GOk G) (q : ∀ (r : Nat) (G' : Gs), p ≤ r → (⟨r⟩ : Pol p).len ≤ m → GOk G' → Q (.int r) G') : s__law_modulus [.draw, .int p, .int m] G Q E := ⟨p, hp, m, rfl, h3, h9, hG, q⟩
end SP
set_option Elab.async false
set_option autoImplicit false
set_option linter.all false
set_option maxRecDepth 100000
set_option maxHeartbeats 2000000
namespace LW
open PySem PySem.Spec PyProof.Rows L2 VL SP PO
local macro_rules | `(tactic| walk_at "v") => `(tactic| simp only [vSeq, vNext, vVar, vPk, vC, vOp, vB, vSet, vPar, vApp, vShare, vRet, vRetN, vDrop, vIfS, vSetIx, ownLst, setL, setAll, slotN, xN, xNil, nE, nF, eN, nOp, nSl, nRev, nIf, vNo, vPart, vNil, vCons, vTup, vLst, vCall, vDef, vNeg, vChain, vAnd, vOr, vNot, vAndT, vOrT, vNotT, vIf, vRaise, vBrk, vCnt, vUnp, vgName, vgNil, vgCons, vgTup, vqVar, vqVal, viRng1, viRng2, viRng3, viEnum, vYes, lockL, lock1, unlL, unl1, wipeV, vComp, vFor, vTru, vIsTy, vOwn, vExt, vPop, vDrwW, vDrwC, vDrwN, vPutW, vPutN, vDct, vpNil, vpCons, vDGet, vDGet2, vDIn, dAdd, dSub, dMul, dMod, dDiv, dPow, dCmp, dLt, dLe, dGt, dGe, dAddN, dMulN, dIx, dLen, dInt, dTupOf, dLstOf, dMax2, dMin2, dIs, dIsN, dRepr, vDefK, permD, hideL, List.map_cons, List.map_nil, viZip, vqVarK, vqValK, lockL, lock1, unlL, unl1, seqD, List.set_cons_zero, List.set_cons_succ, List.getElem?_cons_zero, List.getElem?_cons_succ, List.getElem?_nil, List.set_nil])
def figs : List Str := ["BadBase", "BadIndex", "BadModulus", "BadNumber", "BadOne", "BadOther", "BadStart"]
def s__law_right : SpD := sRight
theorem phi_eq {p : Nat} [Bs p] (x : Pol p) : phi x = cnt (p ^ (x.len - 1)) fun n => decide (gcd (⟨n⟩ : Pol p) x = 1) := cnt_congr fun _ _ => decide_eq_decide.mpr cop_iff
def p__law_right_12 : VS := (vRet (vOp dEq (vPk 12) (vLst (vCons (vC (.bl true)) (vCons (vC (.bl true)) vNil)))))
def p__law_right_11 : VS := (vSeq (vApp 12 (vIsCls "BadNumber" (vCaught figs (vDef s_free_many (vCons (vVar 1) (vCons (vVar 11) vNil)))))) p__law_right_12)
def p__law_right_10 : VS := (vSeq (vSet 12 (nF (vLst (vCons (vIsCls "BadBase" (vCaught figs (vDef s_free_many (vCons (vVar 10) (vCons (vC .non) vNil))))) vNil)))) p__law_right_11)
def p__law_right_9 : VS := (vSeq (vPar [10, 11] (xN (nE (vDef s__law_no_base (vCons (vVar 0) vNil))) (xN (nE (vDef s__law_pick (vCons (vVar 0) (vCons (vLst (vCons (vDef s__law_number (vCons (vVar 0) (vCons (vC (.int 1)) (vCons (vOp dPow (vC (.int 10)) (vC (.int 6))) vNil)))) (vCons (vC (.int 0)) vNil))) vNil)))) xNil))) p__law_right_10)
def p__law_right_8 : VS := (vShare 8 (vSeq (vIfS (vAndT (vB (vOp dLe (vPk 9) (vOp dPow (vC (.int 10)) (vC (.int 6))))) (vAndT (vB (vOp dEq (vCall dLen (vCons (vDef s__law_common (vCons (vVar 1) (vCons (vVar 3) (vCons (vDef s__law_row (vCons (vVar 1) (vCons (vVar 8) vNil))) vNil)))) vNil)) (vC (.int 1)))) (vB (vOp dNe (vDef s_free_many (vCons (vVar 1) (vCons (vVar 9) vNil))) (eN (nOp dMulN (vPk 4) (vDef s_free_many (vCons (vVar 1) (vCons (vVar 8) vNil))))))))) (vRet (vC (.bl false))) vNext) p__law_right_9))
def p__law_right_7 : VS := (vShare 8 (vSeq (vSet 9 (nE (vDef s_product_of (vCons (vVar 1) (vCons (vVar 2) (vCons (vVar 8) vNil)))))) p__law_right_8))
def p__law_right_6 : VS := (vSeq (vSet 8 (nOp dAddN (vC (.int 1)) (vDef s__law_take (vCons (vVar 0) (vCons (vC (.int 60)) vNil))))) p__law_right_7)
def p__law_right_5 : VS := (vShare 4 (vSeq (vIfS (vOrT (vNotT (vB (vDef s__law_says (vCons (vLst (vCons (vDef s_free_many (vCons (vVar 1) (vCons (vVar 2) vNil))) (vCons (vDefK s_free_many [1, 0] (vCons (vVar 2) (vCons (vVar 1) vNil))) vNil))) (vCons (vLst (vCons (vVar 4) (vCons (vVar 4) vNil))) vNil))))) (vAndT (vB (vOp dLt (vDef s__law_power (vCons (vVar 1) (vCons (vOp dSub (vCall dLen (vCons (vPk 3) vNil)) (vC (.int 1))) vNil))) (vC (.int 70)))) (vB (vOp dNe (vPk 4) (vDef s__law_free (vCons (vVar 1) (vCons (vVar 3) vNil))))))) (vRet (vC (.bl false))) vNext) p__law_right_6))
def p__law_right_4 : VS := (vSeq (vFor (vqVal (vDef s__law_factors (vCons (vVar 1) (vCons (vVar 3) vNil)))) (vgTup 2 (vgCons (vgName 5) (vgCons (vgName 6) vgNil))) (vSeq (vSet 7 (nE (vDef s__law_power (vCons (vVar 1) (vCons (vOp dSub (vCall dLen (vCons (vPk 5) vNil)) (vC (.int 1))) vNil))))) (vSet 4 (nOp dMulN (eN (nOp dMulN (vPk 4) (vOp dSub (vPk 7) (vC (.int 1))))) (vDef s__law_power (vCons (vVar 7) (vCons (vOp dSub (vPk 6) (vC (.int 1))) vNil))))))) p__law_right_5)
def p__law_right_3 : VS := (vSeq (vSet 4 (nE (vC (.int 1)))) p__law_right_4)
def p__law_right_2 : VS := (vSeq (vSet 3 (nE (vDef s__law_row (vCons (vVar 1) (vCons (vVar 2) vNil))))) p__law_right_3)
def p__law_right_1 : VS := (vSeq (vSet 2 (nE (vDef s__law_pick (vCons (vVar 0) (vCons (vLst (vCons (eN (nOp dAddN (vC (.int 1)) (vDef s__law_take (vCons (vVar 0) (vCons (vVar 1) vNil))))) (vCons (vDef s__law_modulus (vCons (vVar 0) (vCons (vVar 1) (vCons (vC (.int 4)) vNil)))) (vCons (vDef s__law_modulus (vCons (vVar 0) (vCons (vVar 1) (vCons (eN (nIf (vB (vOp dEq (vPk 1) (vC (.int 2)))) (nE (vC (.int 7))) (nE (vC (.int 4))))) vNil)))) vNil)))) vNil))))) p__law_right_2)
def p__law_right : VS := (vSeq (vSet 1 (nE (vDef s__law_base (vCons (vVar 0) vNil)))) p__law_right_1)
theorem v__law_right (ds : List D) (G : Gs) (Qd : D → Gs → Prop) (Ed : EK) (h : s__law_right ds G Qd Ed) : ds.length = 1 ∧ p__law_right Ed (ends0 Qd) (startL ["draw", "base", "number", "row", "due", "prime", "often", "size", "other", "whole", "bad", "odd", "errors"] ds) G := by
  obtain ⟨rfl, hG, q⟩ := h
  refine ⟨rfl, ?_⟩
  show p__law_right Ed (ends0 Qd) [.val .draw, .no, .no, .no, .no, .no, .no, .no, .no, .no, .no, .no, .no] G
  unfold p__law_right p__law_right_1
  walk_at "v"
  refine u_base hG fun p hp G1 g1 => ?_
  have p2 := Bs.two p
  have p5 := Bs.five p
  have pw : (0 : Int) ≤ 6 ∧ (6 : Int) ≤ 1000000 ∧ Int.natAbs 10 < 2 ^ 64 := ⟨by omega, by omega, by decide⟩
  refine u_take (n := p) (by omega) (by omega) g1 fun a0 G2 ha g2 => ?_
  refine u_modulus (m := 4) (by decide) (by decide) g2 fun b0 G3 hb lb g3 => ?_
  have fst : ∀ (n : Nat) (G4 : Gs), 1 ≤ n → (⟨n⟩ : Pol p).len ≤ 7 → n ≤ 1000000 → p ^ ((⟨n⟩ : Pol p).len - 1) ≤ 500 → GOk G4 → p__law_right_2 Ed (ends0 Qd) [.val .draw, .val (.int p), .val (.int n), .no, .no, .no, .no, .no, .no, .no, .no, .no, .no] G4 := by
    intro n G4 n1 ln nm hpl g4
    unfold p__law_right_2 p__law_right_3 p__law_right_4
    walk_at "v"
    refine u_row6 nm ?_
    obtain ⟨x, hx⟩ : ∃ x : Pol p, x = ⟨n⟩ := ⟨_, rfl⟩
    have ex : x.n = n := by rw [hx]
    have hx0 : x ≠ 0 := fun e => by have := zero_n.mp e; omega
    rw [← hx] at ln hpl ⊢
    have rest : ∀ a b c : Option D, p__law_right_5 Ed (ends0 Qd) [.val .draw, .val (.int p), .val (.int n), .val (R x), .val (.int (phi x : Nat)), optS a, optS b, optS c, .no, .no, .no, .no, .no] G4 := by
      intro a b c
      have main : ∀ a b c : Option D, p__law_right_6 Ed (ends0 Qd) [.val .draw, .val (.int p), .val (.int n), .val (R x), .val (.int (phi x : Nat)), optS a, optS b, optS c, .no, .no, .no, .no, .no] G4 := by
        intro a b c
        unfold p__law_right_6
        walk_at "v"
        refine u_take (n := 60) (by decide) (by decide) g4 fun c0 G5 hc g5 => ?_
        obtain ⟨k, ek⟩ : ∃ a : Nat, (1 : Int) + c0 = a := ⟨1 + c0, by omega⟩
        dsimp only
        rw [ek]
        have k1 : 1 ≤ k ∧ k ≤ 60 := by omega
        unfold p__law_right_7
        walk_at "v"
        refine u_product nm (by omega) ?_
        rw [← hx]
        obtain ⟨y, hy⟩ : ∃ y : Pol p, y = ⟨k⟩ := ⟨_, rfl⟩
        have ey : y.n = k := by rw [hy]
        have hy0 : y ≠ 0 := fun e => by have := zero_n.mp e; omega
        rw [← hy]
        have tail : p__law_right_9 Ed (ends0 Qd) [.val .draw, .val (.int p), .val (.int n), .val (R x), .val (.int (phi x : Nat)), optS a, optS b, optS c, .val (.int k), .val (.int (x * y).n), .no, .no, .no] G5 := by
          unfold p__law_right_9
          walk_at "v"
          rw [ten6]
          refine u_bad g5 fun bad G6 hb tb g6 => ⟨pw, u_odd (by decide) (by decide) (by decide) g6 fun odd G7 ho to g7 => ⟨smallN (by simp), u_pick (by simp) (by simp) g7 fun d G8 hd g8 => ?_⟩⟩
          have hd2 : inR 1 1000000 d = false ∧ tyOk d = true := by
            simp only [List.mem_cons, List.not_mem_nil, or_false] at hd
            rcases hd with rfl | rfl
            · exact ⟨ho, to⟩
            · exact ⟨by decide, rfl⟩
          unfold p__law_right_10
          walk_at "v"
          refine u_caught (by decide) (fun Qe qe => ?_) fun G9 g9 => ⟨smallN (by simp), ?_⟩
          · walk_at "v"
            exact u_B hb tb rfl rfl (qe _ g8)
          unfold p__law_right_11
          walk_at "v"
          refine u_caught (by decide) (fun Qe qe => ?_) fun G10 g10 => ⟨smallT (by simp), ?_⟩
          · walk_at "v"
            exact u_E (cks := numCk) (firstBad_bad (k := isN 1) hd2.1) rfl (by rw [List.all_cons, hd2.2]; rfl) (qe _ g9)
          unfold p__law_right_12
          walk_at "v"
          exact ⟨smallN (by simp), allTrue (n := 2) (q _ g10)⟩
        unfold p__law_right_8
        walk_at "v"
        rw [ten6]
        refine ⟨pw, ?_⟩
        by_cases hw : (((x * y).n : Nat) : Int) ≤ 1000000
        · rw [decide_eq_true hw]
          refine u_row6 (by omega) ?_
          rw [← hy]
          have ly : y.len ≤ 20 := len_20 (by omega)
          refine u_lcommon (by omega) (by omega) ?_
          show dEq (D.int ((List.map D.int (rowL (gcd x y))).length : Nat)) (D.int 1) _
          rw [List.length_map, rowL_length]
          refine eq_dec ?_
          by_cases hg : ((gcd x y).len : Int) = 1
          · rw [decide_eq_true hg]
            have hcop : Cop x y := cop_iff.mpr (len_plain_one (gcd_monic (.inl hx0)) (by omega))
            have h1 : 1 ≤ (x * y).n := by
              have := mul_ne hx0 hy0
              exact Nat.pos_of_ne_zero fun e => this (zero_n.mpr e)
            refine u_free_many h1 (by omega) (u_free_many k1.1 (by omega) ?_)
            rw [← hy]
            have hphi := phi_mul _ (Nat.le_refl _) hx0 hy0 hcop
            have hb : phi y < 2 ^ 50 := by
              have h5 : phi y ≤ p ^ (y.len - 1) := by
                unfold phi
                exact Nat.le_trans (cnt_le id (g := fun _ => true) (M := p ^ (y.len - 1)) (fun n a _ => ⟨a, rfl⟩) fun n m _ _ _ _ e => e) (by rw [cnt_all]; exact Nat.le_refl _)
              exact Nat.lt_of_le_of_lt h5 (pow20 (by omega))
            refine ⟨mul_small (by omega), ne_int ?_ tail⟩
            show ((phi (x * y) : Nat) : Int) = _
            rw [hphi, Int.natCast_mul]
          · rw [decide_eq_false hg]
            exact tail
        · rw [decide_eq_false hw]
          exact tail
      unfold p__law_right_5
      walk_at "v"
      refine u_free_many n1 nm (u_free_many n1 nm ?_)
      rw [← hx]
      refine ⟨smallN (by simp), smallN (by simp), u_says rfl (sm_lst (sm_cons (sm_int _) (sm_cons (sm_int _) sm_nil))) ?_⟩
      have e1 : ((List.map D.int (rowL x)).length : Int) - 1 = ((x.len - 1 : Nat) : Int) := by
        have := len_pos hx0
        rw [List.length_map, rowL_length]
        omega
      rw [e1]
      refine u_power (by omega) (by omega) ?_
      show match decide (((p ^ (x.len - 1) : Nat) : Int) < 70) with
        | true => _
        | false => _
      by_cases h70 : ((p ^ (x.len - 1) : Nat) : Int) < 70
      · rw [decide_eq_true h70]
        refine u_lfree hx0 (by omega) (by omega) (ne_int rfl ?_)
        exact main a b c
      · rw [decide_eq_false h70]
        exact main a b c
    refine u_factors hx0 (by omega) fun L hL => ?_
    have hphi := hL.phi hx0
    rw [← hphi] at rest
    show forV _ _ _ Ed _ (facL L) _ G4
    refine forV_ind (fun rem L' G' => ∃ (dn rs : List (Pol p × Nat)) (a b c : Option D), rem = facL rs ∧ L = dn ++ rs ∧ G' = G4 ∧ L' = [.val .draw, .val (.int p), .val (.int n), .val (R x), .val (.int (phiL p dn : Nat)), optS a, optS b, optS c, .no, .no, .no, .no, .no]) ⟨[], L, none, none, none, rfl, rfl, rfl, rfl⟩ ?_ ?_
    · rintro L' G' ⟨dn, rs, a, b, c, hr, hs, rfl, rfl⟩
      have : rs = [] := List.map_eq_nil_iff.mp hr.symm
      subst this
      rw [List.append_nil] at hs
      rw [← hs]
      exact rest a b c
    · rintro d ds L' G' N ⟨dn, rs, a, b, c, hr, hs, rfl, rfl⟩ hN
      cases rs with
      | nil => exact nomatch hr
      | cons z rs =>
        have hr' : d = .tup [R z.1, .int z.2] ∧ ds = facL rs := List.cons.inj hr
        obtain ⟨rfl, rfl⟩ := hr'
        have hz : z ∈ L := by rw [hs]; simp
        obtain ⟨hP, hk, hlen, _⟩ := fac_pow hx0 hL hz
        have l2 := hP.two
        have e1 : ((List.map D.int (rowL z.1)).length : Int) - 1 = ((z.1.len - 1 : Nat) : Int) := by
          rw [List.length_map, rowL_length]
          omega
        have hk20 : z.2 ≤ 20 ∧ z.1.len ≤ 20 := by
          have h1 : z.2 * 1 ≤ z.2 * (z.1.len - 1) := Nat.mul_le_mul_left _ (by omega)
          have h2 : 1 * (z.1.len - 1) ≤ z.2 * (z.1.len - 1) := Nat.mul_le_mul_right _ (by omega)
          omega
        have hw := pow20 (p := p) (k := z.1.len - 1) (by omega)
        have hpos : 0 < p ^ (z.1.len - 1) := Nat.pow_pos (by omega)
        have hN2 := hN [.val .draw, .val (.int p), .val (.int n), .val (R x), .val (.int (phiL p (dn ++ [z]) : Nat)), .val (R z.1), .val (.int z.2), .val (.int (p ^ (z.1.len - 1) : Nat)), .no, .no, .no, .no, .no] G' ⟨dn ++ [z], rs, some _, some _, some _, rfl, by rw [hs, List.append_assoc]; rfl, rfl, rfl⟩
        have e2 : ((phiL p (dn ++ [z]) : Nat) : Int) = (phiL p dn : Nat) * (((p ^ (z.1.len - 1) : Nat) : Int) - 1) * (((p ^ (z.1.len - 1)) ^ (z.2 - 1) : Nat) : Int) := by
          rw [phiL_append]
          show ((phiL p dn * ((p ^ (z.1.len - 1) - 1) * (p ^ (z.1.len - 1)) ^ (z.2 - 1) * 1) : Nat) : Int) = _
          rw [Nat.mul_one, ← Nat.mul_assoc, Int.natCast_mul, Int.natCast_mul, Int.natCast_sub hpos]
          rfl
        rw [e2] at hN2
        have hpp : (p ^ (z.1.len - 1)) ^ (z.2 - 1) < 2 ^ 50 := by
          rw [← Nat.pow_mul]
          refine pow20 ?_
          have h1 : (z.1.len - 1) * (z.2 - 1) ≤ (z.1.len - 1) * z.2 := Nat.mul_le_mul_left _ (by omega)
          rw [Nat.mul_comm (z.1.len - 1) z.2] at h1
          omega
        have e3 : (z.2 : Int) - 1 = ((z.2 - 1 : Nat) : Int) := by omega
        cases a <;> cases b <;> cases c <;> (simp only [optS]; walk_at "v"; refine ⟨rfl, ?_⟩; rw [e1]; refine u_power (by omega) (by omega) ?_)
        all_goals
          rw [e3]
          refine ⟨mul_small (by omega), u_power (by omega) (by omega) ⟨mul_small (by omega), hN2⟩⟩
  have small : ∀ n : Nat, 1 ≤ n → (⟨n⟩ : Pol p).len ≤ 4 ∨ (p = 2 ∧ (⟨n⟩ : Pol p).len ≤ 7) → (⟨n⟩ : Pol p).len ≤ 7 ∧ n ≤ 1000000 ∧ p ^ ((⟨n⟩ : Pol p).len - 1) ≤ 500 := by
    intro n n1 h
    have hx0 : (⟨n⟩ : Pol p) ≠ 0 := ne_of_n (by omega)
    have hpl := pow_len hx0
    have hlt := n_lt (x := (⟨n⟩ : Pol p)) (Nat.le_refl _)
    have ht : (⟨n⟩ : Pol p).n = n := rfl
    rcases h with h | ⟨h2, h7⟩
    · have h1 : p ^ (⟨n⟩ : Pol p).len ≤ 5 ^ 4 := Nat.le_trans (Nat.pow_le_pow_left p5 _) (Nat.pow_le_pow_right (by decide) h)
      have h3 : p ^ ((⟨n⟩ : Pol p).len - 1) ≤ 5 ^ 3 := Nat.le_trans (Nat.pow_le_pow_left p5 _) (Nat.pow_le_pow_right (by decide) (by omega))
      have e4 : (5 : Nat) ^ 4 = 625 := by decide
      have e3 : (5 : Nat) ^ 3 = 125 := by decide
      omega
    · have h1 : p ^ (⟨n⟩ : Pol p).len ≤ 2 ^ 7 := by
        have : p ^ (⟨n⟩ : Pol p).len ≤ p ^ 7 := Nat.pow_le_pow_right (by omega) h7
        rw [h2] at this
        rw [h2]
        exact this
      have h3 : p ^ ((⟨n⟩ : Pol p).len - 1) ≤ p ^ (⟨n⟩ : Pol p).len := Nat.pow_le_pow_right (by omega) (by omega)
      have e4 : (2 : Nat) ^ 7 = 128 := by decide
      omega
  have one : (⟨1 + a0⟩ : Pol p).len ≤ 4 := by
    have : (⟨1 + a0⟩ : Pol p).len ≤ 2 := len_code (by rw [Nat.pow_two]; have : p * 2 ≤ p * p := Nat.mul_le_mul_left _ p2; omega)
    omega
  have pick : ∀ (c : Nat) (G4 : Gs), p ≤ c → ((⟨c⟩ : Pol p).len ≤ 4 ∨ (p = 2 ∧ (⟨c⟩ : Pol p).len ≤ 7)) → GOk G4 → s__law_pick [D.draw, D.lst [D.int (1 + a0), D.int b0, D.int c]] G4 (fun d G5 => p__law_right_2 Ed (ends0 Qd) [.val .draw, .val (.int p), .val d, .no, .no, .no, .no, .no, .no, .no, .no, .no, .no] G5) Ed := by
    intro c G4 hc lc g4
    refine u_pick (by simp) (by simp) g4 fun d G5 hd g5 => ?_
    simp only [List.mem_cons, List.not_mem_nil, or_false] at hd
    rcases hd with rfl | rfl | rfl
    · rw [show (1 : Int) + a0 = ((1 + a0 : Nat) : Int) by omega]
      obtain ⟨h1, h2, h3⟩ := small (1 + a0) (by omega) (.inl one)
      exact fst _ G5 (by omega) h1 h2 h3 g5
    · obtain ⟨h1, h2, h3⟩ := small b0 (by omega) (.inl lb)
      exact fst _ G5 (by omega) h1 h2 h3 g5
    · obtain ⟨h1, h2, h3⟩ := small c (by omega) lc
      exact fst _ G5 (by omega) h1 h2 h3 g5
  refine eq_dec ?_
  by_cases h2 : (p : Int) = 2
  · rw [decide_eq_true h2]
    exact u_modulus (m := 7) (by decide) (by decide) g3 fun c G4 hc lc g4 => ⟨smallN (by simp), pick c G4 hc (.inr ⟨by omega, lc⟩) g4⟩
  · rw [decide_eq_false h2]
    exact u_modulus (m := 4) (by decide) (by decide) g3 fun c G4 hc lc g4 => ⟨smallN (by simp), pick c G4 hc (.inl lc) g4⟩
def p_law_1 : VS := (vRet (vDef s__law_says (vCons (vLst (vCons (vDef s_free_many (vCons (vC (.int 2)) (vCons (vC (.int 5)) vNil))) (vCons (vDef s_free_many (vCons (vC (.int 2)) (vCons (vC (.int 7)) vNil))) (vCons (vDef s_free_many (vCons (vC (.int 3)) (vCons (vC (.int 2)) vNil))) (vCons (vDef s_free_many (vCons (vC (.int 5)) (vCons (vC (.int 5)) vNil))) (vCons (vDef s_free_many (vCons (vC (.int 2)) (vCons (vC (.int 12)) vNil))) (vCons (vDef s_free_many (vCons (vC (.int 3)) (vCons (vC (.int 16)) vNil))) vNil))))))) (vCons (vLst (vCons (vC (.int 2)) (vCons (vC (.int 3)) (vCons (vC (.int 1)) (vCons (vC (.int 4)) (vCons (vC (.int 2)) (vCons (vC (.int 6)) vNil))))))) vNil))))
def p_law : VS := (vSeq (vFor (viRng1 (vCons (eN (nOp dAddN (vC (.int 6)) (vCall dMin2 (vCons (vCall dLen (vCons (vPk 0) vNil)) (vCons (vC (.int 12)) vNil))))) vNil)) (vgName 2) (vIfS (vNotT (vB (vDef s__law_right (vCons (vVar 1) vNil)))) (vRet (vC (.bl false))) vNext)) p_law_1)
theorem v_law (ns : List Int) (h1 : ns.length ≤ 63) (h2 : ∀ z ∈ ns, Builtin.Int.intBits z ≤ 1048576) : p_law Ev0 lawEnds (lawL 1 ns) ⟨wholeOf ns, ns, 0⟩ := by
  refine law_loop (a := 6) (c := 12) (rest := p_law_1) (n := 0) h1 (by decide) (by decide) h1 ?_
  intro s2 G g
  show p_law_1 Ev0 lawEnds [.val (.scr ns), .val .draw, optS s2] G
  unfold p_law_1
  walk_at "v"
  refine u_free_many (p := 2) (m := 5) (by decide) (by decide) ?_
  refine u_free_many (p := 2) (m := 7) (by decide) (by decide) ?_
  refine u_free_many (p := 3) (m := 2) (by decide) (by decide) ?_
  refine u_free_many (p := 5) (m := 5) (by decide) (by decide) ?_
  refine u_free_many (p := 2) (m := 12) (by decide) (by decide) ?_
  refine u_free_many (p := 3) (m := 16) (by decide) (by decide) ?_
  rw [phi_eq, phi_eq, phi_eq, phi_eq, phi_eq, phi_eq]
  rw [show cnt (2 ^ ((⟨5⟩ : Pol 2).len - 1)) (fun n => decide (gcd (⟨n⟩ : Pol 2) ⟨5⟩ = 1)) = 2 by decide +kernel, show cnt (2 ^ ((⟨7⟩ : Pol 2).len - 1)) (fun n => decide (gcd (⟨n⟩ : Pol 2) ⟨7⟩ = 1)) = 3 by decide +kernel, show cnt (3 ^ ((⟨2⟩ : Pol 3).len - 1)) (fun n => decide (gcd (⟨n⟩ : Pol 3) ⟨2⟩ = 1)) = 1 by decide +kernel, show cnt (5 ^ ((⟨5⟩ : Pol 5).len - 1)) (fun n => decide (gcd (⟨n⟩ : Pol 5) ⟨5⟩ = 1)) = 4 by decide +kernel, show cnt (2 ^ ((⟨12⟩ : Pol 2).len - 1)) (fun n => decide (gcd (⟨n⟩ : Pol 2) ⟨12⟩ = 1)) = 2 by decide +kernel, show cnt (3 ^ ((⟨16⟩ : Pol 3).len - 1)) (fun n => decide (gcd (⟨n⟩ : Pol 3) ⟨16⟩ = 1)) = 6 by decide +kernel]
  refine ⟨smallN (by simp), smallN (by simp), u_says rfl (sm_lst (sm_cons (sm_int _) (sm_cons (sm_int _) (sm_cons (sm_int _) (sm_cons (sm_int _) (sm_cons (sm_int _) (sm_cons (sm_int _) sm_nil))))))) rfl⟩
end LW
set_option Elab.async false
set_option autoImplicit false
set_option linter.all false
set_option maxRecDepth 100000
set_option maxHeartbeats 2000000
namespace LW
open PySem PySem.Spec PyProof.Rows L2 VL SP
def top (i : Nat) : Stmt := PySem.Challenge.pw_nocarry_k08_whole_numbers_that_share_not.main.body.getD i (.Pass ⟨0, 0, 0, 0⟩)
structure Ft (K : PySem.W.Frag) (mg : Str → Option Value) : Prop where
  f_bool : mg "bool" = none
  f_dict : mg "dict" = none
  f_enumerate : mg "enumerate" = none
  f_int : mg "int" = none
  f_isinstance : mg "isinstance" = none
  f_len : mg "len" = none
  f_list : mg "list" = none
  f_max : mg "max" = none
  f_min : mg "min" = none
  f_range : mg "range" = none
  f_repr : mg "repr" = none
  f_str : mg "str" = none
  f_sum : mg "sum" = none
  f_tuple : mg "tuple" = none
  c_BadBase : ∃ C, ClsF K mg "BadBase" C
  c_BadIndex : ∃ C, ClsF K mg "BadIndex" C
  c_BadModulus : ∃ C, ClsF K mg "BadModulus" C
  c_BadNumber : ∃ C, ClsF K mg "BadNumber" C
  c_BadOne : ∃ C, ClsF K mg "BadOne" C
  c_BadOther : ∃ C, ClsF K mg "BadOther" C
  c_BadStart : ∃ C, ClsF K mg "BadStart" C
  x_BadBase : ClsE K mg "BadBase"
  x_BadNumber : ClsE K mg "BadNumber"
  k_BASES : TupG K mg "BASES" [2, 3, 5]
  k_MOST : IntG mg "MOST" 1000000
section
variable {P : Program} {w : World} {K : PySem.W.Frag} {mg : Str → Option Value} {base : Heap} {T : List (Addr × Str)} {CF c Pt : Addr}
theorem kf_free_many_10 : KwFits "free_many" (defArgs (top 31)) ["base", "number"] ["number", "base"] [1, 0] := fun bd sc kV doc pm an cdv ct ws hl => match ws, hl with | v0 :: v1 :: _, _ => rfl | [], hl => absurd hl (show ¬ ((0 : Nat) = 2) by decide) | [v0], hl => absurd hl (show ¬ ((1 : Nat) = 2) by decide)
theorem sc_is_whole : FnScope ["thing"] ["thing"] (defScope (top 12)) := ⟨rfl, rfl, rfl, by decide +kernel, rfl, by decide +kernel, by decide +kernel⟩
theorem d_is_whole (ft : Ft K mg)  (f : Addr) (cdv : Value) (A : Around) (outer : List PySem.Env) (s : Shared) (H : Hp) (E : XK) (hr : Room 0 (A.deeper (envOfC "is_whole" (defScope (top 12)) s.heap.objs.size f cdv))) : JSs (cxOf (L2.CX P w) P w K mg base ["thing"] "is_whole" (defScope (top 12)) f cdv A outer s H E) T E (defBody (top 12)) p_is_whole :=
  (js_one (js_ret (je_and (je_isTy ft.f_isinstance ft.f_int (by decide +kernel) (by decide) (jp_var 0 (pe_var rfl (Or.inl rfl)))) (je_one (je_not (je_isTy ft.f_isinstance ft.f_bool (by decide +kernel) (by decide) (jp_var 0 (pe_var rfl (Or.inl rfl)))))))))
theorem sc_is_within : FnScope ["thing", "low", "high"] ["thing", "low", "high"] (defScope (top 13)) := ⟨rfl, rfl, rfl, by decide +kernel, rfl, by decide +kernel, by decide +kernel⟩
theorem d_is_within (ft : Ft K mg) (c_is_whole : Cal P w K mg base T 1 "is_whole" (defArgs (top 12)) ["thing"] s_is_whole) (f : Addr) (cdv : Value) (A : Around) (outer : List PySem.Env) (s : Shared) (H : Hp) (E : XK) (hr : Room 1 (A.deeper (envOfC "is_within" (defScope (top 13)) s.heap.objs.size f cdv))) : JSs (cxOf (L2.CX P w) P w K mg base ["thing", "low", "high"] "is_within" (defScope (top 13)) f cdv A outer s H E) T E (defBody (top 13)) p_is_within :=
  (js_one (js_ret (je_and (je_fn c_is_whole hr (by decide) (passes_call (takes_of rfl rfl rfl rfl) fun _ _ _ _ h => h) (ja_cons (je_var 0 (pe_var rfl (Or.inl rfl))) ja_nil)) (je_one (je_lele (jp_var 1 (pe_var rfl (Or.inl rfl))) (jp_var 0 (pe_var rfl (Or.inl rfl))) (jp_var 2 (pe_var rfl (Or.inl rfl))))))))
theorem sc_need_base : FnScope ["base"] ["base"] (defScope (top 14)) := ⟨rfl, rfl, rfl, by decide +kernel, rfl, by decide +kernel, by decide +kernel⟩
theorem d_need_base (ft : Ft K mg) (c_is_whole : Cal P w K mg base T 1 "is_whole" (defArgs (top 12)) ["thing"] s_is_whole) (f : Addr) (cdv : Value) (A : Around) (outer : List PySem.Env) (s : Shared) (H : Hp) (E : XK) (hr : Room 1 (A.deeper (envOfC "need_base" (defScope (top 14)) s.heap.objs.size f cdv))) : JSs (cxOf (L2.CX P w) P w K mg base ["base"] "need_base" (defScope (top 14)) f cdv A outer s H E) T E (defBody (top 14)) p_need_base :=
  (js_one (js_if (jt_bool (jw_or (jt_not (jt_val (je_fn c_is_whole hr (by decide) (passes_call (takes_of rfl rfl rfl rfl) fun _ _ _ _ h => h) (ja_cons (je_var 0 (pe_var rfl (Or.inl rfl))) ja_nil)))) (jw_or1 (jt_notIn hr (jp_var 0 (pe_var rfl (Or.inl rfl))) (JE.jp (je_gtupK (x := "BASES") (ns := [2, 3, 5]) ft.k_BASES)))))) (js_one (js_raiseC ft.c_BadBase rfl (takes_of rfl rfl rfl rfl))) js_nil))
theorem sc_need_as : FnScope ["thing", "which", "low"] ["thing", "which", "low"] (defScope (top 15)) := ⟨rfl, rfl, rfl, by decide +kernel, rfl, by decide +kernel, by decide +kernel⟩
theorem d_need_as (ft : Ft K mg) (c_is_within : Cal P w K mg base T 2 "is_within" (defArgs (top 13)) ["thing", "low", "high"] s_is_within) (f : Addr) (cdv : Value) (A : Around) (outer : List PySem.Env) (s : Shared) (H : Hp) (E : XK) (hr : Room 2 (A.deeper (envOfC "need_as" (defScope (top 15)) s.heap.objs.size f cdv))) : JSs (cxOf (L2.CX P w) P w K mg base ["thing", "which", "low"] "need_as" (defScope (top 15)) f cdv A outer s H E) T E (defBody (top 15)) p_need_as :=
  (js_cons (js_if (jt_val (je_fn c_is_within hr (by decide) (passes_call (takes_of rfl rfl rfl rfl) fun _ _ _ _ h => h) (ja_cons (je_var 0 (pe_var rfl (Or.inl rfl))) (ja_cons (je_var 2 (pe_var rfl (Or.inl rfl))) (ja_cons (je_gint (x := "MOST") ft.k_MOST) ja_nil))))) (js_one js_retN) js_nil) (js_cons (js_if (jt_eq hr (jp_var 1 (pe_var rfl (Or.inl rfl))) (JE.jp je_str)) (js_one (js_raiseC ft.c_BadOne rfl (takes_of rfl rfl rfl rfl))) js_nil) (js_cons (js_if (jt_eq hr (jp_var 1 (pe_var rfl (Or.inl rfl))) (JE.jp je_str)) (js_one (js_raiseC ft.c_BadOther rfl (takes_of rfl rfl rfl rfl))) js_nil) (js_cons (js_if (jt_eq hr (jp_var 1 (pe_var rfl (Or.inl rfl))) (JE.jp je_str)) (js_one (js_raiseC ft.c_BadStart rfl (takes_of rfl rfl rfl rfl))) js_nil) (js_cons (js_if (jt_eq hr (jp_var 1 (pe_var rfl (Or.inl rfl))) (JE.jp je_str)) (js_one (js_raiseC ft.c_BadIndex rfl (takes_of rfl rfl rfl rfl))) js_nil) (js_cons (js_if (jt_eq hr (jp_var 1 (pe_var rfl (Or.inl rfl))) (JE.jp je_str)) (js_one (js_raiseC ft.c_BadModulus rfl (takes_of rfl rfl rfl rfl))) js_nil) (js_one (js_raiseC ft.c_BadNumber rfl (takes_of rfl rfl rfl rfl)))))))))
theorem sc_trimmed : FnScope ["row", "many"] ["row"] (defScope (top 16)) := ⟨rfl, rfl, rfl, by decide +kernel, rfl, by decide +kernel, by decide +kernel⟩
theorem d_trimmed (ft : Ft K mg)  (f : Addr) (cdv : Value) (A : Around) (outer : List PySem.Env) (s : Shared) (H : Hp) (E : XK) (hr : Room 0 (A.deeper (envOfC "trimmed" (defScope (top 16)) s.heap.objs.size f cdv))) : JSs (cxOf (L2.CX P w) P w K mg base ["row", "many"] "trimmed" (defScope (top 16)) f cdv A outer s H E) T E (defBody (top 16)) p_trimmed :=
  (js_cons (js_set sc_trimmed.nd rfl (Or.inl rfl) (jn_e (je_len ft.f_len (jr_cons (jp_var 0 (pe_var rfl (Or.inl rfl))) jr_nil)))) (js_cons (js_while (passes_of rfl) (jt_bool (jw_and (jt_gt (jp_var 1 (pe_var rfl (Or.inl rfl))) (JE.jp je_int)) (jw_and1 (jt_eq hr (JE.jp (je_ix (jp_var 0 (pe_var rfl (Or.inl rfl))) (JE.jp (je_sub (jp_var 1 (pe_var rfl (Or.inl rfl))) (JE.jp je_int))))) (JE.jp je_int))))) (js_one (js_set sc_trimmed.nd rfl (Or.inl rfl) (jn_e (je_sub (jp_var 1 (pe_var rfl (Or.inl rfl))) (JE.jp je_int)))))) (js_one (js_ret (je_tupOf ft.f_tuple (jr_cons (JE.jp (je_n (jn_sl (jp_var 0 (pe_var rfl (Or.inl rfl))) jo_none (jo_some (jp_var 1 (pe_var rfl (Or.inl rfl))))))) jr_nil))))))
theorem sc_row_of : FnScope ["base", "number", "found", "left"] ["base", "number"] (defScope (top 17)) := ⟨rfl, rfl, rfl, by decide +kernel, rfl, by decide +kernel, by decide +kernel⟩
theorem d_row_of (ft : Ft K mg)  (f : Addr) (cdv : Value) (A : Around) (outer : List PySem.Env) (s : Shared) (H : Hp) (E : XK) (hr : Room 0 (A.deeper (envOfC "row_of" (defScope (top 17)) s.heap.objs.size f cdv))) : JSs (cxOf (L2.CX P w) P w K mg base ["base", "number", "found", "left"] "row_of" (defScope (top 17)) f cdv A outer s H E) T E (defBody (top 17)) p_row_of :=
  (js_cons (js_par2 rfl sc_row_of.nd rfl rfl (by decide) rfl rfl (jx_n (jn_f (jf_lst ja_nil)) (jx_n (jn_e (je_var 1 (pe_var rfl (Or.inl rfl)))) jx_nil))) (js_cons (js_while (passes_of rfl) (jt_gt (jp_var 3 (pe_var rfl (Or.inl rfl))) (JE.jp je_int)) (js_cons (js_app (pe_var rfl (Or.inl rfl)) (je_mod (jp_var 3 (pe_var rfl (Or.inl rfl))) (jp_var 0 (pe_var rfl (Or.inl rfl))))) (js_one (js_set sc_row_of.nd rfl (Or.inl rfl) (jn_e (je_div (jp_var 3 (pe_var rfl (Or.inl rfl))) (jp_var 0 (pe_var rfl (Or.inl rfl))))))))) (js_one (js_ret (je_tupOf ft.f_tuple (jr_cons (jp_var 2 (pe_var rfl (Or.inl rfl))) jr_nil))))))
theorem sc_number_by : FnScope ["base", "row", "found", "figure"] ["base", "row"] (defScope (top 18)) := ⟨rfl, rfl, rfl, by decide +kernel, rfl, by decide +kernel, by decide +kernel⟩
theorem d_number_by (ft : Ft K mg)  (f : Addr) (cdv : Value) (A : Around) (outer : List PySem.Env) (s : Shared) (H : Hp) (E : XK) (hr : Room 0 (A.deeper (envOfC "number_by" (defScope (top 18)) s.heap.objs.size f cdv))) : JSs (cxOf (L2.CX P w) P w K mg base ["base", "row", "found", "figure"] "number_by" (defScope (top 18)) f cdv A outer s H E) T E (defBody (top 18)) p_number_by :=
  (js_cons (js_set sc_number_by.nd rfl (Or.inl rfl) (jn_e je_int)) (js_cons (js_for (passes_of rfl) rfl (ji_seq (jq_val (je_n (jn_rev (jp_var 1 (pe_var rfl (Or.inl rfl))))))) (jg_name 3 sc_number_by.nd rfl (Or.inl rfl)) (js_one (js_set sc_number_by.nd rfl (Or.inl rfl) (jn_add (JE.jp (je_n (jn_mul (jp_var 2 (pe_var rfl (Or.inl rfl))) (jp_var 0 (pe_var rfl (Or.inl rfl)))))) (jp_var 3 (pe_var rfl (Or.inl rfl))))))) (js_one (js_ret (je_var 2 (pe_var rfl (Or.inl rfl)))))))
theorem sc_plain_row : FnScope ["base", "row", "scale", "late", "figure"] ["base", "row"] (defScope (top 19)) := ⟨rfl, rfl, rfl, by decide +kernel, rfl, by decide +kernel, by decide +kernel⟩
theorem d_plain_row (ft : Ft K mg)  (f : Addr) (cdv : Value) (A : Around) (outer : List PySem.Env) (s : Shared) (H : Hp) (E : XK) (hr : Room 0 (A.deeper (envOfC "plain_row" (defScope (top 19)) s.heap.objs.size f cdv))) : JSs (cxOf (L2.CX P w) P w K mg base ["base", "row", "scale", "late", "figure"] "plain_row" (defScope (top 19)) f cdv A outer s H E) T E (defBody (top 19)) p_plain_row :=
  (js_cons (js_set sc_plain_row.nd rfl (Or.inr rfl) (jn_e (je_ix (JE.jp (JF.je (jf_comp (own := [("late", 3)]) rfl sc_plain_row.nd (ji_rng2 (ja_cons je_int (ja_cons (je_var 0 (pe_var rfl (Or.inr (Or.inl rfl)))) ja_nil)) ft.f_range) (blkOk_of rfl rfl) (fun _ _ _ _ _ => (jg_name 3 sc_plain_row.nd rfl (Or.inl rfl))) (fun _ _ _ _ _ => (jts_one (jt_eq hr (JE.jp (je_mod (JE.jp (je_n (jn_mul (jp_var 3 (pe_var rfl (Or.inl rfl))) (JE.jp (je_ix (jp_var 1 (pe_var rfl (Or.inr (Or.inl rfl)))) (JE.jp (je_neg (JE.jp je_int)))))))) (jp_var 0 (pe_var rfl (Or.inr (Or.inl rfl)))))) (JE.jp je_int)))) (fun _ _ _ _ _ => (je_var 3 (pe_var rfl (Or.inl rfl))))))) (JE.jp je_int)))) (js_one (js_ret (je_tupOf ft.f_tuple (jr_cons (JE.jp (JF.je (jf_comp (own := [("figure", 4)]) rfl sc_plain_row.nd (ji_seq (jq_var 1 (pe_var rfl (Or.inr (Or.inl rfl))))) (blkOk_of rfl rfl) (fun _ _ _ _ _ => (jg_name 4 sc_plain_row.nd rfl (Or.inl rfl))) (fun _ _ _ _ _ => jts_nil) (fun _ _ _ _ _ => (je_mod (JE.jp (je_n (jn_mul (jp_var 4 (pe_var rfl (Or.inl rfl))) (jp_var 2 (pe_var rfl (Or.inr (Or.inl rfl))))))) (jp_var 0 (pe_var rfl (Or.inr (Or.inl rfl))))))))) jr_nil)))))
theorem sc_times_rows : FnScope ["base", "one", "other", "found", "at", "figure", "late", "item"] ["base", "one", "other"] (defScope (top 21)) := ⟨rfl, rfl, rfl, by decide +kernel, rfl, by decide +kernel, by decide +kernel⟩
theorem d_times_rows (ft : Ft K mg) (c_trimmed : Cal P w K mg base T 1 "trimmed" (defArgs (top 16)) ["row"] s_trimmed) (f : Addr) (cdv : Value) (A : Around) (outer : List PySem.Env) (s : Shared) (H : Hp) (E : XK) (hr : Room 1 (A.deeper (envOfC "times_rows" (defScope (top 21)) s.heap.objs.size f cdv))) : JSs (cxOf (L2.CX P w) P w K mg base ["base", "one", "other", "found", "at", "figure", "late", "item"] "times_rows" (defScope (top 21)) f cdv A outer s H E) T E (defBody (top 21)) p_times_rows :=
  (js_cons (js_if (jt_bool (jw_or (jt_eq hr (jp_var 1 (pe_var rfl (Or.inl rfl))) (JE.jp (je_tup ja_nil))) (jw_or1 (jt_eq hr (jp_var 2 (pe_var rfl (Or.inl rfl))) (JE.jp (je_tup ja_nil)))))) (js_one (js_ret (je_tup ja_nil))) js_nil) (js_cons (js_set sc_times_rows.nd rfl (Or.inl rfl) (jn_mul (JE.jp (JF.je (jf_lst (ja_cons je_int ja_nil)))) (JE.jp (je_sub (JE.jp (je_n (jn_add (JE.jp (je_len ft.f_len (jr_cons (jp_var 1 (pe_var rfl (Or.inl rfl))) jr_nil))) (JE.jp (je_len ft.f_len (jr_cons (jp_var 2 (pe_var rfl (Or.inl rfl))) jr_nil)))))) (JE.jp je_int))))) (js_cons (js_for (passes_of rfl) rfl (ji_enum (jq_var 1 (pe_var rfl (Or.inl rfl))) ft.f_enumerate) (jg_tup rfl (jgs_cons (jg_name 4 sc_times_rows.nd rfl (Or.inl rfl)) (jgs_cons (jg_name 5 sc_times_rows.nd rfl (Or.inl rfl)) jgs_nil))) (js_one (js_if (jt_ne hr (jp_var 5 (pe_var rfl (Or.inl rfl))) (JE.jp je_int)) (js_one (js_for (passes_of rfl) rfl (ji_enum (jq_var 2 (pe_var rfl (Or.inl rfl))) ft.f_enumerate) (jg_tup rfl (jgs_cons (jg_name 6 sc_times_rows.nd rfl (Or.inl rfl)) (jgs_cons (jg_name 7 sc_times_rows.nd rfl (Or.inl rfl)) jgs_nil))) (js_one (js_setIx (pe_var rfl (Or.inl rfl)) (JE.jp (je_n (jn_add (jp_var 4 (pe_var rfl (Or.inl rfl))) (jp_var 6 (pe_var rfl (Or.inl rfl)))))) (je_n (jn_add (JE.jp (je_ix (jp_var 3 (pe_var rfl (Or.inl rfl))) (JE.jp (je_n (jn_add (jp_var 4 (pe_var rfl (Or.inl rfl))) (jp_var 6 (pe_var rfl (Or.inl rfl)))))))) (JE.jp (je_n (jn_mul (jp_var 5 (pe_var rfl (Or.inl rfl))) (jp_var 7 (pe_var rfl (Or.inl rfl)))))))))))) js_nil))) (js_one (js_ret (je_fn c_trimmed hr (by decide) (passes_call (takes_of rfl rfl rfl rfl) fun _ _ _ _ h => h) (ja_cons (JF.je (jf_comp (own := [("item", 7)]) rfl sc_times_rows.nd (ji_seq (jq_var 3 (pe_var rfl (Or.inl rfl)))) (blkOk_of rfl rfl) (fun _ _ _ _ _ => (jg_name 7 sc_times_rows.nd rfl (Or.inl rfl))) (fun _ _ _ _ _ => jts_nil) (fun _ _ _ _ _ => (je_mod (jp_var 7 (pe_var rfl (Or.inl rfl))) (jp_var 0 (pe_var rfl (Or.inr (Or.inl rfl)))))))) ja_nil)))))))
theorem sc_divided_rows : FnScope ["base", "one", "other", "left", "found", "scale", "at", "figure", "late", "item"] ["base", "one", "other"] (defScope (top 22)) := ⟨rfl, rfl, rfl, by decide +kernel, rfl, by decide +kernel, by decide +kernel⟩
theorem d_divided_rows (ft : Ft K mg) (c_trimmed : Cal P w K mg base T 1 "trimmed" (defArgs (top 16)) ["row"] s_trimmed) (f : Addr) (cdv : Value) (A : Around) (outer : List PySem.Env) (s : Shared) (H : Hp) (E : XK) (hr : Room 1 (A.deeper (envOfC "divided_rows" (defScope (top 22)) s.heap.objs.size f cdv))) : JSs (cxOf (L2.CX P w) P w K mg base ["base", "one", "other", "left", "found", "scale", "at", "figure", "late", "item"] "divided_rows" (defScope (top 22)) f cdv A outer s H E) T E (defBody (top 22)) p_divided_rows :=
  (js_cons (js_par2 rfl sc_divided_rows.nd rfl rfl (by decide) rfl rfl (jx_n (jn_f (jf_lstOf ft.f_list (jr_cons (jp_var 1 (pe_var rfl (Or.inl rfl))) jr_nil))) (jx_n (jn_mul (JE.jp (JF.je (jf_lst (ja_cons je_int ja_nil)))) (JE.jp (je_max2 rfl ft.f_max (jr_cons (JE.jp je_int) (jr_cons (JE.jp (je_n (jn_add (JE.jp (je_sub (JE.jp (je_len ft.f_len (jr_cons (jp_var 1 (pe_var rfl (Or.inl rfl))) jr_nil))) (JE.jp (je_len ft.f_len (jr_cons (jp_var 2 (pe_var rfl (Or.inr (Or.inl rfl)))) jr_nil))))) (JE.jp je_int)))) jr_nil))))) jx_nil))) (js_cons (js_set sc_divided_rows.nd rfl (Or.inl rfl) (jn_e (je_ix (JE.jp (JF.je (jf_comp (own := [("late", 8)]) rfl sc_divided_rows.nd (ji_rng2 (ja_cons je_int (ja_cons (je_var 0 (pe_var rfl (Or.inr (Or.inl rfl)))) ja_nil)) ft.f_range) (blkOk_of rfl rfl) (fun _ _ _ _ _ => (jg_name 8 sc_divided_rows.nd rfl (Or.inl rfl))) (fun _ _ _ _ _ => (jts_one (jt_eq hr (JE.jp (je_mod (JE.jp (je_n (jn_mul (jp_var 8 (pe_var rfl (Or.inl rfl))) (JE.jp (je_ix (jp_var 2 (pe_var rfl (Or.inr (Or.inl rfl)))) (JE.jp (je_neg (JE.jp je_int)))))))) (jp_var 0 (pe_var rfl (Or.inr (Or.inl rfl)))))) (JE.jp je_int)))) (fun _ _ _ _ _ => (je_var 8 (pe_var rfl (Or.inl rfl))))))) (JE.jp je_int)))) (js_cons (js_for (passes_of rfl) rfl (ji_rng3 (ja_cons (je_sub (JE.jp (je_len ft.f_len (jr_cons (jp_var 4 (pe_var rfl (Or.inl rfl))) jr_nil))) (JE.jp je_int)) (ja_cons (je_neg (JE.jp je_int)) (ja_cons (je_neg (JE.jp je_int)) ja_nil))) ft.f_range) (jg_name 6 sc_divided_rows.nd rfl (Or.inl rfl)) (js_cons (js_set sc_divided_rows.nd rfl (Or.inl rfl) (jn_e (je_mod (JE.jp (je_n (jn_mul (JE.jp (je_ix (jp_var 3 (pe_var rfl (Or.inl rfl))) (JE.jp (je_sub (JE.jp (je_n (jn_add (jp_var 6 (pe_var rfl (Or.inl rfl))) (JE.jp (je_len ft.f_len (jr_cons (jp_var 2 (pe_var rfl (Or.inr (Or.inl rfl)))) jr_nil)))))) (JE.jp je_int))))) (jp_var 5 (pe_var rfl (Or.inl rfl)))))) (jp_var 0 (pe_var rfl (Or.inr (Or.inl rfl))))))) (js_cons (js_setIx (pe_var rfl (Or.inl rfl)) (jp_var 6 (pe_var rfl (Or.inl rfl))) (je_var 7 (pe_var rfl (Or.inl rfl)))) (js_one (js_if (jt_ne hr (jp_var 7 (pe_var rfl (Or.inl rfl))) (JE.jp je_int)) (js_one (js_for (passes_of rfl) rfl (ji_enum (jq_var 2 (pe_var rfl (Or.inr (Or.inl rfl)))) ft.f_enumerate) (jg_tup rfl (jgs_cons (jg_name 8 sc_divided_rows.nd rfl (Or.inl rfl)) (jgs_cons (jg_name 9 sc_divided_rows.nd rfl (Or.inl rfl)) jgs_nil))) (js_one (js_setIx (pe_var rfl (Or.inl rfl)) (JE.jp (je_n (jn_add (jp_var 6 (pe_var rfl (Or.inl rfl))) (jp_var 8 (pe_var rfl (Or.inl rfl)))))) (je_mod (JE.jp (je_sub (JE.jp (je_ix (jp_var 3 (pe_var rfl (Or.inl rfl))) (JE.jp (je_n (jn_add (jp_var 6 (pe_var rfl (Or.inl rfl))) (jp_var 8 (pe_var rfl (Or.inl rfl)))))))) (JE.jp (je_n (jn_mul (jp_var 7 (pe_var rfl (Or.inl rfl))) (jp_var 9 (pe_var rfl (Or.inl rfl)))))))) (jp_var 0 (pe_var rfl (Or.inr (Or.inl rfl))))))))) js_nil))))) (js_share 4 (js_share 3 (js_one (js_ret (je_tup (ja_cons (je_fn c_trimmed hr (by decide) (passes_call (takes_of rfl rfl rfl rfl) fun _ _ _ _ h => h) (ja_cons (je_var 4 (pe_var rfl (Or.inl rfl))) ja_nil)) (ja_cons (je_fn c_trimmed hr (by decide) (passes_call (takes_of rfl rfl rfl rfl) fun _ _ _ _ h => h) (ja_cons (je_var 3 (pe_var rfl (Or.inl rfl))) ja_nil)) ja_nil))))))))))
theorem sc_need_two : FnScope ["base", "one", "other"] ["base", "one", "other"] (defScope (top 23)) := ⟨rfl, rfl, rfl, by decide +kernel, rfl, by decide +kernel, by decide +kernel⟩
theorem d_need_two (ft : Ft K mg) (c_need_base : Cal P w K mg base T 2 "need_base" (defArgs (top 14)) ["base"] s_need_base) (c_need_as : Cal P w K mg base T 3 "need_as" (defArgs (top 15)) ["thing", "which", "low"] s_need_as) (f : Addr) (cdv : Value) (A : Around) (outer : List PySem.Env) (s : Shared) (H : Hp) (E : XK) (hr : Room 3 (A.deeper (envOfC "need_two" (defScope (top 23)) s.heap.objs.size f cdv))) : JSs (cxOf (L2.CX P w) P w K mg base ["base", "one", "other"] "need_two" (defScope (top 23)) f cdv A outer s H E) T E (defBody (top 23)) p_need_two :=
  (js_cons (js_expr (je_fn c_need_base hr (by decide) (passes_call (takes_of rfl rfl rfl rfl) fun _ _ _ _ h => h) (ja_cons (je_var 0 (pe_var rfl (Or.inl rfl))) ja_nil))) (js_cons (js_expr (je_fn c_need_as hr (by decide) (passes_call (takes_of rfl rfl rfl rfl) fun _ _ _ _ h => h) (ja_cons (je_var 1 (pe_var rfl (Or.inl rfl))) (ja_cons je_str (ja_cons je_int ja_nil))))) (js_one (js_expr (je_fn c_need_as hr (by decide) (passes_call (takes_of rfl rfl rfl rfl) fun _ _ _ _ h => h) (ja_cons (je_var 2 (pe_var rfl (Or.inl rfl))) (ja_cons je_str (ja_cons je_int ja_nil))))))))
theorem sc_product_of : FnScope ["base", "one", "other"] ["base", "one", "other"] (defScope (top 24)) := ⟨rfl, rfl, rfl, by decide +kernel, rfl, by decide +kernel, by decide +kernel⟩
theorem d_product_of (ft : Ft K mg) (c_need_two : Cal P w K mg base T 4 "need_two" (defArgs (top 23)) ["base", "one", "other"] s_need_two) (c_number_by : Cal P w K mg base T 1 "number_by" (defArgs (top 18)) ["base", "row"] s_number_by) (c_times_rows : Cal P w K mg base T 2 "times_rows" (defArgs (top 21)) ["base", "one", "other"] s_times_rows) (c_row_of : Cal P w K mg base T 1 "row_of" (defArgs (top 17)) ["base", "number"] s_row_of) (f : Addr) (cdv : Value) (A : Around) (outer : List PySem.Env) (s : Shared) (H : Hp) (E : XK) (hr : Room 4 (A.deeper (envOfC "product_of" (defScope (top 24)) s.heap.objs.size f cdv))) : JSs (cxOf (L2.CX P w) P w K mg base ["base", "one", "other"] "product_of" (defScope (top 24)) f cdv A outer s H E) T E (defBody (top 24)) p_product_of :=
  (js_cons (js_expr (je_fn c_need_two hr (by decide) (passes_call (takes_of rfl rfl rfl rfl) fun _ _ _ _ h => h) (ja_cons (je_var 0 (pe_var rfl (Or.inl rfl))) (ja_cons (je_var 1 (pe_var rfl (Or.inl rfl))) (ja_cons (je_var 2 (pe_var rfl (Or.inl rfl))) ja_nil))))) (js_one (js_ret (je_fn c_number_by hr (by decide) (passes_call (takes_of rfl rfl rfl rfl) fun _ _ _ _ h => h) (ja_cons (je_var 0 (pe_var rfl (Or.inl rfl))) (ja_cons (je_fn c_times_rows hr (by decide) (passes_call (takes_of rfl rfl rfl rfl) fun _ _ _ _ h => h) (ja_cons (je_var 0 (pe_var rfl (Or.inl rfl))) (ja_cons (je_fn c_row_of hr (by decide) (passes_call (takes_of rfl rfl rfl rfl) fun _ _ _ _ h => h) (ja_cons (je_var 0 (pe_var rfl (Or.inl rfl))) (ja_cons (je_var 1 (pe_var rfl (Or.inl rfl))) ja_nil))) (ja_cons (je_fn c_row_of hr (by decide) (passes_call (takes_of rfl rfl rfl rfl) fun _ _ _ _ h => h) (ja_cons (je_var 0 (pe_var rfl (Or.inl rfl))) (ja_cons (je_var 2 (pe_var rfl (Or.inl rfl))) ja_nil))) ja_nil)))) ja_nil))))))
theorem sc_powered : FnScope ["number", "times", "found", "lap"] ["number", "times"] (defScope (top 26)) := ⟨rfl, rfl, rfl, by decide +kernel, rfl, by decide +kernel, by decide +kernel⟩
theorem d_powered (ft : Ft K mg)  (f : Addr) (cdv : Value) (A : Around) (outer : List PySem.Env) (s : Shared) (H : Hp) (E : XK) (hr : Room 0 (A.deeper (envOfC "powered" (defScope (top 26)) s.heap.objs.size f cdv))) : JSs (cxOf (L2.CX P w) P w K mg base ["number", "times", "found", "lap"] "powered" (defScope (top 26)) f cdv A outer s H E) T E (defBody (top 26)) p_powered :=
  (js_cons (js_set sc_powered.nd rfl (Or.inl rfl) (jn_e je_int)) (js_cons (js_for (passes_of rfl) rfl (ji_rng1 (ja_cons (je_var 1 (pe_var rfl (Or.inl rfl))) ja_nil) ft.f_range) (jg_name 3 sc_powered.nd rfl (Or.inl rfl)) (js_one (js_set sc_powered.nd rfl (Or.inl rfl) (jn_mul (jp_var 2 (pe_var rfl (Or.inl rfl))) (jp_var 0 (pe_var rfl (Or.inl rfl))))))) (js_one (js_ret (je_var 2 (pe_var rfl (Or.inl rfl)))))))
theorem sc_plain_rows : FnScope ["base", "size", "first", "number"] ["base", "size"] (defScope (top 27)) := ⟨rfl, rfl, rfl, by decide +kernel, rfl, by decide +kernel, by decide +kernel⟩
theorem d_plain_rows (ft : Ft K mg) (c_powered : Cal P w K mg base T 1 "powered" (defArgs (top 26)) ["number", "times"] s_powered) (c_row_of : Cal P w K mg base T 1 "row_of" (defArgs (top 17)) ["base", "number"] s_row_of) (f : Addr) (cdv : Value) (A : Around) (outer : List PySem.Env) (s : Shared) (H : Hp) (E : XK) (hr : Room 1 (A.deeper (envOfC "plain_rows" (defScope (top 27)) s.heap.objs.size f cdv))) : JSs (cxOf (L2.CX P w) P w K mg base ["base", "size", "first", "number"] "plain_rows" (defScope (top 27)) f cdv A outer s H E) T E (defBody (top 27)) p_plain_rows :=
  (js_cons (js_set sc_plain_rows.nd rfl (Or.inl rfl) (jn_e (je_fn c_powered hr (by decide) (passes_call (takes_of rfl rfl rfl rfl) fun _ _ _ _ h => h) (ja_cons (je_var 0 (pe_var rfl (Or.inr (Or.inl rfl)))) (ja_cons (je_var 1 (pe_var rfl (Or.inl rfl))) ja_nil))))) (js_one (js_ret (JF.je (jf_comp (own := [("number", 3)]) rfl sc_plain_rows.nd (ji_rng2 (ja_cons (je_var 2 (pe_var rfl (Or.inl rfl))) (ja_cons (je_n (jn_mul (JE.jp je_int) (jp_var 2 (pe_var rfl (Or.inl rfl))))) ja_nil)) ft.f_range) (blkOk_of rfl rfl) (fun _ _ _ _ _ => (jg_name 3 sc_plain_rows.nd rfl (Or.inl rfl))) (fun _ _ _ _ _ => jts_nil) (fun _ _ _ _ _ => (je_fn c_row_of hr (by decide) passL (ja_cons (je_var 0 (pe_var rfl (Or.inr (Or.inl rfl)))) (ja_cons (je_var 3 (pe_var rfl (Or.inl rfl))) ja_nil)))))))))
theorem sc_factors_by : FnScope ["base", "row", "found", "left", "size", "late", "often", "some", "at", "pair"] ["base", "row"] (defScope (top 29)) := ⟨rfl, rfl, rfl, by decide +kernel, rfl, by decide +kernel, by decide +kernel⟩
theorem d_factors_by (ft : Ft K mg) (c_plain_row : Cal P w K mg base T 1 "plain_row" (defArgs (top 19)) ["base", "row"] s_plain_row) (c_plain_rows : Cal P w K mg base T 2 "plain_rows" (defArgs (top 27)) ["base", "size"] s_plain_rows) (c_divided_rows : Cal P w K mg base T 2 "divided_rows" (defArgs (top 22)) ["base", "one", "other"] s_divided_rows) (f : Addr) (cdv : Value) (A : Around) (outer : List PySem.Env) (s : Shared) (H : Hp) (E : XK) (hr : Room 2 (A.deeper (envOfC "factors_by" (defScope (top 29)) s.heap.objs.size f cdv))) : JSs (cxOf (L2.CX P w) P w K mg base ["base", "row", "found", "left", "size", "late", "often", "some", "at", "pair"] "factors_by" (defScope (top 29)) f cdv A outer s H E) T E (defBody (top 29)) p_factors_by :=
  (js_cons (js_parT rfl (jns_cons sc_factors_by.nd rfl (Or.inl rfl) (jns_cons sc_factors_by.nd rfl (Or.inr rfl) (jns_cons sc_factors_by.nd rfl (Or.inl rfl) jns_nil))) (jx_n (jn_f (jf_lst ja_nil)) (jx_n (jn_e (je_fn c_plain_row hr (by decide) (passes_call (takes_of rfl rfl rfl rfl) fun _ _ _ _ h => h) (ja_cons (je_var 0 (pe_var rfl (Or.inl rfl))) (ja_cons (je_var 1 (pe_var rfl (Or.inl rfl))) ja_nil)))) (jx_n (jn_e je_int) jx_nil)))) (js_cons (js_while (passes_of rfl) (jt_gt (JE.jp (je_len ft.f_len (jr_cons (jp_var 3 (pe_var rfl (Or.inr (Or.inl rfl)))) jr_nil))) (JE.jp (je_n (jn_mul (JE.jp je_int) (jp_var 4 (pe_var rfl (Or.inl rfl))))))) (js_cons (js_for (passes_of rfl) rfl (ji_seq (jq_val (je_fn c_plain_rows hr (by decide) (passes_call (takes_of rfl rfl rfl rfl) fun _ _ _ _ h => h) (ja_cons (je_var 0 (pe_var rfl (Or.inl rfl))) (ja_cons (je_var 4 (pe_var rfl (Or.inl rfl))) ja_nil))))) (jg_name 5 sc_factors_by.nd rfl (Or.inl rfl)) (js_cons (js_set sc_factors_by.nd rfl (Or.inl rfl) (jn_e je_int)) (js_cons (js_while (passes_of rfl) (jt_bool (jw_and (jt_ge (JE.jp (je_len ft.f_len (jr_cons (jp_var 3 (pe_var rfl (Or.inr (Or.inl rfl)))) jr_nil))) (JE.jp (je_len ft.f_len (jr_cons (jp_var 5 (pe_var rfl (Or.inl rfl))) jr_nil)))) (jw_and1 (jt_eq hr (JE.jp (je_ix (JE.jp (je_fn c_divided_rows hr (by decide) (passes_call (takes_of rfl rfl rfl rfl) fun _ _ _ _ h => h) (ja_cons (je_var 0 (pe_var rfl (Or.inl rfl))) (ja_cons (je_var 3 (pe_var rfl (Or.inr (Or.inl rfl)))) (ja_cons (je_var 5 (pe_var rfl (Or.inl rfl))) ja_nil))))) (JE.jp je_int))) (JE.jp (je_tup ja_nil)))))) (js_one (js_parT rfl (jns_cons sc_factors_by.nd rfl (Or.inr rfl) (jns_cons sc_factors_by.nd rfl (Or.inl rfl) jns_nil)) (jx_n (jn_e (je_ix (JE.jp (je_fn c_divided_rows hr (by decide) (passes_call (takes_of rfl rfl rfl rfl) fun _ _ _ _ h => h) (ja_cons (je_var 0 (pe_var rfl (Or.inl rfl))) (ja_cons (je_var 3 (pe_var rfl (Or.inr (Or.inl rfl)))) (ja_cons (je_var 5 (pe_var rfl (Or.inl rfl))) ja_nil))))) (JE.jp je_int))) (jx_n (jn_add (jp_var 6 (pe_var rfl (Or.inl rfl))) (JE.jp je_int)) jx_nil))))) (js_one (js_if (jt_gt (jp_var 6 (pe_var rfl (Or.inl rfl))) (JE.jp je_int)) (js_one (js_app (pe_var rfl (Or.inl rfl)) (je_tup (ja_cons (je_var 5 (pe_var rfl (Or.inl rfl))) (ja_cons (je_var 6 (pe_var rfl (Or.inl rfl))) ja_nil))))) js_nil))))) (js_one (js_set sc_factors_by.nd rfl (Or.inl rfl) (jn_add (jp_var 4 (pe_var rfl (Or.inl rfl))) (JE.jp je_int)))))) (js_cons (js_if (jt_gt (JE.jp (je_len ft.f_len (jr_cons (jp_var 3 (pe_var rfl (Or.inr (Or.inl rfl)))) jr_nil))) (JE.jp je_int)) (js_cons (js_ownC (own := [("at", 8), ("pair", 9)]) rfl sc_factors_by.nd rfl rfl (sw_true rfl rfl rfl rfl) (ji_enum (jq_var 2 (pe_var rfl (Or.inl rfl))) ft.f_enumerate) (blkOk_of rfl rfl) (fun _ _ _ _ _ => (jg_tup rfl (jgs_cons (jg_name 8 sc_factors_by.nd rfl (Or.inl rfl)) (jgs_cons (jg_name 9 sc_factors_by.nd rfl (Or.inl rfl)) jgs_nil)))) (fun _ _ _ _ _ => (jts_one (jt_eq hr (JE.jp (je_ix (jp_var 9 (pe_var rfl (Or.inl rfl))) (JE.jp je_int))) (jp_var 3 (pe_var rfl (Or.inr (Or.inl rfl))))))) (fun _ _ _ _ _ => (je_var 8 (pe_var rfl (Or.inl rfl))))) (js_one (js_if (jt_ne hr (jp_var 7 (pe_var rfl (Or.inl rfl))) (JE.jp (JF.je (jf_lst ja_nil)))) (js_one (js_setIx (pe_var rfl (Or.inl rfl)) (JE.jp (je_ix (jp_var 7 (pe_var rfl (Or.inl rfl))) (JE.jp je_int))) (je_tup (ja_cons (je_var 3 (pe_var rfl (Or.inr (Or.inl rfl)))) (ja_cons (je_n (jn_add (JE.jp (je_ix (JE.jp (je_ix (jp_var 2 (pe_var rfl (Or.inl rfl))) (JE.jp (je_ix (jp_var 7 (pe_var rfl (Or.inl rfl))) (JE.jp je_int))))) (JE.jp je_int))) (JE.jp je_int))) ja_nil))))) (js_one (js_app (pe_var rfl (Or.inl rfl)) (je_tup (ja_cons (je_var 3 (pe_var rfl (Or.inr (Or.inl rfl)))) (ja_cons je_int ja_nil)))))))) js_nil) (js_share 2 (js_one (js_ret (je_var 2 (pe_var rfl (Or.inl rfl)))))))))
theorem sc_free_by : FnScope ["base", "row", "found", "prime", "often", "whole"] ["base", "row"] (defScope (top 30)) := ⟨rfl, rfl, rfl, by decide +kernel, rfl, by decide +kernel, by decide +kernel⟩
theorem d_free_by (ft : Ft K mg) (c_factors_by : Cal P w K mg base T 3 "factors_by" (defArgs (top 29)) ["base", "row"] s_factors_by) (c_powered : Cal P w K mg base T 1 "powered" (defArgs (top 26)) ["number", "times"] s_powered) (f : Addr) (cdv : Value) (A : Around) (outer : List PySem.Env) (s : Shared) (H : Hp) (E : XK) (hr : Room 3 (A.deeper (envOfC "free_by" (defScope (top 30)) s.heap.objs.size f cdv))) : JSs (cxOf (L2.CX P w) P w K mg base ["base", "row", "found", "prime", "often", "whole"] "free_by" (defScope (top 30)) f cdv A outer s H E) T E (defBody (top 30)) p_free_by :=
  (js_cons (js_set sc_free_by.nd rfl (Or.inl rfl) (jn_e je_int)) (js_cons (js_for (passes_of rfl) rfl (ji_seq (jq_val (je_fn c_factors_by hr (by decide) (passes_call (takes_of rfl rfl rfl rfl) fun _ _ _ _ h => h) (ja_cons (je_var 0 (pe_var rfl (Or.inl rfl))) (ja_cons (je_var 1 (pe_var rfl (Or.inl rfl))) ja_nil))))) (jg_tup rfl (jgs_cons (jg_name 3 sc_free_by.nd rfl (Or.inl rfl)) (jgs_cons (jg_name 4 sc_free_by.nd rfl (Or.inl rfl)) jgs_nil))) (js_cons (js_set sc_free_by.nd rfl (Or.inl rfl) (jn_e (je_fn c_powered hr (by decide) (passes_call (takes_of rfl rfl rfl rfl) fun _ _ _ _ h => h) (ja_cons (je_var 0 (pe_var rfl (Or.inl rfl))) (ja_cons (je_sub (JE.jp (je_len ft.f_len (jr_cons (jp_var 3 (pe_var rfl (Or.inl rfl))) jr_nil))) (JE.jp je_int)) ja_nil))))) (js_one (js_set sc_free_by.nd rfl (Or.inl rfl) (jn_mul (JE.jp (je_n (jn_mul (jp_var 2 (pe_var rfl (Or.inl rfl))) (JE.jp (je_sub (jp_var 5 (pe_var rfl (Or.inl rfl))) (JE.jp je_int)))))) (JE.jp (je_fn c_powered hr (by decide) (passes_call (takes_of rfl rfl rfl rfl) fun _ _ _ _ h => h) (ja_cons (je_var 5 (pe_var rfl (Or.inl rfl))) (ja_cons (je_sub (jp_var 4 (pe_var rfl (Or.inl rfl))) (JE.jp je_int)) ja_nil))))))))) (js_share 2 (js_one (js_ret (je_var 2 (pe_var rfl (Or.inl rfl))))))))
theorem sc_free_many : FnScope ["base", "number"] ["base", "number"] (defScope (top 31)) := ⟨rfl, rfl, rfl, by decide +kernel, rfl, by decide +kernel, by decide +kernel⟩
theorem d_free_many (ft : Ft K mg) (c_need_base : Cal P w K mg base T 2 "need_base" (defArgs (top 14)) ["base"] s_need_base) (c_need_as : Cal P w K mg base T 3 "need_as" (defArgs (top 15)) ["thing", "which", "low"] s_need_as) (c_free_by : Cal P w K mg base T 4 "free_by" (defArgs (top 30)) ["base", "row"] s_free_by) (c_row_of : Cal P w K mg base T 1 "row_of" (defArgs (top 17)) ["base", "number"] s_row_of) (f : Addr) (cdv : Value) (A : Around) (outer : List PySem.Env) (s : Shared) (H : Hp) (E : XK) (hr : Room 4 (A.deeper (envOfC "free_many" (defScope (top 31)) s.heap.objs.size f cdv))) : JSs (cxOf (L2.CX P w) P w K mg base ["base", "number"] "free_many" (defScope (top 31)) f cdv A outer s H E) T E (defBody (top 31)) p_free_many :=
  (js_cons (js_expr (je_fn c_need_base hr (by decide) (passes_call (takes_of rfl rfl rfl rfl) fun _ _ _ _ h => h) (ja_cons (je_var 0 (pe_var rfl (Or.inl rfl))) ja_nil))) (js_cons (js_expr (je_fn c_need_as hr (by decide) (passes_call (takes_of rfl rfl rfl rfl) fun _ _ _ _ h => h) (ja_cons (je_var 1 (pe_var rfl (Or.inl rfl))) (ja_cons je_str (ja_cons je_int ja_nil))))) (js_one (js_ret (je_fn c_free_by hr (by decide) (passes_call (takes_of rfl rfl rfl rfl) fun _ _ _ _ h => h) (ja_cons (je_var 0 (pe_var rfl (Or.inl rfl))) (ja_cons (je_fn c_row_of hr (by decide) (passes_call (takes_of rfl rfl rfl rfl) fun _ _ _ _ h => h) (ja_cons (je_var 0 (pe_var rfl (Or.inl rfl))) (ja_cons (je_var 1 (pe_var rfl (Or.inl rfl))) ja_nil))) ja_nil)))))))
theorem sc__law_mixed : FnScope ["draw", "found", "cell"] ["draw"] (defScope (top 34)) := ⟨rfl, rfl, rfl, by decide +kernel, rfl, by decide +kernel, by decide +kernel⟩
theorem d__law_mixed (ft : Ft K mg)  (f : Addr) (cdv : Value) (A : Around) (outer : List PySem.Env) (s : Shared) (H : Hp) (E : XK) (hr : Room 0 (A.deeper (envOfC "_law_mixed" (defScope (top 34)) s.heap.objs.size f cdv))) : JSs (cxOf (L2.CX P w) P w K mg base ["draw", "found", "cell"] "_law_mixed" (defScope (top 34)) f cdv A outer s H E) T E (defBody (top 34)) p__law_mixed :=
  (js_cons (js_putN hr (je_var 0 (pe_var rfl (Or.inl rfl))) (je_n (jn_add (JE.jp (je_drwN hr (je_var 0 (pe_var rfl (Or.inl rfl))))) (JE.jp je_int)))) (js_cons (js_set sc__law_mixed.nd rfl (Or.inl rfl) (jn_add (JE.jp je_int) (JE.jp (je_n (jn_mul (JE.jp je_int) (JE.jp (je_drwN hr (je_var 0 (pe_var rfl (Or.inl rfl)))))))))) (js_cons (js_for (passes_of rfl) rfl (ji_seq (jq_val (je_n (jn_add (JE.jp (je_drwC hr (je_var 0 (pe_var rfl (Or.inl rfl))))) (JE.jp (JF.je (jf_lst (ja_cons (je_drwN hr (je_var 0 (pe_var rfl (Or.inl rfl)))) ja_nil)))))))) (jg_name 2 sc__law_mixed.nd rfl (Or.inl rfl)) (js_cons (js_set sc__law_mixed.nd rfl (Or.inl rfl) (jn_e (je_mod (JE.jp (je_toInt ft.f_int (jr_cons (JE.jp (je_n (jn_mul (JE.jp (je_n (jn_add (jp_var 1 (pe_var rfl (Or.inl rfl))) (jp_var 2 (pe_var rfl (Or.inl rfl)))))) (JE.jp je_int)))) jr_nil))) (JE.jp (je_sub (JE.jp (je_pow (JE.jp je_int) (JE.jp je_int))) (JE.jp je_int)))))) (js_one (js_set sc__law_mixed.nd rfl (Or.inl rfl) (jn_add (jp_var 1 (pe_var rfl (Or.inl rfl))) (JE.jp (je_div (jp_var 1 (pe_var rfl (Or.inl rfl))) (JE.jp (je_pow (JE.jp je_int) (JE.jp je_int)))))))))) (js_one (js_ret (je_var 1 (pe_var rfl (Or.inl rfl))))))))
theorem sc__law_take : FnScope ["draw", "amount", "found"] ["draw", "amount"] (defScope (top 35)) := ⟨rfl, rfl, rfl, by decide +kernel, rfl, by decide +kernel, by decide +kernel⟩
theorem d__law_take (ft : Ft K mg) (c__law_mixed : Cal P w K mg base T 1 "_law_mixed" (defArgs (top 34)) ["draw"] s__law_mixed) (f : Addr) (cdv : Value) (A : Around) (outer : List PySem.Env) (s : Shared) (H : Hp) (E : XK) (hr : Room 1 (A.deeper (envOfC "_law_take" (defScope (top 35)) s.heap.objs.size f cdv))) : JSs (cxOf (L2.CX P w) P w K mg base ["draw", "amount", "found"] "_law_take" (defScope (top 35)) f cdv A outer s H E) T E (defBody (top 35)) p__law_take :=
  (js_cons (js_if (jt_lt (jp_var 1 (pe_var rfl (Or.inl rfl))) (JE.jp je_int)) (js_one (js_ret je_int)) js_nil) (js_cons (js_if (jt_gt (JE.jp (je_drwW hr (je_var 0 (pe_var rfl (Or.inl rfl))))) (JE.jp je_int)) (js_cons (js_set sc__law_take.nd rfl (Or.inl rfl) (jn_e (je_mod (JE.jp (je_toInt ft.f_int (jr_cons (JE.jp (je_drwW hr (je_var 0 (pe_var rfl (Or.inl rfl))))) jr_nil))) (jp_var 1 (pe_var rfl (Or.inl rfl)))))) (js_cons (js_putW hr (je_var 0 (pe_var rfl (Or.inl rfl))) (je_div (JE.jp (je_drwW hr (je_var 0 (pe_var rfl (Or.inl rfl))))) (jp_var 1 (pe_var rfl (Or.inl rfl))))) (js_share 2 (js_one (js_ret (je_var 2 (pe_var rfl (Or.inl rfl)))))))) js_nil) (js_cons (js_set sc__law_take.nd rfl (Or.inl rfl) (jn_e (je_fn c__law_mixed hr (by decide) (passes_call (takes_of rfl rfl rfl rfl) fun _ _ _ _ h => h) (ja_cons (je_var 0 (pe_var rfl (Or.inl rfl))) ja_nil)))) (js_cons (js_while (passes_of rfl) (jt_bool (jw_and (jt_gt (jp_var 1 (pe_var rfl (Or.inl rfl))) (JE.jp (je_pow (JE.jp je_int) (JE.jp je_int)))) (jw_and1 (jt_lt (jp_var 2 (pe_var rfl (Or.inl rfl))) (JE.jp (je_n (jn_mul (jp_var 1 (pe_var rfl (Or.inl rfl))) (jp_var 1 (pe_var rfl (Or.inl rfl)))))))))) (js_one (js_set sc__law_take.nd rfl (Or.inl rfl) (jn_add (JE.jp (je_n (jn_mul (jp_var 2 (pe_var rfl (Or.inl rfl))) (JE.jp (je_pow (JE.jp je_int) (JE.jp je_int)))))) (JE.jp (je_fn c__law_mixed hr (by decide) (passes_call (takes_of rfl rfl rfl rfl) fun _ _ _ _ h => h) (ja_cons (je_var 0 (pe_var rfl (Or.inl rfl))) ja_nil))))))) (js_one (js_ret (je_mod (JE.jp (je_toInt ft.f_int (jr_cons (JE.jp (je_div (jp_var 2 (pe_var rfl (Or.inl rfl))) (JE.jp je_int))) jr_nil))) (jp_var 1 (pe_var rfl (Or.inl rfl))))))))))
theorem sc__law_pick : FnScope ["draw", "items"] ["draw", "items"] (defScope (top 36)) := ⟨rfl, rfl, rfl, by decide +kernel, rfl, by decide +kernel, by decide +kernel⟩
theorem d__law_pick (ft : Ft K mg) (c__law_take : Cal P w K mg base T 2 "_law_take" (defArgs (top 35)) ["draw", "amount"] s__law_take) (f : Addr) (cdv : Value) (A : Around) (outer : List PySem.Env) (s : Shared) (H : Hp) (E : XK) (hr : Room 2 (A.deeper (envOfC "_law_pick" (defScope (top 36)) s.heap.objs.size f cdv))) : JSs (cxOf (L2.CX P w) P w K mg base ["draw", "items"] "_law_pick" (defScope (top 36)) f cdv A outer s H E) T E (defBody (top 36)) p__law_pick :=
  (js_one (js_ret (je_ix (jp_var 1 (pe_var rfl (Or.inl rfl))) (JE.jp (je_fn c__law_take hr (by decide) (passes_call (takes_of rfl rfl rfl rfl) fun _ _ _ _ h => h) (ja_cons (je_var 0 (pe_var rfl (Or.inl rfl))) (ja_cons (je_len ft.f_len (jr_cons (jp_var 1 (pe_var rfl (Or.inl rfl))) jr_nil)) ja_nil)))))))
theorem sc__law_kinds : FnScope ["thing", "found", "line", "one", "key"] ["thing"] (defScope (top 38)) := ⟨rfl, rfl, rfl, by decide +kernel, rfl, by decide +kernel, by decide +kernel⟩
theorem d__law_kinds (ft : Ft K mg)  (f : Addr) (cdv : Value) (A : Around) (outer : List PySem.Env) (s : Shared) (H : Hp) (E : XK) (hr : Room 0 (A.deeper (envOfC "_law_kinds" (defScope (top 38)) s.heap.objs.size f cdv))) : JSs (cxOf (L2.CX P w) P w K mg base ["thing", "found", "line", "one", "key"] "_law_kinds" (defScope (top 38)) f cdv A outer s H E) T E (defBody (top 38)) p__law_kinds :=
  (js_cons (js_par2 rfl sc__law_kinds.nd rfl rfl (by decide) rfl rfl (jx_n (jn_f (jf_lst ja_nil)) (jx_n (jn_f (jf_lst (ja_cons (je_var 0 (pe_var rfl (Or.inl rfl))) ja_nil))) jx_nil))) (js_cons (js_while (passes_of rfl) (jt_ne hr (jp_var 2 (pe_var rfl (Or.inl rfl))) (JE.jp (JF.je (jf_lst ja_nil)))) (js_cons (js_pop (pe_var rfl (Or.inl rfl)) sc__law_kinds.nd rfl (Or.inl rfl)) (js_one (js_if (jt_bool (jw_or (jt_val (je_isTy ft.f_isinstance ft.f_bool (by decide +kernel) (by decide) (jp_var 3 (pe_var rfl (Or.inl rfl))))) (jw_or1 (jt_is (jp_var 3 (pe_var rfl (Or.inl rfl))) (JE.jp je_non))))) (js_one (js_app (pe_var rfl (Or.inl rfl)) (je_repr ft.f_repr (jr_cons (jp_var 3 (pe_var rfl (Or.inl rfl))) jr_nil)))) (js_one (js_if (jt_val (je_isTy ft.f_isinstance ft.f_int (by decide +kernel) (by decide) (jp_var 3 (pe_var rfl (Or.inl rfl))))) (js_one (js_app (pe_var rfl (Or.inl rfl)) je_str)) (js_one (js_if (jt_val (je_isTy ft.f_isinstance ft.f_str (by decide +kernel) (by decide) (jp_var 3 (pe_var rfl (Or.inl rfl))))) (js_one (js_app (pe_var rfl (Or.inl rfl)) je_str)) (js_one (js_if (jt_bool (jw_or (jt_val (je_isTy ft.f_isinstance ft.f_list (by decide +kernel) (by decide) (jp_var 3 (pe_var rfl (Or.inl rfl))))) (jw_or1 (jt_val (je_isTy ft.f_isinstance ft.f_tuple (by decide +kernel) (by decide) (jp_var 3 (pe_var rfl (Or.inl rfl)))))))) (js_cons (js_app (pe_var rfl (Or.inl rfl)) (je_n (jn_if (jt_val (je_isTy ft.f_isinstance ft.f_list (by decide +kernel) (by decide) (jp_var 3 (pe_var rfl (Or.inl rfl))))) (jn_e je_str) (jn_e je_str)))) (js_one (js_set sc__law_kinds.nd rfl (Or.inl rfl) (jn_add (jp_var 2 (pe_var rfl (Or.inl rfl))) (JE.jp (JF.je (jf_lstOf ft.f_list (jr_cons (jp_var 3 (pe_var rfl (Or.inl rfl))) jr_nil)))))))) (js_one (js_if (jt_val (je_isTy ft.f_isinstance ft.f_dict (by decide +kernel) (by decide) (jp_var 3 (pe_var rfl (Or.inl rfl))))) (js_cons (js_app (pe_var rfl (Or.inl rfl)) je_str) (js_one js_never)) (js_one (js_app (pe_var rfl (Or.inl rfl)) je_str)))))))))))))) (js_share 1 (js_one (js_ret (je_var 1 (pe_var rfl (Or.inl rfl))))))))
theorem sc__law_says : FnScope ["told", "due"] ["told", "due"] (defScope (top 39)) := ⟨rfl, rfl, rfl, by decide +kernel, rfl, by decide +kernel, by decide +kernel⟩
theorem d__law_says (ft : Ft K mg) (c__law_kinds : Cal P w K mg base T 1 "_law_kinds" (defArgs (top 38)) ["thing"] s__law_kinds) (f : Addr) (cdv : Value) (A : Around) (outer : List PySem.Env) (s : Shared) (H : Hp) (E : XK) (hr : Room 1 (A.deeper (envOfC "_law_says" (defScope (top 39)) s.heap.objs.size f cdv))) : JSs (cxOf (L2.CX P w) P w K mg base ["told", "due"] "_law_says" (defScope (top 39)) f cdv A outer s H E) T E (defBody (top 39)) p__law_says :=
  (js_one (js_ret (je_and (je_eq hr (JE.jp (je_fn c__law_kinds hr (by decide) (passes_call (takes_of rfl rfl rfl rfl) fun _ _ _ _ h => h) (ja_cons (je_var 0 (pe_var rfl (Or.inl rfl))) ja_nil))) (JE.jp (je_fn c__law_kinds hr (by decide) (passes_call (takes_of rfl rfl rfl rfl) fun _ _ _ _ h => h) (ja_cons (je_var 1 (pe_var rfl (Or.inl rfl))) ja_nil)))) (je_one (je_eq hr (jp_var 0 (pe_var rfl (Or.inl rfl))) (jp_var 1 (pe_var rfl (Or.inl rfl))))))))
theorem sc__law_number : FnScope ["draw", "low", "high"] ["draw", "low", "high"] (defScope (top 40)) := ⟨rfl, rfl, rfl, by decide +kernel, rfl, by decide +kernel, by decide +kernel⟩
theorem d__law_number (ft : Ft K mg) (c__law_pick : Cal P w K mg base T 3 "_law_pick" (defArgs (top 36)) ["draw", "items"] s__law_pick) (f : Addr) (cdv : Value) (A : Around) (outer : List PySem.Env) (s : Shared) (H : Hp) (E : XK) (hr : Room 3 (A.deeper (envOfC "_law_number" (defScope (top 40)) s.heap.objs.size f cdv))) : JSs (cxOf (L2.CX P w) P w K mg base ["draw", "low", "high"] "_law_number" (defScope (top 40)) f cdv A outer s H E) T E (defBody (top 40)) p__law_number :=
  (js_one (js_ret (je_fn c__law_pick hr (by decide) (passes_call (takes_of rfl rfl rfl rfl) fun _ _ _ _ h => h) (ja_cons (je_var 0 (pe_var rfl (Or.inl rfl))) (ja_cons (JF.je (jf_lst (ja_cons je_non (ja_cons (je_sub (jp_var 1 (pe_var rfl (Or.inl rfl))) (JE.jp je_int)) (ja_cons (je_n (jn_add (jp_var 2 (pe_var rfl (Or.inl rfl))) (JE.jp je_int))) (ja_cons je_str (ja_cons je_bl (ja_cons (je_tup (ja_cons (je_var 1 (pe_var rfl (Or.inl rfl))) ja_nil)) (ja_cons (JF.je (jf_lst ja_nil)) (ja_cons (je_sub (JE.jp je_int) (JE.jp (je_pow (JE.jp je_int) (JE.jp je_int)))) (ja_cons (je_pow (JE.jp je_int) (JE.jp je_int)) ja_nil))))))))))) ja_nil)))))
theorem sc__law_base : FnScope ["draw"] ["draw"] (defScope (top 41)) := ⟨rfl, rfl, rfl, by decide +kernel, rfl, by decide +kernel, by decide +kernel⟩
theorem d__law_base (ft : Ft K mg) (c__law_pick : Cal P w K mg base T 3 "_law_pick" (defArgs (top 36)) ["draw", "items"] s__law_pick) (f : Addr) (cdv : Value) (A : Around) (outer : List PySem.Env) (s : Shared) (H : Hp) (E : XK) (hr : Room 3 (A.deeper (envOfC "_law_base" (defScope (top 41)) s.heap.objs.size f cdv))) : JSs (cxOf (L2.CX P w) P w K mg base ["draw"] "_law_base" (defScope (top 41)) f cdv A outer s H E) T E (defBody (top 41)) p__law_base :=
  (js_one (js_ret (je_fn c__law_pick hr (by decide) (passes_call (takes_of rfl rfl rfl rfl) fun _ _ _ _ h => h) (ja_cons (je_var 0 (pe_var rfl (Or.inl rfl))) (ja_cons (JF.je (jf_lst (ja_cons je_int (ja_cons je_int (ja_cons je_int (ja_cons je_int (ja_cons je_int ja_nil))))))) ja_nil)))))
theorem sc__law_no_base : FnScope ["draw"] ["draw"] (defScope (top 42)) := ⟨rfl, rfl, rfl, by decide +kernel, rfl, by decide +kernel, by decide +kernel⟩
theorem d__law_no_base (ft : Ft K mg) (c__law_pick : Cal P w K mg base T 3 "_law_pick" (defArgs (top 36)) ["draw", "items"] s__law_pick) (f : Addr) (cdv : Value) (A : Around) (outer : List PySem.Env) (s : Shared) (H : Hp) (E : XK) (hr : Room 3 (A.deeper (envOfC "_law_no_base" (defScope (top 42)) s.heap.objs.size f cdv))) : JSs (cxOf (L2.CX P w) P w K mg base ["draw"] "_law_no_base" (defScope (top 42)) f cdv A outer s H E) T E (defBody (top 42)) p__law_no_base :=
  (js_one (js_ret (je_fn c__law_pick hr (by decide) (passes_call (takes_of rfl rfl rfl rfl) fun _ _ _ _ h => h) (ja_cons (je_var 0 (pe_var rfl (Or.inl rfl))) (ja_cons (JF.je (jf_lst (ja_cons je_non (ja_cons je_int (ja_cons je_int (ja_cons je_int (ja_cons je_int (ja_cons je_int (ja_cons je_int (ja_cons (je_sub (JE.jp je_int) (JE.jp je_int)) (ja_cons je_bl (ja_cons je_str (ja_cons (je_tup (ja_cons je_int ja_nil)) ja_nil))))))))))))) ja_nil)))))
theorem sc__law_row : FnScope ["base", "number", "found", "left", "lap"] ["base", "number"] (defScope (top 43)) := ⟨rfl, rfl, rfl, by decide +kernel, rfl, by decide +kernel, by decide +kernel⟩
theorem d__law_row (ft : Ft K mg)  (f : Addr) (cdv : Value) (A : Around) (outer : List PySem.Env) (s : Shared) (H : Hp) (E : XK) (hr : Room 0 (A.deeper (envOfC "_law_row" (defScope (top 43)) s.heap.objs.size f cdv))) : JSs (cxOf (L2.CX P w) P w K mg base ["base", "number", "found", "left", "lap"] "_law_row" (defScope (top 43)) f cdv A outer s H E) T E (defBody (top 43)) p__law_row :=
  (js_cons (js_par2 rfl sc__law_row.nd rfl rfl (by decide) rfl rfl (jx_n (jn_f (jf_lst ja_nil)) (jx_n (jn_e (je_var 1 (pe_var rfl (Or.inl rfl)))) jx_nil))) (js_cons (js_for (passes_of rfl) rfl (ji_rng1 (ja_cons je_int ja_nil) ft.f_range) (jg_name 4 sc__law_row.nd rfl (Or.inl rfl)) (js_cons (js_if (jt_eq hr (jp_var 3 (pe_var rfl (Or.inl rfl))) (JE.jp je_int)) (js_one js_brk) js_nil) (js_one (js_par2 rfl sc__law_row.nd rfl rfl (by decide) rfl rfl (jx_n (jn_add (jp_var 2 (pe_var rfl (Or.inl rfl))) (JE.jp (JF.je (jf_lst (ja_cons (je_mod (JE.jp (je_toInt ft.f_int (jr_cons (jp_var 3 (pe_var rfl (Or.inl rfl))) jr_nil))) (jp_var 0 (pe_var rfl (Or.inl rfl)))) ja_nil))))) (jx_n (jn_e (je_div (jp_var 3 (pe_var rfl (Or.inl rfl))) (jp_var 0 (pe_var rfl (Or.inl rfl))))) jx_nil)))))) (js_one (js_ret (je_tupOf ft.f_tuple (jr_cons (jp_var 2 (pe_var rfl (Or.inl rfl))) jr_nil))))))
theorem sc__law_worth : FnScope ["base", "row", "found", "figure"] ["base", "row"] (defScope (top 44)) := ⟨rfl, rfl, rfl, by decide +kernel, rfl, by decide +kernel, by decide +kernel⟩
theorem d__law_worth (ft : Ft K mg)  (f : Addr) (cdv : Value) (A : Around) (outer : List PySem.Env) (s : Shared) (H : Hp) (E : XK) (hr : Room 0 (A.deeper (envOfC "_law_worth" (defScope (top 44)) s.heap.objs.size f cdv))) : JSs (cxOf (L2.CX P w) P w K mg base ["base", "row", "found", "figure"] "_law_worth" (defScope (top 44)) f cdv A outer s H E) T E (defBody (top 44)) p__law_worth :=
  (js_cons (js_set sc__law_worth.nd rfl (Or.inl rfl) (jn_e je_int)) (js_cons (js_for (passes_of rfl) rfl (ji_seq (jq_val (je_n (jn_rev (jp_var 1 (pe_var rfl (Or.inl rfl))))))) (jg_name 3 sc__law_worth.nd rfl (Or.inl rfl)) (js_one (js_set sc__law_worth.nd rfl (Or.inl rfl) (jn_add (JE.jp (je_n (jn_mul (jp_var 2 (pe_var rfl (Or.inl rfl))) (jp_var 0 (pe_var rfl (Or.inl rfl)))))) (jp_var 3 (pe_var rfl (Or.inl rfl))))))) (js_one (js_ret (je_var 2 (pe_var rfl (Or.inl rfl)))))))
theorem sc__law_cut : FnScope ["row", "many", "lap"] ["row"] (defScope (top 45)) := ⟨rfl, rfl, rfl, by decide +kernel, rfl, by decide +kernel, by decide +kernel⟩
theorem d__law_cut (ft : Ft K mg)  (f : Addr) (cdv : Value) (A : Around) (outer : List PySem.Env) (s : Shared) (H : Hp) (E : XK) (hr : Room 0 (A.deeper (envOfC "_law_cut" (defScope (top 45)) s.heap.objs.size f cdv))) : JSs (cxOf (L2.CX P w) P w K mg base ["row", "many", "lap"] "_law_cut" (defScope (top 45)) f cdv A outer s H E) T E (defBody (top 45)) p__law_cut :=
  (js_cons (js_set sc__law_cut.nd rfl (Or.inl rfl) (jn_e (je_len ft.f_len (jr_cons (jp_var 0 (pe_var rfl (Or.inl rfl))) jr_nil)))) (js_cons (js_for (passes_of rfl) rfl (ji_rng1 (ja_cons (je_len ft.f_len (jr_cons (jp_var 0 (pe_var rfl (Or.inl rfl))) jr_nil)) ja_nil) ft.f_range) (jg_name 2 sc__law_cut.nd rfl (Or.inl rfl)) (js_one (js_if (jt_bool (jw_and (jt_gt (jp_var 1 (pe_var rfl (Or.inl rfl))) (JE.jp je_int)) (jw_and1 (jt_eq hr (JE.jp (je_ix (jp_var 0 (pe_var rfl (Or.inl rfl))) (JE.jp (je_sub (jp_var 1 (pe_var rfl (Or.inl rfl))) (JE.jp je_int))))) (JE.jp je_int))))) (js_one (js_set sc__law_cut.nd rfl (Or.inl rfl) (jn_e (je_sub (jp_var 1 (pe_var rfl (Or.inl rfl))) (JE.jp je_int))))) js_nil))) (js_one (js_ret (je_tupOf ft.f_tuple (jr_cons (JE.jp (je_n (jn_sl (jp_var 0 (pe_var rfl (Or.inl rfl))) jo_none (jo_some (jp_var 1 (pe_var rfl (Or.inl rfl))))))) jr_nil))))))
theorem sc__law_times : FnScope ["base", "one", "other", "found", "at", "figure", "late", "item"] ["base", "one", "other"] (defScope (top 46)) := ⟨rfl, rfl, rfl, by decide +kernel, rfl, by decide +kernel, by decide +kernel⟩
theorem d__law_times (ft : Ft K mg) (c__law_cut : Cal P w K mg base T 1 "_law_cut" (defArgs (top 45)) ["row"] s__law_cut) (f : Addr) (cdv : Value) (A : Around) (outer : List PySem.Env) (s : Shared) (H : Hp) (E : XK) (hr : Room 1 (A.deeper (envOfC "_law_times" (defScope (top 46)) s.heap.objs.size f cdv))) : JSs (cxOf (L2.CX P w) P w K mg base ["base", "one", "other", "found", "at", "figure", "late", "item"] "_law_times" (defScope (top 46)) f cdv A outer s H E) T E (defBody (top 46)) p__law_times :=
  (js_cons (js_set sc__law_times.nd rfl (Or.inl rfl) (jn_mul (JE.jp (JF.je (jf_lst (ja_cons je_int ja_nil)))) (JE.jp (je_n (jn_add (JE.jp (je_len ft.f_len (jr_cons (jp_var 1 (pe_var rfl (Or.inl rfl))) jr_nil))) (JE.jp (je_len ft.f_len (jr_cons (jp_var 2 (pe_var rfl (Or.inl rfl))) jr_nil)))))))) (js_cons (js_for (passes_of rfl) rfl (ji_enum (jq_var 1 (pe_var rfl (Or.inl rfl))) ft.f_enumerate) (jg_tup rfl (jgs_cons (jg_name 4 sc__law_times.nd rfl (Or.inl rfl)) (jgs_cons (jg_name 5 sc__law_times.nd rfl (Or.inl rfl)) jgs_nil))) (js_one (js_for (passes_of rfl) rfl (ji_enum (jq_var 2 (pe_var rfl (Or.inl rfl))) ft.f_enumerate) (jg_tup rfl (jgs_cons (jg_name 6 sc__law_times.nd rfl (Or.inl rfl)) (jgs_cons (jg_name 7 sc__law_times.nd rfl (Or.inl rfl)) jgs_nil))) (js_one (js_setIx (pe_var rfl (Or.inl rfl)) (JE.jp (je_n (jn_add (jp_var 4 (pe_var rfl (Or.inl rfl))) (jp_var 6 (pe_var rfl (Or.inl rfl)))))) (je_n (jn_add (JE.jp (je_ix (jp_var 3 (pe_var rfl (Or.inl rfl))) (JE.jp (je_n (jn_add (jp_var 4 (pe_var rfl (Or.inl rfl))) (jp_var 6 (pe_var rfl (Or.inl rfl)))))))) (JE.jp (je_n (jn_mul (jp_var 5 (pe_var rfl (Or.inl rfl))) (jp_var 7 (pe_var rfl (Or.inl rfl))))))))))))) (js_one (js_ret (je_fn c__law_cut hr (by decide) (passes_call (takes_of rfl rfl rfl rfl) fun _ _ _ _ h => h) (ja_cons (JF.je (jf_comp (own := [("item", 7)]) rfl sc__law_times.nd (ji_seq (jq_var 3 (pe_var rfl (Or.inl rfl)))) (blkOk_of rfl rfl) (fun _ _ _ _ _ => (jg_name 7 sc__law_times.nd rfl (Or.inl rfl))) (fun _ _ _ _ _ => jts_nil) (fun _ _ _ _ _ => (je_mod (JE.jp (je_toInt ft.f_int (jr_cons (jp_var 7 (pe_var rfl (Or.inl rfl))) jr_nil))) (jp_var 0 (pe_var rfl (Or.inr (Or.inl rfl)))))))) ja_nil))))))
theorem sc__law_divided : FnScope ["base", "one", "other", "left", "found", "scale", "at", "figure", "late", "item"] ["base", "one", "other"] (defScope (top 47)) := ⟨rfl, rfl, rfl, by decide +kernel, rfl, by decide +kernel, by decide +kernel⟩
theorem d__law_divided (ft : Ft K mg) (c__law_cut : Cal P w K mg base T 1 "_law_cut" (defArgs (top 45)) ["row"] s__law_cut) (f : Addr) (cdv : Value) (A : Around) (outer : List PySem.Env) (s : Shared) (H : Hp) (E : XK) (hr : Room 1 (A.deeper (envOfC "_law_divided" (defScope (top 47)) s.heap.objs.size f cdv))) : JSs (cxOf (L2.CX P w) P w K mg base ["base", "one", "other", "left", "found", "scale", "at", "figure", "late", "item"] "_law_divided" (defScope (top 47)) f cdv A outer s H E) T E (defBody (top 47)) p__law_divided :=
  (js_cons (js_par2 rfl sc__law_divided.nd rfl rfl (by decide) rfl rfl (jx_n (jn_f (jf_lstOf ft.f_list (jr_cons (jp_var 1 (pe_var rfl (Or.inl rfl))) jr_nil))) (jx_n (jn_mul (JE.jp (JF.je (jf_lst (ja_cons je_int ja_nil)))) (JE.jp (je_max2 rfl ft.f_max (jr_cons (JE.jp je_int) (jr_cons (JE.jp (je_n (jn_add (JE.jp (je_sub (JE.jp (je_len ft.f_len (jr_cons (jp_var 1 (pe_var rfl (Or.inl rfl))) jr_nil))) (JE.jp (je_len ft.f_len (jr_cons (jp_var 2 (pe_var rfl (Or.inr (Or.inl rfl)))) jr_nil))))) (JE.jp je_int)))) jr_nil))))) jx_nil))) (js_cons (js_set sc__law_divided.nd rfl (Or.inl rfl) (jn_e (je_ix (JE.jp (JF.je (jf_comp (own := [("late", 8)]) rfl sc__law_divided.nd (ji_rng2 (ja_cons je_int (ja_cons (je_var 0 (pe_var rfl (Or.inr (Or.inl rfl)))) ja_nil)) ft.f_range) (blkOk_of rfl rfl) (fun _ _ _ _ _ => (jg_name 8 sc__law_divided.nd rfl (Or.inl rfl))) (fun _ _ _ _ _ => (jts_one (jt_eq hr (JE.jp (je_mod (JE.jp (je_toInt ft.f_int (jr_cons (JE.jp (je_n (jn_mul (jp_var 8 (pe_var rfl (Or.inl rfl))) (JE.jp (je_ix (jp_var 2 (pe_var rfl (Or.inr (Or.inl rfl)))) (JE.jp (je_neg (JE.jp je_int)))))))) jr_nil))) (jp_var 0 (pe_var rfl (Or.inr (Or.inl rfl)))))) (JE.jp je_int)))) (fun _ _ _ _ _ => (je_var 8 (pe_var rfl (Or.inl rfl))))))) (JE.jp je_int)))) (js_cons (js_for (passes_of rfl) rfl (ji_rng3 (ja_cons (je_sub (JE.jp (je_len ft.f_len (jr_cons (jp_var 4 (pe_var rfl (Or.inl rfl))) jr_nil))) (JE.jp je_int)) (ja_cons (je_neg (JE.jp je_int)) (ja_cons (je_neg (JE.jp je_int)) ja_nil))) ft.f_range) (jg_name 6 sc__law_divided.nd rfl (Or.inl rfl)) (js_cons (js_set sc__law_divided.nd rfl (Or.inl rfl) (jn_e (je_mod (JE.jp (je_toInt ft.f_int (jr_cons (JE.jp (je_n (jn_mul (JE.jp (je_ix (jp_var 3 (pe_var rfl (Or.inl rfl))) (JE.jp (je_sub (JE.jp (je_n (jn_add (jp_var 6 (pe_var rfl (Or.inl rfl))) (JE.jp (je_len ft.f_len (jr_cons (jp_var 2 (pe_var rfl (Or.inr (Or.inl rfl)))) jr_nil)))))) (JE.jp je_int))))) (jp_var 5 (pe_var rfl (Or.inl rfl)))))) jr_nil))) (jp_var 0 (pe_var rfl (Or.inr (Or.inl rfl))))))) (js_cons (js_setIx (pe_var rfl (Or.inl rfl)) (jp_var 6 (pe_var rfl (Or.inl rfl))) (je_var 7 (pe_var rfl (Or.inl rfl)))) (js_one (js_for (passes_of rfl) rfl (ji_enum (jq_var 2 (pe_var rfl (Or.inr (Or.inl rfl)))) ft.f_enumerate) (jg_tup rfl (jgs_cons (jg_name 8 sc__law_divided.nd rfl (Or.inl rfl)) (jgs_cons (jg_name 9 sc__law_divided.nd rfl (Or.inl rfl)) jgs_nil))) (js_one (js_setIx (pe_var rfl (Or.inl rfl)) (JE.jp (je_n (jn_add (jp_var 6 (pe_var rfl (Or.inl rfl))) (jp_var 8 (pe_var rfl (Or.inl rfl)))))) (je_mod (JE.jp (je_toInt ft.f_int (jr_cons (JE.jp (je_sub (JE.jp (je_ix (jp_var 3 (pe_var rfl (Or.inl rfl))) (JE.jp (je_n (jn_add (jp_var 6 (pe_var rfl (Or.inl rfl))) (jp_var 8 (pe_var rfl (Or.inl rfl)))))))) (JE.jp (je_n (jn_mul (jp_var 7 (pe_var rfl (Or.inl rfl))) (jp_var 9 (pe_var rfl (Or.inl rfl)))))))) jr_nil))) (jp_var 0 (pe_var rfl (Or.inr (Or.inl rfl)))))))))))) (js_share 4 (js_share 3 (js_one (js_ret (je_tup (ja_cons (je_fn c__law_cut hr (by decide) (passes_call (takes_of rfl rfl rfl rfl) fun _ _ _ _ h => h) (ja_cons (je_var 4 (pe_var rfl (Or.inl rfl))) ja_nil)) (ja_cons (je_fn c__law_cut hr (by decide) (passes_call (takes_of rfl rfl rfl rfl) fun _ _ _ _ h => h) (ja_cons (je_var 3 (pe_var rfl (Or.inl rfl))) ja_nil)) ja_nil))))))))))
theorem sc__law_plain : FnScope ["base", "row", "scale", "late", "figure"] ["base", "row"] (defScope (top 48)) := ⟨rfl, rfl, rfl, by decide +kernel, rfl, by decide +kernel, by decide +kernel⟩
theorem d__law_plain (ft : Ft K mg)  (f : Addr) (cdv : Value) (A : Around) (outer : List PySem.Env) (s : Shared) (H : Hp) (E : XK) (hr : Room 0 (A.deeper (envOfC "_law_plain" (defScope (top 48)) s.heap.objs.size f cdv))) : JSs (cxOf (L2.CX P w) P w K mg base ["base", "row", "scale", "late", "figure"] "_law_plain" (defScope (top 48)) f cdv A outer s H E) T E (defBody (top 48)) p__law_plain :=
  (js_cons (js_set sc__law_plain.nd rfl (Or.inr rfl) (jn_e (je_ix (JE.jp (JF.je (jf_comp (own := [("late", 3)]) rfl sc__law_plain.nd (ji_rng2 (ja_cons je_int (ja_cons (je_var 0 (pe_var rfl (Or.inr (Or.inl rfl)))) ja_nil)) ft.f_range) (blkOk_of rfl rfl) (fun _ _ _ _ _ => (jg_name 3 sc__law_plain.nd rfl (Or.inl rfl))) (fun _ _ _ _ _ => (jts_one (jt_eq hr (JE.jp (je_mod (JE.jp (je_toInt ft.f_int (jr_cons (JE.jp (je_n (jn_mul (jp_var 3 (pe_var rfl (Or.inl rfl))) (JE.jp (je_ix (jp_var 1 (pe_var rfl (Or.inr (Or.inl rfl)))) (JE.jp (je_neg (JE.jp je_int)))))))) jr_nil))) (jp_var 0 (pe_var rfl (Or.inr (Or.inl rfl)))))) (JE.jp je_int)))) (fun _ _ _ _ _ => (je_var 3 (pe_var rfl (Or.inl rfl))))))) (JE.jp je_int)))) (js_one (js_ret (je_tupOf ft.f_tuple (jr_cons (JE.jp (JF.je (jf_comp (own := [("figure", 4)]) rfl sc__law_plain.nd (ji_seq (jq_var 1 (pe_var rfl (Or.inr (Or.inl rfl))))) (blkOk_of rfl rfl) (fun _ _ _ _ _ => (jg_name 4 sc__law_plain.nd rfl (Or.inl rfl))) (fun _ _ _ _ _ => jts_nil) (fun _ _ _ _ _ => (je_mod (JE.jp (je_toInt ft.f_int (jr_cons (JE.jp (je_n (jn_mul (jp_var 4 (pe_var rfl (Or.inl rfl))) (jp_var 2 (pe_var rfl (Or.inr (Or.inl rfl))))))) jr_nil))) (jp_var 0 (pe_var rfl (Or.inr (Or.inl rfl))))))))) jr_nil)))))
theorem sc__law_common : FnScope ["base", "one", "other", "here", "late", "lap"] ["base", "one", "other"] (defScope (top 49)) := ⟨rfl, rfl, rfl, by decide +kernel, rfl, by decide +kernel, by decide +kernel⟩
theorem d__law_common (ft : Ft K mg) (c__law_divided : Cal P w K mg base T 2 "_law_divided" (defArgs (top 47)) ["base", "one", "other"] s__law_divided) (c__law_plain : Cal P w K mg base T 1 "_law_plain" (defArgs (top 48)) ["base", "row"] s__law_plain) (f : Addr) (cdv : Value) (A : Around) (outer : List PySem.Env) (s : Shared) (H : Hp) (E : XK) (hr : Room 2 (A.deeper (envOfC "_law_common" (defScope (top 49)) s.heap.objs.size f cdv))) : JSs (cxOf (L2.CX P w) P w K mg base ["base", "one", "other", "here", "late", "lap"] "_law_common" (defScope (top 49)) f cdv A outer s H E) T E (defBody (top 49)) p__law_common :=
  (js_cons (js_par2 rfl sc__law_common.nd rfl rfl (by decide) rfl rfl (jx_n (jn_e (je_var 1 (pe_var rfl (Or.inl rfl)))) (jx_n (jn_e (je_var 2 (pe_var rfl (Or.inl rfl)))) jx_nil))) (js_cons (js_for (passes_of rfl) rfl (ji_rng1 (ja_cons je_int ja_nil) ft.f_range) (jg_name 5 sc__law_common.nd rfl (Or.inl rfl)) (js_cons (js_if (jt_eq hr (jp_var 4 (pe_var rfl (Or.inl rfl))) (JE.jp (je_tup ja_nil))) (js_one js_brk) js_nil) (js_one (js_par2 rfl sc__law_common.nd rfl rfl (by decide) rfl rfl (jx_n (jn_e (je_var 4 (pe_var rfl (Or.inl rfl)))) (jx_n (jn_e (je_ix (JE.jp (je_fn c__law_divided hr (by decide) (passes_call (takes_of rfl rfl rfl rfl) fun _ _ _ _ h => h) (ja_cons (je_var 0 (pe_var rfl (Or.inl rfl))) (ja_cons (je_var 3 (pe_var rfl (Or.inl rfl))) (ja_cons (je_var 4 (pe_var rfl (Or.inl rfl))) ja_nil))))) (JE.jp je_int))) jx_nil)))))) (js_one (js_ret (je_n (jn_if (jt_ne hr (jp_var 3 (pe_var rfl (Or.inl rfl))) (JE.jp (je_tup ja_nil))) (jn_e (je_fn c__law_plain hr (by decide) (passes_call (takes_of rfl rfl rfl rfl) fun _ _ _ _ h => h) (ja_cons (je_var 0 (pe_var rfl (Or.inl rfl))) (ja_cons (je_var 3 (pe_var rfl (Or.inl rfl))) ja_nil)))) (jn_e (je_tup ja_nil))))))))
theorem sc__law_power : FnScope ["number", "many", "found", "lap"] ["number", "many"] (defScope (top 50)) := ⟨rfl, rfl, rfl, by decide +kernel, rfl, by decide +kernel, by decide +kernel⟩
theorem d__law_power (ft : Ft K mg)  (f : Addr) (cdv : Value) (A : Around) (outer : List PySem.Env) (s : Shared) (H : Hp) (E : XK) (hr : Room 0 (A.deeper (envOfC "_law_power" (defScope (top 50)) s.heap.objs.size f cdv))) : JSs (cxOf (L2.CX P w) P w K mg base ["number", "many", "found", "lap"] "_law_power" (defScope (top 50)) f cdv A outer s H E) T E (defBody (top 50)) p__law_power :=
  (js_cons (js_set sc__law_power.nd rfl (Or.inl rfl) (jn_e je_int)) (js_cons (js_for (passes_of rfl) rfl (ji_rng1 (ja_cons (je_var 1 (pe_var rfl (Or.inl rfl))) ja_nil) ft.f_range) (jg_name 3 sc__law_power.nd rfl (Or.inl rfl)) (js_one (js_set sc__law_power.nd rfl (Or.inl rfl) (jn_mul (jp_var 2 (pe_var rfl (Or.inl rfl))) (jp_var 0 (pe_var rfl (Or.inl rfl))))))) (js_one (js_ret (je_var 2 (pe_var rfl (Or.inl rfl)))))))
theorem sc__law_factors : FnScope ["base", "row", "found", "left", "size", "number", "late", "often", "lap", "part", "some", "pair"] ["base", "row"] (defScope (top 51)) := ⟨rfl, rfl, rfl, by decide +kernel, rfl, by decide +kernel, by decide +kernel⟩
theorem d__law_factors (ft : Ft K mg) (c__law_plain : Cal P w K mg base T 1 "_law_plain" (defArgs (top 48)) ["base", "row"] s__law_plain) (c__law_power : Cal P w K mg base T 1 "_law_power" (defArgs (top 50)) ["number", "many"] s__law_power) (c__law_row : Cal P w K mg base T 1 "_law_row" (defArgs (top 43)) ["base", "number"] s__law_row) (c__law_divided : Cal P w K mg base T 2 "_law_divided" (defArgs (top 47)) ["base", "one", "other"] s__law_divided) (f : Addr) (cdv : Value) (A : Around) (outer : List PySem.Env) (s : Shared) (H : Hp) (E : XK) (hr : Room 2 (A.deeper (envOfC "_law_factors" (defScope (top 51)) s.heap.objs.size f cdv))) : JSs (cxOf (L2.CX P w) P w K mg base ["base", "row", "found", "left", "size", "number", "late", "often", "lap", "part", "some", "pair"] "_law_factors" (defScope (top 51)) f cdv A outer s H E) T E (defBody (top 51)) p__law_factors :=
  (js_cons (js_parT rfl (jns_cons sc__law_factors.nd rfl (Or.inl rfl) (jns_cons sc__law_factors.nd rfl (Or.inr rfl) jns_nil)) (jx_n (jn_f (jf_lst ja_nil)) (jx_n (jn_e (je_fn c__law_plain hr (by decide) (passes_call (takes_of rfl rfl rfl rfl) fun _ _ _ _ h => h) (ja_cons (je_var 0 (pe_var rfl (Or.inl rfl))) (ja_cons (je_var 1 (pe_var rfl (Or.inl rfl))) ja_nil)))) jx_nil))) (js_cons (js_for (passes_of rfl) rfl (ji_rng2 (ja_cons je_int (ja_cons (je_len ft.f_len (jr_cons (jp_var 1 (pe_var rfl (Or.inl rfl))) jr_nil)) ja_nil)) ft.f_range) (jg_name 4 sc__law_factors.nd rfl (Or.inl rfl)) (js_cons (js_if (jt_le (JE.jp (je_len ft.f_len (jr_cons (jp_var 3 (pe_var rfl (Or.inr (Or.inl rfl)))) jr_nil))) (JE.jp (je_n (jn_mul (JE.jp je_int) (jp_var 4 (pe_var rfl (Or.inl rfl))))))) (js_one js_brk) js_nil) (js_one (js_for (passes_of rfl) rfl (ji_rng2 (ja_cons (je_fn c__law_power hr (by decide) (passes_call (takes_of rfl rfl rfl rfl) fun _ _ _ _ h => h) (ja_cons (je_var 0 (pe_var rfl (Or.inl rfl))) (ja_cons (je_var 4 (pe_var rfl (Or.inl rfl))) ja_nil))) (ja_cons (je_n (jn_mul (JE.jp je_int) (JE.jp (je_fn c__law_power hr (by decide) (passes_call (takes_of rfl rfl rfl rfl) fun _ _ _ _ h => h) (ja_cons (je_var 0 (pe_var rfl (Or.inl rfl))) (ja_cons (je_var 4 (pe_var rfl (Or.inl rfl))) ja_nil)))))) ja_nil)) ft.f_range) (jg_name 5 sc__law_factors.nd rfl (Or.inl rfl)) (js_cons (js_par2 rfl sc__law_factors.nd rfl rfl (by decide) rfl rfl (jx_n (jn_e (je_fn c__law_row hr (by decide) (passes_call (takes_of rfl rfl rfl rfl) fun _ _ _ _ h => h) (ja_cons (je_var 0 (pe_var rfl (Or.inl rfl))) (ja_cons (je_var 5 (pe_var rfl (Or.inl rfl))) ja_nil)))) (jx_n (jn_e je_int) jx_nil))) (js_cons (js_for (passes_of rfl) rfl (ji_rng1 (ja_cons (je_len ft.f_len (jr_cons (jp_var 1 (pe_var rfl (Or.inl rfl))) jr_nil)) ja_nil) ft.f_range) (jg_name 8 sc__law_factors.nd rfl (Or.inl rfl)) (js_cons (js_set sc__law_factors.nd rfl (Or.inl rfl) (jn_if (jt_ge (JE.jp (je_len ft.f_len (jr_cons (jp_var 3 (pe_var rfl (Or.inr (Or.inl rfl)))) jr_nil))) (JE.jp (je_len ft.f_len (jr_cons (jp_var 6 (pe_var rfl (Or.inl rfl))) jr_nil)))) (jn_e (je_fn c__law_divided hr (by decide) (passes_call (takes_of rfl rfl rfl rfl) fun _ _ _ _ h => h) (ja_cons (je_var 0 (pe_var rfl (Or.inl rfl))) (ja_cons (je_var 3 (pe_var rfl (Or.inr (Or.inl rfl)))) (ja_cons (je_var 6 (pe_var rfl (Or.inl rfl))) ja_nil))))) (jn_e (je_tup (ja_cons (je_tup ja_nil) (ja_cons (je_tup (ja_cons je_int ja_nil)) ja_nil)))))) (js_one (js_if (jt_eq hr (JE.jp (je_ix (jp_var 9 (pe_var rfl (Or.inl rfl))) (JE.jp je_int))) (JE.jp (je_tup ja_nil))) (js_one (js_parT rfl (jns_cons sc__law_factors.nd rfl (Or.inr rfl) (jns_cons sc__law_factors.nd rfl (Or.inl rfl) jns_nil)) (jx_n (jn_e (je_ix (jp_var 9 (pe_var rfl (Or.inl rfl))) (JE.jp je_int))) (jx_n (jn_add (jp_var 7 (pe_var rfl (Or.inl rfl))) (JE.jp je_int)) jx_nil)))) js_nil)))) (js_one (js_if (jt_gt (jp_var 7 (pe_var rfl (Or.inl rfl))) (JE.jp je_int)) (js_one (js_app (pe_var rfl (Or.inl rfl)) (je_tup (ja_cons (je_var 6 (pe_var rfl (Or.inl rfl))) (ja_cons (je_var 7 (pe_var rfl (Or.inl rfl))) ja_nil))))) js_nil)))))))) (js_cons (js_if (jt_gt (JE.jp (je_len ft.f_len (jr_cons (jp_var 3 (pe_var rfl (Or.inr (Or.inl rfl)))) jr_nil))) (JE.jp je_int)) (js_cons (js_ownC (own := [("pair", 11)]) rfl sc__law_factors.nd rfl rfl (sw_true rfl rfl rfl rfl) (ji_seq (jq_var 2 (pe_var rfl (Or.inl rfl)))) (blkOk_of rfl rfl) (fun _ _ _ _ _ => (jg_name 11 sc__law_factors.nd rfl (Or.inl rfl))) (fun _ _ _ _ _ => (jts_one (jt_eq hr (JE.jp (je_ix (jp_var 11 (pe_var rfl (Or.inl rfl))) (JE.jp je_int))) (jp_var 3 (pe_var rfl (Or.inr (Or.inl rfl))))))) (fun _ _ _ _ _ => (je_var 11 (pe_var rfl (Or.inl rfl))))) (js_one (js_set sc__law_factors.nd rfl (Or.inl rfl) (jn_add (JE.jp (JF.je (jf_comp (own := [("pair", 11)]) rfl sc__law_factors.nd (ji_seq (jq_var 2 (pe_var rfl (Or.inl rfl)))) (blkOk_of rfl rfl) (fun _ _ _ _ _ => (jg_name 11 sc__law_factors.nd rfl (Or.inl rfl))) (fun _ _ _ _ _ => (jts_one (jt_ne hr (JE.jp (je_ix (jp_var 11 (pe_var rfl (Or.inl rfl))) (JE.jp je_int))) (jp_var 3 (pe_var rfl (Or.inr (Or.inl rfl))))))) (fun _ _ _ _ _ => (je_var 11 (pe_var rfl (Or.inl rfl))))))) (JE.jp (JF.je (jf_lst (ja_cons (je_tup (ja_cons (je_var 3 (pe_var rfl (Or.inr (Or.inl rfl)))) (ja_cons (je_n (jn_add (JE.jp je_int) (JE.jp (je_sum rfl ft.f_sum (jr_cons (JE.jp (JF.je (jf_comp (own := [("late", 6), ("often", 7)]) rfl sc__law_factors.nd (ji_seq (jq_var 10 (pe_var rfl (Or.inl rfl)))) (blkOk_of rfl rfl) (fun _ _ _ _ _ => (jg_tup rfl (jgs_cons (jg_name 6 sc__law_factors.nd rfl (Or.inl rfl)) (jgs_cons (jg_name 7 sc__law_factors.nd rfl (Or.inl rfl)) jgs_nil)))) (fun _ _ _ _ _ => jts_nil) (fun _ _ _ _ _ => (je_var 7 (pe_var rfl (Or.inl rfl))))))) jr_nil))))) ja_nil))) ja_nil)))))))) js_nil) (js_share 2 (js_one (js_ret (je_var 2 (pe_var rfl (Or.inl rfl)))))))))
theorem sc__law_is_prime : FnScope ["base", "row"] ["base", "row"] (defScope (top 52)) := ⟨rfl, rfl, rfl, by decide +kernel, rfl, by decide +kernel, by decide +kernel⟩
theorem d__law_is_prime (ft : Ft K mg) (c__law_factors : Cal P w K mg base T 3 "_law_factors" (defArgs (top 51)) ["base", "row"] s__law_factors) (f : Addr) (cdv : Value) (A : Around) (outer : List PySem.Env) (s : Shared) (H : Hp) (E : XK) (hr : Room 3 (A.deeper (envOfC "_law_is_prime" (defScope (top 52)) s.heap.objs.size f cdv))) : JSs (cxOf (L2.CX P w) P w K mg base ["base", "row"] "_law_is_prime" (defScope (top 52)) f cdv A outer s H E) T E (defBody (top 52)) p__law_is_prime :=
  (js_one (js_ret (je_and (je_gt (JE.jp (je_len ft.f_len (jr_cons (jp_var 1 (pe_var rfl (Or.inl rfl))) jr_nil))) (JE.jp je_int)) (je_and (je_eq hr (JE.jp (je_ix (jp_var 1 (pe_var rfl (Or.inl rfl))) (JE.jp (je_neg (JE.jp je_int))))) (JE.jp je_int)) (je_one (je_eq hr (JE.jp (je_fn c__law_factors hr (by decide) (passes_call (takes_of rfl rfl rfl rfl) fun _ _ _ _ h => h) (ja_cons (je_var 0 (pe_var rfl (Or.inl rfl))) (ja_cons (je_var 1 (pe_var rfl (Or.inl rfl))) ja_nil)))) (JE.jp (JF.je (jf_lst (ja_cons (je_tup (ja_cons (je_var 1 (pe_var rfl (Or.inl rfl))) (ja_cons je_int ja_nil))) ja_nil))))))))))
theorem sc__law_prime : FnScope ["draw", "base", "most", "size", "first", "at", "lap", "number"] ["draw", "base", "most"] (defScope (top 53)) := ⟨rfl, rfl, rfl, by decide +kernel, rfl, by decide +kernel, by decide +kernel⟩
theorem d__law_prime (ft : Ft K mg) (c__law_take : Cal P w K mg base T 2 "_law_take" (defArgs (top 35)) ["draw", "amount"] s__law_take) (c__law_power : Cal P w K mg base T 1 "_law_power" (defArgs (top 50)) ["number", "many"] s__law_power) (c__law_is_prime : Cal P w K mg base T 4 "_law_is_prime" (defArgs (top 52)) ["base", "row"] s__law_is_prime) (c__law_row : Cal P w K mg base T 1 "_law_row" (defArgs (top 43)) ["base", "number"] s__law_row) (f : Addr) (cdv : Value) (A : Around) (outer : List PySem.Env) (s : Shared) (H : Hp) (E : XK) (hr : Room 4 (A.deeper (envOfC "_law_prime" (defScope (top 53)) s.heap.objs.size f cdv))) : JSs (cxOf (L2.CX P w) P w K mg base ["draw", "base", "most", "size", "first", "at", "lap", "number"] "_law_prime" (defScope (top 53)) f cdv A outer s H E) T E (defBody (top 53)) p__law_prime :=
  (js_cons (js_set sc__law_prime.nd rfl (Or.inl rfl) (jn_add (JE.jp je_int) (JE.jp (je_fn c__law_take hr (by decide) (passes_call (takes_of rfl rfl rfl rfl) fun _ _ _ _ h => h) (ja_cons (je_var 0 (pe_var rfl (Or.inl rfl))) (ja_cons (je_var 2 (pe_var rfl (Or.inl rfl))) ja_nil)))))) (js_share 3 (js_cons (js_set sc__law_prime.nd rfl (Or.inl rfl) (jn_e (je_fn c__law_power hr (by decide) (passes_call (takes_of rfl rfl rfl rfl) fun _ _ _ _ h => h) (ja_cons (je_var 1 (pe_var rfl (Or.inl rfl))) (ja_cons (je_var 3 (pe_var rfl (Or.inl rfl))) ja_nil))))) (js_cons (js_set sc__law_prime.nd rfl (Or.inl rfl) (jn_e (je_fn c__law_take hr (by decide) (passes_call (takes_of rfl rfl rfl rfl) fun _ _ _ _ h => h) (ja_cons (je_var 0 (pe_var rfl (Or.inl rfl))) (ja_cons (je_var 4 (pe_var rfl (Or.inl rfl))) ja_nil))))) (js_cons (js_for (passes_of rfl) rfl (ji_rng1 (ja_cons (je_var 4 (pe_var rfl (Or.inl rfl))) ja_nil) ft.f_range) (jg_name 6 sc__law_prime.nd rfl (Or.inl rfl)) (js_cons (js_set sc__law_prime.nd rfl (Or.inl rfl) (jn_add (jp_var 4 (pe_var rfl (Or.inl rfl))) (JE.jp (je_mod (JE.jp (je_toInt ft.f_int (jr_cons (JE.jp (je_n (jn_add (jp_var 5 (pe_var rfl (Or.inl rfl))) (jp_var 6 (pe_var rfl (Or.inl rfl)))))) jr_nil))) (jp_var 4 (pe_var rfl (Or.inl rfl))))))) (js_one (js_if (jt_val (je_fn c__law_is_prime hr (by decide) (passes_call (takes_of rfl rfl rfl rfl) fun _ _ _ _ h => h) (ja_cons (je_var 1 (pe_var rfl (Or.inl rfl))) (ja_cons (je_fn c__law_row hr (by decide) (passes_call (takes_of rfl rfl rfl rfl) fun _ _ _ _ h => h) (ja_cons (je_var 1 (pe_var rfl (Or.inl rfl))) (ja_cons (je_var 7 (pe_var rfl (Or.inl rfl))) ja_nil))) ja_nil)))) (js_one (js_ret (je_var 7 (pe_var rfl (Or.inl rfl))))) js_nil)))) (js_one (js_ret (je_var 1 (pe_var rfl (Or.inl rfl))))))))))
theorem sc__law_modulus : FnScope ["draw", "base", "most", "way", "prime", "found", "lap", "late", "longer"] ["draw", "base", "most"] (defScope (top 54)) := ⟨rfl, rfl, rfl, by decide +kernel, rfl, by decide +kernel, by decide +kernel⟩
theorem d__law_modulus (ft : Ft K mg) (c__law_row : Cal P w K mg base T 1 "_law_row" (defArgs (top 43)) ["base", "number"] s__law_row) (c__law_prime : Cal P w K mg base T 5 "_law_prime" (defArgs (top 53)) ["draw", "base", "most"] s__law_prime) (c__law_take : Cal P w K mg base T 2 "_law_take" (defArgs (top 35)) ["draw", "amount"] s__law_take) (c__law_times : Cal P w K mg base T 2 "_law_times" (defArgs (top 46)) ["base", "one", "other"] s__law_times) (c__law_worth : Cal P w K mg base T 1 "_law_worth" (defArgs (top 44)) ["base", "row"] s__law_worth) (c__law_power : Cal P w K mg base T 1 "_law_power" (defArgs (top 50)) ["number", "many"] s__law_power) (f : Addr) (cdv : Value) (A : Around) (outer : List PySem.Env) (s : Shared) (H : Hp) (E : XK) (hr : Room 5 (A.deeper (envOfC "_law_modulus" (defScope (top 54)) s.heap.objs.size f cdv))) : JSs (cxOf (L2.CX P w) P w K mg base ["draw", "base", "most", "way", "prime", "found", "lap", "late", "longer"] "_law_modulus" (defScope (top 54)) f cdv A outer s H E) T E (defBody (top 54)) p__law_modulus :=
  (js_cons (js_par2 rfl sc__law_modulus.nd rfl rfl (by decide) rfl rfl (jx_n (jn_e (je_fn c__law_take hr (by decide) (passes_call (takes_of rfl rfl rfl rfl) fun _ _ _ _ h => h) (ja_cons (je_var 0 (pe_var rfl (Or.inl rfl))) (ja_cons je_int ja_nil)))) (jx_n (jn_e (je_fn c__law_row hr (by decide) (passes_call (takes_of rfl rfl rfl rfl) fun _ _ _ _ h => h) (ja_cons (je_var 1 (pe_var rfl (Or.inl rfl))) (ja_cons (je_fn c__law_prime hr (by decide) (passes_call (takes_of rfl rfl rfl rfl) fun _ _ _ _ h => h) (ja_cons (je_var 0 (pe_var rfl (Or.inl rfl))) (ja_cons (je_var 1 (pe_var rfl (Or.inl rfl))) (ja_cons je_int ja_nil)))) ja_nil)))) jx_nil))) (js_cons (js_if (jt_eq hr (jp_var 3 (pe_var rfl (Or.inl rfl))) (JE.jp je_int)) (js_one (js_ret (je_fn c__law_prime hr (by decide) (passes_call (takes_of rfl rfl rfl rfl) fun _ _ _ _ h => h) (ja_cons (je_var 0 (pe_var rfl (Or.inl rfl))) (ja_cons (je_var 1 (pe_var rfl (Or.inl rfl))) (ja_cons (je_sub (jp_var 2 (pe_var rfl (Or.inl rfl))) (JE.jp je_int)) ja_nil)))))) js_nil) (js_cons (js_set sc__law_modulus.nd rfl (Or.inl rfl) (jn_e (je_var 4 (pe_var rfl (Or.inl rfl))))) (js_cons (js_for (passes_of rfl) rfl (ji_rng1 (ja_cons (je_n (jn_add (JE.jp je_int) (JE.jp (je_fn c__law_take hr (by decide) (passes_call (takes_of rfl rfl rfl rfl) fun _ _ _ _ h => h) (ja_cons (je_var 0 (pe_var rfl (Or.inl rfl))) (ja_cons je_int ja_nil)))))) ja_nil) ft.f_range) (jg_name 6 sc__law_modulus.nd rfl (Or.inl rfl)) (js_cons (js_set sc__law_modulus.nd rfl (Or.inl rfl) (jn_if (jt_eq hr (jp_var 3 (pe_var rfl (Or.inl rfl))) (JE.jp je_int)) (jn_e (je_var 4 (pe_var rfl (Or.inl rfl)))) (jn_e (je_fn c__law_row hr (by decide) (passes_call (takes_of rfl rfl rfl rfl) fun _ _ _ _ h => h) (ja_cons (je_var 1 (pe_var rfl (Or.inl rfl))) (ja_cons (je_fn c__law_prime hr (by decide) (passes_call (takes_of rfl rfl rfl rfl) fun _ _ _ _ h => h) (ja_cons (je_var 0 (pe_var rfl (Or.inl rfl))) (ja_cons (je_var 1 (pe_var rfl (Or.inl rfl))) (ja_cons je_int ja_nil)))) ja_nil)))))) (js_cons (js_set sc__law_modulus.nd rfl (Or.inl rfl) (jn_e (je_fn c__law_times hr (by decide) (passes_call (takes_of rfl rfl rfl rfl) fun _ _ _ _ h => h) (ja_cons (je_var 1 (pe_var rfl (Or.inl rfl))) (ja_cons (je_var 5 (pe_var rfl (Or.inl rfl))) (ja_cons (je_var 7 (pe_var rfl (Or.inl rfl))) ja_nil)))))) (js_one (js_set sc__law_modulus.nd rfl (Or.inl rfl) (jn_if (jt_bool (jw_and (jt_le (JE.jp (je_len ft.f_len (jr_cons (jp_var 8 (pe_var rfl (Or.inl rfl))) jr_nil))) (jp_var 2 (pe_var rfl (Or.inl rfl)))) (jw_and1 (jt_lt (jp_var 3 (pe_var rfl (Or.inl rfl))) (JE.jp je_int))))) (jn_e (je_var 8 (pe_var rfl (Or.inl rfl)))) (jn_e (je_var 5 (pe_var rfl (Or.inl rfl)))))))))) (js_cons (js_if (jt_eq hr (jp_var 3 (pe_var rfl (Or.inl rfl))) (JE.jp je_int)) (js_one (js_set sc__law_modulus.nd rfl (Or.inl rfl) (jn_e (je_fn c__law_times hr (by decide) (passes_call (takes_of rfl rfl rfl rfl) fun _ _ _ _ h => h) (ja_cons (je_var 1 (pe_var rfl (Or.inl rfl))) (ja_cons (je_var 5 (pe_var rfl (Or.inl rfl))) (ja_cons (je_tup (ja_cons (je_n (jn_add (JE.jp je_int) (JE.jp (je_fn c__law_take hr (by decide) (passes_call (takes_of rfl rfl rfl rfl) fun _ _ _ _ h => h) (ja_cons (je_var 0 (pe_var rfl (Or.inl rfl))) (ja_cons (je_sub (jp_var 1 (pe_var rfl (Or.inl rfl))) (JE.jp je_int)) ja_nil)))))) ja_nil)) ja_nil))))))) js_nil) (js_one (js_ret (je_n (jn_if (jt_lt (jp_var 3 (pe_var rfl (Or.inl rfl))) (JE.jp je_int)) (jn_e (je_fn c__law_worth hr (by decide) (passes_call (takes_of rfl rfl rfl rfl) fun _ _ _ _ h => h) (ja_cons (je_var 1 (pe_var rfl (Or.inl rfl))) (ja_cons (je_var 5 (pe_var rfl (Or.inl rfl))) ja_nil)))) (jn_add (jp_var 1 (pe_var rfl (Or.inl rfl))) (JE.jp (je_fn c__law_take hr (by decide) (passes_call (takes_of rfl rfl rfl rfl) fun _ _ _ _ h => h) (ja_cons (je_var 0 (pe_var rfl (Or.inl rfl))) (ja_cons (je_sub (JE.jp (je_fn c__law_power hr (by decide) (passes_call (takes_of rfl rfl rfl rfl) fun _ _ _ _ h => h) (ja_cons (je_var 1 (pe_var rfl (Or.inl rfl))) (ja_cons (je_var 2 (pe_var rfl (Or.inl rfl))) ja_nil)))) (jp_var 1 (pe_var rfl (Or.inl rfl)))) ja_nil))))))))))))))
theorem sc__law_free : FnScope ["base", "row", "number"] ["base", "row"] (defScope (top 55)) := ⟨rfl, rfl, rfl, by decide +kernel, rfl, by decide +kernel, by decide +kernel⟩
theorem d__law_free (ft : Ft K mg) (c__law_power : Cal P w K mg base T 1 "_law_power" (defArgs (top 50)) ["number", "many"] s__law_power) (c__law_common : Cal P w K mg base T 3 "_law_common" (defArgs (top 49)) ["base", "one", "other"] s__law_common) (c__law_row : Cal P w K mg base T 1 "_law_row" (defArgs (top 43)) ["base", "number"] s__law_row) (f : Addr) (cdv : Value) (A : Around) (outer : List PySem.Env) (s : Shared) (H : Hp) (E : XK) (hr : Room 3 (A.deeper (envOfC "_law_free" (defScope (top 55)) s.heap.objs.size f cdv))) : JSs (cxOf (L2.CX P w) P w K mg base ["base", "row", "number"] "_law_free" (defScope (top 55)) f cdv A outer s H E) T E (defBody (top 55)) p__law_free :=
  (js_one (js_ret (je_len ft.f_len (jr_cons (JE.jp (JF.je (jf_comp (own := [("number", 2)]) rfl sc__law_free.nd (ji_rng1 (ja_cons (je_fn c__law_power hr (by decide) (passes_call (takes_of rfl rfl rfl rfl) fun _ _ _ _ h => h) (ja_cons (je_var 0 (pe_var rfl (Or.inr (Or.inl rfl)))) (ja_cons (je_sub (JE.jp (je_len ft.f_len (jr_cons (jp_var 1 (pe_var rfl (Or.inr (Or.inl rfl)))) jr_nil))) (JE.jp je_int)) ja_nil))) ja_nil) ft.f_range) (blkOk_of rfl rfl) (fun _ _ _ _ _ => (jg_name 2 sc__law_free.nd rfl (Or.inl rfl))) (fun _ _ _ _ _ => (jts_one (jt_eq hr (JE.jp (je_len ft.f_len (jr_cons (JE.jp (je_fn c__law_common hr (by decide) passL (ja_cons (je_var 0 (pe_var rfl (Or.inr (Or.inl rfl)))) (ja_cons (je_fn c__law_row hr (by decide) passL (ja_cons (je_var 0 (pe_var rfl (Or.inr (Or.inl rfl)))) (ja_cons (je_var 2 (pe_var rfl (Or.inl rfl))) ja_nil))) (ja_cons (je_var 1 (pe_var rfl (Or.inr (Or.inl rfl)))) ja_nil))))) jr_nil))) (JE.jp je_int)))) (fun _ _ _ _ _ => je_int)))) jr_nil))))
theorem sc__law_right : FnScope ["draw", "base", "number", "row", "due", "prime", "often", "size", "other", "whole", "bad", "odd", "errors"] ["draw"] (defScope (top 56)) := ⟨rfl, rfl, rfl, by decide +kernel, rfl, by decide +kernel, by decide +kernel⟩
theorem d__law_right (ft : Ft K mg) (c__law_base : Cal P w K mg base T 4 "_law_base" (defArgs (top 41)) ["draw"] s__law_base) (c__law_pick : Cal P w K mg base T 3 "_law_pick" (defArgs (top 36)) ["draw", "items"] s__law_pick) (c__law_modulus : Cal P w K mg base T 6 "_law_modulus" (defArgs (top 54)) ["draw", "base", "most"] s__law_modulus) (c__law_take : Cal P w K mg base T 2 "_law_take" (defArgs (top 35)) ["draw", "amount"] s__law_take) (c__law_row : Cal P w K mg base T 1 "_law_row" (defArgs (top 43)) ["base", "number"] s__law_row) (c__law_factors : Cal P w K mg base T 3 "_law_factors" (defArgs (top 51)) ["base", "row"] s__law_factors) (c__law_power : Cal P w K mg base T 1 "_law_power" (defArgs (top 50)) ["number", "many"] s__law_power) (c__law_says : Cal P w K mg base T 2 "_law_says" (defArgs (top 39)) ["told", "due"] s__law_says) (c_free_many : Cal P w K mg base T 5 "free_many" (defArgs (top 31)) ["base", "number"] s_free_many) (c__law_free : Cal P w K mg base T 4 "_law_free" (defArgs (top 55)) ["base", "row"] s__law_free) (c_product_of : Cal P w K mg base T 5 "product_of" (defArgs (top 24)) ["base", "one", "other"] s_product_of) (c__law_common : Cal P w K mg base T 3 "_law_common" (defArgs (top 49)) ["base", "one", "other"] s__law_common) (c__law_number : Cal P w K mg base T 4 "_law_number" (defArgs (top 40)) ["draw", "low", "high"] s__law_number) (c__law_no_base : Cal P w K mg base T 4 "_law_no_base" (defArgs (top 42)) ["draw"] s__law_no_base) (cg : CaughtOk K mg CF) (hfig : FigOk K mg CF figs) (hTB : LamX.TabB base mg c Pt) (hT : (Pt, ("_law_right" : Str) ++ ".<locals>." ++ "<lambda>") ∈ T) (hu : ∀ p ∈ T, p.1 = Pt → p.2 = ("_law_right" : Str) ++ ".<locals>." ++ "<lambda>") (f : Addr) (cdv : Value) (hcv : cdv = .ref c) (A : Around) (outer : List PySem.Env) (s : Shared) (H : Hp) (E : XK) (hr : Room 8 (A.deeper (envOfC "_law_right" (defScope (top 56)) s.heap.objs.size f cdv))) : JSs (cxOf (L2.CX P w) P w K mg base ["draw", "base", "number", "row", "due", "prime", "often", "size", "other", "whole", "bad", "odd", "errors"] "_law_right" (defScope (top 56)) f cdv A outer s H E) T E (defBody (top 56)) p__law_right :=
  (js_cons (js_set sc__law_right.nd rfl (Or.inr rfl) (jn_e (je_fn c__law_base hr (by decide) (passes_call (takes_of rfl rfl rfl rfl) fun _ _ _ _ h => h) (ja_cons (je_var 0 (pe_var rfl (Or.inl rfl))) ja_nil)))) (js_cons (js_set sc__law_right.nd rfl (Or.inl rfl) (jn_e (je_fn c__law_pick hr (by decide) (passes_call (takes_of rfl rfl rfl rfl) fun _ _ _ _ h => h) (ja_cons (je_var 0 (pe_var rfl (Or.inl rfl))) (ja_cons (JF.je (jf_lst (ja_cons (je_n (jn_add (JE.jp je_int) (JE.jp (je_fn c__law_take hr (by decide) (passes_call (takes_of rfl rfl rfl rfl) fun _ _ _ _ h => h) (ja_cons (je_var 0 (pe_var rfl (Or.inl rfl))) (ja_cons (je_var 1 (pe_var rfl (Or.inr (Or.inl rfl)))) ja_nil)))))) (ja_cons (je_fn c__law_modulus hr (by decide) (passes_call (takes_of rfl rfl rfl rfl) fun _ _ _ _ h => h) (ja_cons (je_var 0 (pe_var rfl (Or.inl rfl))) (ja_cons (je_var 1 (pe_var rfl (Or.inr (Or.inl rfl)))) (ja_cons je_int ja_nil)))) (ja_cons (je_fn c__law_modulus hr (by decide) (passes_call (takes_of rfl rfl rfl rfl) fun _ _ _ _ h => h) (ja_cons (je_var 0 (pe_var rfl (Or.inl rfl))) (ja_cons (je_var 1 (pe_var rfl (Or.inr (Or.inl rfl)))) (ja_cons (je_n (jn_if (jt_eq hr (jp_var 1 (pe_var rfl (Or.inr (Or.inl rfl)))) (JE.jp je_int)) (jn_e je_int) (jn_e je_int))) ja_nil)))) ja_nil))))) ja_nil))))) (js_cons (js_set sc__law_right.nd rfl (Or.inl rfl) (jn_e (je_fn c__law_row hr (by decide) (passes_call (takes_of rfl rfl rfl rfl) fun _ _ _ _ h => h) (ja_cons (je_var 1 (pe_var rfl (Or.inr (Or.inl rfl)))) (ja_cons (je_var 2 (pe_var rfl (Or.inl rfl))) ja_nil))))) (js_cons (js_set sc__law_right.nd rfl (Or.inl rfl) (jn_e je_int)) (js_cons (js_for (passes_of rfl) rfl (ji_seq (jq_val (je_fn c__law_factors hr (by decide) (passes_call (takes_of rfl rfl rfl rfl) fun _ _ _ _ h => h) (ja_cons (je_var 1 (pe_var rfl (Or.inr (Or.inl rfl)))) (ja_cons (je_var 3 (pe_var rfl (Or.inl rfl))) ja_nil))))) (jg_tup rfl (jgs_cons (jg_name 5 sc__law_right.nd rfl (Or.inl rfl)) (jgs_cons (jg_name 6 sc__law_right.nd rfl (Or.inl rfl)) jgs_nil))) (js_cons (js_set sc__law_right.nd rfl (Or.inl rfl) (jn_e (je_fn c__law_power hr (by decide) (passes_call (takes_of rfl rfl rfl rfl) fun _ _ _ _ h => h) (ja_cons (je_var 1 (pe_var rfl (Or.inr (Or.inl rfl)))) (ja_cons (je_sub (JE.jp (je_len ft.f_len (jr_cons (jp_var 5 (pe_var rfl (Or.inl rfl))) jr_nil))) (JE.jp je_int)) ja_nil))))) (js_one (js_set sc__law_right.nd rfl (Or.inl rfl) (jn_mul (JE.jp (je_n (jn_mul (jp_var 4 (pe_var rfl (Or.inl rfl))) (JE.jp (je_sub (jp_var 7 (pe_var rfl (Or.inl rfl))) (JE.jp je_int)))))) (JE.jp (je_fn c__law_power hr (by decide) (passes_call (takes_of rfl rfl rfl rfl) fun _ _ _ _ h => h) (ja_cons (je_var 7 (pe_var rfl (Or.inl rfl))) (ja_cons (je_sub (jp_var 6 (pe_var rfl (Or.inl rfl))) (JE.jp je_int)) ja_nil))))))))) (js_share 4 (js_cons (js_if (jt_bool (jw_or (jt_not (jt_val (je_fn c__law_says hr (by decide) (passes_call (takes_of rfl rfl rfl rfl) fun _ _ _ _ h => h) (ja_cons (JF.je (jf_lst (ja_cons (je_fn c_free_many hr (by decide) (passes_call (takes_of rfl rfl rfl rfl) fun _ _ _ _ h => h) (ja_cons (je_var 1 (pe_var rfl (Or.inr (Or.inl rfl)))) (ja_cons (je_var 2 (pe_var rfl (Or.inl rfl))) ja_nil))) (ja_cons (je_fnK c_free_many hr (by decide) (passes_call (takes_of rfl rfl rfl rfl) fun _ _ _ _ h => h) (kf_free_many_10) (jk_cons (je_var 2 (pe_var rfl (Or.inl rfl))) (jk_cons (je_var 1 (pe_var rfl (Or.inr (Or.inl rfl)))) jk_nil))) ja_nil)))) (ja_cons (JF.je (jf_lst (ja_cons (je_var 4 (pe_var rfl (Or.inl rfl))) (ja_cons (je_var 4 (pe_var rfl (Or.inl rfl))) ja_nil)))) ja_nil))))) (jw_or1 (jt_bool (jw_and (jt_lt (JE.jp (je_fn c__law_power hr (by decide) (passes_call (takes_of rfl rfl rfl rfl) fun _ _ _ _ h => h) (ja_cons (je_var 1 (pe_var rfl (Or.inr (Or.inl rfl)))) (ja_cons (je_sub (JE.jp (je_len ft.f_len (jr_cons (jp_var 3 (pe_var rfl (Or.inl rfl))) jr_nil))) (JE.jp je_int)) ja_nil)))) (JE.jp je_int)) (jw_and1 (jt_ne hr (jp_var 4 (pe_var rfl (Or.inl rfl))) (JE.jp (je_fn c__law_free hr (by decide) (passes_call (takes_of rfl rfl rfl rfl) fun _ _ _ _ h => h) (ja_cons (je_var 1 (pe_var rfl (Or.inr (Or.inl rfl)))) (ja_cons (je_var 3 (pe_var rfl (Or.inl rfl))) ja_nil))))))))))) (js_one (js_ret je_bl)) js_nil) (js_cons (js_set sc__law_right.nd rfl (Or.inl rfl) (jn_add (JE.jp je_int) (JE.jp (je_fn c__law_take hr (by decide) (passes_call (takes_of rfl rfl rfl rfl) fun _ _ _ _ h => h) (ja_cons (je_var 0 (pe_var rfl (Or.inl rfl))) (ja_cons je_int ja_nil)))))) (js_share 8 (js_cons (js_set sc__law_right.nd rfl (Or.inl rfl) (jn_e (je_fn c_product_of hr (by decide) (passes_call (takes_of rfl rfl rfl rfl) fun _ _ _ _ h => h) (ja_cons (je_var 1 (pe_var rfl (Or.inr (Or.inl rfl)))) (ja_cons (je_var 2 (pe_var rfl (Or.inl rfl))) (ja_cons (je_var 8 (pe_var rfl (Or.inl rfl))) ja_nil)))))) (js_share 8 (js_cons (js_if (jt_bool (jw_and (jt_le (jp_var 9 (pe_var rfl (Or.inl rfl))) (JE.jp (je_pow (JE.jp je_int) (JE.jp je_int)))) (jw_and (jt_eq hr (JE.jp (je_len ft.f_len (jr_cons (JE.jp (je_fn c__law_common hr (by decide) (passes_call (takes_of rfl rfl rfl rfl) fun _ _ _ _ h => h) (ja_cons (je_var 1 (pe_var rfl (Or.inr (Or.inl rfl)))) (ja_cons (je_var 3 (pe_var rfl (Or.inl rfl))) (ja_cons (je_fn c__law_row hr (by decide) (passes_call (takes_of rfl rfl rfl rfl) fun _ _ _ _ h => h) (ja_cons (je_var 1 (pe_var rfl (Or.inr (Or.inl rfl)))) (ja_cons (je_var 8 (pe_var rfl (Or.inl rfl))) ja_nil))) ja_nil))))) jr_nil))) (JE.jp je_int)) (jw_and1 (jt_ne hr (JE.jp (je_fn c_free_many hr (by decide) (passes_call (takes_of rfl rfl rfl rfl) fun _ _ _ _ h => h) (ja_cons (je_var 1 (pe_var rfl (Or.inr (Or.inl rfl)))) (ja_cons (je_var 9 (pe_var rfl (Or.inl rfl))) ja_nil)))) (JE.jp (je_n (jn_mul (jp_var 4 (pe_var rfl (Or.inl rfl))) (JE.jp (je_fn c_free_many hr (by decide) (passes_call (takes_of rfl rfl rfl rfl) fun _ _ _ _ h => h) (ja_cons (je_var 1 (pe_var rfl (Or.inr (Or.inl rfl)))) (ja_cons (je_var 8 (pe_var rfl (Or.inl rfl))) ja_nil)))))))))))) (js_one (js_ret je_bl)) js_nil) (js_cons (js_parT rfl (jns_cons sc__law_right.nd rfl (Or.inr rfl) (jns_cons sc__law_right.nd rfl (Or.inr rfl) jns_nil)) (jx_n (jn_e (je_fn c__law_no_base hr (by decide) (passes_call (takes_of rfl rfl rfl rfl) fun _ _ _ _ h => h) (ja_cons (je_var 0 (pe_var rfl (Or.inl rfl))) ja_nil))) (jx_n (jn_e (je_fn c__law_pick hr (by decide) (passes_call (takes_of rfl rfl rfl rfl) fun _ _ _ _ h => h) (ja_cons (je_var 0 (pe_var rfl (Or.inl rfl))) (ja_cons (JF.je (jf_lst (ja_cons (je_fn c__law_number hr (by decide) (passes_call (takes_of rfl rfl rfl rfl) fun _ _ _ _ h => h) (ja_cons (je_var 0 (pe_var rfl (Or.inl rfl))) (ja_cons je_int (ja_cons (je_pow (JE.jp je_int) (JE.jp je_int)) ja_nil)))) (ja_cons je_int ja_nil)))) ja_nil)))) jx_nil))) (js_cons (js_set sc__law_right.nd rfl (Or.inl rfl) (jn_f (jf_lst (ja_cons (je_isCls ft.f_isinstance ft.x_BadBase (je_caught (k := 6) cg hfig hTB hcv hT hu hr (by decide) (LamX.lamS_by rfl) (fun _ _ _ _ _ _ _ hr => (je_fn c_free_many hr (by decide) (passes_call (takes_of rfl rfl rfl rfl) fun _ _ _ _ h => h) (ja_cons (je_var 10 (pe_var rfl (Or.inr (Or.inr rfl)))) (ja_cons je_non ja_nil)))))) ja_nil)))) (js_cons (js_app (pe_var rfl (Or.inl rfl)) (je_isCls ft.f_isinstance ft.x_BadNumber (je_caught (k := 6) cg hfig hTB hcv hT hu hr (by decide) (LamX.lamS_by rfl) (fun _ _ _ _ _ _ _ hr => (je_fn c_free_many hr (by decide) (passes_call (takes_of rfl rfl rfl rfl) fun _ _ _ _ h => h) (ja_cons (je_var 1 (pe_var rfl (Or.inr (Or.inr rfl)))) (ja_cons (je_var 11 (pe_var rfl (Or.inr (Or.inr rfl)))) ja_nil))))))) (js_one (js_ret (je_eq hr (jp_var 12 (pe_var rfl (Or.inl rfl))) (JE.jp (JF.je (jf_lst (ja_cons je_bl (ja_cons je_bl ja_nil)))))))))))))))))))))))
theorem ok_is_whole (ft : Ft K mg) (F : ∃ fd, FunD K "is_whole" "is_whole" (defArgs (top 12)) (defBody (top 12)) (defScope (top 12)) [] [] (He.ga K "is_whole") fd) (gm : mg "is_whole" = some (.ref (He.ga K "is_whole")))  : Cal P w K mg base T 1 "is_whole" (defArgs (top 12)) ["thing"] s_is_whole := by
  obtain ⟨fd, F⟩ := F
  exact ⟨_, fd, _, _, F, gm, F.bindsN fun _ _ _ _ _ _ us hl => match us, hl with | [_], _ => rfl, fun_ok F sc_is_whole v_is_whole fun cdv A outer s H E hr => d_is_whole ft  _ cdv A outer s H E hr⟩
theorem ok_is_within (ft : Ft K mg) (F : ∃ fd, FunD K "is_within" "is_within" (defArgs (top 13)) (defBody (top 13)) (defScope (top 13)) [] [] (He.ga K "is_within") fd) (gm : mg "is_within" = some (.ref (He.ga K "is_within"))) (c_is_whole : Cal P w K mg base T 1 "is_whole" (defArgs (top 12)) ["thing"] s_is_whole) : Cal P w K mg base T 2 "is_within" (defArgs (top 13)) ["thing", "low", "high"] s_is_within := by
  obtain ⟨fd, F⟩ := F
  exact ⟨_, fd, _, _, F, gm, F.bindsN fun _ _ _ _ _ _ us hl => match us, hl with | [_, _, _], _ => rfl, fun_ok F sc_is_within v_is_within fun cdv A outer s H E hr => d_is_within ft c_is_whole _ cdv A outer s H E hr⟩
theorem ok_need_base (ft : Ft K mg) (F : ∃ fd, FunD K "need_base" "need_base" (defArgs (top 14)) (defBody (top 14)) (defScope (top 14)) [] [] (He.ga K "need_base") fd) (gm : mg "need_base" = some (.ref (He.ga K "need_base"))) (c_is_whole : Cal P w K mg base T 1 "is_whole" (defArgs (top 12)) ["thing"] s_is_whole) : Cal P w K mg base T 2 "need_base" (defArgs (top 14)) ["base"] s_need_base := by
  obtain ⟨fd, F⟩ := F
  exact ⟨_, fd, _, _, F, gm, F.bindsN fun _ _ _ _ _ _ us hl => match us, hl with | [_], _ => rfl, fun_ok F sc_need_base v_need_base fun cdv A outer s H E hr => d_need_base ft c_is_whole _ cdv A outer s H E hr⟩
theorem ok_need_as (ft : Ft K mg) (F : ∃ fd, FunD K "need_as" "need_as" (defArgs (top 15)) (defBody (top 15)) (defScope (top 15)) [] [] (He.ga K "need_as") fd) (gm : mg "need_as" = some (.ref (He.ga K "need_as"))) (c_is_within : Cal P w K mg base T 2 "is_within" (defArgs (top 13)) ["thing", "low", "high"] s_is_within) : Cal P w K mg base T 3 "need_as" (defArgs (top 15)) ["thing", "which", "low"] s_need_as := by
  obtain ⟨fd, F⟩ := F
  exact ⟨_, fd, _, _, F, gm, F.bindsN fun _ _ _ _ _ _ us hl => match us, hl with | [_, _, _], _ => rfl, fun_ok F sc_need_as v_need_as fun cdv A outer s H E hr => d_need_as ft c_is_within _ cdv A outer s H E hr⟩
theorem ok_trimmed (ft : Ft K mg) (F : ∃ fd, FunD K "trimmed" "trimmed" (defArgs (top 16)) (defBody (top 16)) (defScope (top 16)) [] [] (He.ga K "trimmed") fd) (gm : mg "trimmed" = some (.ref (He.ga K "trimmed")))  : Cal P w K mg base T 1 "trimmed" (defArgs (top 16)) ["row"] s_trimmed := by
  obtain ⟨fd, F⟩ := F
  exact ⟨_, fd, _, _, F, gm, F.bindsN fun _ _ _ _ _ _ us hl => match us, hl with | [_], _ => rfl, fun_ok F sc_trimmed v_trimmed fun cdv A outer s H E hr => d_trimmed ft  _ cdv A outer s H E hr⟩
theorem ok_row_of (ft : Ft K mg) (F : ∃ fd, FunD K "row_of" "row_of" (defArgs (top 17)) (defBody (top 17)) (defScope (top 17)) [] [] (He.ga K "row_of") fd) (gm : mg "row_of" = some (.ref (He.ga K "row_of")))  : Cal P w K mg base T 1 "row_of" (defArgs (top 17)) ["base", "number"] s_row_of := by
  obtain ⟨fd, F⟩ := F
  exact ⟨_, fd, _, _, F, gm, F.bindsN fun _ _ _ _ _ _ us hl => match us, hl with | [_, _], _ => rfl, fun_ok F sc_row_of v_row_of fun cdv A outer s H E hr => d_row_of ft  _ cdv A outer s H E hr⟩
theorem ok_number_by (ft : Ft K mg) (F : ∃ fd, FunD K "number_by" "number_by" (defArgs (top 18)) (defBody (top 18)) (defScope (top 18)) [] [] (He.ga K "number_by") fd) (gm : mg "number_by" = some (.ref (He.ga K "number_by")))  : Cal P w K mg base T 1 "number_by" (defArgs (top 18)) ["base", "row"] s_number_by := by
  obtain ⟨fd, F⟩ := F
  exact ⟨_, fd, _, _, F, gm, F.bindsN fun _ _ _ _ _ _ us hl => match us, hl with | [_, _], _ => rfl, fun_ok F sc_number_by v_number_by fun cdv A outer s H E hr => d_number_by ft  _ cdv A outer s H E hr⟩
theorem ok_plain_row (ft : Ft K mg) (F : ∃ fd, FunD K "plain_row" "plain_row" (defArgs (top 19)) (defBody (top 19)) (defScope (top 19)) [] [] (He.ga K "plain_row") fd) (gm : mg "plain_row" = some (.ref (He.ga K "plain_row")))  : Cal P w K mg base T 1 "plain_row" (defArgs (top 19)) ["base", "row"] s_plain_row := by
  obtain ⟨fd, F⟩ := F
  exact ⟨_, fd, _, _, F, gm, F.bindsN fun _ _ _ _ _ _ us hl => match us, hl with | [_, _], _ => rfl, fun_ok F sc_plain_row v_plain_row fun cdv A outer s H E hr => d_plain_row ft  _ cdv A outer s H E hr⟩
theorem ok_times_rows (ft : Ft K mg) (F : ∃ fd, FunD K "times_rows" "times_rows" (defArgs (top 21)) (defBody (top 21)) (defScope (top 21)) [] [] (He.ga K "times_rows") fd) (gm : mg "times_rows" = some (.ref (He.ga K "times_rows"))) (c_trimmed : Cal P w K mg base T 1 "trimmed" (defArgs (top 16)) ["row"] s_trimmed) : Cal P w K mg base T 2 "times_rows" (defArgs (top 21)) ["base", "one", "other"] s_times_rows := by
  obtain ⟨fd, F⟩ := F
  exact ⟨_, fd, _, _, F, gm, F.bindsN fun _ _ _ _ _ _ us hl => match us, hl with | [_, _, _], _ => rfl, fun_ok F sc_times_rows v_times_rows fun cdv A outer s H E hr => d_times_rows ft c_trimmed _ cdv A outer s H E hr⟩
theorem ok_divided_rows (ft : Ft K mg) (F : ∃ fd, FunD K "divided_rows" "divided_rows" (defArgs (top 22)) (defBody (top 22)) (defScope (top 22)) [] [] (He.ga K "divided_rows") fd) (gm : mg "divided_rows" = some (.ref (He.ga K "divided_rows"))) (c_trimmed : Cal P w K mg base T 1 "trimmed" (defArgs (top 16)) ["row"] s_trimmed) : Cal P w K mg base T 2 "divided_rows" (defArgs (top 22)) ["base", "one", "other"] s_divided_rows := by
  obtain ⟨fd, F⟩ := F
  exact ⟨_, fd, _, _, F, gm, F.bindsN fun _ _ _ _ _ _ us hl => match us, hl with | [_, _, _], _ => rfl, fun_ok F sc_divided_rows v_divided_rows fun cdv A outer s H E hr => d_divided_rows ft c_trimmed _ cdv A outer s H E hr⟩
theorem ok_need_two (ft : Ft K mg) (F : ∃ fd, FunD K "need_two" "need_two" (defArgs (top 23)) (defBody (top 23)) (defScope (top 23)) [] [] (He.ga K "need_two") fd) (gm : mg "need_two" = some (.ref (He.ga K "need_two"))) (c_need_base : Cal P w K mg base T 2 "need_base" (defArgs (top 14)) ["base"] s_need_base) (c_need_as : Cal P w K mg base T 3 "need_as" (defArgs (top 15)) ["thing", "which", "low"] s_need_as) : Cal P w K mg base T 4 "need_two" (defArgs (top 23)) ["base", "one", "other"] s_need_two := by
  obtain ⟨fd, F⟩ := F
  exact ⟨_, fd, _, _, F, gm, F.bindsN fun _ _ _ _ _ _ us hl => match us, hl with | [_, _, _], _ => rfl, fun_ok F sc_need_two v_need_two fun cdv A outer s H E hr => d_need_two ft c_need_base c_need_as _ cdv A outer s H E hr⟩
theorem ok_product_of (ft : Ft K mg) (F : ∃ fd, FunD K "product_of" "product_of" (defArgs (top 24)) (defBody (top 24)) (defScope (top 24)) [] [] (He.ga K "product_of") fd) (gm : mg "product_of" = some (.ref (He.ga K "product_of"))) (c_need_two : Cal P w K mg base T 4 "need_two" (defArgs (top 23)) ["base", "one", "other"] s_need_two) (c_number_by : Cal P w K mg base T 1 "number_by" (defArgs (top 18)) ["base", "row"] s_number_by) (c_times_rows : Cal P w K mg base T 2 "times_rows" (defArgs (top 21)) ["base", "one", "other"] s_times_rows) (c_row_of : Cal P w K mg base T 1 "row_of" (defArgs (top 17)) ["base", "number"] s_row_of) : Cal P w K mg base T 5 "product_of" (defArgs (top 24)) ["base", "one", "other"] s_product_of := by
  obtain ⟨fd, F⟩ := F
  exact ⟨_, fd, _, _, F, gm, F.bindsN fun _ _ _ _ _ _ us hl => match us, hl with | [_, _, _], _ => rfl, fun_ok F sc_product_of v_product_of fun cdv A outer s H E hr => d_product_of ft c_need_two c_number_by c_times_rows c_row_of _ cdv A outer s H E hr⟩
theorem ok_powered (ft : Ft K mg) (F : ∃ fd, FunD K "powered" "powered" (defArgs (top 26)) (defBody (top 26)) (defScope (top 26)) [] [] (He.ga K "powered") fd) (gm : mg "powered" = some (.ref (He.ga K "powered")))  : Cal P w K mg base T 1 "powered" (defArgs (top 26)) ["number", "times"] s_powered := by
  obtain ⟨fd, F⟩ := F
  exact ⟨_, fd, _, _, F, gm, F.bindsN fun _ _ _ _ _ _ us hl => match us, hl with | [_, _], _ => rfl, fun_ok F sc_powered v_powered fun cdv A outer s H E hr => d_powered ft  _ cdv A outer s H E hr⟩
theorem ok_plain_rows (ft : Ft K mg) (F : ∃ fd, FunD K "plain_rows" "plain_rows" (defArgs (top 27)) (defBody (top 27)) (defScope (top 27)) [] [] (He.ga K "plain_rows") fd) (gm : mg "plain_rows" = some (.ref (He.ga K "plain_rows"))) (c_powered : Cal P w K mg base T 1 "powered" (defArgs (top 26)) ["number", "times"] s_powered) (c_row_of : Cal P w K mg base T 1 "row_of" (defArgs (top 17)) ["base", "number"] s_row_of) : Cal P w K mg base T 2 "plain_rows" (defArgs (top 27)) ["base", "size"] s_plain_rows := by
  obtain ⟨fd, F⟩ := F
  exact ⟨_, fd, _, _, F, gm, F.bindsN fun _ _ _ _ _ _ us hl => match us, hl with | [_, _], _ => rfl, fun_ok F sc_plain_rows v_plain_rows fun cdv A outer s H E hr => d_plain_rows ft c_powered c_row_of _ cdv A outer s H E hr⟩
theorem ok_factors_by (ft : Ft K mg) (F : ∃ fd, FunD K "factors_by" "factors_by" (defArgs (top 29)) (defBody (top 29)) (defScope (top 29)) [] [] (He.ga K "factors_by") fd) (gm : mg "factors_by" = some (.ref (He.ga K "factors_by"))) (c_plain_row : Cal P w K mg base T 1 "plain_row" (defArgs (top 19)) ["base", "row"] s_plain_row) (c_plain_rows : Cal P w K mg base T 2 "plain_rows" (defArgs (top 27)) ["base", "size"] s_plain_rows) (c_divided_rows : Cal P w K mg base T 2 "divided_rows" (defArgs (top 22)) ["base", "one", "other"] s_divided_rows) : Cal P w K mg base T 3 "factors_by" (defArgs (top 29)) ["base", "row"] s_factors_by := by
  obtain ⟨fd, F⟩ := F
  exact ⟨_, fd, _, _, F, gm, F.bindsN fun _ _ _ _ _ _ us hl => match us, hl with | [_, _], _ => rfl, fun_ok F sc_factors_by v_factors_by fun cdv A outer s H E hr => d_factors_by ft c_plain_row c_plain_rows c_divided_rows _ cdv A outer s H E hr⟩
theorem ok_free_by (ft : Ft K mg) (F : ∃ fd, FunD K "free_by" "free_by" (defArgs (top 30)) (defBody (top 30)) (defScope (top 30)) [] [] (He.ga K "free_by") fd) (gm : mg "free_by" = some (.ref (He.ga K "free_by"))) (c_factors_by : Cal P w K mg base T 3 "factors_by" (defArgs (top 29)) ["base", "row"] s_factors_by) (c_powered : Cal P w K mg base T 1 "powered" (defArgs (top 26)) ["number", "times"] s_powered) : Cal P w K mg base T 4 "free_by" (defArgs (top 30)) ["base", "row"] s_free_by := by
  obtain ⟨fd, F⟩ := F
  exact ⟨_, fd, _, _, F, gm, F.bindsN fun _ _ _ _ _ _ us hl => match us, hl with | [_, _], _ => rfl, fun_ok F sc_free_by v_free_by fun cdv A outer s H E hr => d_free_by ft c_factors_by c_powered _ cdv A outer s H E hr⟩
theorem ok_free_many (ft : Ft K mg) (F : ∃ fd, FunD K "free_many" "free_many" (defArgs (top 31)) (defBody (top 31)) (defScope (top 31)) [] [] (He.ga K "free_many") fd) (gm : mg "free_many" = some (.ref (He.ga K "free_many"))) (c_need_base : Cal P w K mg base T 2 "need_base" (defArgs (top 14)) ["base"] s_need_base) (c_need_as : Cal P w K mg base T 3 "need_as" (defArgs (top 15)) ["thing", "which", "low"] s_need_as) (c_free_by : Cal P w K mg base T 4 "free_by" (defArgs (top 30)) ["base", "row"] s_free_by) (c_row_of : Cal P w K mg base T 1 "row_of" (defArgs (top 17)) ["base", "number"] s_row_of) : Cal P w K mg base T 5 "free_many" (defArgs (top 31)) ["base", "number"] s_free_many := by
  obtain ⟨fd, F⟩ := F
  exact ⟨_, fd, _, _, F, gm, F.bindsN fun _ _ _ _ _ _ us hl => match us, hl with | [_, _], _ => rfl, fun_ok F sc_free_many v_free_many fun cdv A outer s H E hr => d_free_many ft c_need_base c_need_as c_free_by c_row_of _ cdv A outer s H E hr⟩
theorem ok__law_mixed (ft : Ft K mg) (F : ∃ fd, FunD K "_law_mixed" "_law_mixed" (defArgs (top 34)) (defBody (top 34)) (defScope (top 34)) [] [] (He.ga K "_law_mixed") fd) (gm : mg "_law_mixed" = some (.ref (He.ga K "_law_mixed")))  : Cal P w K mg base T 1 "_law_mixed" (defArgs (top 34)) ["draw"] s__law_mixed := by
  obtain ⟨fd, F⟩ := F
  exact ⟨_, fd, _, _, F, gm, F.bindsN fun _ _ _ _ _ _ us hl => match us, hl with | [_], _ => rfl, fun_ok F sc__law_mixed v__law_mixed fun cdv A outer s H E hr => d__law_mixed ft  _ cdv A outer s H E hr⟩
theorem ok__law_take (ft : Ft K mg) (F : ∃ fd, FunD K "_law_take" "_law_take" (defArgs (top 35)) (defBody (top 35)) (defScope (top 35)) [] [] (He.ga K "_law_take") fd) (gm : mg "_law_take" = some (.ref (He.ga K "_law_take"))) (c__law_mixed : Cal P w K mg base T 1 "_law_mixed" (defArgs (top 34)) ["draw"] s__law_mixed) : Cal P w K mg base T 2 "_law_take" (defArgs (top 35)) ["draw", "amount"] s__law_take := by
  obtain ⟨fd, F⟩ := F
  exact ⟨_, fd, _, _, F, gm, F.bindsN fun _ _ _ _ _ _ us hl => match us, hl with | [_, _], _ => rfl, fun_ok F sc__law_take v__law_take fun cdv A outer s H E hr => d__law_take ft c__law_mixed _ cdv A outer s H E hr⟩
theorem ok__law_pick (ft : Ft K mg) (F : ∃ fd, FunD K "_law_pick" "_law_pick" (defArgs (top 36)) (defBody (top 36)) (defScope (top 36)) [] [] (He.ga K "_law_pick") fd) (gm : mg "_law_pick" = some (.ref (He.ga K "_law_pick"))) (c__law_take : Cal P w K mg base T 2 "_law_take" (defArgs (top 35)) ["draw", "amount"] s__law_take) : Cal P w K mg base T 3 "_law_pick" (defArgs (top 36)) ["draw", "items"] s__law_pick := by
  obtain ⟨fd, F⟩ := F
  exact ⟨_, fd, _, _, F, gm, F.bindsN fun _ _ _ _ _ _ us hl => match us, hl with | [_, _], _ => rfl, fun_ok F sc__law_pick v__law_pick fun cdv A outer s H E hr => d__law_pick ft c__law_take _ cdv A outer s H E hr⟩
theorem ok__law_kinds (ft : Ft K mg) (F : ∃ fd, FunD K "_law_kinds" "_law_kinds" (defArgs (top 38)) (defBody (top 38)) (defScope (top 38)) [] [] (He.ga K "_law_kinds") fd) (gm : mg "_law_kinds" = some (.ref (He.ga K "_law_kinds")))  : Cal P w K mg base T 1 "_law_kinds" (defArgs (top 38)) ["thing"] s__law_kinds := by
  obtain ⟨fd, F⟩ := F
  exact ⟨_, fd, _, _, F, gm, F.bindsN fun _ _ _ _ _ _ us hl => match us, hl with | [_], _ => rfl, fun_ok F sc__law_kinds v__law_kinds fun cdv A outer s H E hr => d__law_kinds ft  _ cdv A outer s H E hr⟩
theorem ok__law_says (ft : Ft K mg) (F : ∃ fd, FunD K "_law_says" "_law_says" (defArgs (top 39)) (defBody (top 39)) (defScope (top 39)) [] [] (He.ga K "_law_says") fd) (gm : mg "_law_says" = some (.ref (He.ga K "_law_says"))) (c__law_kinds : Cal P w K mg base T 1 "_law_kinds" (defArgs (top 38)) ["thing"] s__law_kinds) : Cal P w K mg base T 2 "_law_says" (defArgs (top 39)) ["told", "due"] s__law_says := by
  obtain ⟨fd, F⟩ := F
  exact ⟨_, fd, _, _, F, gm, F.bindsN fun _ _ _ _ _ _ us hl => match us, hl with | [_, _], _ => rfl, fun_ok F sc__law_says v__law_says fun cdv A outer s H E hr => d__law_says ft c__law_kinds _ cdv A outer s H E hr⟩
theorem ok__law_number (ft : Ft K mg) (F : ∃ fd, FunD K "_law_number" "_law_number" (defArgs (top 40)) (defBody (top 40)) (defScope (top 40)) [] [] (He.ga K "_law_number") fd) (gm : mg "_law_number" = some (.ref (He.ga K "_law_number"))) (c__law_pick : Cal P w K mg base T 3 "_law_pick" (defArgs (top 36)) ["draw", "items"] s__law_pick) : Cal P w K mg base T 4 "_law_number" (defArgs (top 40)) ["draw", "low", "high"] s__law_number := by
  obtain ⟨fd, F⟩ := F
  exact ⟨_, fd, _, _, F, gm, F.bindsN fun _ _ _ _ _ _ us hl => match us, hl with | [_, _, _], _ => rfl, fun_ok F sc__law_number v__law_number fun cdv A outer s H E hr => d__law_number ft c__law_pick _ cdv A outer s H E hr⟩
theorem ok__law_base (ft : Ft K mg) (F : ∃ fd, FunD K "_law_base" "_law_base" (defArgs (top 41)) (defBody (top 41)) (defScope (top 41)) [] [] (He.ga K "_law_base") fd) (gm : mg "_law_base" = some (.ref (He.ga K "_law_base"))) (c__law_pick : Cal P w K mg base T 3 "_law_pick" (defArgs (top 36)) ["draw", "items"] s__law_pick) : Cal P w K mg base T 4 "_law_base" (defArgs (top 41)) ["draw"] s__law_base := by
  obtain ⟨fd, F⟩ := F
  exact ⟨_, fd, _, _, F, gm, F.bindsN fun _ _ _ _ _ _ us hl => match us, hl with | [_], _ => rfl, fun_ok F sc__law_base v__law_base fun cdv A outer s H E hr => d__law_base ft c__law_pick _ cdv A outer s H E hr⟩
theorem ok__law_no_base (ft : Ft K mg) (F : ∃ fd, FunD K "_law_no_base" "_law_no_base" (defArgs (top 42)) (defBody (top 42)) (defScope (top 42)) [] [] (He.ga K "_law_no_base") fd) (gm : mg "_law_no_base" = some (.ref (He.ga K "_law_no_base"))) (c__law_pick : Cal P w K mg base T 3 "_law_pick" (defArgs (top 36)) ["draw", "items"] s__law_pick) : Cal P w K mg base T 4 "_law_no_base" (defArgs (top 42)) ["draw"] s__law_no_base := by
  obtain ⟨fd, F⟩ := F
  exact ⟨_, fd, _, _, F, gm, F.bindsN fun _ _ _ _ _ _ us hl => match us, hl with | [_], _ => rfl, fun_ok F sc__law_no_base v__law_no_base fun cdv A outer s H E hr => d__law_no_base ft c__law_pick _ cdv A outer s H E hr⟩
theorem ok__law_row (ft : Ft K mg) (F : ∃ fd, FunD K "_law_row" "_law_row" (defArgs (top 43)) (defBody (top 43)) (defScope (top 43)) [] [] (He.ga K "_law_row") fd) (gm : mg "_law_row" = some (.ref (He.ga K "_law_row")))  : Cal P w K mg base T 1 "_law_row" (defArgs (top 43)) ["base", "number"] s__law_row := by
  obtain ⟨fd, F⟩ := F
  exact ⟨_, fd, _, _, F, gm, F.bindsN fun _ _ _ _ _ _ us hl => match us, hl with | [_, _], _ => rfl, fun_ok F sc__law_row v__law_row fun cdv A outer s H E hr => d__law_row ft  _ cdv A outer s H E hr⟩
theorem ok__law_worth (ft : Ft K mg) (F : ∃ fd, FunD K "_law_worth" "_law_worth" (defArgs (top 44)) (defBody (top 44)) (defScope (top 44)) [] [] (He.ga K "_law_worth") fd) (gm : mg "_law_worth" = some (.ref (He.ga K "_law_worth")))  : Cal P w K mg base T 1 "_law_worth" (defArgs (top 44)) ["base", "row"] s__law_worth := by
  obtain ⟨fd, F⟩ := F
  exact ⟨_, fd, _, _, F, gm, F.bindsN fun _ _ _ _ _ _ us hl => match us, hl with | [_, _], _ => rfl, fun_ok F sc__law_worth v__law_worth fun cdv A outer s H E hr => d__law_worth ft  _ cdv A outer s H E hr⟩
theorem ok__law_cut (ft : Ft K mg) (F : ∃ fd, FunD K "_law_cut" "_law_cut" (defArgs (top 45)) (defBody (top 45)) (defScope (top 45)) [] [] (He.ga K "_law_cut") fd) (gm : mg "_law_cut" = some (.ref (He.ga K "_law_cut")))  : Cal P w K mg base T 1 "_law_cut" (defArgs (top 45)) ["row"] s__law_cut := by
  obtain ⟨fd, F⟩ := F
  exact ⟨_, fd, _, _, F, gm, F.bindsN fun _ _ _ _ _ _ us hl => match us, hl with | [_], _ => rfl, fun_ok F sc__law_cut v__law_cut fun cdv A outer s H E hr => d__law_cut ft  _ cdv A outer s H E hr⟩
theorem ok__law_times (ft : Ft K mg) (F : ∃ fd, FunD K "_law_times" "_law_times" (defArgs (top 46)) (defBody (top 46)) (defScope (top 46)) [] [] (He.ga K "_law_times") fd) (gm : mg "_law_times" = some (.ref (He.ga K "_law_times"))) (c__law_cut : Cal P w K mg base T 1 "_law_cut" (defArgs (top 45)) ["row"] s__law_cut) : Cal P w K mg base T 2 "_law_times" (defArgs (top 46)) ["base", "one", "other"] s__law_times := by
  obtain ⟨fd, F⟩ := F
  exact ⟨_, fd, _, _, F, gm, F.bindsN fun _ _ _ _ _ _ us hl => match us, hl with | [_, _, _], _ => rfl, fun_ok F sc__law_times v__law_times fun cdv A outer s H E hr => d__law_times ft c__law_cut _ cdv A outer s H E hr⟩
theorem ok__law_divided (ft : Ft K mg) (F : ∃ fd, FunD K "_law_divided" "_law_divided" (defArgs (top 47)) (defBody (top 47)) (defScope (top 47)) [] [] (He.ga K "_law_divided") fd) (gm : mg "_law_divided" = some (.ref (He.ga K "_law_divided"))) (c__law_cut : Cal P w K mg base T 1 "_law_cut" (defArgs (top 45)) ["row"] s__law_cut) : Cal P w K mg base T 2 "_law_divided" (defArgs (top 47)) ["base", "one", "other"] s__law_divided := by
  obtain ⟨fd, F⟩ := F
  exact ⟨_, fd, _, _, F, gm, F.bindsN fun _ _ _ _ _ _ us hl => match us, hl with | [_, _, _], _ => rfl, fun_ok F sc__law_divided v__law_divided fun cdv A outer s H E hr => d__law_divided ft c__law_cut _ cdv A outer s H E hr⟩
theorem ok__law_plain (ft : Ft K mg) (F : ∃ fd, FunD K "_law_plain" "_law_plain" (defArgs (top 48)) (defBody (top 48)) (defScope (top 48)) [] [] (He.ga K "_law_plain") fd) (gm : mg "_law_plain" = some (.ref (He.ga K "_law_plain")))  : Cal P w K mg base T 1 "_law_plain" (defArgs (top 48)) ["base", "row"] s__law_plain := by
  obtain ⟨fd, F⟩ := F
  exact ⟨_, fd, _, _, F, gm, F.bindsN fun _ _ _ _ _ _ us hl => match us, hl with | [_, _], _ => rfl, fun_ok F sc__law_plain v__law_plain fun cdv A outer s H E hr => d__law_plain ft  _ cdv A outer s H E hr⟩
theorem ok__law_common (ft : Ft K mg) (F : ∃ fd, FunD K "_law_common" "_law_common" (defArgs (top 49)) (defBody (top 49)) (defScope (top 49)) [] [] (He.ga K "_law_common") fd) (gm : mg "_law_common" = some (.ref (He.ga K "_law_common"))) (c__law_divided : Cal P w K mg base T 2 "_law_divided" (defArgs (top 47)) ["base", "one", "other"] s__law_divided) (c__law_plain : Cal P w K mg base T 1 "_law_plain" (defArgs (top 48)) ["base", "row"] s__law_plain) : Cal P w K mg base T 3 "_law_common" (defArgs (top 49)) ["base", "one", "other"] s__law_common := by
  obtain ⟨fd, F⟩ := F
  exact ⟨_, fd, _, _, F, gm, F.bindsN fun _ _ _ _ _ _ us hl => match us, hl with | [_, _, _], _ => rfl, fun_ok F sc__law_common v__law_common fun cdv A outer s H E hr => d__law_common ft c__law_divided c__law_plain _ cdv A outer s H E hr⟩
theorem ok__law_power (ft : Ft K mg) (F : ∃ fd, FunD K "_law_power" "_law_power" (defArgs (top 50)) (defBody (top 50)) (defScope (top 50)) [] [] (He.ga K "_law_power") fd) (gm : mg "_law_power" = some (.ref (He.ga K "_law_power")))  : Cal P w K mg base T 1 "_law_power" (defArgs (top 50)) ["number", "many"] s__law_power := by
  obtain ⟨fd, F⟩ := F
  exact ⟨_, fd, _, _, F, gm, F.bindsN fun _ _ _ _ _ _ us hl => match us, hl with | [_, _], _ => rfl, fun_ok F sc__law_power v__law_power fun cdv A outer s H E hr => d__law_power ft  _ cdv A outer s H E hr⟩
theorem ok__law_factors (ft : Ft K mg) (F : ∃ fd, FunD K "_law_factors" "_law_factors" (defArgs (top 51)) (defBody (top 51)) (defScope (top 51)) [] [] (He.ga K "_law_factors") fd) (gm : mg "_law_factors" = some (.ref (He.ga K "_law_factors"))) (c__law_plain : Cal P w K mg base T 1 "_law_plain" (defArgs (top 48)) ["base", "row"] s__law_plain) (c__law_power : Cal P w K mg base T 1 "_law_power" (defArgs (top 50)) ["number", "many"] s__law_power) (c__law_row : Cal P w K mg base T 1 "_law_row" (defArgs (top 43)) ["base", "number"] s__law_row) (c__law_divided : Cal P w K mg base T 2 "_law_divided" (defArgs (top 47)) ["base", "one", "other"] s__law_divided) : Cal P w K mg base T 3 "_law_factors" (defArgs (top 51)) ["base", "row"] s__law_factors := by
  obtain ⟨fd, F⟩ := F
  exact ⟨_, fd, _, _, F, gm, F.bindsN fun _ _ _ _ _ _ us hl => match us, hl with | [_, _], _ => rfl, fun_ok F sc__law_factors v__law_factors fun cdv A outer s H E hr => d__law_factors ft c__law_plain c__law_power c__law_row c__law_divided _ cdv A outer s H E hr⟩
theorem ok__law_is_prime (ft : Ft K mg) (F : ∃ fd, FunD K "_law_is_prime" "_law_is_prime" (defArgs (top 52)) (defBody (top 52)) (defScope (top 52)) [] [] (He.ga K "_law_is_prime") fd) (gm : mg "_law_is_prime" = some (.ref (He.ga K "_law_is_prime"))) (c__law_factors : Cal P w K mg base T 3 "_law_factors" (defArgs (top 51)) ["base", "row"] s__law_factors) : Cal P w K mg base T 4 "_law_is_prime" (defArgs (top 52)) ["base", "row"] s__law_is_prime := by
  obtain ⟨fd, F⟩ := F
  exact ⟨_, fd, _, _, F, gm, F.bindsN fun _ _ _ _ _ _ us hl => match us, hl with | [_, _], _ => rfl, fun_ok F sc__law_is_prime v__law_is_prime fun cdv A outer s H E hr => d__law_is_prime ft c__law_factors _ cdv A outer s H E hr⟩
theorem ok__law_prime (ft : Ft K mg) (F : ∃ fd, FunD K "_law_prime" "_law_prime" (defArgs (top 53)) (defBody (top 53)) (defScope (top 53)) [] [] (He.ga K "_law_prime") fd) (gm : mg "_law_prime" = some (.ref (He.ga K "_law_prime"))) (c__law_take : Cal P w K mg base T 2 "_law_take" (defArgs (top 35)) ["draw", "amount"] s__law_take) (c__law_power : Cal P w K mg base T 1 "_law_power" (defArgs (top 50)) ["number", "many"] s__law_power) (c__law_is_prime : Cal P w K mg base T 4 "_law_is_prime" (defArgs (top 52)) ["base", "row"] s__law_is_prime) (c__law_row : Cal P w K mg base T 1 "_law_row" (defArgs (top 43)) ["base", "number"] s__law_row) : Cal P w K mg base T 5 "_law_prime" (defArgs (top 53)) ["draw", "base", "most"] s__law_prime := by
  obtain ⟨fd, F⟩ := F
  exact ⟨_, fd, _, _, F, gm, F.bindsN fun _ _ _ _ _ _ us hl => match us, hl with | [_, _, _], _ => rfl, fun_ok F sc__law_prime v__law_prime fun cdv A outer s H E hr => d__law_prime ft c__law_take c__law_power c__law_is_prime c__law_row _ cdv A outer s H E hr⟩
theorem ok__law_modulus (ft : Ft K mg) (F : ∃ fd, FunD K "_law_modulus" "_law_modulus" (defArgs (top 54)) (defBody (top 54)) (defScope (top 54)) [] [] (He.ga K "_law_modulus") fd) (gm : mg "_law_modulus" = some (.ref (He.ga K "_law_modulus"))) (c__law_row : Cal P w K mg base T 1 "_law_row" (defArgs (top 43)) ["base", "number"] s__law_row) (c__law_prime : Cal P w K mg base T 5 "_law_prime" (defArgs (top 53)) ["draw", "base", "most"] s__law_prime) (c__law_take : Cal P w K mg base T 2 "_law_take" (defArgs (top 35)) ["draw", "amount"] s__law_take) (c__law_times : Cal P w K mg base T 2 "_law_times" (defArgs (top 46)) ["base", "one", "other"] s__law_times) (c__law_worth : Cal P w K mg base T 1 "_law_worth" (defArgs (top 44)) ["base", "row"] s__law_worth) (c__law_power : Cal P w K mg base T 1 "_law_power" (defArgs (top 50)) ["number", "many"] s__law_power) : Cal P w K mg base T 6 "_law_modulus" (defArgs (top 54)) ["draw", "base", "most"] s__law_modulus := by
  obtain ⟨fd, F⟩ := F
  exact ⟨_, fd, _, _, F, gm, F.bindsN fun _ _ _ _ _ _ us hl => match us, hl with | [_, _, _], _ => rfl, fun_ok F sc__law_modulus v__law_modulus fun cdv A outer s H E hr => d__law_modulus ft c__law_row c__law_prime c__law_take c__law_times c__law_worth c__law_power _ cdv A outer s H E hr⟩
theorem ok__law_free (ft : Ft K mg) (F : ∃ fd, FunD K "_law_free" "_law_free" (defArgs (top 55)) (defBody (top 55)) (defScope (top 55)) [] [] (He.ga K "_law_free") fd) (gm : mg "_law_free" = some (.ref (He.ga K "_law_free"))) (c__law_power : Cal P w K mg base T 1 "_law_power" (defArgs (top 50)) ["number", "many"] s__law_power) (c__law_common : Cal P w K mg base T 3 "_law_common" (defArgs (top 49)) ["base", "one", "other"] s__law_common) (c__law_row : Cal P w K mg base T 1 "_law_row" (defArgs (top 43)) ["base", "number"] s__law_row) : Cal P w K mg base T 4 "_law_free" (defArgs (top 55)) ["base", "row"] s__law_free := by
  obtain ⟨fd, F⟩ := F
  exact ⟨_, fd, _, _, F, gm, F.bindsN fun _ _ _ _ _ _ us hl => match us, hl with | [_, _], _ => rfl, fun_ok F sc__law_free v__law_free fun cdv A outer s H E hr => d__law_free ft c__law_power c__law_common c__law_row _ cdv A outer s H E hr⟩
theorem ok__law_right (ft : Ft K mg) (F : ∃ fd, FunD K "_law_right" "_law_right" (defArgs (top 56)) (defBody (top 56)) (defScope (top 56)) [] [] (He.ga K "_law_right") fd) (gm : mg "_law_right" = some (.ref (He.ga K "_law_right"))) (c__law_base : Cal P w K mg base T 4 "_law_base" (defArgs (top 41)) ["draw"] s__law_base) (c__law_pick : Cal P w K mg base T 3 "_law_pick" (defArgs (top 36)) ["draw", "items"] s__law_pick) (c__law_modulus : Cal P w K mg base T 6 "_law_modulus" (defArgs (top 54)) ["draw", "base", "most"] s__law_modulus) (c__law_take : Cal P w K mg base T 2 "_law_take" (defArgs (top 35)) ["draw", "amount"] s__law_take) (c__law_row : Cal P w K mg base T 1 "_law_row" (defArgs (top 43)) ["base", "number"] s__law_row) (c__law_factors : Cal P w K mg base T 3 "_law_factors" (defArgs (top 51)) ["base", "row"] s__law_factors) (c__law_power : Cal P w K mg base T 1 "_law_power" (defArgs (top 50)) ["number", "many"] s__law_power) (c__law_says : Cal P w K mg base T 2 "_law_says" (defArgs (top 39)) ["told", "due"] s__law_says) (c_free_many : Cal P w K mg base T 5 "free_many" (defArgs (top 31)) ["base", "number"] s_free_many) (c__law_free : Cal P w K mg base T 4 "_law_free" (defArgs (top 55)) ["base", "row"] s__law_free) (c_product_of : Cal P w K mg base T 5 "product_of" (defArgs (top 24)) ["base", "one", "other"] s_product_of) (c__law_common : Cal P w K mg base T 3 "_law_common" (defArgs (top 49)) ["base", "one", "other"] s__law_common) (c__law_number : Cal P w K mg base T 4 "_law_number" (defArgs (top 40)) ["draw", "low", "high"] s__law_number) (c__law_no_base : Cal P w K mg base T 4 "_law_no_base" (defArgs (top 42)) ["draw"] s__law_no_base) (cg : CaughtOk K mg CF) (hfig : FigOk K mg CF figs) (hTB : LamX.TabB base mg (He.cT K ("_law_right", none)).1 Pt) (hT : (Pt, ("_law_right" : Str) ++ ".<locals>." ++ "<lambda>") ∈ T) (hu : ∀ p ∈ T, p.1 = Pt → p.2 = ("_law_right" : Str) ++ ".<locals>." ++ "<lambda>") : Cal P w K mg base T 9 "_law_right" (defArgs (top 56)) ["draw"] s__law_right := by
  obtain ⟨fd, F⟩ := F
  exact ⟨_, fd, _, _, F, gm, F.bindsN fun _ _ _ _ _ _ us hl => match us, hl with | [_], _ => rfl, fun_okL (p := ("_law_right", none)) F sc__law_right v__law_right fun cdv hcv A outer s H E hr => d__law_right ft c__law_base c__law_pick c__law_modulus c__law_take c__law_row c__law_factors c__law_power c__law_says c_free_many c__law_free c_product_of c__law_common c__law_number c__law_no_base cg hfig hTB hT hu _ cdv hcv A outer s H E hr⟩
theorem sc__law_begun : FnScope ["script", "whole", "cells", "cell"] ["script"] (defScope (top 33)) := ⟨rfl, rfl, rfl, by decide +kernel, rfl, by decide +kernel, by decide +kernel⟩
theorem d__law_begun (ft : Ft K mg) (f : Addr) (cdv : Value) (A : Around) (outer : List PySem.Env) (s : Shared) (H : Hp) (E : XK) :
  PSs (cxOf (L2.CX P w) P w K mg base ["script", "whole", "cells", "cell"] "_law_begun" (defScope (top 33)) f cdv A outer s H E) (defBody (top 33)) (t_begun K) :=
  pss_cons (ps_par rfl sc__law_begun.nd rfl rfl (by decide) rfl rfl (pa_cons pe_int (pa_cons (pe_lst pa_nil) pa_nil)) rfl)
    (pss_cons (ps_for (passes_of rfl) rfl (pi_list (pe_var rfl (Or.inl rfl))) (pg_name sc__law_begun.nd rfl (Or.inl rfl))
      (pss_one (ps_if (pt_val (pe_callB call_isi rfl ft.f_isinstance (by decide +kernel) (pa_cons (pe_var rfl (Or.inl rfl)) (pa_cons (pe_bltn (v := .ty "int") rfl ft.f_int boot_int rfl (by decide) (by decide)) pa_nil))))
        (pss_cons (ps_if (pt_cmpR op_ge (pe_var rfl (Or.inl rfl)) (pe_op op_pow pe_int pe_int) (nomark _)) (pss_one (ps_set sc__law_begun.nd rfl (Or.inl rfl) (pe_op op_add (pe_op op_mulA (pe_var rfl (Or.inl rfl)) (pe_op op_add (pe_op op_sub (pe_var rfl (Or.inl rfl)) (pe_op op_pow pe_int pe_int)) pe_int)) (pe_op op_sub (pe_var rfl (Or.inl rfl)) (pe_op op_pow pe_int pe_int))))) pss_nil)
          (pss_one (ps_expr (pe_bm PySem.F.plainAttrs_list PySem.F.slot_list_append PySem.F.type_list_append mt_append (pe_var rfl (Or.inl rfl)) (pa_cons (pe_var rfl (Or.inl rfl)) pa_nil)))))
        pss_nil)))
    (pss_one (ps_ret (pe_disp (pps_cons pe_str (pe_var rfl (Or.inl rfl)) (pps_cons pe_str (pe_var rfl (Or.inl rfl)) (pps_cons pe_str pe_int pps_nil))) rfl rfl (fun z => by cases z) (by decide)))))
theorem ok__law_begun (ft : Ft K mg) (F : ∃ fd, FunD K "_law_begun" "_law_begun" (defArgs (top 33)) (defBody (top 33)) (defScope (top 33)) [] [] (He.ga K "_law_begun") fd) (gm : mg "_law_begun" = some (.ref (He.ga K "_law_begun"))) : CalS P w K mg base 1 "_law_begun" ["script"] (spBegun K) := by
  obtain ⟨fd, F⟩ := F
  refine ⟨_, fd, F.kp, gm, F.bindsN fun _ _ _ _ _ _ us hl => match us, hl with | [_], _ => rfl, F.ok sc__law_begun (fun vs H Q E h => ?_) fun cdv A outer s H vs Q E hr h => ⟨t_begun K, d__law_begun ft _ cdv A outer s H E, pure_begun vs H Q E h⟩⟩
  obtain ⟨a, ns, rfl, _⟩ := h
  rfl
theorem sc_law : FnScope ["script", "draw", "lap"] ["script"] (defScope (top 57)) := ⟨rfl, rfl, rfl, by decide +kernel, rfl, by decide +kernel, by decide +kernel⟩
theorem ok_law (ft : Ft K mg) {f : Addr} {fd : FuncData} (F : FunD K "law" "law" (defArgs (top 57)) (defBody (top 57)) (defScope (top 57)) [] [] f fd) (cb : CalS P w K mg base 1 "_law_begun" ["script"] (spBegun K)) (c__law_right : Cal P w K mg base T 9 "_law_right" (defArgs (top 56)) ["draw"] s__law_right) (c__law_says : Cal P w K mg base T 2 "_law_says" (defArgs (top 39)) ["told", "due"] s__law_says) (c_free_many : Cal P w K mg base T 5 "free_many" (defArgs (top 31)) ["base", "number"] s_free_many) : FnOk P w K mg base (L2.CX P w) 10 f fd ["script"] (spLaw ⟨K, mg, T⟩) :=
  law_ok (n := 1) F sc_law rfl v_law fun cdv A outer s H E hr => ⟨ps_first cb hr (by decide) (passes_call (takes_of rfl rfl rfl rfl) fun _ _ _ _ h => h) sc_law.nd rfl (Or.inl rfl) rfl (Or.inl rfl), (js_cons (js_for (passes_of rfl) rfl (ji_rng1 (ja_cons (je_n (jn_add (JE.jp je_int) (JE.jp (je_min2 rfl ft.f_min (jr_cons (JE.jp (je_len ft.f_len (jr_cons (jp_var 0 (pe_var rfl (Or.inl rfl))) jr_nil))) (jr_cons (JE.jp je_int) jr_nil)))))) ja_nil) ft.f_range) (jg_name 2 sc_law.nd rfl (Or.inl rfl)) (js_one (js_if (jt_not (jt_val (je_fn c__law_right hr (by decide) (passes_call (takes_of rfl rfl rfl rfl) fun _ _ _ _ h => h) (ja_cons (je_var 1 (pe_var rfl (Or.inl rfl))) ja_nil)))) (js_one (js_ret je_bl)) js_nil))) (js_one (js_ret (je_fn c__law_says hr (by decide) (passes_call (takes_of rfl rfl rfl rfl) fun _ _ _ _ h => h) (ja_cons (JF.je (jf_lst (ja_cons (je_fn c_free_many hr (by decide) (passes_call (takes_of rfl rfl rfl rfl) fun _ _ _ _ h => h) (ja_cons je_int (ja_cons je_int ja_nil))) (ja_cons (je_fn c_free_many hr (by decide) (passes_call (takes_of rfl rfl rfl rfl) fun _ _ _ _ h => h) (ja_cons je_int (ja_cons je_int ja_nil))) (ja_cons (je_fn c_free_many hr (by decide) (passes_call (takes_of rfl rfl rfl rfl) fun _ _ _ _ h => h) (ja_cons je_int (ja_cons je_int ja_nil))) (ja_cons (je_fn c_free_many hr (by decide) (passes_call (takes_of rfl rfl rfl rfl) fun _ _ _ _ h => h) (ja_cons je_int (ja_cons je_int ja_nil))) (ja_cons (je_fn c_free_many hr (by decide) (passes_call (takes_of rfl rfl rfl rfl) fun _ _ _ _ h => h) (ja_cons je_int (ja_cons je_int ja_nil))) (ja_cons (je_fn c_free_many hr (by decide) (passes_call (takes_of rfl rfl rfl rfl) fun _ _ _ _ h => h) (ja_cons je_int (ja_cons je_int ja_nil))) ja_nil)))))))) (ja_cons (JF.je (jf_lst (ja_cons je_int (ja_cons je_int (ja_cons je_int (ja_cons je_int (ja_cons je_int (ja_cons je_int ja_nil)))))))) ja_nil))))))⟩
end
def dd_is_whole : He.DefD := ⟨("is_whole", none), "is_whole", "is_whole", defArgs (top 12), defBody (top 12), defScope (top 12), [], []⟩
def dd_is_within : He.DefD := ⟨("is_within", none), "is_within", "is_within", defArgs (top 13), defBody (top 13), defScope (top 13), [], []⟩
def dd_need_base : He.DefD := ⟨("need_base", none), "need_base", "need_base", defArgs (top 14), defBody (top 14), defScope (top 14), [], []⟩
def dd_need_as : He.DefD := ⟨("need_as", none), "need_as", "need_as", defArgs (top 15), defBody (top 15), defScope (top 15), [], []⟩
def dd_trimmed : He.DefD := ⟨("trimmed", none), "trimmed", "trimmed", defArgs (top 16), defBody (top 16), defScope (top 16), [], []⟩
def dd_row_of : He.DefD := ⟨("row_of", none), "row_of", "row_of", defArgs (top 17), defBody (top 17), defScope (top 17), [], []⟩
def dd_number_by : He.DefD := ⟨("number_by", none), "number_by", "number_by", defArgs (top 18), defBody (top 18), defScope (top 18), [], []⟩
def dd_plain_row : He.DefD := ⟨("plain_row", none), "plain_row", "plain_row", defArgs (top 19), defBody (top 19), defScope (top 19), [], []⟩
def dd_times_rows : He.DefD := ⟨("times_rows", none), "times_rows", "times_rows", defArgs (top 21), defBody (top 21), defScope (top 21), [], []⟩
def dd_divided_rows : He.DefD := ⟨("divided_rows", none), "divided_rows", "divided_rows", defArgs (top 22), defBody (top 22), defScope (top 22), [], []⟩
def dd_need_two : He.DefD := ⟨("need_two", none), "need_two", "need_two", defArgs (top 23), defBody (top 23), defScope (top 23), [], []⟩
def dd_product_of : He.DefD := ⟨("product_of", none), "product_of", "product_of", defArgs (top 24), defBody (top 24), defScope (top 24), [], []⟩
def dd_powered : He.DefD := ⟨("powered", none), "powered", "powered", defArgs (top 26), defBody (top 26), defScope (top 26), [], []⟩
def dd_plain_rows : He.DefD := ⟨("plain_rows", none), "plain_rows", "plain_rows", defArgs (top 27), defBody (top 27), defScope (top 27), [], []⟩
def dd_factors_by : He.DefD := ⟨("factors_by", none), "factors_by", "factors_by", defArgs (top 29), defBody (top 29), defScope (top 29), [], []⟩
def dd_free_by : He.DefD := ⟨("free_by", none), "free_by", "free_by", defArgs (top 30), defBody (top 30), defScope (top 30), [], []⟩
def dd_free_many : He.DefD := ⟨("free_many", none), "free_many", "free_many", defArgs (top 31), defBody (top 31), defScope (top 31), [], []⟩
def dd__law_begun : He.DefD := ⟨("_law_begun", none), "_law_begun", "_law_begun", defArgs (top 33), defBody (top 33), defScope (top 33), [], []⟩
def dd__law_mixed : He.DefD := ⟨("_law_mixed", none), "_law_mixed", "_law_mixed", defArgs (top 34), defBody (top 34), defScope (top 34), [], []⟩
def dd__law_take : He.DefD := ⟨("_law_take", none), "_law_take", "_law_take", defArgs (top 35), defBody (top 35), defScope (top 35), [], []⟩
def dd__law_pick : He.DefD := ⟨("_law_pick", none), "_law_pick", "_law_pick", defArgs (top 36), defBody (top 36), defScope (top 36), [], []⟩
def dd__law_caught : He.DefD := ⟨("_law_caught", none), "_law_caught", "_law_caught", defArgs (top 37), defBody (top 37), defScope (top 37), [], []⟩
def dd__law_kinds : He.DefD := ⟨("_law_kinds", none), "_law_kinds", "_law_kinds", defArgs (top 38), defBody (top 38), defScope (top 38), [], []⟩
def dd__law_says : He.DefD := ⟨("_law_says", none), "_law_says", "_law_says", defArgs (top 39), defBody (top 39), defScope (top 39), [], []⟩
def dd__law_number : He.DefD := ⟨("_law_number", none), "_law_number", "_law_number", defArgs (top 40), defBody (top 40), defScope (top 40), [], []⟩
def dd__law_base : He.DefD := ⟨("_law_base", none), "_law_base", "_law_base", defArgs (top 41), defBody (top 41), defScope (top 41), [], []⟩
def dd__law_no_base : He.DefD := ⟨("_law_no_base", none), "_law_no_base", "_law_no_base", defArgs (top 42), defBody (top 42), defScope (top 42), [], []⟩
def dd__law_row : He.DefD := ⟨("_law_row", none), "_law_row", "_law_row", defArgs (top 43), defBody (top 43), defScope (top 43), [], []⟩
def dd__law_worth : He.DefD := ⟨("_law_worth", none), "_law_worth", "_law_worth", defArgs (top 44), defBody (top 44), defScope (top 44), [], []⟩
def dd__law_cut : He.DefD := ⟨("_law_cut", none), "_law_cut", "_law_cut", defArgs (top 45), defBody (top 45), defScope (top 45), [], []⟩
def dd__law_times : He.DefD := ⟨("_law_times", none), "_law_times", "_law_times", defArgs (top 46), defBody (top 46), defScope (top 46), [], []⟩
def dd__law_divided : He.DefD := ⟨("_law_divided", none), "_law_divided", "_law_divided", defArgs (top 47), defBody (top 47), defScope (top 47), [], []⟩
def dd__law_plain : He.DefD := ⟨("_law_plain", none), "_law_plain", "_law_plain", defArgs (top 48), defBody (top 48), defScope (top 48), [], []⟩
def dd__law_common : He.DefD := ⟨("_law_common", none), "_law_common", "_law_common", defArgs (top 49), defBody (top 49), defScope (top 49), [], []⟩
def dd__law_power : He.DefD := ⟨("_law_power", none), "_law_power", "_law_power", defArgs (top 50), defBody (top 50), defScope (top 50), [], []⟩
def dd__law_factors : He.DefD := ⟨("_law_factors", none), "_law_factors", "_law_factors", defArgs (top 51), defBody (top 51), defScope (top 51), [], []⟩
def dd__law_is_prime : He.DefD := ⟨("_law_is_prime", none), "_law_is_prime", "_law_is_prime", defArgs (top 52), defBody (top 52), defScope (top 52), [], []⟩
def dd__law_prime : He.DefD := ⟨("_law_prime", none), "_law_prime", "_law_prime", defArgs (top 53), defBody (top 53), defScope (top 53), [], []⟩
def dd__law_modulus : He.DefD := ⟨("_law_modulus", none), "_law_modulus", "_law_modulus", defArgs (top 54), defBody (top 54), defScope (top 54), [], []⟩
def dd__law_free : He.DefD := ⟨("_law_free", none), "_law_free", "_law_free", defArgs (top 55), defBody (top 55), defScope (top 55), [], []⟩
def dd__law_right : He.DefD := ⟨("_law_right", none), "_law_right", "_law_right", defArgs (top 56), defBody (top 56), defScope (top 56), [], []⟩
def dd_law : He.DefD := ⟨("law", none), "law", "law", defArgs (top 57), defBody (top 57), defScope (top 57), [], []⟩
def fn : List He.DefD := [dd_is_whole, dd_is_within, dd_need_base, dd_need_as, dd_trimmed, dd_row_of, dd_number_by, dd_plain_row, dd_times_rows, dd_divided_rows, dd_need_two, dd_product_of, dd_powered, dd_plain_rows, dd_factors_by, dd_free_by, dd_free_many, dd__law_begun, dd__law_mixed, dd__law_take, dd__law_pick, dd__law_caught, dd__law_kinds, dd__law_says, dd__law_number] ++ [dd__law_base, dd__law_no_base, dd__law_row, dd__law_worth, dd__law_cut, dd__law_times, dd__law_divided, dd__law_plain, dd__law_common, dd__law_power, dd__law_factors, dd__law_is_prime, dd__law_prime, dd__law_modulus, dd__law_free, dd__law_right, dd_law]
def fa : List He.Fa := [.glo "is_whole", .glo "is_within", .glo "need_base", .glo "need_as", .glo "trimmed", .glo "row_of", .glo "number_by", .glo "plain_row", .glo "times_rows", .glo "divided_rows", .glo "need_two", .glo "product_of", .glo "powered", .glo "plain_rows", .glo "factors_by", .glo "free_by", .glo "free_many", .glo "_law_begun", .glo "_law_mixed", .glo "_law_take", .glo "_law_pick", .glo "_law_caught", .glo "_law_kinds", .glo "_law_says", .glo "_law_number"] ++ [.glo "_law_base", .glo "_law_no_base", .glo "_law_row", .glo "_law_worth", .glo "_law_cut", .glo "_law_times", .glo "_law_divided", .glo "_law_plain", .glo "_law_common", .glo "_law_power", .glo "_law_factors", .glo "_law_is_prime", .glo "_law_prime", .glo "_law_modulus", .glo "_law_free", .glo "_law_right", .glo "law", .glo "BadBase", .glo "BadIndex", .glo "BadModulus", .glo "BadNumber", .glo "BadOne", .glo "BadOther", .glo "BadStart", .glo "FigureError"] ++ [.glo "BASES", .exc "BadBase", .exc "BadIndex", .exc "BadModulus", .exc "BadNumber", .exc "BadOne", .exc "BadOther", .exc "BadStart", .exm "BadBase" "FigureError" true, .exm "BadIndex" "FigureError" true, .exm "BadModulus" "FigureError" true, .exm "BadNumber" "FigureError" true, .exm "BadOne" "FigureError" true, .exm "BadOther" "FigureError" true, .exm "BadStart" "FigureError" true, .int "MOST" 1000000, .free "bool", .free "dict", .free "enumerate", .free "int", .free "isinstance", .free "len", .free "list", .free "max", .free "min"] ++ [.free "range", .free "repr", .free "str", .free "sum", .free "tuple"]
def tf : List He.Defn := [("_law_right", none)]
def exB (K : PySem.W.Frag) : Bool := excCB K "BadBase" && (excCB K "BadNumber" && (He.tupB K "BASES" (([2, 3, 5] : List Int).map He.Dv.int)))
def loose : List Str := (["FigureError", "BadBase", "BadIndex", "BadModulus", "BadNumber", "BadOne", "BadOther", "BadStart", "BASES", "MOST", "is_whole", "is_within", "need_base", "need_as", "trimmed", "row_of", "number_by", "plain_row", "times_rows", "divided_rows", "need_two", "product_of", "powered", "plain_rows", "factors_by", "free_by", "free_many", "_law_begun", "_law_mixed", "_law_take"] : List Str) ++ (["_law_pick", "_law_caught", "_law_kinds", "_law_says", "_law_number", "_law_base", "_law_no_base", "_law_row", "_law_worth", "_law_cut", "_law_times", "_law_divided", "_law_plain", "_law_common", "_law_power", "_law_factors", "_law_is_prime", "_law_prime", "_law_modulus", "_law_free", "_law_right"] : List Str)
abbrev R : PySem.W.OpenRow := PySem.W.OpenLaw.row PySem.Challenge.rw_nocarry_k08_whole_numbers_that_share_not
abbrev hk : PySem.W.Hook := He.hookX 5 fa fn [] tf exB
def ob (s : PySem.W.SharedT) : He.AlX := He.obsX 5 fa fn [] tf exB (HandSHeadRun.getT s)
theorem ob_eq (s : PySem.W.SharedT) : ob s = hk.obs s.abs := He.obsX_eq (HandSHeadRun.getT_eq s)
set_option maxHeartbeats 0 in
theorem run (w : World) : HandSHeadRun.RunEq R (PySem.W.view R.prog [57]) hk ob 4000 loose w := by
  intro os
  kernel_rfl
section
variable {w : World} {h : Heap} {K : PySem.W.Frag} {mg : Str → Option Value}
theorem fact {i : Nat} {f : He.Fa} (c : He.SaysX fa fn [] tf exB w h K) (e : fa[i]? = some f := by rfl) : f.ok K = true := c.t.d.fact i e
theorem ft_of (c : He.SaysX fa fn [] tf exB w h K) (X : K.In h) (G : h.Ns mainGlobals mg) : Ft K mg := by
  have m : exB K = true := c.more
  obtain ⟨b0, m⟩ := He.ba m
  obtain ⟨b1, m⟩ := He.ba m
  have b2 := m
  exact {
    f_bool := He.free_ok X G (fact (i := 66) c)
    f_dict := He.free_ok X G (fact (i := 67) c)
    f_enumerate := He.free_ok X G (fact (i := 68) c)
    f_int := He.free_ok X G (fact (i := 69) c)
    f_isinstance := He.free_ok X G (fact (i := 70) c)
    f_len := He.free_ok X G (fact (i := 71) c)
    f_list := He.free_ok X G (fact (i := 72) c)
    f_max := He.free_ok X G (fact (i := 73) c)
    f_min := He.free_ok X G (fact (i := 74) c)
    f_range := He.free_ok X G (fact (i := 75) c)
    f_repr := He.free_ok X G (fact (i := 76) c)
    f_str := He.free_ok X G (fact (i := 77) c)
    f_sum := He.free_ok X G (fact (i := 78) c)
    f_tuple := He.free_ok X G (fact (i := 79) c)
    c_BadBase := cls_of X G (fact (i := 42) c) (fact (i := 51) c)
    c_BadIndex := cls_of X G (fact (i := 43) c) (fact (i := 52) c)
    c_BadModulus := cls_of X G (fact (i := 44) c) (fact (i := 53) c)
    c_BadNumber := cls_of X G (fact (i := 45) c) (fact (i := 54) c)
    c_BadOne := cls_of X G (fact (i := 46) c) (fact (i := 55) c)
    c_BadOther := cls_of X G (fact (i := 47) c) (fact (i := 56) c)
    c_BadStart := cls_of X G (fact (i := 48) c) (fact (i := 57) c)
    x_BadBase := clsE_of X G (fact (i := 42) c) (fact (i := 51) c) b0
    x_BadNumber := clsE_of X G (fact (i := 45) c) (fact (i := 54) c) b1
    k_MOST := He.int_ok X G (fact (i := 65) c)
    k_BASES := tup_of X G (fact (i := 50) c) b2
  }
def tabs (K : PySem.W.Frag) : List (Addr × Str) := [((He.cT K ("_law_right", none)).2, ("_law_right" : Str) ++ ".<locals>." ++ "<lambda>")]
end
theorem chain {w : World} {h base : Heap} {K : PySem.W.Frag} {mg : Str → Option Value} {fd : FuncData} (P : Program) (c : He.SaysX fa fn [] tf exB w h K) (X : K.In h) (G : h.Ns mainGlobals mg) (TB : ∀ p ∈ tf.map (He.cT K), LamX.TabB base mg p.1 p.2) (F : FunD K "law" "law" (defArgs (top 57)) (defBody (top 57)) (defScope (top 57)) [] [] (He.ga K "law") fd) :
    FnOk P w K mg base (L2.CX P w) 10 (He.ga K "law") fd ["script"] (spLaw ⟨K, mg, tabs K⟩) := by
  have ft := ft_of c X G
  have cg : CaughtOk K mg (He.ga K "FigureError") := by
    obtain ⟨fd, F⟩ := (c.t.d.def_ 21 (d := dd__law_caught) rfl)
    exact ⟨⟨_, fd, _, _, _, F, (He.glo_ok X G (fact (i := 21) c)), F.bindsN fun _ _ _ _ _ _ us hl => match us, hl with | [_], _ => rfl, ⟨rfl, rfl, rfl, by decide +kernel, rfl, by decide +kernel, by decide +kernel⟩, ⟨_, _, _, _, _, _, _, _, _, _, _, _, _, _, _, rfl⟩, rfl, rfl, rfl, rfl⟩, (He.glo_ok X G (fact (i := 49) c))⟩
  have hfig : FigOk K mg (He.ga K "FigureError") figs := fig_of X G fun x hx => by
    simp only [figs, List.mem_cons, List.not_mem_nil, or_false] at hx
    rcases hx with rfl | rfl | rfl | rfl | rfl | rfl | rfl
    · exact ⟨fact (i := 42) c, fact (i := 58) c⟩
    · exact ⟨fact (i := 43) c, fact (i := 59) c⟩
    · exact ⟨fact (i := 44) c, fact (i := 60) c⟩
    · exact ⟨fact (i := 45) c, fact (i := 61) c⟩
    · exact ⟨fact (i := 46) c, fact (i := 62) c⟩
    · exact ⟨fact (i := 47) c, fact (i := 63) c⟩
    · exact ⟨fact (i := 48) c, fact (i := 64) c⟩
  have cb : CalS P w K mg base 1 "_law_begun" ["script"] (spBegun K) := ok__law_begun ft (c.t.d.def_ 17 (d := dd__law_begun) rfl) (He.glo_ok X G (fact (i := 17) c))
  have c_is_whole : Cal P w K mg base (tabs K) 1 "is_whole" (defArgs (top 12)) ["thing"] s_is_whole := ok_is_whole ft (c.t.d.def_ 0 (d := dd_is_whole) rfl) (He.glo_ok X G (fact (i := 0) c)) 
  have c_is_within : Cal P w K mg base (tabs K) 2 "is_within" (defArgs (top 13)) ["thing", "low", "high"] s_is_within := ok_is_within ft (c.t.d.def_ 1 (d := dd_is_within) rfl) (He.glo_ok X G (fact (i := 1) c)) c_is_whole
  have c_need_base : Cal P w K mg base (tabs K) 2 "need_base" (defArgs (top 14)) ["base"] s_need_base := ok_need_base ft (c.t.d.def_ 2 (d := dd_need_base) rfl) (He.glo_ok X G (fact (i := 2) c)) c_is_whole
  have c_need_as : Cal P w K mg base (tabs K) 3 "need_as" (defArgs (top 15)) ["thing", "which", "low"] s_need_as := ok_need_as ft (c.t.d.def_ 3 (d := dd_need_as) rfl) (He.glo_ok X G (fact (i := 3) c)) c_is_within
  have c_trimmed : Cal P w K mg base (tabs K) 1 "trimmed" (defArgs (top 16)) ["row"] s_trimmed := ok_trimmed ft (c.t.d.def_ 4 (d := dd_trimmed) rfl) (He.glo_ok X G (fact (i := 4) c)) 
  have c_row_of : Cal P w K mg base (tabs K) 1 "row_of" (defArgs (top 17)) ["base", "number"] s_row_of := ok_row_of ft (c.t.d.def_ 5 (d := dd_row_of) rfl) (He.glo_ok X G (fact (i := 5) c)) 
  have c_number_by : Cal P w K mg base (tabs K) 1 "number_by" (defArgs (top 18)) ["base", "row"] s_number_by := ok_number_by ft (c.t.d.def_ 6 (d := dd_number_by) rfl) (He.glo_ok X G (fact (i := 6) c)) 
  have c_plain_row : Cal P w K mg base (tabs K) 1 "plain_row" (defArgs (top 19)) ["base", "row"] s_plain_row := ok_plain_row ft (c.t.d.def_ 7 (d := dd_plain_row) rfl) (He.glo_ok X G (fact (i := 7) c)) 
  have c_times_rows : Cal P w K mg base (tabs K) 2 "times_rows" (defArgs (top 21)) ["base", "one", "other"] s_times_rows := ok_times_rows ft (c.t.d.def_ 8 (d := dd_times_rows) rfl) (He.glo_ok X G (fact (i := 8) c)) c_trimmed
  have c_divided_rows : Cal P w K mg base (tabs K) 2 "divided_rows" (defArgs (top 22)) ["base", "one", "other"] s_divided_rows := ok_divided_rows ft (c.t.d.def_ 9 (d := dd_divided_rows) rfl) (He.glo_ok X G (fact (i := 9) c)) c_trimmed
  have c_need_two : Cal P w K mg base (tabs K) 4 "need_two" (defArgs (top 23)) ["base", "one", "other"] s_need_two := ok_need_two ft (c.t.d.def_ 10 (d := dd_need_two) rfl) (He.glo_ok X G (fact (i := 10) c)) c_need_base c_need_as
  have c_product_of : Cal P w K mg base (tabs K) 5 "product_of" (defArgs (top 24)) ["base", "one", "other"] s_product_of := ok_product_of ft (c.t.d.def_ 11 (d := dd_product_of) rfl) (He.glo_ok X G (fact (i := 11) c)) c_need_two c_number_by c_times_rows c_row_of
  have c_powered : Cal P w K mg base (tabs K) 1 "powered" (defArgs (top 26)) ["number", "times"] s_powered := ok_powered ft (c.t.d.def_ 12 (d := dd_powered) rfl) (He.glo_ok X G (fact (i := 12) c)) 
  have c_plain_rows : Cal P w K mg base (tabs K) 2 "plain_rows" (defArgs (top 27)) ["base", "size"] s_plain_rows := ok_plain_rows ft (c.t.d.def_ 13 (d := dd_plain_rows) rfl) (He.glo_ok X G (fact (i := 13) c)) c_powered c_row_of
  have c_factors_by : Cal P w K mg base (tabs K) 3 "factors_by" (defArgs (top 29)) ["base", "row"] s_factors_by := ok_factors_by ft (c.t.d.def_ 14 (d := dd_factors_by) rfl) (He.glo_ok X G (fact (i := 14) c)) c_plain_row c_plain_rows c_divided_rows
  have c_free_by : Cal P w K mg base (tabs K) 4 "free_by" (defArgs (top 30)) ["base", "row"] s_free_by := ok_free_by ft (c.t.d.def_ 15 (d := dd_free_by) rfl) (He.glo_ok X G (fact (i := 15) c)) c_factors_by c_powered
  have c_free_many : Cal P w K mg base (tabs K) 5 "free_many" (defArgs (top 31)) ["base", "number"] s_free_many := ok_free_many ft (c.t.d.def_ 16 (d := dd_free_many) rfl) (He.glo_ok X G (fact (i := 16) c)) c_need_base c_need_as c_free_by c_row_of
  have c__law_mixed : Cal P w K mg base (tabs K) 1 "_law_mixed" (defArgs (top 34)) ["draw"] s__law_mixed := ok__law_mixed ft (c.t.d.def_ 18 (d := dd__law_mixed) rfl) (He.glo_ok X G (fact (i := 18) c)) 
  have c__law_take : Cal P w K mg base (tabs K) 2 "_law_take" (defArgs (top 35)) ["draw", "amount"] s__law_take := ok__law_take ft (c.t.d.def_ 19 (d := dd__law_take) rfl) (He.glo_ok X G (fact (i := 19) c)) c__law_mixed
  have c__law_pick : Cal P w K mg base (tabs K) 3 "_law_pick" (defArgs (top 36)) ["draw", "items"] s__law_pick := ok__law_pick ft (c.t.d.def_ 20 (d := dd__law_pick) rfl) (He.glo_ok X G (fact (i := 20) c)) c__law_take
  have c__law_kinds : Cal P w K mg base (tabs K) 1 "_law_kinds" (defArgs (top 38)) ["thing"] s__law_kinds := ok__law_kinds ft (c.t.d.def_ 22 (d := dd__law_kinds) rfl) (He.glo_ok X G (fact (i := 22) c)) 
  have c__law_says : Cal P w K mg base (tabs K) 2 "_law_says" (defArgs (top 39)) ["told", "due"] s__law_says := ok__law_says ft (c.t.d.def_ 23 (d := dd__law_says) rfl) (He.glo_ok X G (fact (i := 23) c)) c__law_kinds
  have c__law_number : Cal P w K mg base (tabs K) 4 "_law_number" (defArgs (top 40)) ["draw", "low", "high"] s__law_number := ok__law_number ft (c.t.d.def_ 24 (d := dd__law_number) rfl) (He.glo_ok X G (fact (i := 24) c)) c__law_pick
  have c__law_base : Cal P w K mg base (tabs K) 4 "_law_base" (defArgs (top 41)) ["draw"] s__law_base := ok__law_base ft (c.t.d.def_ 25 (d := dd__law_base) rfl) (He.glo_ok X G (fact (i := 25) c)) c__law_pick
  have c__law_no_base : Cal P w K mg base (tabs K) 4 "_law_no_base" (defArgs (top 42)) ["draw"] s__law_no_base := ok__law_no_base ft (c.t.d.def_ 26 (d := dd__law_no_base) rfl) (He.glo_ok X G (fact (i := 26) c)) c__law_pick
  have c__law_row : Cal P w K mg base (tabs K) 1 "_law_row" (defArgs (top 43)) ["base", "number"] s__law_row := ok__law_row ft (c.t.d.def_ 27 (d := dd__law_row) rfl) (He.glo_ok X G (fact (i := 27) c)) 
  have c__law_worth : Cal P w K mg base (tabs K) 1 "_law_worth" (defArgs (top 44)) ["base", "row"] s__law_worth := ok__law_worth ft (c.t.d.def_ 28 (d := dd__law_worth) rfl) (He.glo_ok X G (fact (i := 28) c)) 
  have c__law_cut : Cal P w K mg base (tabs K) 1 "_law_cut" (defArgs (top 45)) ["row"] s__law_cut := ok__law_cut ft (c.t.d.def_ 29 (d := dd__law_cut) rfl) (He.glo_ok X G (fact (i := 29) c)) 
  have c__law_times : Cal P w K mg base (tabs K) 2 "_law_times" (defArgs (top 46)) ["base", "one", "other"] s__law_times := ok__law_times ft (c.t.d.def_ 30 (d := dd__law_times) rfl) (He.glo_ok X G (fact (i := 30) c)) c__law_cut
  have c__law_divided : Cal P w K mg base (tabs K) 2 "_law_divided" (defArgs (top 47)) ["base", "one", "other"] s__law_divided := ok__law_divided ft (c.t.d.def_ 31 (d := dd__law_divided) rfl) (He.glo_ok X G (fact (i := 31) c)) c__law_cut
  have c__law_plain : Cal P w K mg base (tabs K) 1 "_law_plain" (defArgs (top 48)) ["base", "row"] s__law_plain := ok__law_plain ft (c.t.d.def_ 32 (d := dd__law_plain) rfl) (He.glo_ok X G (fact (i := 32) c)) 
  have c__law_common : Cal P w K mg base (tabs K) 3 "_law_common" (defArgs (top 49)) ["base", "one", "other"] s__law_common := ok__law_common ft (c.t.d.def_ 33 (d := dd__law_common) rfl) (He.glo_ok X G (fact (i := 33) c)) c__law_divided c__law_plain
  have c__law_power : Cal P w K mg base (tabs K) 1 "_law_power" (defArgs (top 50)) ["number", "many"] s__law_power := ok__law_power ft (c.t.d.def_ 34 (d := dd__law_power) rfl) (He.glo_ok X G (fact (i := 34) c)) 
  have c__law_factors : Cal P w K mg base (tabs K) 3 "_law_factors" (defArgs (top 51)) ["base", "row"] s__law_factors := ok__law_factors ft (c.t.d.def_ 35 (d := dd__law_factors) rfl) (He.glo_ok X G (fact (i := 35) c)) c__law_plain c__law_power c__law_row c__law_divided
  have c__law_is_prime : Cal P w K mg base (tabs K) 4 "_law_is_prime" (defArgs (top 52)) ["base", "row"] s__law_is_prime := ok__law_is_prime ft (c.t.d.def_ 36 (d := dd__law_is_prime) rfl) (He.glo_ok X G (fact (i := 36) c)) c__law_factors
  have c__law_prime : Cal P w K mg base (tabs K) 5 "_law_prime" (defArgs (top 53)) ["draw", "base", "most"] s__law_prime := ok__law_prime ft (c.t.d.def_ 37 (d := dd__law_prime) rfl) (He.glo_ok X G (fact (i := 37) c)) c__law_take c__law_power c__law_is_prime c__law_row
  have c__law_modulus : Cal P w K mg base (tabs K) 6 "_law_modulus" (defArgs (top 54)) ["draw", "base", "most"] s__law_modulus := ok__law_modulus ft (c.t.d.def_ 38 (d := dd__law_modulus) rfl) (He.glo_ok X G (fact (i := 38) c)) c__law_row c__law_prime c__law_take c__law_times c__law_worth c__law_power
  have c__law_free : Cal P w K mg base (tabs K) 4 "_law_free" (defArgs (top 55)) ["base", "row"] s__law_free := ok__law_free ft (c.t.d.def_ 39 (d := dd__law_free) rfl) (He.glo_ok X G (fact (i := 39) c)) c__law_power c__law_common c__law_row
  have c__law_right : Cal P w K mg base (tabs K) 9 "_law_right" (defArgs (top 56)) ["draw"] s__law_right := ok__law_right ft (c.t.d.def_ 40 (d := dd__law_right) rfl) (He.glo_ok X G (fact (i := 40) c)) c__law_base c__law_pick c__law_modulus c__law_take c__law_row c__law_factors c__law_power c__law_says c_free_many c__law_free c_product_of c__law_common c__law_number c__law_no_base cg hfig (TB _ (List.mem_map.mpr ⟨("_law_right", none), by simp [tf], rfl⟩)) (by simp [tabs]) (fun p hp e => by simp only [tabs, List.mem_cons, List.not_mem_nil, or_false] at hp; rw [hp])
  exact ok_law ft F cb c__law_right c__law_says c_free_many
theorem at_law {w : World} {h : Heap} {K : PySem.W.Frag} {mg : Str → Option Value} {fa_ : Addr} (c : He.SaysX fa fn [] tf exB w h K) (X : K.In h) (G : h.Ns mainGlobals mg) (hfa : mg ("law" : Str) = some (.ref fa_)) :
    LamX.LawAtS PySem.Challenge.rw_nocarry_k08_whole_numbers_that_share_not w K (L2.CX (PySem.Challenge.rw_nocarry_k08_whole_numbers_that_share_not).prog w) 10 63 "script" mg fa_ h := by
  obtain ⟨fd, F⟩ := (c.t.d.def_ 41 (d := dd_law) rfl)
  have e := hfa.symm.trans (He.glo_ok X G (fact (i := 41) c))
  cases e
  have b := FunD.bindsA (ps := ["script"]) F fun _ _ _ _ _ _ us hl => match us, hl with | [_], _ => rfl
  refine ⟨fd, tf.map (He.cT K), spLaw ⟨K, mg, tabs K⟩, fun p hp => ?_, fun p hp => ?_, fun p hp => ?_, fun s u => b s [u] rfl, fun H a ns hl hb hT hS => ?_, fun base KB GB TB => chain _ c X G TB F⟩
  · obtain ⟨q, hq, rfl⟩ := List.mem_map.mp hp
    exact c.empty q hq
  · obtain ⟨q, hq, rfl⟩ := List.mem_map.mp hp
    exact c.out q hq
  · obtain ⟨q, hq, rfl⟩ := List.mem_map.mp hp
    exact PySem.W.codeHd_of_K X (c.hd q hq)
  · refine ⟨a, ns, rfl, hS, hl, hb, fun p hp => ?_, fun _ => rfl⟩
    simp only [tabs, List.mem_cons, List.not_mem_nil, or_false] at hp
    rcases hp with rfl
    · exact LamX.TabS.nil (hT _ (List.mem_map.mpr ⟨("_law_right", none), by simp [tf], rfl⟩))
end LW
open PySem PySem.W PySem.Calls PyProof.Rows
set_option maxHeartbeats 0 in
theorem PySem.Challenge.cw_nocarry_k08_whole_numbers_that_share_not_holds : PySem.Challenge.rw_nocarry_k08_whole_numbers_that_share_not.Holds := by
  w_on; o_law
  refine HandSHeadRun.head_any (r := OpenLaw.row PySem.Challenge.rw_nocarry_k08_whole_numbers_that_share_not) (q := view (OpenLaw.row PySem.Challenge.rw_nocarry_k08_whole_numbers_that_share_not).prog [57]) (H := LW.hk) (ob := LW.ob) (M := 4000) (loose := LW.loose) (d := HandSHeadRun.topDef (OpenLaw.row PySem.Challenge.rw_nocarry_k08_whole_numbers_that_share_not).prog 57) (kwd := []) LW.ob_eq
    (by kernel_rfl) (fun s => by kernel_rfl) LW.run (by kernel_rfl) (by kernel_rfl) (by kernel_rfl) (by rfl) (by first | assumption | decide +kernel) (by decide +kernel) ⟨rfl, rfl, rfl, rfl, rfl, by decide +kernel⟩ ?hw ?hc
  case hw => w_witness2
  case hc =>
    refine LamX.walk_ofTsE (l := PySem.Challenge.rw_nocarry_k08_whole_numbers_that_share_not) (n := 63) (k := 10) (x := "script") (CX := fun w => L2.CX (PySem.Challenge.rw_nocarry_k08_whole_numbers_that_share_not).prog w) rfl (by decide) (by kernel_rfl) ⟨rfl, by decide, by decide⟩ ?F ?C
    case C =>
      intro w H s e s' z
      obtain ⟨_, _, _, _, _, _, _, _, _, _, _, _, z⟩ := z
      exact z
    case F =>
      intro w mg fa_ h Y G hmg0
      obtain ⟨K, KX, c⟩ := Y
      have hmg : mg ("law" : PySem.Str) = some (.ref fa_) := by
        have e : (HandSHeadRun.topDef (OpenLaw.row PySem.Challenge.rw_nocarry_k08_whole_numbers_that_share_not).prog 57).name = ("law" : PySem.Str) := by kernel_rfl
        rw [← e]
        exact hmg0
      exact ⟨K, KX, LW.at_law c KX G hmg⟩
