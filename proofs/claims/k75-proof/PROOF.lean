import PyProof.Rows.All
import Wide.All
import OpenK.AllK
import Wide.FinOn
import PySem.Challenge.RW_wordhomes_k75_logs_read
import Open.SpecLaws
import KE.OsGo
import HandS.ForMost
import HandS.ForExc
import HandS.Flow
import HandS.Small
import HandS.TryMany
import HandS.ExcOwn
import HandS.Zip
import HandS.WordsExc
import HandS.Comp
import HandS.TupAny
import HandS.Deep
import HandS.TupLe
import HandS.IsInst
import PyProof.P3In
import PyProof.ReprRoads
import HandS.ExcInit
import HandS.ExcField
import HandS.ExcSuper
import KE.KExcSuper
import HandS.RaiseMore
import HandS.Star
import HandS.Text
import HandS.HotCalls
import HandS.Iter
import PyProof.StrLoop
import HandS.ExcCtx
import HandS.ExcInitHot
import HandS.Style
import HandS.More
import PyProof.ListStr
import PyProof.StrLawsTight
import PyProof.StrLawsIn
import PyProof.StrLawsChain
import KE.IntTextLaws
import KE.KIntText
import PyProof.StrLawsRepr
import PyProof.ReprLen
import PyProof.Rows.ReprOcc
set_option Elab.async false
set_option linter.all false
set_option maxRecDepth 100000
set_option maxHeartbeats 4000000
namespace DZ
open PySem PySem.Spec L2
open PyProof.Rows hiding St

/-! ### what the evaluator computes with -/
/-- a slot: frozen data, an owned list or dict, an owned instance -/
inductive SV where
  | fz (d : PyData) | ow (d : PyData) | ob (c : Str) (fs : List (Str × PyData)) | sc (d : PyData)
/-- an expression's value: frozen data, a new list or dict, a new instance, what stands in slot i, an object of the written part -/
inductive RV where
  | fz (d : PyData) | ow (d : PyData) | ob (c : Str) (fs : List (Str × PyData)) | br (i : Nat) | gl (d : PyData)
abbrev Env := List (Option SV)
structure Exn where
  c : Str
  fs : List (Str × PyData)
inductive Out (α : Type) where
  | ok (a : α) (Γ : Env) | ex (e : Exn) (Γ : Env) | no
abbrev M (α : Type) := Env → Out α
def Out.bind {α β : Type} (x : Out α) (f : α → Env → Out β) : Out β := match x with
  | .ok a Γ => f a Γ
  | .ex e Γ => .ex e Γ
  | .no => .no
def slotD (Γ : Env) (i : Nat) : Option PyData := match Γ[i]? with
  | some (some (.fz d)) => some d
  | some (some (.ow d)) => some d
  | _ => none
/-- the value looked at, as it stands -/
def peek (Γ : Env) : RV → Option PyData
  | .fz d => some d
  | .ow d => some d
  | .gl d => some d
  | .ob _ _ => none
  | .br i => slotD Γ i
/-- the value as frozen data: what was owned is given up -/
def frz (r : RV) : M PyData := fun Γ => match r with
  | .fz d => .ok d Γ
  | .ow d => .ok d Γ
  | .gl _ => .no
  | .ob _ _ => .no
  | .br i => match Γ[i]? with
    | some (some (.fz d)) => .ok d Γ
    | some (some (.ow d)) => .ok d (Γ.set i (some (.fz d)))
    | _ => .no

/-! ### how it lies -/
def keyD : Key → PyData
  | .inl i => .int i
  | .inr s => .str s
mutual
inductive Rp (I : Hp) : V → PyData → Prop
  | non : Rp I .non .none
  | bl (b : Bool) : Rp I (.bl b) (.bool b)
  | int (i : Int) : Rp I (.int i) (.int i)
  | str (x : Str) : Rp I (.str x) (.str x)
  | lst {a : Addr} {xs : List V} {ds : List PyData} : I a = some (.lst xs) → RpAll I xs ds → Rp I (.ref a) (.list ds)
  | tup {a : Addr} {xs : List V} {ds : List PyData} : I a = some (.tup xs) → RpAll I xs ds → Rp I (.ref a) (.tuple ds)
  | dK {a : Addr} {kvs : List (Key × V)} {es : List (PyData × PyData)} : Rd I a (.dK kvs) → RpK I kvs es → Rp I (.ref a) (.dict es)
  | dT {a : Addr} {kvs : List (List Key × V)} {es : List (PyData × PyData)} : Rd I a (.dT kvs) → RpT I kvs es → Rp I (.ref a) (.dict es)
inductive RpAll (I : Hp) : List V → List PyData → Prop
  | nil : RpAll I [] []
  | cons {v : V} {vs : List V} {d : PyData} {ds : List PyData} : Rp I v d → RpAll I vs ds → RpAll I (v :: vs) (d :: ds)
inductive RpK (I : Hp) : List (Key × V) → List (PyData × PyData) → Prop
  | nil : RpK I [] []
  | cons {k : Key} {v : V} {r : List (Key × V)} {d : PyData} {es : List (PyData × PyData)} : Rp I v d → RpK I r es → RpK I ((k, v) :: r) ((keyD k, d) :: es)
inductive RpT (I : Hp) : List (List Key × V) → List (PyData × PyData) → Prop
  | nil : RpT I [] []
  | cons {k : List Key} {v : V} {r : List (List Key × V)} {d : PyData} {es : List (PyData × PyData)} : Rp I v d → RpT I r es → RpT I ((k, v) :: r) ((.tuple (k.map keyD), d) :: es)
end
theorem rd_same {I I' : Hp} (s : Same I I') {a : Addr} {o : HO} : Rd I a o → Rd I' a o
  | .inl h => .inl (s _ _ h)
  | .inr ⟨ob, h⟩ => .inr ⟨ob, s _ _ h⟩
mutual
theorem Rp.mono {I I' : Hp} (s : Same I I') : ∀ {v : V} {d : PyData}, Rp I v d → Rp I' v d
  | _, _, .non => .non
  | _, _, .bl b => .bl b
  | _, _, .int i => .int i
  | _, _, .str x => .str x
  | _, _, .lst h r => .lst (s _ _ h) (RpAll.mono s r)
  | _, _, .tup h r => .tup (s _ _ h) (RpAll.mono s r)
  | _, _, .dK h r => .dK (rd_same s h) (RpK.mono s r)
  | _, _, .dT h r => .dT (rd_same s h) (RpT.mono s r)
theorem RpAll.mono {I I' : Hp} (s : Same I I') : ∀ {v : List V} {d : List PyData}, RpAll I v d → RpAll I' v d
  | _, _, .nil => .nil
  | _, _, .cons h r => .cons (Rp.mono s h) (RpAll.mono s r)
theorem RpK.mono {I I' : Hp} (s : Same I I') : ∀ {v : List (Key × V)} {d : List (PyData × PyData)}, RpK I v d → RpK I' v d
  | _, _, .nil => .nil
  | _, _, .cons h r => .cons (Rp.mono s h) (RpK.mono s r)
theorem RpT.mono {I I' : Hp} (s : Same I I') : ∀ {v : List (List Key × V)} {d : List (PyData × PyData)}, RpT I v d → RpT I' v d
  | _, _, .nil => .nil
  | _, _, .cons h r => .cons (Rp.mono s h) (RpT.mono s r)
end
theorem RpAll.length {I : Hp} : ∀ {vs : List V} {ds : List PyData}, RpAll I vs ds → vs.length = ds.length
  | _, _, .nil => rfl
  | _, _, .cons _ r => congrArg (· + 1) r.length
theorem RpAll.append {I : Hp} : ∀ {vs ws : List V} {ds es : List PyData}, RpAll I vs ds → RpAll I ws es → RpAll I (vs ++ ws) (ds ++ es)
  | _, _, _, _, .nil, q => q
  | _, _, _, _, .cons h r, q => .cons h (r.append q)
theorem RpAll.get {I : Hp} : ∀ {vs : List V} {ds : List PyData} {i : Nat} {d : PyData}, RpAll I vs ds → ds[i]? = some d → ∃ v, vs[i]? = some v ∧ Rp I v d
  | _, _, _, _, .nil, h => by simp at h
  | _, _, 0, _, .cons h r, e => by simp at e; subst e; exact ⟨_, rfl, h⟩
  | _, _, i + 1, d, .cons h r, e => by
    obtain ⟨v, e1, e2⟩ := r.get (i := i) (d := d) (by simpa using e)
    exact ⟨v, by simpa using e1, e2⟩
theorem RpAll.set {I : Hp} {v : V} {d : PyData} (q : Rp I v d) : ∀ {vs : List V} {ds : List PyData} (i : Nat), RpAll I vs ds → RpAll I (vs.set i v) (ds.set i d)
  | _, _, _, .nil => .nil
  | _, _, 0, .cons _ r => .cons q r
  | _, _, i + 1, .cons h r => .cons h (r.set q i)
theorem RpAll.take {I : Hp} : ∀ {vs : List V} {ds : List PyData} (n : Nat), RpAll I vs ds → RpAll I (vs.take n) (ds.take n)
  | _, _, 0, _ => .nil
  | _, _, _ + 1, .nil => .nil
  | _, _, n + 1, .cons h r => .cons h (r.take n)
theorem RpAll.drop {I : Hp} : ∀ {vs : List V} {ds : List PyData} (n : Nat), RpAll I vs ds → RpAll I (vs.drop n) (ds.drop n)
  | _, _, 0, r => r
  | _, _, _ + 1, .nil => .nil
  | _, _, n + 1, .cons _ r => r.drop n

/-- an owned object's content -/
inductive Ob (I : Hp) : HO → PyData → Prop
  | lst {xs : List V} {ds : List PyData} : RpAll I xs ds → Ob I (.lst xs) (.list ds)
  | dK {kvs : List (Key × V)} {es : List (PyData × PyData)} : RpK I kvs es → Ob I (.dK kvs) (.dict es)
  | dT {kvs : List (List Key × V)} {es : List (PyData × PyData)} : RpT I kvs es → Ob I (.dT kvs) (.dict es)
theorem Ob.mono {I I' : Hp} (s : Same I I') {o : HO} {d : PyData} : Ob I o d → Ob I' o d
  | .lst r => .lst (r.mono s)
  | .dK r => .dK (r.mono s)
  | .dT r => .dT (r.mono s)
/-- an instance's attributes -/
def Fs (I : Hp) : List (Str × V) → List (Str × PyData) → Prop := Paired fun p q => p.1 = q.1 ∧ Rp I p.2 q.2
theorem Fs.mono {I I' : Hp} (s : Same I I') : ∀ {p : List (Str × V)} {q : List (Str × PyData)}, Fs I p q → Fs I' p q
  | _, _, .nil => .nil
  | _, _, .cons h r => .cons ⟨h.1, h.2.mono s⟩ (Fs.mono s r)
structure InsAt (mg : Str → Option Value) (I H : Hp) (a : Addr) (c : Str) (fs : List (Str × PyData)) : Prop where
  ex : ∃ C dx fv, mg c = some (.ref C) ∧ H a = some (.ins C dx fv) ∧ H dx = some (.own a) ∧ I dx = none ∧ Fs I fv fs
  fr : I a = none
structure OwnAt (I H : Hp) (a : Addr) (d : PyData) : Prop where
  ex : ∃ o, H a = some o ∧ Ob I o d
  fr : I a = none
/-- a list that stands still, its items flat -/
def ScOk (I : Hp) (v : V) (d : PyData) : Prop := ∃ a xs ds, v = .ref a ∧ d = .list ds ∧ Rd I a (.lst xs) ∧ ∀ J, RpAll J xs ds
theorem ScOk.mono {I I' : Hp} (s : Same I I') {v : V} {d : PyData} (h : ScOk I v d) : ScOk I' v d := by
  obtain ⟨a, xs, ds, h1, h2, h3, h4⟩ := h
  exact ⟨a, xs, ds, h1, h2, rd_same s h3, h4⟩
def SVok (mg : Str → Option Value) (I H : Hp) (v : V) : SV → Prop
  | .fz d => Rp I v d
  | .sc d => ScOk I v d
  | .ow d => ∃ a, v = .ref a ∧ OwnAt I H a d
  | .ob c fs => ∃ a, v = .ref a ∧ InsAt mg I H a c fs
def SV.own : SV → Bool
  | .fz _ => false
  | .ow _ => true
  | .ob _ _ => true
  | .sc _ => false
/-- the slot's address is its own -/
def isOwn (Γ : Env) (i : Nat) : Prop := ∃ sv, Γ[i]? = some (some sv) ∧ sv.own = true
def ownA (σ : St) (Γ : Env) (a : Addr) : Prop := ∃ i, isOwn Γ i ∧ σ[i]? = some (some (.ref a))
structure Rep (mg : Str → Option Value) (I H : Hp) (σ : St) (Γ : Env) : Prop where
  same : Same I H
  slot : ∀ (i : Nat) (sv : SV), Γ[i]? = some (some sv) → ∃ v, σ[i]? = some (some v) ∧ SVok mg I H v sv
  inj : ∀ (i j : Nat) (a : Addr), i ≠ j → isOwn Γ i → isOwn Γ j → σ[i]? = some (some (.ref a)) → σ[j]? ≠ some (some (.ref a))
  len : Γ.length = σ.length
/-- from one heap to a later one: O may have changed, all else is as it was -/
structure Stp (O : Addr → Prop) (I H I' H' : Hp) : Prop where
  inc : Same I I'
  keep : ∀ a o, ¬ O a → H a = some o → H' a = some o
  dom : ∀ a, H' a = none → H a = none
  new : ∀ a o, I' a = some o → I a = some o ∨ H a = none ∨ O a
def Les (Γ Γ' : Env) : Prop := Γ'.length = Γ.length ∧ ∀ i : Nat, isOwn Γ' i → isOwn Γ i
def RVok (mg : Str → Option Value) (K : PySem.W.Frag) (I H Hb : Hp) (σ : St) (v : V) : RV → Prop
  | .fz d => Rp I v d
  | .ow d => ∃ a, v = .ref a ∧ OwnAt I H a d ∧ Hb a = none
  | .ob c fs => ∃ a, v = .ref a ∧ InsAt mg I H a c fs ∧ Hb a = none
  | .br i => σ[i]? = some (some v)
  | .gl d => (∃ a xs ds, v = .ref a ∧ d = .tuple ds ∧ SqT K (fun _ => none) a xs ∧ ∀ J, RpAll J xs ds) ∨ ScOk I v d
end DZ

set_option maxRecDepth 100000
set_option maxHeartbeats 4000000
namespace DZ
open PySem PySem.Spec L2
open PyProof.Rows hiding St

/-! ### steps of heaps -/
theorem Stp.refl {O : Addr → Prop} {I H : Hp} : Stp O I H I H := ⟨Same.refl I, fun _ _ _ h => h, fun _ h => h, fun _ _ h => .inl h⟩
theorem Stp.trans {O O2 : Addr → Prop} {I H I1 H1 I2 H2 : Hp} (a : Stp O I H I1 H1) (b : Stp O2 I1 H1 I2 H2) (h : ∀ x, O2 x → O x ∨ H x = none) : Stp O I H I2 H2 where
  inc := a.inc.trans b.inc
  keep := fun x o nx e => b.keep x o (fun o2 => by
    rcases h x o2 with z | z
    · exact nx z
    · rw [e] at z; cases z) (a.keep x o nx e)
  dom := fun x e => a.dom x (b.dom x e)
  new := fun x o e => by
    rcases b.new x o e with z | z | z
    · exact a.new x o z
    · exact .inr (.inl (a.dom x z))
    · rcases h x z with q | q
      · exact .inr (.inr q)
      · exact .inr (.inl q)
theorem Stp.mono {O O2 : Addr → Prop} {I H I1 H1 : Hp} (a : Stp O I H I1 H1) (h : ∀ x, O x → O2 x) : Stp O2 I H I1 H1 :=
  ⟨a.inc, fun x o nx e => a.keep x o (fun z => nx (h x z)) e, a.dom, fun x o e => (a.new x o e).imp id (.imp id (h x))⟩
theorem same_new {H : Hp} {p : Addr} {o : HO} (np : H p = none) : Same H (upd H p o) := fun b u e => by rw [upd_ne (ne_of_none e np)]; exact e
theorem same_none {I H : Hp} (s : Same I H) {p : Addr} (h : H p = none) : I p = none := by
  cases e : I p with
  | none => rfl
  | some o => rw [s p o e] at h; cases h
/-- a new object, not frozen -/
theorem Stp.newO {O : Addr → Prop} {I H : Hp} {p : Addr} {o : HO} (np : H p = none) : Stp O I H I (upd H p o) where
  inc := Same.refl I
  keep := fun x u _ e => same_new np x u e
  dom := fun x e => by
    by_cases hx : x = p
    · subst hx; exact np
    · rw [upd_ne hx] at e; exact e
  new := fun _ _ e => .inl e
/-- a new object, frozen at once -/
theorem Stp.newF {O : Addr → Prop} {I H : Hp} {p : Addr} {o : HO} (s : Same I H) (np : H p = none) : Stp O I H (upd I p o) (upd H p o) where
  inc := same_new (same_none s np)
  keep := fun x u _ e => same_new np x u e
  dom := (Stp.newO (O := O) (I := I) np).dom
  new := fun x u e => by
    by_cases hx : x = p
    · subst hx; exact .inr (.inl np)
    · rw [upd_ne hx] at e; exact .inl e
theorem same_upd2 {I H : Hp} {p : Addr} {o : HO} (s : Same I H) : Same (upd I p o) (upd H p o) := fun b u e => by
  by_cases hb : b = p
  · subst hb; rw [upd_same] at e ⊢; exact e
  · rw [upd_ne hb] at e ⊢; exact s b u e

/-! ### environments -/
section
variable {mg : Str → Option Value} {K : PySem.W.Frag} {I H I1 H1 I2 H2 Hb : Hp} {σ : St} {Γ Γ1 Γ2 : Env}
theorem Les.refl : Les Γ Γ := ⟨rfl, fun _ h => h⟩
theorem Les.trans (a : Les Γ Γ1) (b : Les Γ1 Γ2) : Les Γ Γ2 := ⟨b.1.trans a.1, fun i h => a.2 i (b.2 i h)⟩
theorem Les.own (a : Les Γ Γ1) {x : Addr} (h : ownA σ Γ1 x) : ownA σ Γ x := let ⟨i, h1, h2⟩ := h; ⟨i, a.2 i h1, h2⟩
theorem Rep.dom (r : Rep mg I H σ Γ) {x : Addr} (h : ownA σ Γ x) : ∃ o, H x = some o ∧ I x = none := by
  obtain ⟨i, ⟨sv, e1, e2⟩, e3⟩ := h
  obtain ⟨v, e4, ok⟩ := r.slot i sv e1
  rw [e3] at e4
  cases e4
  cases sv with
  | fz d => cases e2
  | sc d => cases e2
  | ow d =>
    obtain ⟨a, ea, ⟨o, q1, _⟩, fr⟩ := ok
    cases ea
    exact ⟨o, q1, fr⟩
  | ob c fs =>
    obtain ⟨a, ea, ⟨C, dx, fv, _, q1, _⟩, fr⟩ := ok
    cases ea
    exact ⟨_, q1, fr⟩
/-- what stands in an owned slot is kept, where its object is not among those that change -/
theorem InsAt.stp {O : Addr → Prop} {a : Addr} {c : Str} {fs : List (Str × PyData)} (i : InsAt mg I H a c fs) (s : Stp O I H I1 H1) (n : ¬ O a) (no : ∀ x y, O x → H x ≠ some (.own y)) : InsAt mg I1 H1 a c fs := by
  obtain ⟨⟨C, dx, fv, e1, e2, e3, e4, e5⟩, fr⟩ := i
  have ndx : ¬ O dx := fun z => no dx a z e3
  refine ⟨⟨C, dx, fv, e1, s.keep _ _ n e2, s.keep _ _ ndx e3, ?_, e5.mono s.inc⟩, ?_⟩
  · cases q : I1 dx with
    | none => rfl
    | some o =>
      rcases s.new dx o q with z | z | z
      · rw [e4] at z; cases z
      · rw [e3] at z; cases z
      · exact absurd z ndx
  · cases q : I1 a with
    | none => rfl
    | some o =>
      rcases s.new a o q with z | z | z
      · rw [fr] at z; cases z
      · rw [e2] at z; cases z
      · exact absurd z n
theorem OwnAt.stp {O : Addr → Prop} {a : Addr} {d : PyData} (i : OwnAt I H a d) (s : Stp O I H I1 H1) (n : ¬ O a) : OwnAt I1 H1 a d := by
  obtain ⟨⟨o, e1, e2⟩, fr⟩ := i
  refine ⟨⟨o, s.keep _ _ n e1, e2.mono s.inc⟩, ?_⟩
  cases q : I1 a with
  | none => rfl
  | some o =>
    rcases s.new a o q with z | z | z
    · rw [fr] at z; cases z
    · rw [e1] at z; cases z
    · exact absurd z n
/-- owned objects are no dicts of instances -/
theorem Rep.noOwn (r : Rep mg I H σ Γ) : ∀ x y, ownA σ Γ x → H x ≠ some (.own y) := by
  rintro x y ⟨i, ⟨sv, e1, e2⟩, e3⟩ z
  obtain ⟨v, e4, ok⟩ := r.slot i sv e1
  rw [e3] at e4
  cases e4
  cases sv with
  | fz d => cases e2
  | sc d => cases e2
  | ow d =>
    obtain ⟨a, ea, ⟨o, q1, q2⟩, fr⟩ := ok
    cases ea
    rw [z] at q1; cases q1
    cases q2
  | ob c fs =>
    obtain ⟨a, ea, ⟨C, dx, fv, _, q1, _⟩, fr⟩ := ok
    cases ea
    rw [z] at q1; cases q1
/-- nothing that is owned changed -/
theorem Rep.stp0 (r : Rep mg I H σ Γ) (s : Stp (fun _ => False) I H I1 H1) (sm : Same I1 H1) : Rep mg I1 H1 σ Γ where
  same := sm
  slot := fun i sv e => by
    obtain ⟨v, e1, ok⟩ := r.slot i sv e
    refine ⟨v, e1, ?_⟩
    cases sv with
    | fz d => exact Rp.mono s.inc ok
    | sc d => exact ScOk.mono s.inc ok
    | ow d => obtain ⟨a, ea, q⟩ := ok; exact ⟨a, ea, q.stp s id⟩
    | ob c fs => obtain ⟨a, ea, q⟩ := ok; exact ⟨a, ea, q.stp s id fun _ _ z => z.elim⟩
  inj := r.inj
  len := r.len
structure Ep (mg : Str → Option Value) (σ : St) (I H : Hp) (Γ : Env) (I' H' : Hp) (Γ' : Env) : Prop where
  stp : Stp (ownA σ Γ) I H I' H'
  rep : Rep mg I' H' σ Γ'
  les : Les Γ Γ'
theorem Ep.refl (r : Rep mg I H σ Γ) : Ep mg σ I H Γ I H Γ := ⟨Stp.refl, r, Les.refl⟩
theorem Ep.trans (a : Ep mg σ I H Γ I1 H1 Γ1) (b : Ep mg σ I1 H1 Γ1 I2 H2 Γ2) : Ep mg σ I H Γ I2 H2 Γ2 :=
  ⟨a.stp.trans b.stp fun x h => .inl (a.les.own h), b.rep, a.les.trans b.les⟩
/-- a step that changes nothing owned -/
theorem Ep.step (r : Rep mg I H σ Γ) (s : Stp (fun _ => False) I H I1 H1) (sm : Same I1 H1) : Ep mg σ I H Γ I1 H1 Γ := ⟨s.mono fun _ h => h.elim, r.stp0 s sm, Les.refl⟩
theorem Ep.newO (r : Rep mg I H σ Γ) {p : Addr} {o : HO} (np : H p = none) : Ep mg σ I H Γ I (upd H p o) Γ :=
  Ep.step r (Stp.newO np) (r.same.trans (same_new np))
theorem Ep.newF (r : Rep mg I H σ Γ) {p : Addr} {o : HO} (np : H p = none) : Ep mg σ I H Γ (upd I p o) (upd H p o) Γ :=
  Ep.step r (Stp.newF r.same np) (same_upd2 r.same)
/-- a value stays good while another expression is evaluated -/
theorem RVok.later {v : V} {rv : RV} (hb : ∀ x, ownA σ Γ1 x → Hb x ≠ none) (no : Rep mg I1 H1 σ Γ1) (ok : RVok mg K I1 H1 Hb σ v rv) (e : Ep mg σ I1 H1 Γ1 I2 H2 Γ2) : RVok mg K I2 H2 Hb σ v rv := by
  cases rv with
  | fz d => exact Rp.mono e.stp.inc ok
  | ow d => obtain ⟨a, ea, q, f⟩ := ok; exact ⟨a, ea, q.stp e.stp fun z => hb a z f, f⟩
  | ob c fs => obtain ⟨a, ea, q, f⟩ := ok; exact ⟨a, ea, q.stp e.stp (fun z => hb a z f) no.noOwn, f⟩
  | br i => exact ok
  | gl d => exact ok.imp id (ScOk.mono e.stp.inc)
theorem RVok.base {v : V} {rv : RV} {Hc : Hp} (ok : RVok mg K I H Hb σ v rv) (h : ∀ x, Hb x = none → Hc x = none) : RVok mg K I H Hc σ v rv := by
  cases rv with
  | fz d => exact ok
  | ow d => obtain ⟨a, ea, q, f⟩ := ok; exact ⟨a, ea, q, h a f⟩
  | ob c fs => obtain ⟨a, ea, q, f⟩ := ok; exact ⟨a, ea, q, h a f⟩
  | br i => exact ok
  | gl d => exact ok
theorem Ep.owned (r : Rep mg I H σ Γ) (e : Ep mg σ I H Γ I1 H1 Γ1) : ∀ x, ownA σ Γ1 x → H x ≠ none := fun x h z => by
  obtain ⟨o, q, _⟩ := r.dom (e.les.own h)
  rw [q] at z; cases z

/-! ### a value read -/
def Lk (K : PySem.W.Frag) (I H : Hp) (v : V) : PyData → Prop
  | .none => v = .non
  | .bool b => v = .bl b
  | .int i => v = .int i
  | .str s => v = .str s
  | .list ds => ∃ a xs, v = .ref a ∧ SqL K H a xs ∧ RpAll I xs ds
  | .tuple ds => ∃ a xs, v = .ref a ∧ SqT K H a xs ∧ RpAll I xs ds
  | .dict es => ∃ a, v = .ref a ∧ ((∃ kvs, Rd H a (.dK kvs) ∧ RpK I kvs es) ∨ ∃ kvs, Rd H a (.dT kvs) ∧ RpT I kvs es)
theorem SqT.of_none {a : Addr} {xs : List V} (h : SqT K (fun _ => none) a xs) : SqT K H a xs := by
  rcases h with h | h
  · rcases h with h | ⟨_, h⟩ <;> cases h
  · exact .inr h
theorem Rp.lk (s : Same I H) {v : V} {d : PyData} : Rp I v d → Lk K I H v d
  | .non => rfl
  | .bl _ => rfl
  | .int _ => rfl
  | .str _ => rfl
  | .lst h r => ⟨_, _, rfl, .inl (.inl (s _ _ h)), r⟩
  | .tup h r => ⟨_, _, rfl, .inl (.inl (s _ _ h)), r⟩
  | .dK h r => ⟨_, rfl, .inl ⟨_, rd_same s h, r⟩⟩
  | .dT h r => ⟨_, rfl, .inr ⟨_, rd_same s h, r⟩⟩
theorem OwnAt.lk {a : Addr} {d : PyData} (o : OwnAt I H a d) : Lk K I H (.ref a) d := by
  obtain ⟨⟨o, e1, e2⟩, _⟩ := o
  cases e2 with
  | lst r => exact ⟨_, _, rfl, .inl (.inl e1), r⟩
  | dK r => exact ⟨_, rfl, .inl ⟨_, .inl e1, r⟩⟩
  | dT r => exact ⟨_, rfl, .inr ⟨_, .inl e1, r⟩⟩
theorem SVok.lk (r : Rep mg I H σ Γ) {i : Nat} {v : V} {d : PyData} (hv : σ[i]? = some (some v)) (h : slotD Γ i = some d) : Lk K I H v d := by
  unfold slotD at h
  split at h
  · rename_i e
    cases h
    obtain ⟨v', e1, ok⟩ := r.slot i _ e
    rw [hv] at e1; cases e1
    exact Rp.lk r.same ok
  · rename_i e
    cases h
    obtain ⟨v', e1, a, rfl, ok⟩ := r.slot i _ e
    rw [hv] at e1; cases e1
    exact ok.lk
  · cases h
theorem RVok.lk (r : Rep mg I H σ Γ) {v : V} {rv : RV} {d : PyData} (ok : RVok mg K I H Hb σ v rv) (h : peek Γ rv = some d) : Lk K I H v d := by
  cases rv with
  | fz d' => cases h; exact Rp.lk r.same ok
  | ow d' => cases h; obtain ⟨a, rfl, q, _⟩ := ok; exact q.lk
  | ob c fs => cases h
  | br i => exact SVok.lk r ok h
  | gl d' =>
    cases h
    rcases ok with ⟨a, xs, ds, rfl, rfl, q, f⟩ | ⟨a, xs, ds, rfl, rfl, q, f⟩
    · exact ⟨a, xs, rfl, SqT.of_none q, f I⟩
    · exact ⟨a, xs, rfl, .inl (rd_same r.same q), f I⟩

/-! ### freezing -/
theorem isOwn_set {Γ : Env} {i j : Nat} {sv : SV} (h : isOwn (Γ.set i (some sv)) j) (hs : sv.own = false) : j ≠ i ∧ isOwn Γ j := by
  obtain ⟨s, e1, e2⟩ := h
  by_cases hj : i = j
  · subst hj
    rw [List.getElem?_set_self'] at e1
    cases q : Γ[i]? with
    | none => rw [q] at e1; cases e1
    | some z => rw [q] at e1; cases e1; rw [hs] at e2; cases e2
  · rw [List.getElem?_set_ne hj] at e1
    exact ⟨fun z => hj z.symm, s, e1, e2⟩
theorem Ob.frz {o : HO} {a : Addr} {d : PyData} (h : Ob I o d) (n : I a = none) : Rp (upd I a o) (.ref a) d := by
  have s : Same I (upd I a o) := same_new n
  cases h with
  | lst r => exact .lst upd_same (r.mono s)
  | dK r => exact .dK (.inl upd_same) (r.mono s)
  | dT r => exact .dT (.inl upd_same) (r.mono s)
def isDat : HO → Bool
  | .lst _ => true
  | .dK _ => true
  | .dT _ => true
  | _ => false
theorem Ob.dat {o : HO} {d : PyData} (h : Ob I o d) : isDat o = true := by cases h <;> rfl
/-- enough for freezing -/
def RVw (I H Hb : Hp) (σ : St) (v : V) : RV → Prop
  | .fz d => Rp I v d
  | .ow d => ∃ a o, v = .ref a ∧ H a = some o ∧ Ob I o d ∧ Hb a = none
  | .ob _ _ => True
  | .br i => σ[i]? = some (some v)
  | .gl _ => True
theorem RVok.w {v : V} {rv : RV} (ok : RVok mg K I H Hb σ v rv) : RVw I H Hb σ v rv := by
  cases rv with
  | fz d => exact ok
  | ow d => obtain ⟨a, rfl, ⟨⟨o, e1, e2⟩, fr⟩, f⟩ := ok; exact ⟨a, o, rfl, e1, e2, f⟩
  | ob c fs => trivial
  | br i => exact ok
  | gl d => trivial
theorem RVw.inc {I' : Hp} (s : Same I I') {v : V} {rv : RV} (ok : RVw I H Hb σ v rv) : RVw I' H Hb σ v rv := by
  cases rv with
  | fz d => exact Rp.mono s ok
  | ow d => obtain ⟨a, o, rfl, e1, e2, f⟩ := ok; exact ⟨a, o, rfl, e1, e2.mono s, f⟩
  | ob c fs => trivial
  | br i => exact ok
  | gl d => trivial
theorem Ob.frz0 {o : HO} {a : Addr} {d : PyData} (h : Ob I o d) (n : I a = some o) : Rp I (.ref a) d := by
  cases h with
  | lst r => exact .lst n r
  | dK r => exact .dK (.inl n) r
  | dT r => exact .dT (.inl n) r
theorem frz_ok (r : Rep mg I H σ Γ) {v : V} {rv : RV} {d : PyData} (ok : RVw I H Hb σ v rv) (hb : ∀ x, ownA σ Γ x → Hb x ≠ none) (h : frz rv Γ = .ok d Γ1) :
    ∃ I1, Rep mg I1 H σ Γ1 ∧ Les Γ Γ1 ∧ Rp I1 v d ∧ Same I I1 ∧ (∀ a o, I1 a = some o → I a = some o ∨ Hb a = none ∨ ownA σ Γ a) ∧ ∀ a o, I1 a = some o → I a = some o ∨ isDat o = true := by
  cases rv with
  | fz d' => cases h; exact ⟨I, r, Les.refl, ok, Same.refl I, fun _ _ z => .inl z, fun _ _ z => .inl z⟩
  | ob c fs => cases h
  | gl d' => cases h
  | ow d' =>
    cases h
    obtain ⟨a, o, rfl, e1, e2, f⟩ := ok
    cases fr : I a with
    | some o' =>
      have q := r.same a o' fr
      rw [e1] at q; cases q
      exact ⟨I, r, Les.refl, e2.frz0 fr, Same.refl I, fun _ _ z => .inl z, fun _ _ z => .inl z⟩
    | none =>
    have na : ¬ ownA σ Γ a := fun z => hb a z f
    have s1 : Same I (upd I a o) := same_new fr
    refine ⟨upd I a o, ⟨?_, fun i sv e => ?_, r.inj, r.len⟩, Les.refl, e2.frz fr, s1, fun b u z => ?_, fun b u z => ?_⟩
    · intro b u z
      by_cases hb : b = a
      · subst hb; rw [upd_same] at z; cases z; exact e1
      · rw [upd_ne hb] at z; exact r.same b u z
    · obtain ⟨w, q1, q2⟩ := r.slot i sv e
      refine ⟨w, q1, ?_⟩
      cases sv with
      | fz d => exact Rp.mono s1 q2
      | sc d => exact ScOk.mono s1 q2
      | ow d =>
        obtain ⟨x, rfl, ⟨o', z1, z2⟩, z3⟩ := q2
        have hx : x ≠ a := fun z => na ⟨i, ⟨_, e, rfl⟩, by rw [← z]; exact q1⟩
        exact ⟨x, rfl, ⟨o', z1, z2.mono s1⟩, by rw [upd_ne hx]; exact z3⟩
      | ob c fs =>
        obtain ⟨x, rfl, ⟨C, dx, fv, z1, z2, z3, z4, z5⟩, z6⟩ := q2
        have hx : x ≠ a := fun z => na ⟨i, ⟨_, e, rfl⟩, by rw [← z]; exact q1⟩
        have hdx : dx ≠ a := fun z => by
          rw [z, e1] at z3
          cases z3
          cases e2
        exact ⟨x, rfl, ⟨C, dx, fv, z1, z2, z3, by rw [upd_ne hdx]; exact z4, z5.mono s1⟩, by rw [upd_ne hx]; exact z6⟩
    · by_cases hb : b = a
      · subst hb; exact .inr (.inl f)
      · rw [upd_ne hb] at z; exact .inl z
    · by_cases hb : b = a
      · subst hb; rw [upd_same] at z; cases z; exact .inr e2.dat
      · rw [upd_ne hb] at z; exact .inl z
  | br i =>
    unfold frz at h
    simp only at h
    split at h
    · rename_i e
      cases h
      obtain ⟨w, q1, q2⟩ := r.slot i _ e
      have : σ[i]? = some (some v) := ok
      rw [this] at q1; cases q1
      exact ⟨I, r, Les.refl, q2, Same.refl I, fun _ _ z => .inl z, fun _ _ z => .inl z⟩
    · rename_i d' e
      cases h
      obtain ⟨w, q1, a, rfl, ⟨o, e1, e2⟩, fr⟩ := r.slot i _ e
      have hv : σ[i]? = some (some v) := ok
      rw [hv] at q1; cases q1
      have s1 : Same I (upd I a o) := same_new fr
      have hi : i < Γ.length := by
        rcases Nat.lt_or_ge i Γ.length with z | z
        · exact z
        · rw [List.getElem?_eq_none z] at e; cases e
      refine ⟨upd I a o, ⟨?_, fun j sv e' => ?_, fun j k x hjk h1 h2 => ?_, ?_⟩, ⟨by rw [List.length_set], fun j hj => (isOwn_set hj rfl).2⟩, e2.frz fr, s1, fun b u z => ?_, fun b u z => ?_⟩
      · intro b u z
        by_cases hb : b = a
        · subst hb; rw [upd_same] at z; cases z; exact e1
        · rw [upd_ne hb] at z; exact r.same b u z
      · by_cases hj : i = j
        · subst hj
          rw [List.getElem?_set_self hi] at e'
          cases e'
          exact ⟨_, hv, e2.frz fr⟩
        · rw [List.getElem?_set_ne hj] at e'
          obtain ⟨w, q1, q2⟩ := r.slot j sv e'
          refine ⟨w, q1, ?_⟩
          cases sv with
          | fz d => exact Rp.mono s1 q2
          | sc d => exact ScOk.mono s1 q2
          | ow d =>
            obtain ⟨x, rfl, ⟨o', z1, z2⟩, z3⟩ := q2
            have hx : x ≠ a := fun z => r.inj i j a hj ⟨_, e, rfl⟩ ⟨_, e', rfl⟩ hv (by rw [← z]; exact q1)
            exact ⟨x, rfl, ⟨o', z1, z2.mono s1⟩, by rw [upd_ne hx]; exact z3⟩
          | ob c fs =>
            obtain ⟨x, rfl, ⟨C, dx, fv, z1, z2, z3, z4, z5⟩, z6⟩ := q2
            have hx : x ≠ a := fun z => r.inj i j a hj ⟨_, e, rfl⟩ ⟨_, e', rfl⟩ hv (by rw [← z]; exact q1)
            have hdx : dx ≠ a := fun z => by
              rw [z, e1] at z3
              cases z3
              cases e2
            exact ⟨x, rfl, ⟨C, dx, fv, z1, z2, z3, by rw [upd_ne hdx]; exact z4, z5.mono s1⟩, by rw [upd_ne hx]; exact z6⟩
      · exact r.inj j k x hjk (isOwn_set h1 rfl).2 (isOwn_set h2 rfl).2
      · rw [List.length_set]; exact r.len
      · by_cases hb : b = a
        · subst hb; exact .inr (.inr ⟨i, ⟨_, e, rfl⟩, hv⟩)
        · rw [upd_ne hb] at z; exact .inl z
      · by_cases hb : b = a
        · subst hb; rw [upd_same] at z; cases z; exact .inr e2.dat
        · rw [upd_ne hb] at z; exact .inl z
    · cases h
/-- .. as a part of what is done from a base on -/
theorem Ep.frz {I0 H0 : Hp} {Γ0 : Env} (r0 : Rep mg I0 H0 σ Γ0) (e : Ep mg σ I0 H0 Γ0 I H Γ) {v : V} {rv : RV} {d : PyData} (ok : RVw I H H0 σ v rv) (h : frz rv Γ = .ok d Γ1) :
    ∃ I1, Ep mg σ I0 H0 Γ0 I1 H Γ1 ∧ Rp I1 v d ∧ Same I I1 ∧ ∀ a o, I1 a = some o → I a = some o ∨ isDat o = true := by
  obtain ⟨I1, r1, l1, rp, s1, nw, dt⟩ := frz_ok e.rep ok (e.owned r0) h
  refine ⟨I1, ⟨⟨e.stp.inc.trans s1, e.stp.keep, e.stp.dom, fun a o z => ?_⟩, r1, e.les.trans l1⟩, rp, s1, dt⟩
  rcases nw a o z with q | q | q
  · exact e.stp.new a o q
  · exact .inr (.inl q)
  · exact .inr (.inr (e.les.own q))
end
end DZ

set_option maxRecDepth 100000
set_option maxHeartbeats 4000000
namespace DZ
open PySem PySem.Spec L2
open PyProof.Rows hiding St

/-- an exception of the evaluator's, and how it lies: a class of the text, its fields in its dict -/
def XOk (mg : Str → Option Value) (I H : Hp) (e : Exn) (cls : Value) (d : Option Addr) : Prop :=
  mg e.c = some cls ∧ ((d = none ∧ e.fs = []) ∨ ∃ a fv, d = some a ∧ H a = some (.xd fv) ∧ Fs I fv e.fs)
/-- what is asked of a result: R of what is well, W of an exception -/
def Rs {α : Type} (mg : Str → Option Value) (W : WX) (σ : St) (I H : Hp) (Γ : Env) (o : Out α) (R : α → Env → Hp → Hp → Prop) : Prop :=
  match o with
  | .ok a Γ' => ∀ I' H', Ep mg σ I H Γ I' H' Γ' → R a Γ' I' H'
  | .ex e Γ' => ∀ cls d I' H', Ep mg σ I H Γ I' H' Γ' → XOk mg I' H' e cls d → W cls d σ H'
  | .no => False
/-- the reading of an expression, of a test, of an argument list -/
def Tm (mg : Str → Option Value) (K : PySem.W.Frag) (W : WX) (m : M RV) : TE := fun σ H Q =>
  ∃ I Γ, Rep mg I H σ Γ ∧ Rs mg W σ I H Γ (m Γ) fun rv _ I' H' => ∀ v, RVok mg K I' H' H σ v rv → Q v H'
def Tb (mg : Str → Option Value) (W : WX) (m : M Bool) : TT := fun σ H Q =>
  ∃ I Γ, Rep mg I H σ Γ ∧ Rs mg W σ I H Γ (m Γ) fun b _ _ H' => Q b H'
def RVs (mg : Str → Option Value) (K : PySem.W.Frag) (I H Hb : Hp) (σ : St) : List V → List RV → Prop := Paired (RVok mg K I H Hb σ)
def Ta (mg : Str → Option Value) (K : PySem.W.Frag) (W : WX) (m : M (List RV)) : TA := fun σ H Q =>
  ∃ I Γ, Rep mg I H σ Γ ∧ Rs mg W σ I H Γ (m Γ) fun rvs _ I' H' => ∀ vs, RVs mg K I' H' H σ vs rvs → Q vs H'
abbrev FE (X : Cx) (W : WX) (e : Expr) (m : M RV) : Prop := PE X e (Tm X.mg X.K W m)
abbrev FT (X : Cx) (W : WX) (e : Expr) (m : M Bool) : Prop := PT X e (Tb X.mg W m)
abbrev FW (X : Cx) (W : WX) (e : Expr) (m : M Bool) : Prop := PW X e (Tb X.mg W m)
structure FA (X : Cx) (W : WX) (es : List Expr) (n : Nat) (m : M (List RV)) : Prop where
  pa : PA X es (Ta X.mg X.K W m)
  len : ∀ Γ rvs Γ', m Γ = .ok rvs Γ' → rvs.length = n
theorem PE.imp {X : Cx} {e : Expr} {t t' : TE} (h : PE X e t) (i : ∀ σ H Q, t' σ H Q → t σ H Q) : PE X e t' := ⟨fun pins s σ H Q I q => h.run pins s σ H Q I (i σ H Q q)⟩
theorem PT.imp {X : Cx} {e : Expr} {t t' : TT} (h : PT X e t) (i : ∀ σ H Q, t' σ H Q → t σ H Q) : PT X e t' := ⟨fun pins s σ H Q I q => h.run pins s σ H Q I (i σ H Q q)⟩
theorem PW.imp {X : Cx} {e : Expr} {t t' : TT} (h : PW X e t) (i : ∀ σ H Q, t' σ H Q → t σ H Q) : PW X e t' := ⟨fun whole pins s σ H Q I q => h.run whole pins s σ H Q I (i σ H Q q)⟩
theorem PA.imp {X : Cx} {e : List Expr} {t t' : TA} (h : PA X e t) (i : ∀ σ H Q, t' σ H Q → t σ H Q) : PA X e t' := ⟨fun pos pins s σ H Q I q => h.run pos pins s σ H Q I (i σ H Q q)⟩

section
variable {mg : Str → Option Value} {K : PySem.W.Frag} {W : WX} {σ : St} {I H : Hp} {Γ : Env}
theorem Rs.imp {α : Type} {o : Out α} {R R' : α → Env → Hp → Hp → Prop} (h : Rs mg W σ I H Γ o R) (i : ∀ a Γ' I' H', Ep mg σ I H Γ I' H' Γ' → R a Γ' I' H' → R' a Γ' I' H') : Rs mg W σ I H Γ o R' := by
  cases o with
  | ok a Γ' => exact fun I' H' ep => i a Γ' I' H' ep (h I' H' ep)
  | ex e Γ' => exact h
  | no => exact h
/-- one thing behind another -/
theorem Rs.bind {α β : Type} {o : Out α} {f : α → Env → Out β} {R : β → Env → Hp → Hp → Prop} (h : Rs mg W σ I H Γ (o.bind f) R) :
    Rs mg W σ I H Γ o fun a Γ' I' H' => Ep mg σ I H Γ I' H' Γ' ∧ Rs mg W σ I' H' Γ' (f a Γ') fun b Γ2 I2 H2 => Ep mg σ I H Γ I2 H2 Γ2 ∧ R b Γ2 I2 H2 := by
  cases o with
  | no => exact h
  | ex e Γ' => exact h
  | ok a Γ' =>
    intro I' H' ep
    refine ⟨ep, ?_⟩
    have h : Rs mg W σ I H Γ (f a Γ') R := h
    generalize f a Γ' = q at h ⊢
    cases q with
    | no => exact h
    | ex e Γ2 => exact fun cls d I2 H2 ep2 x => h cls d I2 H2 (ep.trans ep2) x
    | ok b Γ2 => exact fun I2 H2 ep2 => ⟨ep.trans ep2, h I2 H2 (ep.trans ep2)⟩
theorem Rs.pure {α : Type} {a : α} {R : α → Env → Hp → Hp → Prop} (r : Rep mg I H σ Γ) (h : Rs mg W σ I H Γ (.ok a Γ) R) : R a Γ I H := h I H (Ep.refl r)
theorem RVs.later {Hb I1 H1 I2 H2 : Hp} {Γ1 Γ2 : Env} : ∀ {vs : List V} {rvs : List RV}, (∀ x, ownA σ Γ1 x → Hb x ≠ none) → Rep mg I1 H1 σ Γ1 → RVs mg K I1 H1 Hb σ vs rvs → Ep mg σ I1 H1 Γ1 I2 H2 Γ2 → RVs mg K I2 H2 Hb σ vs rvs
  | _, _, _, _, .nil, _ => .nil
  | _, _, hb, r, .cons h t, e => .cons (h.later hb r e) (RVs.later hb r t e)
theorem RVs.base {Hb Hc I1 H1 : Hp} : ∀ {vs : List V} {rvs : List RV}, RVs mg K I1 H1 Hb σ vs rvs → (∀ x, Hb x = none → Hc x = none) → RVs mg K I1 H1 Hc σ vs rvs
  | _, _, .nil, _ => .nil
  | _, _, .cons h t, e => .cons (h.base e) (RVs.base t e)
end

/-! ### names, constants -/
section
variable {X : Cx} {W : WX}
def mVar (i : Nat) : M RV := fun Γ => match Γ[i]? with
  | some (some (.fz d)) => .ok (.fz d) Γ
  | some (some (.sc d)) => .ok (.gl d) Γ
  | some (some _) => .ok (.br i) Γ
  | _ => .no
theorem fe_var {i : Nat} {x : Str} {pos : Pos} (hN : X.N[i]? = some x) (hv : Vis X.env.scope x) (hd : (x == ("__debug__" : Str)) = false := by decide) (hcd : (x == ("__classdict__" : Str)) = false := by decide) :
    FE X W (.Name x pos) (mVar i) := by
  refine PE.imp (pe_var hN hv hd hcd) fun σ H Q h => ?_
  obtain ⟨I, Γ, r, h⟩ := h
  unfold mVar at h
  split at h
  · rename_i d e
    obtain ⟨v, e1, ok⟩ := r.slot i _ e
    exact ⟨v, e1, h.pure r v ok⟩
  · rename_i d e
    obtain ⟨v, e1, ok⟩ := r.slot i _ e
    exact ⟨v, e1, h.pure r v (.inr ok)⟩
  · rename_i sv _ _ e
    obtain ⟨v, e1, ok⟩ := r.slot i _ e
    exact ⟨v, e1, h.pure r v e1⟩
  · exact h.elim
def mK (d : PyData) : M RV := fun Γ => .ok (.fz d) Γ
theorem fe_const {e : Expr} {v : V} {d : PyData} (h : PE X e (tC v)) (q : ∀ I, Rp I v d) : FE X W e (mK d) := by
  refine PE.imp h fun σ H Q h => ?_
  obtain ⟨I, Γ, r, h⟩ := h
  exact h.pure r v (q I)
theorem fe_int {i j pos} : FE X W (.Constant (.int i) j pos) (mK (.int i)) := fe_const pe_int fun _ => .int i
theorem fe_bl {b j pos} : FE X W (.Constant (.bool b) j pos) (mK (.bool b)) := fe_const pe_bl fun _ => .bl b
theorem fe_non {j pos} : FE X W (.Constant .none j pos) (mK .none) := fe_const pe_non fun _ => .non
theorem fe_str {x j pos} : FE X W (.Constant (.str x) j pos) (mK (.str x)) := fe_const pe_str fun _ => .str x
/-- a constant of the module: an int or a text -/
theorem fe_gint {x : Str} {i : Int} {t : Tok} {pos : Pos} (hg : Gl X x) (hm : X.mg x = some (.int i t)) (hd : (x == ("__debug__" : Str)) = false := by decide) : FE X W (.Name x pos) (mK (.int i)) :=
  fe_const (pe_glob hg hm (v := .int i) ⟨t, rfl⟩ hd) fun _ => .int i
theorem fe_gstr {x : Str} {i : Str} {t : Tok} {pos : Pos} (hg : Gl X x) (hm : X.mg x = some (.str i t)) (hd : (x == ("__debug__" : Str)) = false := by decide) : FE X W (.Name x pos) (mK (.str i)) :=
  fe_const (pe_glob hg hm (v := .str i) ⟨t, rfl⟩ hd) fun _ => .str i
def mG (d : PyData) : M RV := fun Γ => .ok (.gl d) Γ
/-- a tuple of the module, its items flat -/
theorem fe_gtup {x : Str} {a : Addr} {xs : List V} {ds : List PyData} {pos : Pos} (hg : Gl X x) (hm : X.mg x = some (.ref a)) (ht : SqT X.K (fun _ => none) a xs) (hf : ∀ J, RpAll J xs ds) (hd : (x == ("__debug__" : Str)) = false := by decide) :
    FE X W (.Name x pos) (mG (.tuple ds)) := by
  refine PE.imp (pe_glob hg hm (v := .ref a) rfl hd) fun σ H Q h => ?_
  obtain ⟨I, Γ, r, h⟩ := h
  exact h.pure r (.ref a) (.inl ⟨a, xs, ds, rfl, rfl, ht, hf⟩)
end

/-! ### operators of two values -/
section
variable {X : Cx} {W : WX}
abbrev F2 := RV → RV → PyData → PyData → Option RV
def mOp2 (f : F2) (ma mb : M RV) : M RV := fun Γ => (ma Γ).bind fun r1 Γ1 => (mb Γ1).bind fun r2 Γ2 =>
  match peek Γ2 r1, peek Γ2 r2 with
  | some d, some e => (match f r1 r2 d e with
    | some rv => .ok rv Γ2
    | none => .no)
  | _, _ => .no
/-- the values of an operator: what the library's rule r asks is had where f tells rv -/
def Op2 (X : Cx) (r : R2) (f : F2) : Prop :=
  ∀ (I H Hb : Hp) (σ : St) (Γ : Env) (v u : V) (r1 r2 rv : RV) (d e : PyData) (Q : VK), Rep X.mg I H σ Γ → (∀ x, H x = none → Hb x = none) → RVok X.mg X.K I H Hb σ v r1 → RVok X.mg X.K I H Hb σ u r2 →
    Lk X.K I H v d → Lk X.K I H u e → peek Γ r1 = some d → peek Γ r2 = some e → f r1 r2 d e = some rv →
    (∀ x I' H', Stp (fun _ => False) I H I' H' → Same I' H' → RVok X.mg X.K I' H' Hb σ x rv → Q x H') → r v u H Q
theorem tm_op2 {r : R2} {f : F2} {ma mb : M RV} (ok : Op2 X r f) : ∀ σ H Q, Tm X.mg X.K W (mOp2 f ma mb) σ H Q → tOp r (Tm X.mg X.K W ma) (Tm X.mg X.K W mb) σ H Q := by
  intro σ H Q h
  obtain ⟨I, Γ, r0, h⟩ := h
  refine ⟨I, Γ, r0, h.bind.imp fun r1 Γ1 I1 H1 _ ⟨e1, h1⟩ v ok1 => ?_⟩
  refine ⟨I1, Γ1, e1.rep, h1.bind.imp fun r2 Γ2 I2 H2 e2 ⟨_, h2⟩ u ok2 => ?_⟩
  have ok1' := ok1.later (e1.owned r0) e1.rep e2
  have ok2' : RVok X.mg X.K I2 H2 H σ u r2 := ok2.base e1.stp.dom
  split at h2
  · rename_i d e p1 p2
    split at h2
    · rename_i rv ef
      refine ok I2 H2 H σ Γ2 v u r1 r2 rv d e Q e2.rep (fun x z => e1.stp.dom x (e2.stp.dom x z)) ok1' ok2' (ok1'.lk e2.rep p1) (ok2'.lk e2.rep p2) p1 p2 ef fun x I3 H3 s sm okx => ?_
      obtain ⟨_, _, h3⟩ := h2 I3 H3 (Ep.step e2.rep s sm)
      exact h3 x okx
    · exact h2.elim
  · exact h2.elim
theorem fe_op {a b : Expr} {ma mb : M RV} {op : Operator} {pos : Pos} {r : R2} {f : F2} (ho : OpR X (binaryOp op) r) (ok : Op2 X r f) (ha : FE X W a ma) (hb : FE X W b mb) : FE X W (.BinOp a op b pos) (mOp2 f ma mb) :=
  PE.imp (pe_op ho ha hb) (tm_op2 ok)
theorem fe_cmp {a b : Expr} {ma mb : M RV} {op : CmpOp} {pos : Pos} {r : R2} {f : F2} (ho : OpR X (compareOp op) r) (ok : Op2 X r f) (ha : FE X W a ma) (hb : FE X W b mb) (hm : behindInMarks op b = false) : FE X W (.Compare a [op] [b] pos) (mOp2 f ma mb) :=
  PE.imp (pe_cmpR ho ha hb hm) (tm_op2 ok)
theorem fe_ix {a b : Expr} {ma mb : M RV} {pos : Pos} {r : R2} {f : F2} (hr : IxR X r) (ok : Op2 X r f) (ha : FE X W a ma) (hb : FE X W b mb) (hs : PlainIx b) : FE X W (.Subscript a b pos) (mOp2 f ma mb) :=
  PE.imp (pe_ix hr ha hb hs) (tm_op2 ok)
end
end DZ

set_option maxRecDepth 100000
set_option maxHeartbeats 4000000
namespace DZ
open PySem PySem.Spec L2
open PyProof.Rows hiding St

/-! ### tests -/
def truth : PyData → Option Bool
  | .none => some false
  | .bool b => some b
  | .int i => some (i != 0)
  | .str s => if s.length ≤ sizeLine then some ((s.length : Int) != 0) else none
  | .list ds => some (!ds.isEmpty)
  | .tuple ds => some (!ds.isEmpty)
  | .dict _ => none
theorem lk_truth {K : PySem.W.Frag} {I H : Hp} {v : V} {d : PyData} {b : Bool} (l : Lk K I H v d) (h : truth d = some b) : TruV K v H b := by
  cases d with
  | none => cases h; cases (show v = .non from l); rfl
  | bool c => cases h; cases (show v = .bl _ from l); rfl
  | int i => cases h; cases (show v = .int _ from l); rfl
  | str s =>
    cases (show v = .str _ from l)
    simp only [truth] at h
    split at h
    · rename_i hz
      cases h
      exact ⟨hz, rfl⟩
    · cases h
  | list ds =>
    obtain ⟨a, xs, rfl, q, r⟩ := l
    cases h
    refine .inl ⟨xs, q, ?_⟩
    cases r <;> rfl
  | tuple ds =>
    obtain ⟨a, xs, rfl, q, r⟩ := l
    cases h
    refine .inr (.inl ⟨xs, q, ?_⟩)
    cases r <;> rfl
  | dict es => cases h
section
variable {X : Cx} {W : WX} {e a b c : Expr} {rest : List Expr} {m ma mb : M RV} {ta tb tc : M Bool} {pos : Pos}
def mTruth (m : M RV) : M Bool := fun Γ => (m Γ).bind fun rv Γ1 => match (peek Γ1 rv).bind truth with
  | some b => .ok b Γ1
  | none => .no
theorem ft_truth (h : FE X W e m) (he : ∀ whole, isTrue e X.env whole = (do let v ← whole; standAt e.pos; holding [v] (truthy v))) : FT X W e (mTruth m) := by
  refine PT.imp (pt_truth h he) fun σ H Q ⟨I, Γ, r, q⟩ => ⟨I, Γ, r, q.bind.imp fun rv Γ1 I1 H1 e1 ⟨_, q1⟩ v ok => ?_⟩
  cases p : peek Γ1 rv with
  | none => rw [p] at q1; exact q1.elim
  | some d =>
    rw [p] at q1
    cases t : truth d with
    | none => simp only [Option.bind_some, t] at q1; exact q1.elim
    | some k =>
      simp only [Option.bind_some, t] at q1
      exact ⟨k, lk_truth (ok.lk e1.rep p) t, (q1.pure e1.rep).2⟩
/-- a comparison as a test -/
def mTest (m : M RV) : M Bool := fun Γ => (m Γ).bind fun rv Γ1 => match rv with
  | .fz (.bool b) => .ok b Γ1
  | _ => .no
theorem ft_test {t : TE} (h : PT X e (tTest t)) (i : ∀ σ H Q, Tm X.mg X.K W m σ H Q → t σ H Q) : FT X W e (mTest m) := by
  refine PT.imp h fun σ H Q ⟨I, Γ, r, q⟩ => i σ H _ ⟨I, Γ, r, q.bind.imp fun rv Γ1 I1 H1 e1 ⟨_, q1⟩ v ok => ?_⟩
  split at q1
  · cases ok
    exact ⟨_, rfl, (q1.pure e1.rep).2⟩
  · exact q1.elim
theorem ft_cmp {op : CmpOp} {r : R2} {f : F2} (ho : OpR X (compareOp op) r) (ok : Op2 X r f) (ha : FE X W a ma) (hb : FE X W b mb) (hm : behindInMarks op b = false) : FT X W (.Compare a [op] [b] pos) (mTest (mOp2 f ma mb)) :=
  ft_test (pt_cmpR ho ha hb hm) (tm_op2 ok)
def mNot (t : M Bool) : M Bool := fun Γ => (t Γ).bind fun b Γ1 => .ok (!b) Γ1
def mAnd (t u : M Bool) : M Bool := fun Γ => (t Γ).bind fun b Γ1 => if b = true then u Γ1 else .ok false Γ1
def mOr (t u : M Bool) : M Bool := fun Γ => (t Γ).bind fun b Γ1 => if b = true then .ok true Γ1 else u Γ1
theorem ft_not (h : FT X W a ta) : FT X W (.UnaryOp .Not a pos) (mNot ta) :=
  PT.imp (pt_not h) fun σ H Q ⟨I, Γ, r, q⟩ => ⟨I, Γ, r, q.bind.imp fun b Γ1 I1 H1 e1 ⟨_, q1⟩ => (q1.pure e1.rep).2⟩
theorem fw_and1 (h : FT X W a ta) : FW X W (.BoolOp .And [a] pos) ta := pw_and1 h
theorem fw_or1 (h : FT X W a ta) : FW X W (.BoolOp .Or [a] pos) ta := pw_or1 h
theorem fw_and (h : FT X W a ta) (k : FW X W (.BoolOp .And (b :: rest) pos) tb) : FW X W (.BoolOp .And (a :: b :: rest) pos) (mAnd ta tb) := by
  refine PW.imp (pw_and h k) fun σ H Q ⟨I, Γ, r, q⟩ => ⟨I, Γ, r, q.bind.imp fun b Γ1 I1 H1 e1 ⟨_, q1⟩ => ?_⟩
  cases b with
  | true => exact ⟨I1, Γ1, e1.rep, Rs.imp q1 fun b Γ2 I2 H2 _ z => z.2⟩
  | false => exact (q1.pure e1.rep).2
theorem fw_or (h : FT X W a ta) (k : FW X W (.BoolOp .Or (b :: rest) pos) tb) : FW X W (.BoolOp .Or (a :: b :: rest) pos) (mOr ta tb) := by
  refine PW.imp (pw_or h k) fun σ H Q ⟨I, Γ, r, q⟩ => ⟨I, Γ, r, q.bind.imp fun b Γ1 I1 H1 e1 ⟨_, q1⟩ => ?_⟩
  cases b with
  | false => exact ⟨I1, Γ1, e1.rep, Rs.imp q1 fun b Γ2 I2 H2 _ z => z.2⟩
  | true => exact (q1.pure e1.rep).2
theorem FW.ft (h : FW X W e ta) : FT X W e ta := PW.pt h

/-! ### and, or, not, if as values -/
def mAndV (ma mb : M RV) : M RV := fun Γ => (ma Γ).bind fun rv Γ1 => match (peek Γ1 rv).bind truth with
  | some true => mb Γ1
  | some false => .ok rv Γ1
  | none => .no
def mOrV (ma mb : M RV) : M RV := fun Γ => (ma Γ).bind fun rv Γ1 => match (peek Γ1 rv).bind truth with
  | some true => .ok rv Γ1
  | some false => mb Γ1
  | none => .no
theorem peek_truth {Γ : Env} {rv : RV} {k : Bool} (h : (peek Γ rv).bind truth = some k) : ∃ d, peek Γ rv = some d ∧ truth d = some k := by
  cases p : peek Γ rv with
  | none => rw [p] at h; cases h
  | some d => rw [p] at h; exact ⟨d, rfl, h⟩
theorem fe_one {op} (h : FE X W a ma) : FE X W (.BoolOp op [a] pos) ma := pe_one h
theorem fe_and (h : FE X W a ma) (k : FE X W (.BoolOp .And (b :: rest) pos) mb) : FE X W (.BoolOp .And (a :: b :: rest) pos) (mAndV ma mb) := by
  refine PE.imp (pe_andT h k) fun σ H Q ⟨I, Γ, r, q⟩ => ⟨I, Γ, r, q.bind.imp fun rv Γ1 I1 H1 e1 ⟨_, q1⟩ v ok => ?_⟩
  split at q1
  · rename_i t
    obtain ⟨d, p, t⟩ := peek_truth t
    exact ⟨true, lk_truth (ok.lk e1.rep p) t, ⟨I1, Γ1, e1.rep, Rs.imp q1 fun rv Γ2 I2 H2 _ z v ok2 => z.2 v (ok2.base e1.stp.dom)⟩⟩
  · rename_i t
    obtain ⟨d, p, t⟩ := peek_truth t
    exact ⟨false, lk_truth (ok.lk e1.rep p) t, (q1.pure e1.rep).2 v ok⟩
  · exact q1.elim
theorem fe_or (h : FE X W a ma) (k : FE X W (.BoolOp .Or (b :: rest) pos) mb) : FE X W (.BoolOp .Or (a :: b :: rest) pos) (mOrV ma mb) := by
  refine PE.imp (pe_orT h k) fun σ H Q ⟨I, Γ, r, q⟩ => ⟨I, Γ, r, q.bind.imp fun rv Γ1 I1 H1 e1 ⟨_, q1⟩ v ok => ?_⟩
  split at q1
  · rename_i t
    obtain ⟨d, p, t⟩ := peek_truth t
    exact ⟨true, lk_truth (ok.lk e1.rep p) t, (q1.pure e1.rep).2 v ok⟩
  · rename_i t
    obtain ⟨d, p, t⟩ := peek_truth t
    exact ⟨false, lk_truth (ok.lk e1.rep p) t, ⟨I1, Γ1, e1.rep, Rs.imp q1 fun rv Γ2 I2 H2 _ z v ok2 => z.2 v (ok2.base e1.stp.dom)⟩⟩
  · exact q1.elim
def mNotV (ma : M RV) : M RV := fun Γ => (ma Γ).bind fun rv Γ1 => match (peek Γ1 rv).bind truth with
  | some k => .ok (.fz (.bool (!k))) Γ1
  | none => .no
theorem fe_not (h : FE X W a ma) : FE X W (.UnaryOp .Not a pos) (mNotV ma) := by
  refine PE.imp (pe_notT h) fun σ H Q ⟨I, Γ, r, q⟩ => ⟨I, Γ, r, q.bind.imp fun rv Γ1 I1 H1 e1 ⟨_, q1⟩ v ok => ?_⟩
  split at q1
  · rename_i k t
    obtain ⟨d, p, t⟩ := peek_truth t
    exact ⟨k, lk_truth (ok.lk e1.rep p) t, (q1.pure e1.rep).2 (.bl !k) (.bl _)⟩
  · exact q1.elim
def mIte (t : M Bool) (ma mb : M RV) : M RV := fun Γ => (t Γ).bind fun c Γ1 => if c = true then ma Γ1 else mb Γ1
theorem fe_ite (hc : FT X W c tc) (ha : FE X W a ma) (hb : FE X W b mb) : FE X W (.IfExp c a b pos) (mIte tc ma mb) := by
  refine PE.imp (pe_ifExp hc ha hb) fun σ H Q ⟨I, Γ, r, q⟩ => ⟨I, Γ, r, q.bind.imp fun k Γ1 I1 H1 e1 ⟨_, q1⟩ => ?_⟩
  cases k with
  | true => exact ⟨I1, Γ1, e1.rep, Rs.imp q1 fun rv Γ2 I2 H2 _ z v ok2 => z.2 v (ok2.base e1.stp.dom)⟩
  | false => exact ⟨I1, Γ1, e1.rep, Rs.imp q1 fun rv Γ2 I2 H2 _ z v ok2 => z.2 v (ok2.base e1.stp.dom)⟩
end

/-! ### argument lists, displays -/
def mNil : M (List RV) := fun Γ => .ok [] Γ
def mCons (m : M RV) (ms : M (List RV)) : M (List RV) := fun Γ => (m Γ).bind fun r Γ1 => (ms Γ1).bind fun rs Γ2 => .ok (r :: rs) Γ2
theorem Out.bind_ok {α β : Type} {x : Out α} {f : α → Env → Out β} {b : β} {Γ' : Env} (h : x.bind f = .ok b Γ') : ∃ a Γ1, x = .ok a Γ1 ∧ f a Γ1 = .ok b Γ' := by
  cases x with
  | ok a Γ1 => exact ⟨a, Γ1, rfl, h⟩
  | ex e Γ1 => cases h
  | no => cases h
section
variable {X : Cx} {W : WX} {e : Expr} {es : List Expr} {n : Nat} {m : M RV} {ms : M (List RV)} {pos : Pos}
theorem fa_nil : FA X W [] 0 mNil := ⟨PA.imp pa_nil fun σ H Q ⟨I, Γ, r, q⟩ => q.pure r [] .nil, fun Γ rvs Γ' h => by cases h; rfl⟩
theorem fa_cons (h : FE X W e m) (hs : FA X W es n ms) (hst : starEach (e :: es) X.env = (false, eval e X.env) :: starEach es X.env := by rfl) : FA X W (e :: es) (n + 1) (mCons m ms) where
  pa := by
    refine PA.imp (pa_cons h hs.pa hst) fun σ H Q ⟨I, Γ, r, q⟩ => ⟨I, Γ, r, q.bind.imp fun rv Γ1 I1 H1 e1 ⟨_, q1⟩ v ok => ⟨I1, Γ1, e1.rep, q1.bind.imp fun rvs Γ2 I2 H2 e2 ⟨_, q2⟩ vs oks => ?_⟩⟩
    exact (q2.pure e2.rep).2.2 (v :: vs) (.cons (ok.later (e1.owned r) e1.rep e2) (oks.base e1.stp.dom))
  len := fun Γ rvs Γ' h => by
    obtain ⟨r, Γ1, _, h⟩ := Out.bind_ok h
    obtain ⟨rs, Γ2, h2, h⟩ := Out.bind_ok h
    cases h
    rw [List.length_cons, hs.len _ _ _ h2]
end
def frzs : List RV → M (List PyData)
  | [], Γ => .ok [] Γ
  | r :: rs, Γ => (frz r Γ).bind fun d Γ1 => (frzs rs Γ1).bind fun ds Γ2 => .ok (d :: ds) Γ2
theorem frz_noex {r : RV} {Γ Γ' : Env} {e : Exn} (h : frz r Γ = .ex e Γ') : False := by
  cases r with
  | fz d => cases h
  | ow d => cases h
  | ob c fs => cases h
  | gl d => cases h
  | br i =>
    unfold frz at h
    simp only at h
    split at h <;> cases h
theorem frzs_noex : ∀ {rs : List RV} {Γ Γ' : Env} {e : Exn}, frzs rs Γ = .ex e Γ' → False
  | [], _, _, _, h => by cases h
  | r :: rs, Γ, Γ', e, h => by
    unfold frzs at h
    cases q : frz r Γ with
    | no => rw [q] at h; cases h
    | ex e Γ1 => exact frz_noex q
    | ok d Γ1 =>
      rw [q] at h
      cases p : frzs rs Γ1 with
      | no => simp only [Out.bind, p] at h; cases h
      | ex e Γ2 => exact frzs_noex p
      | ok ds Γ2 => simp only [Out.bind, p] at h; cases h
section
variable {mg : Str → Option Value} {K : PySem.W.Frag} {W : WX} {σ : St} {I0 H0 : Hp} {Γ0 : Env}
theorem Ep.frzs (r0 : Rep mg I0 H0 σ Γ0) : ∀ {vs : List V} {rs : List RV} {I H : Hp} {Γ Γ1 : Env} {ds : List PyData}, Ep mg σ I0 H0 Γ0 I H Γ → Paired (RVw I H H0 σ) vs rs → DZ.frzs rs Γ = .ok ds Γ1 →
    ∃ I1, Ep mg σ I0 H0 Γ0 I1 H Γ1 ∧ RpAll I1 vs ds ∧ Same I I1 ∧ ∀ a o, I1 a = some o → I a = some o ∨ isDat o = true
  | _, _, I, _, _, _, _, e, .nil, h => by cases h; exact ⟨I, e, .nil, Same.refl I, fun _ _ z => .inl z⟩
  | _, _, I, H, Γ, Γ1, ds, e, .cons ok oks, h => by
    obtain ⟨d, Γ2, h1, h⟩ := Out.bind_ok h
    obtain ⟨ds, Γ3, h2, h⟩ := Out.bind_ok h
    cases h
    obtain ⟨I1, e1, rp, s1, dt1⟩ := e.frz r0 ok h1
    obtain ⟨I2, e2, rps, s2, dt2⟩ := Ep.frzs r0 e1 (Paired.mapP oks fun _ _ q => q.inc s1) h2
    exact ⟨I2, e2, .cons (rp.mono s2) rps, s1.trans s2, fun a o z => (dt2 a o z).elim (dt1 a o) .inr⟩
theorem RVs.w {I H Hb : Hp} {vs : List V} {rs : List RV} (h : RVs mg K I H Hb σ vs rs) : Paired (RVw I H Hb σ) vs rs := Paired.mapP h fun _ _ q => q.w
theorem Rs.bind0 {α β : Type} {I H : Hp} {Γ : Env} {o : Out α} {f : α → Env → Out β} {R : β → Env → Hp → Hp → Prop} (h : Rs mg W σ I H Γ (o.bind f) R) :
    Rs mg W σ I H Γ o fun a Γ' I' H' => Ep mg σ I H Γ I' H' Γ' ∧ Rs mg W σ I H Γ (f a Γ') R := by
  cases o with
  | no => exact h
  | ex e Γ' => exact h
  | ok a Γ' => exact fun I' H' ep => ⟨ep, h⟩
theorem Rs.re {α : Type} {I H I1 H1 : Hp} {Γ Γ1 : Env} {o : Out α} {R : α → Env → Hp → Hp → Prop} (e : Ep mg σ I H Γ I1 H1 Γ1) (h : Rs mg W σ I H Γ o R) :
    Rs mg W σ I1 H1 Γ1 o fun a Γ' I' H' => Ep mg σ I H Γ I' H' Γ' ∧ R a Γ' I' H' := by
  cases o with
  | no => exact h
  | ex x Γ' => exact fun cls d I' H' ep => h cls d I' H' (e.trans ep)
  | ok a Γ' => exact fun I' H' ep => ⟨e.trans ep, h I' H' (e.trans ep)⟩
/-- all frozen -/
theorem Rs.frzs {I H : Hp} {Γ : Env} {o : Out (List RV)} {β : Type} {f : List PyData → Env → Out β} {R : β → Env → Hp → Hp → Prop} (r : Rep mg I H σ Γ) (h : Rs mg W σ I H Γ (o.bind fun rs Γ1 => (DZ.frzs rs Γ1).bind f) R) :
    Rs mg W σ I H Γ o fun rs Γ1 I1 H1 => ∀ vs, RVs mg K I1 H1 H σ vs rs → ∃ ds Γ2 I2, ds.length = rs.length ∧ Ep mg σ I H Γ I2 H1 Γ2 ∧ RpAll I2 vs ds ∧ Rs mg W σ I H Γ (f ds Γ2) R := by
  refine h.bind0.imp fun rs Γ1 I1 H1 _ ⟨e1, q⟩ vs oks => ?_
  cases p : DZ.frzs rs Γ1 with
  | no => rw [p] at q; exact q.elim
  | ex e Γ2 => exact (frzs_noex p).elim
  | ok ds Γ2 =>
    rw [p] at q
    obtain ⟨I2, e2, rps, s2, _⟩ := e1.frzs r oks.w p
    exact ⟨ds, Γ2, I2, by rw [← rps.length]; exact Paired.length oks, e2, rps, q⟩
end
section
variable {X : Cx} {W : WX} {e : Expr} {es : List Expr} {n : Nat} {m : M RV} {ms : M (List RV)} {pos : Pos}
def mTup (ms : M (List RV)) : M RV := fun Γ => (ms Γ).bind fun rs Γ1 => (frzs rs Γ1).bind fun ds Γ2 => .ok (.fz (.tuple ds)) Γ2
def mLst (ms : M (List RV)) : M RV := fun Γ => (ms Γ).bind fun rs Γ1 => (frzs rs Γ1).bind fun ds Γ2 => .ok (.ow (.list ds)) Γ2
theorem fe_tup {k} (h : FA X W es n ms) (hn : n ≤ sizeLine := by decide) : FE X W (.Tuple es k pos) (mTup ms) := by
  refine PE.imp (pe_tup h.pa) fun σ H Q ⟨I, Γ, r, q⟩ => ⟨I, Γ, r, ?_⟩
  have q := q.frzs (K := X.K) r
  cases eq : ms Γ with
  | no => rw [eq] at q; exact q
  | ex e Γ1 => rw [eq] at q; exact q
  | ok rs Γ1 =>
    rw [eq] at q
    intro I1 H1 e1 vs oks
    obtain ⟨ds, Γ2, I2, el, e2, rps, z⟩ := q I1 H1 e1 vs oks
    refine ⟨by rw [Paired.length oks, h.len _ _ _ eq]; exact hn, fun p np => ?_⟩
    have e3 := e2.trans (Ep.newF e2.rep (o := .tup vs) np)
    exact z _ _ e3 (.ref p) (.tup upd_same (rps.mono (same_new (same_none e2.rep.same np))))
theorem fe_lst (h : FA X W es n ms) (hn : n ≤ sizeLine := by decide) : FE X W (.List es pos) (mLst ms) := by
  refine PE.imp (pe_lst h.pa) fun σ H Q ⟨I, Γ, r, q⟩ => ⟨I, Γ, r, ?_⟩
  have q := q.frzs (K := X.K) r
  cases eq : ms Γ with
  | no => rw [eq] at q; exact q
  | ex e Γ1 => rw [eq] at q; exact q
  | ok rs Γ1 =>
    rw [eq] at q
    intro I1 H1 e1 vs oks
    obtain ⟨ds, Γ2, I2, el, e2, rps, z⟩ := q I1 H1 e1 vs oks
    refine ⟨by rw [Paired.length oks, h.len _ _ _ eq]; exact hn, fun p np => ?_⟩
    have e3 := e2.trans (Ep.newO e2.rep (o := .lst vs) np)
    exact z _ _ e3 (.ref p) ⟨p, rfl, ⟨⟨_, upd_same, .lst rps⟩, same_none e2.rep.same np⟩, e2.stp.dom p np⟩
/-! ### built-in functions and methods -/
abbrev FN := List RV → List PyData → Option RV
def peeks (Γ : Env) : List RV → Option (List PyData)
  | [] => some []
  | r :: rs => match peek Γ r, peeks Γ rs with
    | some d, some ds => some (d :: ds)
    | _, _ => none
def Lks (K : PySem.W.Frag) (I H : Hp) : List V → List PyData → Prop := Paired (Lk K I H)
theorem RVs.lk {mg : Str → Option Value} {K : PySem.W.Frag} {σ : St} {I H Hb : Hp} {Γ : Env} (r : Rep mg I H σ Γ) : ∀ {vs : List V} {rs : List RV} {ds : List PyData}, RVs mg K I H Hb σ vs rs → peeks Γ rs = some ds → Lks K I H vs ds
  | _, _, ds, .nil, h => by cases h; exact .nil
  | _, _, ds, .cons (b := rv) (l₂ := rs) ok oks, h => by
    unfold peeks at h
    split at h
    · rename_i d ds p ps
      cases h
      exact .cons (ok.lk r p) (RVs.lk r oks ps)
    · cases h
def mBlt (f : FN) (ms : M (List RV)) : M RV := fun Γ => (ms Γ).bind fun rs Γ1 => match peeks Γ1 rs with
  | some ds => (match f rs ds with
    | some rv => .ok rv Γ1
    | none => .no)
  | none => .no
def CallOk (X : Cx) (r : List V → Hp → VK → Prop) (f : FN) : Prop :=
  ∀ (I H Hb : Hp) (σ : St) (Γ : Env) (vs : List V) (rs : List RV) (rv : RV) (ds : List PyData) (Q : VK), Rep X.mg I H σ Γ → (∀ x, H x = none → Hb x = none) → RVs X.mg X.K I H Hb σ vs rs →
    Lks X.K I H vs ds → peeks Γ rs = some ds → f rs ds = some rv → (∀ x I' H', Stp (fun _ => False) I H I' H' → Same I' H' → RVok X.mg X.K I' H' Hb σ x rv → Q x H') → r vs H Q
theorem ta_blt {r : List V → Hp → VK → Prop} {f : FN} {ms : M (List RV)} (ok : CallOk X r f) : ∀ σ H Q, Tm X.mg X.K W (mBlt f ms) σ H Q → tCB r (Ta X.mg X.K W ms) σ H Q := by
  intro σ H Q ⟨I, Γ, r0, h⟩
  refine ⟨I, Γ, r0, h.bind.imp fun rs Γ1 I1 H1 _ ⟨e1, h1⟩ vs oks => ?_⟩
  split at h1
  · rename_i ds p
    split at h1
    · rename_i rv ef
      refine ok I1 H1 H σ Γ1 vs rs rv ds Q e1.rep e1.stp.dom oks (RVs.lk e1.rep oks p) p ef fun x I3 H3 s sm okx => ?_
      exact (h1 I3 H3 (Ep.step e1.rep s sm)).2 x okx
    · exact h1.elim
  · exact h1.elim
theorem fe_callB {x : Str} {p : Pos} {id : String} {r : List V → Hp → VK → Prop} {f : FN} (hc : CallR X (.builtin id) r) (ok : CallOk X r f) (hg : Gl X x) (hm : X.mg x = none) (hv : bootBuiltins x = some (.builtin id)) (ha : FA X W (e :: es) n ms)
    (hn : x ≠ "__name__" := by decide) (hdb : (x == ("__debug__" : Str)) = false := by decide) (he : starEach (e :: es) X.env = (false, eval e X.env) :: starEach es X.env := by rfl) (hpl : (backTo pos (starEach es X.env)).any (·.1) = false := by rfl) : FE X W (.Call (.Name x p) (e :: es) [] pos) (mBlt f ms) :=
  PE.imp (pe_callB hc hg hm hv ha.pa hn hdb he hpl) (ta_blt ok)
theorem fe_callTy {x : Str} {p : Pos} {T : String} {r : List V → Hp → VK → Prop} {f : FN} (hc : CallR X (.type T) r) (ok : CallOk X r f) (hg : Gl X x) (hm : X.mg x = none) (hv : bootBuiltins x = some (.type T)) (ha : FA X W (e :: es) n ms)
    (hn : x ≠ "__name__" := by decide) (hdb : (x == ("__debug__" : Str)) = false := by decide) (he : starEach (e :: es) X.env = (false, eval e X.env) :: starEach es X.env := by rfl) (hpl : (backTo pos (starEach es X.env)).any (·.1) = false := by rfl) : FE X W (.Call (.Name x p) (e :: es) [] pos) (mBlt f ms) :=
  PE.imp (pe_callTy hc hg hm hv ha.pa hn hdb he hpl) (ta_blt ok)
end
end DZ

set_option maxRecDepth 100000
set_option maxHeartbeats 4000000
namespace DZ
open PySem PySem.Spec L2
open PyProof.Rows hiding St

inductive Fl where
  | nx (Γ : Env) | rt (rv : RV) (Γ : Env) | bk (Γ : Env) | ct (Γ : Env) | ex (e : Exn) (Γ : Env) | no
/-- an owned slot that is no handed-in one -/
def npA (P : List Nat) (σ : St) (Γ : Env) (a : Addr) : Prop := ∃ i, i ∉ P ∧ isOwn Γ i ∧ σ[i]? = some (some (.ref a))
/-- what stands behind a statement -/
structure Sq (mg : Str → Option Value) (P : List Nat) (σ : St) (I H : Hp) (Γ : Env) (σ' : St) (I' H' : Hp) (Γ' : Env) : Prop where
  stp : Stp (ownA σ Γ) I H I' H'
  rep : Rep mg I' H' σ' Γ'
  np : ∀ a, npA P σ' Γ' a → npA P σ Γ a ∨ H a = none
  pin : ∀ i ∈ P, σ'[i]? = σ[i]?
  pown : ∀ i ∈ P, isOwn Γ' i → isOwn Γ i
section
variable {mg : Str → Option Value} {P : List Nat} {σ σ1 σ2 : St} {I H I1 H1 I2 H2 : Hp} {Γ Γ1 Γ2 : Env}
theorem Sq.refl (r : Rep mg I H σ Γ) : Sq mg P σ I H Γ σ I H Γ := ⟨Stp.refl, r, fun _ h => .inl h, fun _ _ => rfl, fun _ _ h => h⟩
theorem Sq.own (s : Sq mg P σ I H Γ σ1 I1 H1 Γ1) : ∀ a, ownA σ1 Γ1 a → ownA σ Γ a ∨ H a = none := fun a ⟨i, h1, h2⟩ => by
  by_cases hp : i ∈ P
  · exact .inl ⟨i, s.pown i hp h1, by rw [← s.pin i hp]; exact h2⟩
  · rcases s.np a ⟨i, hp, h1, h2⟩ with ⟨j, _, z1, z2⟩ | z
    · exact .inl ⟨j, z1, z2⟩
    · exact .inr z
theorem Sq.trans (s : Sq mg P σ I H Γ σ1 I1 H1 Γ1) (t : Sq mg P σ1 I1 H1 Γ1 σ2 I2 H2 Γ2) : Sq mg P σ I H Γ σ2 I2 H2 Γ2 where
  stp := s.stp.trans t.stp s.own
  rep := t.rep
  np := fun a h => by
    rcases t.np a h with z | z
    · exact s.np a z
    · exact .inr (s.stp.dom a z)
  pin := fun i h => (t.pin i h).trans (s.pin i h)
  pown := fun i h z => s.pown i h (t.pown i h z)
theorem Ep.sq (e : Ep mg σ I H Γ I1 H1 Γ1) : Sq mg P σ I H Γ σ I1 H1 Γ1 :=
  ⟨e.stp, e.rep, fun a ⟨i, h1, h2, h3⟩ => .inl ⟨i, h1, e.les.2 i h2, h3⟩, fun _ _ => rfl, fun i _ h => e.les.2 i h⟩
end
/-- what is handed back -/
def RVt (mg : Str → Option Value) (I' H' H : Hp) (P : List Nat) (σ : St) (Γ : Env) (v : V) : RV → Prop
  | .fz d => Rp I' v d
  | .ow d => ∃ a, v = .ref a ∧ OwnAt I' H' a d ∧ (H a = none ∨ npA P σ Γ a)
  | .ob c fs => ∃ a, v = .ref a ∧ InsAt mg I' H' a c fs ∧ (H a = none ∨ npA P σ Γ a)
  | .br _ => False
  | .gl _ => False
def Rf (mg : Str → Option Value) (W : WX) (P : List Nat) (σ : St) (I H : Hp) (Γ : Env) (o : Fl) (D : Ends) : Prop :=
  match o with
  | .nx Γ' => ∀ σ' I' H', Sq mg P σ I H Γ σ' I' H' Γ' → D.nx σ' H'
  | .bk Γ' => ∀ σ' I' H', Sq mg P σ I H Γ σ' I' H' Γ' → D.bk σ' H'
  | .ct Γ' => ∀ σ' I' H', Sq mg P σ I H Γ σ' I' H' Γ' → D.ct σ' H'
  | .rt rv Γ' => ∀ v σ' I' H', Sq mg P σ I H Γ σ' I' H' Γ' → RVt mg I' H' H P σ Γ v rv → D.rt v H'
  | .ex e Γ' => ∀ cls d σ' I' H', Sq mg P σ I H Γ σ' I' H' Γ' → XOk mg I' H' e cls d → W cls d σ' H'
  | .no => False
def Ts (mg : Str → Option Value) (W : WX) (P : List Nat) (m : Env → Fl) : TS := fun D σ H => ∃ I Γ, Rep mg I H σ Γ ∧ Rf mg W P σ I H Γ (m Γ) D
abbrev FS (X : Cx) (W : WX) (P : List Nat) (s : Stmt) (m : Env → Fl) : Prop := PS X s (Ts X.mg W P m)
abbrev FSs (X : Cx) (W : WX) (P : List Nat) (s : List Stmt) (m : Env → Fl) : Prop := PSs X s (Ts X.mg W P m)
theorem PS.imp {X : Cx} {e : Stmt} {t t' : TS} (h : PS X e t) (i : ∀ D σ H, t' D σ H → t D σ H) : PS X e t' := ⟨fun pins s σ H D I q => h.run pins s σ H D I (i D σ H q)⟩
theorem PSs.imp {X : Cx} {e : List Stmt} {t t' : TS} (h : PSs X e t) (i : ∀ D σ H, t' D σ H → t D σ H) : PSs X e t' := ⟨fun pins s σ H D I q => h.run pins s σ H D I (i D σ H q)⟩
section
variable {mg : Str → Option Value} {W : WX} {P : List Nat} {σ σ1 : St} {I H I1 H1 : Hp} {Γ Γ1 : Env} {D D' : Ends}
theorem npA.of (s : Sq mg P σ I H Γ σ1 I1 H1 Γ1) {a : Addr} (h : H1 a = none ∨ npA P σ1 Γ1 a) : H a = none ∨ npA P σ Γ a := by
  rcases h with z | z
  · exact .inl (s.stp.dom a z)
  · exact (s.np a z).symm
theorem RVt.re {I' H' : Hp} {v : V} {rv : RV} (s : Sq mg P σ I H Γ σ1 I1 H1 Γ1) (h : RVt mg I' H' H1 P σ1 Γ1 v rv) : RVt mg I' H' H P σ Γ v rv := by
  cases rv with
  | fz d => exact h
  | ow d => obtain ⟨a, e, o, z⟩ := h; exact ⟨a, e, o, npA.of s z⟩
  | ob c fs => obtain ⟨a, e, o, z⟩ := h; exact ⟨a, e, o, npA.of s z⟩
  | br i => exact h
  | gl d => exact h
/-- from a later state on; to weaker ends -/
theorem Rf.re {o : Fl} (s : Sq mg P σ I H Γ σ1 I1 H1 Γ1) (h : Rf mg W P σ I H Γ o D) : Rf mg W P σ1 I1 H1 Γ1 o D := by
  cases o with
  | nx Γ' => exact fun σ' I' H' t => h σ' I' H' (s.trans t)
  | bk Γ' => exact fun σ' I' H' t => h σ' I' H' (s.trans t)
  | ct Γ' => exact fun σ' I' H' t => h σ' I' H' (s.trans t)
  | rt rv Γ' => exact fun v σ' I' H' t r => h v σ' I' H' (s.trans t) (r.re s)
  | ex e Γ' => exact fun cls d σ' I' H' t => h cls d σ' I' H' (s.trans t)
  | no => exact h
end
def mSkip : Env → Fl := fun Γ => .nx Γ
def mSeq (m1 m2 : Env → Fl) : Env → Fl := fun Γ => match m1 Γ with
  | .nx Γ1 => m2 Γ1
  | .rt rv Γ1 => .rt rv Γ1
  | .bk Γ1 => .bk Γ1
  | .ct Γ1 => .ct Γ1
  | .ex e Γ1 => .ex e Γ1
  | .no => .no
def Out.fl {α : Type} (o : Out α) (k : α → Env → Fl) : Fl := match o with
  | .ok a Γ1 => k a Γ1
  | .ex e Γ1 => .ex e Γ1
  | .no => .no
/-- an expression ahead of the rest of a statement -/
theorem Rf.out {α : Type} {mg : Str → Option Value} {W : WX} {P : List Nat} {σ : St} {I H : Hp} {Γ : Env} {D : Ends} {o : Out α} {k : α → Env → Fl} (h : Rf mg W P σ I H Γ (o.fl k) D) :
    Rs mg W σ I H Γ o fun a Γ1 I1 H1 => Ep mg σ I H Γ I1 H1 Γ1 ∧ Rf mg W P σ I H Γ (k a Γ1) D := by
  cases o with
  | ok a Γ1 => exact fun I1 H1 e => ⟨e, h⟩
  | ex e Γ1 => exact fun cls d I1 H1 e => h cls d σ I1 H1 e.sq
  | no => exact h
section
variable {X : Cx} {W : WX} {P : List Nat} {s : Stmt} {ss ts : List Stmt} {e : Expr} {m1 m2 : Env → Fl} {m : M RV} {t : M Bool} {pos : Pos}
theorem fs_nil : FSs X W P [] mSkip := PSs.imp pss_nil fun D σ H ⟨I, Γ, r, h⟩ => h σ I H (Sq.refl r)
theorem fs_cons (h1 : FS X W P s m1) (h2 : FSs X W P ss m2) : FSs X W P (s :: ss) (mSeq m1 m2) := by
  refine PSs.imp (pss_cons h1 h2) fun D σ H ⟨I, Γ, r, h⟩ => ⟨I, Γ, r, ?_⟩
  unfold mSeq at h
  cases q : m1 Γ with
  | nx Γ1 => rw [q] at h; exact fun σ' I' H' s => ⟨I', Γ1, s.rep, h.re s⟩
  | rt rv Γ1 => rw [q] at h; exact h
  | bk Γ1 => rw [q] at h; exact h
  | ct Γ1 => rw [q] at h; exact h
  | ex e Γ1 => rw [q] at h; exact h
  | no => rw [q] at h; exact h
theorem fs_one (h1 : FS X W P s m1) : FSs X W P [s] m1 := pss_one h1
theorem fs_pass : FS X W P (.Pass pos) mSkip := PS.imp ps_pass fun D σ H ⟨I, Γ, r, h⟩ => h σ I H (Sq.refl r)
theorem fs_break : FS X W P (.Break pos) (fun Γ => .bk Γ) := PS.imp ps_break fun D σ H ⟨I, Γ, r, h⟩ => h σ I H (Sq.refl r)
theorem fs_continue : FS X W P (.Continue pos) (fun Γ => .ct Γ) := PS.imp ps_continue fun D σ H ⟨I, Γ, r, h⟩ => h σ I H (Sq.refl r)
def mIf (t : M Bool) (m1 m2 : Env → Fl) : Env → Fl := fun Γ => (t Γ).fl fun b Γ1 => if b = true then m1 Γ1 else m2 Γ1
theorem fs_if {c : Expr} (hc : FT X W c t) (h1 : FSs X W P ss m1) (h2 : FSs X W P ts m2) : FS X W P (.If c ss ts pos) (mIf t m1 m2) := by
  refine PS.imp (ps_if hc h1 h2) fun D σ H ⟨I, Γ, r, h⟩ => ⟨I, Γ, r, h.out.imp fun b Γ1 I1 H1 e1 ⟨_, q⟩ => ?_⟩
  cases b with
  | true => exact ⟨I1, Γ1, e1.rep, q.re e1.sq⟩
  | false => exact ⟨I1, Γ1, e1.rep, q.re e1.sq⟩
def mEx (m : M RV) : Env → Fl := fun Γ => (m Γ).fl fun _ Γ1 => .nx Γ1
theorem fs_expr (h : FE X W e m) (hs : swapsWith e none pos.line X.env = pure false := by rfl) : FS X W P (.Expr e pos) (mEx m) :=
  PS.imp (ps_expr h hs) fun D σ H ⟨I, Γ, r, q⟩ => ⟨I, Γ, r, q.out.imp fun rv Γ1 I1 H1 e1 ⟨_, q⟩ v ok => q σ I1 H1 e1.sq⟩
/-- a value is handed back; what stood in an own slot goes with it -/
def retv (P : List Nat) (rv : RV) (Γ : Env) : Fl := match rv with
  | .fz d => .rt (.fz d) Γ
  | .ow d => .rt (.ow d) Γ
  | .ob c fs => .rt (.ob c fs) Γ
  | .gl _ => .no
  | .br i => if i ∈ P then .no else match Γ[i]? with
    | some (some (.fz d)) => .rt (.fz d) Γ
    | some (some (.ow d)) => .rt (.ow d) Γ
    | some (some (.ob c fs)) => .rt (.ob c fs) Γ
    | _ => .no
def mRet (P : List Nat) (m : M RV) : Env → Fl := fun Γ => (m Γ).fl (retv P)
theorem retv_ok {mg : Str → Option Value} {K : PySem.W.Frag} {σ : St} {I H I1 H1 : Hp} {Γ Γ1 : Env} {D : Ends} {v : V} {rv : RV} (r : Rep mg I H σ Γ) (e : Ep mg σ I H Γ I1 H1 Γ1) (ok : RVok mg K I1 H1 H σ v rv) (h : Rf mg W P σ I H Γ (retv P rv Γ1) D) : D.rt v H1 := by
  cases rv with
  | fz d => exact h v σ I1 H1 e.sq ok
  | ow d => obtain ⟨a, ea, o, z⟩ := ok; exact h v σ I1 H1 e.sq ⟨a, ea, o, .inl z⟩
  | ob c fs => obtain ⟨a, ea, o, z⟩ := ok; exact h v σ I1 H1 e.sq ⟨a, ea, o, .inl z⟩
  | gl d => exact h.elim
  | br i =>
    have hv : σ[i]? = some (some v) := ok
    unfold retv at h
    simp only at h
    split at h
    · exact h.elim
    · rename_i hp
      split at h
      · rename_i d q
        obtain ⟨w, e1, o⟩ := e.rep.slot i _ q
        rw [hv] at e1; cases e1
        exact h v σ I1 H1 e.sq o
      · rename_i d q
        obtain ⟨w, e1, a, ea, o⟩ := e.rep.slot i _ q
        rw [hv] at e1; cases e1
        exact h v σ I1 H1 e.sq ⟨a, ea, o, .inr ⟨i, hp, e.les.2 i ⟨_, q, rfl⟩, by rw [hv, ea]⟩⟩
      · rename_i c fs q
        obtain ⟨w, e1, a, ea, o⟩ := e.rep.slot i _ q
        rw [hv] at e1; cases e1
        exact h v σ I1 H1 e.sq ⟨a, ea, o, .inr ⟨i, hp, e.les.2 i ⟨_, q, rfl⟩, by rw [hv, ea]⟩⟩
      · exact h.elim
theorem fs_ret (h : FE X W e m) : FS X W P (.Return (some e) pos) (mRet P m) :=
  PS.imp (ps_ret h) fun D σ H ⟨I, Γ, r, q⟩ => ⟨I, Γ, r, q.out.imp fun rv Γ1 I1 H1 e1 ⟨_, q⟩ v ok => retv_ok r e1 ok q⟩
theorem fs_retN : FS X W P (.Return none pos) (fun Γ => .rt (.fz .none) Γ) :=
  PS.imp ps_retN fun D σ H ⟨I, Γ, r, q⟩ => q .non σ I H (Sq.refl r) .non
end

/-! ### a slot stored -/
section
variable {mg : Str → Option Value} {K : PySem.W.Frag} {W : WX} {P : List Nat} {σ : St} {I H I1 H1 : Hp} {Γ Γ1 : Env} {i : Nat} {v : V} {sv : SV}
theorem get_set {α : Type} {l : List α} {i j : Nat} {x y : α} (h : (l.set i x)[j]? = some y) : (i = j ∧ x = y ∧ i < l.length) ∨ (i ≠ j ∧ l[j]? = some y) := by
  by_cases hj : i = j
  · subst hj
    rw [List.getElem?_set_self'] at h
    rcases Nat.lt_or_ge i l.length with z | z
    · rw [List.getElem?_eq_getElem z] at h; exact .inl ⟨rfl, Option.some.inj h, z⟩
    · rw [List.getElem?_eq_none z] at h; cases h
  · rw [List.getElem?_set_ne hj] at h; exact .inr ⟨hj, h⟩
theorem Rep.store (r : Rep mg I H σ Γ) (ok : SVok mg I H v sv) (f : sv.own = true → ∀ a, v = .ref a → ∀ j, isOwn Γ j → σ[j]? ≠ some (some (.ref a))) : Rep mg I H (σ.set i (some v)) (Γ.set i (some sv)) where
  same := r.same
  slot := fun j s h => by
    rcases get_set h with ⟨rfl, e, z⟩ | ⟨hj, e⟩
    · cases e
      exact ⟨v, List.getElem?_set_self (by rw [← r.len]; exact z), ok⟩
    · obtain ⟨w, e1, o⟩ := r.slot j s e
      exact ⟨w, by rw [List.getElem?_set_ne hj]; exact e1, o⟩
  inj := fun j k a hjk ⟨s1, h1, o1⟩ ⟨s2, h2, o2⟩ z1 z2 => by
    rcases get_set h1 with ⟨rfl, e, z⟩ | ⟨hj, e⟩
    · cases e
      rcases get_set h2 with ⟨rfl, _, _⟩ | ⟨hk, e2⟩
      · exact hjk rfl
      · rcases get_set z1 with ⟨_, ev, _⟩ | ⟨c, _⟩
        · rcases get_set z2 with ⟨c, _, _⟩ | ⟨_, q⟩
          · exact hjk c
          · exact f o1 a (Option.some.inj ev) k ⟨s2, e2, o2⟩ q
        · exact c rfl
    · rcases get_set h2 with ⟨rfl, e2, _⟩ | ⟨hk, e2⟩
      · cases e2
        rcases get_set z2 with ⟨_, ev, _⟩ | ⟨c, _⟩
        · rcases get_set z1 with ⟨c, _, _⟩ | ⟨_, q⟩
          · exact hjk c.symm
          · exact f o2 a (Option.some.inj ev) j ⟨s1, e, o1⟩ q
        · exact c rfl
      · rcases get_set z1 with ⟨c, _, _⟩ | ⟨_, q1⟩
        · exact hj c
        · rcases get_set z2 with ⟨c, _, _⟩ | ⟨_, q2⟩
          · exact hk c
          · exact r.inj j k a hjk ⟨s1, e, o1⟩ ⟨s2, e2, o2⟩ q1 q2
  len := by rw [List.length_set, List.length_set]; exact r.len
/-- .. behind an expression -/
theorem Sq.store (r : Rep mg I H σ Γ) (e : Ep mg σ I H Γ I1 H1 Γ1) (hp : i ∉ P) (ok : SVok mg I1 H1 v sv) (f : sv.own = true → ∀ a, v = .ref a → H a = none) : Sq mg P σ I H Γ (σ.set i (some v)) I1 H1 (Γ1.set i (some sv)) where
  stp := e.stp
  rep := e.rep.store ok fun o a ea j hj z => (e.owned r) a ⟨j, hj, z⟩ (f o a ea)
  np := fun a ⟨j, hj, ⟨s, h1, o1⟩, z⟩ => by
    rcases get_set h1 with ⟨rfl, e1, _⟩ | ⟨hne, e1⟩
    · cases e1
      rcases get_set z with ⟨_, ev, _⟩ | ⟨c, _⟩
      · exact .inr (f o1 a (Option.some.inj ev))
      · exact absurd rfl c
    · rcases get_set z with ⟨c, _, _⟩ | ⟨_, q⟩
      · exact absurd c hne
      · exact .inl ⟨j, hj, e.les.2 j ⟨s, e1, o1⟩, q⟩
  pin := fun j hj => List.getElem?_set_ne fun z => hp (by rw [z]; exact hj)
  pown := fun j hj ⟨s, h1, o1⟩ => by
    rcases get_set h1 with ⟨rfl, _, _⟩ | ⟨_, e1⟩
    · exact absurd hj hp
    · exact e.les.2 j ⟨s, e1, o1⟩
end
/-- a value put into a slot -/
def putv (i : Nat) (rv : RV) (Γ : Env) : Fl := match rv with
  | .fz d => .nx (Γ.set i (some (.fz d)))
  | .ow d => .nx (Γ.set i (some (.ow d)))
  | .ob c fs => .nx (Γ.set i (some (.ob c fs)))
  | .gl _ => .no
  | .br j => (frz (.br j) Γ).fl fun d Γ1 => .nx (Γ1.set i (some (.fz d)))
def mSet (i : Nat) (m : M RV) : Env → Fl := fun Γ => (m Γ).fl (putv i)
theorem putv_ok {mg : Str → Option Value} {K : PySem.W.Frag} {W : WX} {P : List Nat} {σ : St} {I H I1 H1 : Hp} {Γ Γ1 : Env} {i : Nat} {v : V} {rv : RV} {D : Ends} (r : Rep mg I H σ Γ) (e : Ep mg σ I H Γ I1 H1 Γ1) (ok : RVok mg K I1 H1 H σ v rv) (hp : i ∉ P)
    (h : Rf mg W P σ I H Γ (putv i rv Γ1) D) : D.nx (σ.set i (some v)) H1 := by
    unfold putv at h
    cases rv with
    | fz d => exact h _ I1 H1 (Sq.store (sv := .fz d) r e hp ok fun o => by cases o)
    | ow d => obtain ⟨a, rfl, o, z⟩ := ok; exact h _ I1 H1 (Sq.store (sv := .ow d) r e hp ⟨a, rfl, o⟩ fun _ b eb => by cases eb; exact z)
    | ob c fs => obtain ⟨a, rfl, o, z⟩ := ok; exact h _ I1 H1 (Sq.store (sv := .ob c fs) r e hp ⟨a, rfl, o⟩ fun _ b eb => by cases eb; exact z)
    | gl d => exact h.elim
    | br j =>
      simp only at h
      cases q : frz (.br j) Γ1 with
      | no => rw [q] at h; exact h.elim
      | ex x Γ2 => exact (frz_noex q).elim
      | ok d Γ2 =>
        rw [q] at h
        obtain ⟨I2, e2, rp, _, _⟩ := e.frz r ok.w q
        exact h _ I2 H1 (Sq.store (sv := .fz d) r e2 hp rp fun o => by cases o)
section
variable {X : Cx} {W : WX} {P : List Nat} {e : Expr} {m : M RV} {pos pos' : Pos} {i : Nat} {x : Str}
theorem fs_set (hN : X.N.Nodup) (hi : X.N[i]? = some x) (hx : Loc X.env.scope x) (he : FE X W e m) (hs : swapsWith e (some (.Name x pos')) pos.line X.env = pure false := by rfl)
    (hf : X.fn x = true ∨ X.env.scope.names.lookup x = some .local := by first | exact .inl rfl | exact .inr rfl | assumption) (hp : i ∉ P := by decide) : FS X W P (.Assign [.Name x pos'] e pos) (mSet i m) :=
  PS.imp (ps_set hN hi hx he hs hf) fun D σ H ⟨I, Γ, r, q⟩ => ⟨I, Γ, r, q.out.imp fun rv Γ1 I1 H1 e1 ⟨_, q⟩ v ok => putv_ok r e1 ok hp q⟩
end
end DZ

set_option maxRecDepth 100000
set_option maxHeartbeats 4000000
namespace DZ
open PySem PySem.Spec L2
open PyProof.Rows hiding St

/-! ### targets -/
abbrev Tgt := PyData → Env → Option Env
structure Tq (P : List Nat) (σ : St) (Γ : Env) (σ' : St) (Γ' : Env) : Prop where
  np : ∀ a, npA P σ' Γ' a → npA P σ Γ a
  pin : ∀ i ∈ P, σ'[i]? = σ[i]?
  pown : ∀ i ∈ P, isOwn Γ' i → isOwn Γ i
  slen : σ'.length = σ.length
theorem Tq.refl {P : List Nat} {σ : St} {Γ : Env} : Tq P σ Γ σ Γ := ⟨fun _ h => h, fun _ _ => rfl, fun _ _ h => h, rfl⟩
theorem Tq.trans {P : List Nat} {σ σ1 σ2 : St} {Γ Γ1 Γ2 : Env} (a : Tq P σ Γ σ1 Γ1) (b : Tq P σ1 Γ1 σ2 Γ2) : Tq P σ Γ σ2 Γ2 :=
  ⟨fun x h => a.np x (b.np x h), fun i h => (b.pin i h).trans (a.pin i h), fun i h z => a.pown i h (b.pown i h z), b.slen.trans a.slen⟩
def Tg (mg : Str → Option Value) (P : List Nat) (tg : Tgt) : TG := fun v σ H Q => ∃ I Γ d, Rep mg I H σ Γ ∧ Rp I v d ∧ ∃ Γ', tg d Γ = some Γ' ∧ ∀ σ', Rep mg I H σ' Γ' → Tq P σ Γ σ' Γ' → Q σ' H
abbrev Tgts := List PyData → Env → Option Env
def Tgs (mg : Str → Option Value) (P : List Nat) (tg : Tgts) : TGs := fun vs σ H Q => ∃ I Γ ds, Rep mg I H σ Γ ∧ RpAll I vs ds ∧ ∃ Γ', tg ds Γ = some Γ' ∧ ∀ σ', Rep mg I H σ' Γ' → Tq P σ Γ σ' Γ' → Q σ' H
theorem PG.imp {X : Cx} {e : Expr} {t t' : TG} (h : PG X e t) (i : ∀ v σ H Q, t' v σ H Q → t v σ H Q) : PG X e t' := ⟨fun pins s σ H v u Q I r q => h.run pins s σ H v u Q I r (i v σ H Q q)⟩
theorem PGs.imp {X : Cx} {e : List Expr} {t t' : TGs} (h : PGs X e t) (i : ∀ v σ H Q, t' v σ H Q → t v σ H Q) : PGs X e t' := ⟨fun pins s σ H v u Q I r q => h.run pins s σ H v u Q I r (i v σ H Q q)⟩
abbrev FG (X : Cx) (P : List Nat) (e : Expr) (tg : Tgt) : Prop := PG X e (Tg X.mg P tg)
abbrev FGs (X : Cx) (P : List Nat) (e : List Expr) (tg : Tgts) : Prop := PGs X e (Tgs X.mg P tg)
def gN (i : Nat) : Tgt := fun d Γ => some (Γ.set i (some (.fz d)))
theorem Tq.store {P : List Nat} {σ : St} {Γ : Env} {i : Nat} {v : V} {d : PyData} (hp : i ∉ P) : Tq P σ Γ (σ.set i (some v)) (Γ.set i (some (.fz d))) where
  np := fun a ⟨j, hj, ⟨s, h1, o1⟩, z⟩ => by
    rcases get_set h1 with ⟨rfl, e1, _⟩ | ⟨hne, e1⟩
    · cases e1; cases o1
    · rcases get_set z with ⟨c, _, _⟩ | ⟨_, q⟩
      · exact absurd c hne
      · exact ⟨j, hj, ⟨s, e1, o1⟩, q⟩
  pin := fun j hj => List.getElem?_set_ne fun z => hp (by rw [z]; exact hj)
  pown := fun j hj ⟨s, h1, o1⟩ => by
    rcases get_set h1 with ⟨rfl, _, _⟩ | ⟨_, e1⟩
    · exact absurd hj hp
    · exact ⟨s, e1, o1⟩
  slen := List.length_set
section
variable {X : Cx} {P : List Nat} {pos : Pos}
theorem fg_name {i : Nat} {x : Str} (hN : X.N.Nodup) (hi : X.N[i]? = some x) (hx : Loc X.env.scope x) (hf : X.fn x = true ∨ X.env.scope.names.lookup x = some .local := by first | exact .inl rfl | exact .inr rfl | assumption) (hp : i ∉ P := by decide) : FG X P (.Name x pos) (gN i) := by
  refine PG.imp (pg_name hN hi hx hf) fun v σ H Q ⟨I, Γ, d, r, rp, Γ', e, q⟩ => ?_
  cases e
  exact q _ (r.store (sv := .fz d) rp fun o => by cases o) (Tq.store hp)
def gs0 : Tgts := fun ds Γ => match ds with | [] => some Γ | _ => none
def gsC (t : Tgt) (u : Tgts) : Tgts := fun ds Γ => match ds with | d :: r => (t d Γ).bind (u r) | [] => none
theorem fgs_nil : FGs X P [] gs0 := by
  refine PGs.imp pgs_nil fun v σ H Q ⟨I, Γ, ds, r, rp, Γ', e, q⟩ => ?_
  cases ds with
  | nil => cases e; cases rp; exact ⟨rfl, q σ r Tq.refl⟩
  | cons d ds => cases e
theorem fgs_cons {e : Expr} {es : List Expr} {t : Tgt} {u : Tgts} (h1 : FG X P e t) (h2 : FGs X P es u) (ha : assignEach (e :: es) X.env = (false, assign e X.env) :: (assignEach es X.env) := by rfl)
    (hc : (assignEach (e :: es) X.env).map (·.2) = assign e X.env :: (assignEach es X.env).map (·.2) := by rfl) : FGs X P (e :: es) (gsC t u) := by
  refine PGs.imp (pgs_cons h1 h2 hc) fun vs σ H Q ⟨I, Γ, ds, r, rp, Γ', e, q⟩ => ?_
  cases ds with
  | nil => cases e
  | cons d ds =>
    cases rp with
    | cons hd tl =>
      simp only [gsC] at e
      cases z : t d Γ with
      | none => rw [z] at e; cases e
      | some Γ1 =>
        rw [z] at e
        exact ⟨_, _, rfl, I, Γ, d, r, hd, Γ1, z, fun σ1 r1 t1 => ⟨I, Γ1, ds, r1, tl, Γ', e, fun σ2 r2 t2 => q σ2 r2 (t1.trans t2)⟩⟩
def gT (n : Nat) (u : Tgts) : Tgt := fun d Γ => match d with | .tuple ds => if ds.length = n then u ds Γ else none | _ => none
theorem fg_tup {es : List Expr} {k : Nat} {n : Nat} {u : Tgts} (hc : X.calm = true) (h : FGs X P es u)
    (hn : (assignEach es X.env).length = n := by rfl) (hst : (assignEach es X.env).findIdx? (·.1) = none := by rfl) : FG X P (.Tuple es k pos) (gT n u) := by
  refine PG.imp (pg_tup hc h hn hst) fun v σ H Q ⟨I, Γ, d, r, rp, Γ', e, q⟩ => ?_
  cases d with
  | tuple ds =>
    simp only [gT] at e
    split at e
    · rename_i hl
      cases rp with
      | tup h1 h2 => exact ⟨_, _, rfl, .inl (.inl (r.same _ _ h1)), by rw [h2.length]; exact hl, I, Γ, ds, r, h2, Γ', e, q⟩
    · cases e
  | _ => cases e
end
/-- target = e -/
def mAsg (tg : Tgt) (m : M RV) : Env → Fl := fun Γ => (m Γ).fl fun rv Γ1 => (frz rv Γ1).fl fun d Γ2 => match tg d Γ2 with
  | some Γ3 => .nx Γ3
  | none => .no
theorem Tq.sq {mg : Str → Option Value} {P : List Nat} {σ σ' : St} {I H I' H' : Hp} {Γ Γ1 Γ' : Env} (e : Sq mg P σ I H Γ σ I' H' Γ1) (r : Rep mg I' H' σ' Γ') (t : Tq P σ Γ1 σ' Γ') : Sq mg P σ I H Γ σ' I' H' Γ' :=
  ⟨e.stp, r, fun a h => e.np a (t.np a h), fun i h => (t.pin i h).trans (e.pin i h), fun i h z => e.pown i h (t.pown i h z)⟩
section
variable {X : Cx} {W : WX} {P : List Nat} {pos : Pos} {tg e : Expr} {t : Tgt} {m : M RV}
theorem fs_asg (he : FE X W e m) (hg : FG X P tg t) (hs : swapsWithSole [tg] e pos.line X.env = pure false := by rfl) (hw : swappedStores [tg] e X.env = pure none := by rfl)
    (h1 : (assignEach [tg] X.env).map (·.2) = [assign tg X.env] := by rfl) : FS X W P (.Assign [tg] e pos) (mAsg t m) := by
  refine PS.imp (ps_asg he hg hs hw h1) fun D σ H ⟨I, Γ, r, q⟩ => ⟨I, Γ, r, q.out.imp fun rv Γ1 I1 H1 e1 ⟨_, q⟩ v ok => ?_⟩
  cases z : frz rv Γ1 with
  | no => rw [z] at q; exact q.elim
  | ex x Γ2 => exact (frz_noex z).elim
  | ok d Γ2 =>
    rw [z] at q
    obtain ⟨I2, e2, rp, _, _⟩ := e1.frz r ok.w z
    simp only [Out.fl] at q
    split at q
    · rename_i Γ3 y
      exact ⟨I2, Γ2, d, e2.rep, rp, Γ3, y, fun σ' r' t' => q σ' I2 H1 (Tq.sq e2.sq r' t')⟩
    · exact q.elim
end

/-! ### loops -/
structure ItOk (J : It) (I0 : Hp) (ds : List PyData) : Prop where
  go : ∀ (i : Nat) (d : PyData) (I H : Hp), Same I0 I → Same I H → ds[i]? = some d → J.go i H ∧ ∀ x H', J.yld i H x H' → ∃ I1, Stp (fun _ => False) I H I1 H' ∧ Same I1 H' ∧ Rp I1 x d
  stop : ∀ (I H : Hp), Same I0 I → Same I H → J.stop ds.length H
def Tit (mg : Str → Option Value) (W : WX) (m : M (List PyData)) : TI := fun σ H R => ∃ I Γ, Rep mg I H σ Γ ∧ Rs mg W σ I H Γ (m Γ) fun ds _ I' H' => ∀ J, ItOk J I' ds → R J H'
abbrev FI (X : Cx) (W : WX) (tg iter : Expr) (m : M (List PyData)) : Prop := PI X tg iter (Tit X.mg W m)
theorem PI.imp {X : Cx} {tg e : Expr} {t t' : TI} (h : PI X tg e t) (i : ∀ σ H Q, t' σ H Q → t σ H Q) : PI X tg e t' := ⟨fun pins s σ H Q I q => h.run pins s σ H Q I (i σ H Q q)⟩
def loopF (tg : Tgt) (body : Env → Fl) : List PyData → Env → Fl
  | [], Γ => .nx Γ
  | d :: ds, Γ => match tg d Γ with
    | none => .no
    | some Γ1 => match body Γ1 with
      | .nx Γ2 => loopF tg body ds Γ2
      | .ct Γ2 => loopF tg body ds Γ2
      | .bk Γ2 => .nx Γ2
      | .rt rv Γ2 => .rt rv Γ2
      | .ex e Γ2 => .ex e Γ2
      | .no => .no
def mFor (mi : M (List PyData)) (tg : Tgt) (body : Env → Fl) : Env → Fl := fun Γ => (mi Γ).fl (loopF tg body)
def loopW (t : M Bool) (body : Env → Fl) : Nat → Env → Fl
  | 0, _ => .no
  | n + 1, Γ => (t Γ).fl fun b Γ1 => if b = true then (match body Γ1 with
      | .nx Γ2 => loopW t body n Γ2
      | .ct Γ2 => loopW t body n Γ2
      | .bk Γ2 => .nx Γ2
      | .rt rv Γ2 => .rt rv Γ2
      | .ex e Γ2 => .ex e Γ2
      | .no => .no) else .nx Γ1
section
variable {X : Cx} {W : WX} {P : List Nat} {pos : Pos} {tg iter c : Expr} {body : List Stmt} {t : Tgt} {mi : M (List PyData)} {mb : Env → Fl} {tc : M Bool}
theorem for_imp : ∀ D σ H, Ts X.mg W P (mFor mi t mb) D σ H → tFor (Tit X.mg W mi) (Tg X.mg P t) (Ts X.mg W P mb) D σ H := by
  intro D σ H ⟨I, Γ, r, q⟩
  refine ⟨I, Γ, r, q.out.imp fun ds Γ1 I1 H1 e1 ⟨_, q⟩ J hJ => ?_⟩
  refine ⟨fun i m σ H => m = ds.length - i ∧ i ≤ ds.length ∧ ∃ I Γ, Same I1 I ∧ Rep X.mg I H σ Γ ∧ Rf X.mg W P σ I H Γ (loopF t mb (ds.drop i) Γ) D, ⟨_, rfl, Nat.zero_le _, I1, Γ1, Same.refl _, e1.rep, q.re e1.sq⟩, fun i m σ H ⟨em, hi, I, Γ, s1, r1, q1⟩ => ?_⟩
  rcases Nat.lt_or_ge i ds.length with hlt | hge
  · obtain ⟨d, ed⟩ : ∃ d, ds[i]? = some d := ⟨_, List.getElem?_eq_getElem hlt⟩
    have edr : ds.drop i = d :: ds.drop (i + 1) := by
      rw [List.drop_eq_getElem_cons hlt]
      rw [List.getElem?_eq_getElem hlt] at ed
      rw [Option.some.inj ed]
    rw [edr] at q1
    obtain ⟨g1, g2⟩ := hJ.go i d I H s1 r1.same ed
    refine .inr ⟨g1, fun σ' H' => ∃ m', m' < m ∧ (m' = ds.length - (i + 1) ∧ i + 1 ≤ ds.length ∧ ∃ I Γ, Same I1 I ∧ Rep X.mg I H' σ' Γ ∧ Rf X.mg W P σ' I H' Γ (loopF t mb (ds.drop (i + 1)) Γ) D), fun σ' H' h => h, fun x H2 y => ?_⟩
    obtain ⟨I2, st, sm, rp⟩ := g2 x H2 y
    have e2 := Ep.step r1 st sm
    have q2 := Rf.re (e2.sq (P := P)) q1
    simp only [loopF] at q2
    cases z : t d Γ with
    | none => rw [z] at q2; exact q2.elim
    | some Γ2 =>
      rw [z] at q2
      simp only at q2
      refine ⟨I2, Γ, d, e2.rep, rp, Γ2, z, fun σ3 r3 t3 => ⟨I2, Γ2, r3, ?_⟩⟩
      have q3 := Rf.re (Tq.sq (Sq.refl e2.rep) r3 t3) q2
      have next : ∀ {Γ4 : Env}, Rf X.mg W P σ3 I2 H2 Γ2 (loopF t mb (ds.drop (i + 1)) Γ4) D → ∀ σ' I' H', Sq X.mg P σ3 I2 H2 Γ2 σ' I' H' Γ4 →
          ∃ m', m' < m ∧ (m' = ds.length - (i + 1) ∧ i + 1 ≤ ds.length ∧ ∃ I Γ, Same I1 I ∧ Rep X.mg I H' σ' Γ ∧ Rf X.mg W P σ' I H' Γ (loopF t mb (ds.drop (i + 1)) Γ) D) := fun q4 σ' I' H' s4 =>
        ⟨_, by omega, rfl, hlt, I', _, (s1.trans st.inc).trans s4.stp.inc, s4.rep, q4.re s4⟩
      cases y : mb Γ2 with
      | nx Γ4 => rw [y] at q3; exact next q3
      | ct Γ4 => rw [y] at q3; exact next q3
      | bk Γ4 => rw [y] at q3; exact q3
      | rt rv Γ4 => rw [y] at q3; exact q3
      | ex e Γ4 => rw [y] at q3; exact q3
      | no => rw [y] at q3; exact q3.elim
  · have hi' : i = ds.length := by omega
    subst hi'
    rw [List.drop_length] at q1
    exact .inl ⟨hJ.stop I H s1 r1.same, q1 σ I H (Sq.refl r1)⟩
theorem fs_for (hp : PassesOwn (model X.prog X.w) X.A X.env X.xe) (hc : X.calm = true) (hi : FI X W tg iter mi) (hg : FG X P tg t) (hb : FSs X W P body mb) (hs : ∀ x, foldedSetIterable iter X.env x = pure x := by intro _; rfl) :
    FS X W P (.For tg iter body [] pos) (mFor mi t mb) := PS.imp (ps_for hp hc hi hg hb hs) for_imp
theorem fs_while (n : Nat) (hp : PassesOwn (model X.prog X.w) X.A X.env X.xe) (hc : FT X W c tc) (hb : FSs X W P body mb) : FS X W P (.While c body [] pos) (loopW tc mb n) := by
  refine PS.imp (ps_while hp hc hb) fun D σ H ⟨I, Γ, r, q⟩ => ?_
  refine ⟨fun m σ H => ∃ I Γ, Rep X.mg I H σ Γ ∧ Rf X.mg W P σ I H Γ (loopW tc mb m Γ) D, ⟨n, I, Γ, r, q⟩, fun m σ H ⟨I, Γ, r, q⟩ => ⟨I, Γ, r, ?_⟩⟩
  cases m with
  | zero => exact q.elim
  | succ m =>
    have q : Rf X.mg W P σ I H Γ ((tc Γ).fl fun b Γ1 => _) D := q
    refine q.out.imp fun b Γ1 I1 H1 e1 ⟨_, q⟩ => ?_
    cases b with
    | false => exact q σ I1 H1 e1.sq
    | true =>
      refine (show ∃ N : St → Hp → Prop, _ from ⟨fun σ' H' => ∃ m', m' < m + 1 ∧ ∃ I Γ, Rep X.mg I H' σ' Γ ∧ Rf X.mg W P σ' I H' Γ (loopW tc mb m' Γ) D, fun σ' H' h => h, I1, Γ1, e1.rep, ?_⟩)
      have q := Rf.re (e1.sq (P := P)) q
      simp only [if_true] at q
      have next : ∀ {Γ4 : Env}, Rf X.mg W P σ I1 H1 Γ1 (loopW tc mb m Γ4) D → ∀ σ' I' H', Sq X.mg P σ I1 H1 Γ1 σ' I' H' Γ4 →
          ∃ m', m' < m + 1 ∧ ∃ I Γ, Rep X.mg I H' σ' Γ ∧ Rf X.mg W P σ' I H' Γ (loopW tc mb m' Γ) D := fun q4 σ' I' H' s4 => ⟨m, Nat.lt_succ_self m, I', _, s4.rep, q4.re s4⟩
      cases y : mb Γ1 with
      | nx Γ4 => rw [y] at q; exact next q
      | ct Γ4 => rw [y] at q; exact next q
      | bk Γ4 => rw [y] at q; exact q
      | rt rv Γ4 => rw [y] at q; exact q
      | ex e Γ4 => rw [y] at q; exact q
      | no => rw [y] at q; exact q.elim
end
end DZ

set_option maxRecDepth 100000
set_option maxHeartbeats 4000000
namespace DZ
open PySem PySem.Spec L2
open PyProof.Rows hiding St

/-! ### what is walked -/
theorem SqL.mono {K : PySem.W.Frag} {I I' : Hp} (s : Same I I') {a : Addr} {xs : List V} (h : SqL K I a xs) : SqL K I' a xs := h.imp (rd_same s) id
theorem SqT.mono {K : PySem.W.Frag} {I I' : Hp} (s : Same I I') {a : Addr} {xs : List V} (h : SqT K I a xs) : SqT K I' a xs := h.imp (rd_same s) id
theorem stp0 {I H : Hp} : Stp (fun _ => False) I H I H := Stp.refl
theorem itok_list {K : PySem.W.Frag} {I0 : Hp} {a : Addr} {xs : List V} {ds : List PyData} (h : SqL K I0 a xs) (r : RpAll I0 xs ds) : ItOk (Itl K a) I0 ds where
  go := fun i d I H s1 s2 e => by
    obtain ⟨v, e1, rp⟩ := r.get e
    have hq : SqL K H a xs := SqL.mono (s1.trans s2) h
    refine ⟨⟨xs, v, hq, e1⟩, fun x H' ⟨eH, q⟩ => ?_⟩
    subst eH
    have := (q xs hq).symm.trans e1
    cases this
    exact ⟨I, stp0, s2, rp.mono s1⟩
  stop := fun I H s1 s2 => ⟨xs, SqL.mono (s1.trans s2) h, by rw [r.length]; exact Nat.le_refl _⟩
theorem itok_tup {K : PySem.W.Frag} {I0 : Hp} {a : Addr} {xs : List V} {ds : List PyData} (h : SqT K I0 a xs) (r : RpAll I0 xs ds) : ItOk (Itt K a) I0 ds where
  go := fun i d I H s1 s2 e => by
    obtain ⟨v, e1, rp⟩ := r.get e
    have hq : SqT K H a xs := SqT.mono (s1.trans s2) h
    refine ⟨⟨xs, v, hq, e1⟩, fun x H' ⟨eH, q⟩ => ?_⟩
    subst eH
    have := (q xs hq).symm.trans e1
    cases this
    exact ⟨I, stp0, s2, rp.mono s1⟩
  stop := fun I H s1 s2 => ⟨xs, SqT.mono (s1.trans s2) h, by rw [r.length]; exact Nat.le_refl _⟩
/-- the signs of a text -/
def signs (x : Str) : List PyData := x.cps.toList.map fun c => .str ⟨#[c]⟩
theorem itok_str {I0 : Hp} {x : Str} : ItOk (Its x) I0 (signs x) where
  go := fun i d I H s1 s2 e => by
    unfold signs at e
    rw [List.getElem?_map] at e
    cases q : x.cps[i]? with
    | none => rw [Array.getElem?_toList, q] at e; cases e
    | some c =>
      rw [Array.getElem?_toList, q] at e
      cases e
      refine ⟨?_, fun v H' ⟨eH, c', e1, ev⟩ => ?_⟩
      · show i < x.cps.size
        rcases Nat.lt_or_ge i x.cps.size with z | z
        · exact z
        · rw [Array.getElem?_eq_none z] at q; cases q
      · subst eH; subst ev
        rw [q] at e1; cases e1
        exact ⟨I, stp0, s2, .str _⟩
  stop := fun I H s1 s2 => by
    show x.cps.size ≤ _
    unfold signs
    rw [List.length_map, Array.length_toList]
    exact Nat.le_refl _
def intsD (lo : Int) (n : Nat) : List PyData := (List.range n).map fun k => .int (lo + (k : Nat))
theorem itok_range {I0 : Hp} {lo : Int} {n : Nat} : ItOk (Itr lo n) I0 (intsD lo n) where
  go := fun i d I H s1 s2 e => by
    unfold intsD at e
    rw [List.getElem?_map] at e
    rcases Nat.lt_or_ge i n with z | z
    · rw [List.getElem?_eq_getElem (by rw [List.length_range]; exact z), List.getElem_range] at e
      cases e
      exact ⟨z, fun x H' ⟨eH, ev⟩ => by subst eH; subst ev; exact ⟨I, stp0, s2, .int _⟩⟩
    · rw [List.getElem?_eq_none (by rw [List.length_range]; exact z)] at e; cases e
  stop := fun I H s1 s2 => by
    show n ≤ _
    unfold intsD
    rw [List.length_map, List.length_range]
    exact Nat.le_refl _
/-- a value that is walked: frozen, or a tuple of the written part -/
def mSeqI (m : M RV) : M (List PyData) := fun Γ => (m Γ).bind fun rv Γ1 => match rv with
  | .gl (.tuple ds) => .ok ds Γ1
  | .gl (.list ds) => .ok ds Γ1
  | rv => (frz rv Γ1).bind fun d Γ2 => match d with
    | .list ds => .ok ds Γ2
    | .tuple ds => .ok ds Γ2
    | .str x => .ok (signs x) Γ2
    | _ => .no
section
variable {X : Cx} {W : WX} {tg e : Expr} {m : M RV} {pos p : Pos}
/-- a list, a tuple or a text, walked -/
theorem pi_seq {te : TE} (he : PE X e te) : PI X tg e (fun σ H R => te σ H fun x H1 => (∃ a, x = .ref a ∧ (∃ xs, SqL X.K H1 a xs) ∧ R (Itl X.K a) H1) ∨ (∃ a, x = .ref a ∧ (∃ xs, SqT X.K H1 a xs) ∧ R (Itt X.K a) H1) ∨ ∃ z, x = .str z ∧ R (Its z) H1) := by
  refine ⟨fun pins s σ H R I h => ?_⟩
  refine thn (he.run pins s σ H _ I h) fun v s1 ⟨x, H1, I1, r1, q1⟩ => ?_
  rcases q1 with ⟨a, e, ⟨xs, hq⟩, q⟩ | ⟨a, e, ⟨xs, hq⟩, q⟩ | ⟨z, ex, q⟩
  · subst e
    cases r1
    obtain ⟨its, rv, p, hz⟩ := I1.list hq
    refine wpAny_pyIter_list p.isList ?_
    refine ⟨s1.heap.objs.size, [s1.heap.objs.size], _, _, H1, rfl, I1.kept (t' := s1.toks) fun b o e => Heap.get?_push_of_some _ e, turn_list a _, ⟨_, Heap.get?_push_size _ rfl, rfl, rfl⟩, fun b hb => ?_, q⟩
    have e : b = s1.heap.objs.size := by simpa using hb
    subst e
    exact I1.fpOk (Nat.le_refl _) (I1.hok.fresh (Nat.le_refl _))
  · subst e
    cases r1
    obtain ⟨its, rv, p, hz⟩ := I1.tuple hq
    refine wpAny_pyIter_tuple (show s1.heap.IsTuple a its.toArray from p) ?_
    refine ⟨s1.heap.objs.size, [s1.heap.objs.size], _, _, H1, rfl, I1.kept (t' := s1.toks) fun b o e => Heap.get?_push_of_some _ e, turn_tuple a _, ⟨_, Heap.get?_push_size _ rfl, rfl, rfl⟩, fun b hb => ?_, q⟩
    have e : b = s1.heap.objs.size := by simpa using hb
    subst e
    exact I1.fpOk (Nat.le_refl _) (I1.hok.fresh (Nat.le_refl _))
  · subst ex
    obtain ⟨t, rfl⟩ := r1
    cases ha : z.cps.all (· < 128)
    · exact wpAny_pyIter_wide ha (pi_one (tk := s1.toks) I1 _ (turn_str _ z t "str_iterator" (.inr rfl)) ⟨_, Heap.get?_push_size _ rfl, rfl, rfl⟩ q)
    · exact wpAny_pyIter_ascii ha (pi_one (tk := s1.toks) I1 _ (turn_str _ z t "str_ascii_iterator" (.inl rfl)) ⟨_, Heap.get?_push_size _ rfl, rfl, rfl⟩ q)
/-- what such a walk asks -/
def tiSeq (K : PySem.W.Frag) (te : TE) : TI := fun σ H R => te σ H fun x H1 => (∃ a, x = .ref a ∧ (∃ xs, SqL K H1 a xs) ∧ R (Itl K a) H1) ∨ (∃ a, x = .ref a ∧ (∃ xs, SqT K H1 a xs) ∧ R (Itt K a) H1) ∨ ∃ z, x = .str z ∧ R (Its z) H1
theorem seq_imp : ∀ σ H R, Tit X.mg W (mSeqI m) σ H R → tiSeq X.K (Tm X.mg X.K W m) σ H R := by
  intro σ H R ⟨I, Γ, r, q⟩
  refine ⟨I, Γ, r, q.bind0.imp fun rv Γ1 I1 H1 e1 ⟨_, q⟩ v ok => ?_⟩
  have main : ∀ rv, RVok X.mg X.K I1 H1 H σ v rv → Rs X.mg W σ I H Γ ((frz rv Γ1).bind fun d Γ2 => match d with
    | .list ds => .ok ds Γ2
    | .tuple ds => .ok ds Γ2
    | .str x => .ok (signs x) Γ2
    | _ => .no) (fun ds _ I' H' => ∀ J, ItOk J I' ds → R J H') → (∃ a, v = .ref a ∧ (∃ xs, SqL X.K H1 a xs) ∧ R (Itl X.K a) H1) ∨ (∃ a, v = .ref a ∧ (∃ xs, SqT X.K H1 a xs) ∧ R (Itt X.K a) H1) ∨ ∃ z, v = .str z ∧ R (Its z) H1 := by
    intro rv ok q
    cases z : frz rv Γ1 with
    | no => rw [z] at q; exact q.elim
    | ex x Γ2 => exact (frz_noex z).elim
    | ok d Γ2 =>
      rw [z] at q
      obtain ⟨I2, e2, rp, _, _⟩ := e1.frz r ok.w z
      simp only [Out.bind] at q
      cases rp with
      | lst h1 h2 => exact .inl ⟨_, rfl, ⟨_, .inl (.inl (e2.rep.same _ _ h1))⟩, q I2 H1 e2 _ (itok_list (.inl (.inl h1)) h2)⟩
      | tup h1 h2 => exact .inr (.inl ⟨_, rfl, ⟨_, .inl (.inl (e2.rep.same _ _ h1))⟩, q I2 H1 e2 _ (itok_tup (.inl (.inl h1)) h2)⟩)
      | str x => exact .inr (.inr ⟨_, rfl, q I2 H1 e2 _ itok_str⟩)
      | _ => exact q.elim
  split at q
  · rcases ok with ⟨a, xs, ds', rfl, ed, hq, f⟩ | ⟨a, xs, ds', rfl, ed, hq, f⟩
    · cases ed
      exact .inr (.inl ⟨a, rfl, ⟨xs, SqT.of_none hq⟩, q I1 H1 e1 _ (itok_tup (SqT.of_none hq) (f I1))⟩)
    · cases ed
  · rcases ok with ⟨a, xs, ds', rfl, ed, hq, f⟩ | ⟨a, xs, ds', rfl, ed, hq, f⟩
    · cases ed
    · cases ed
      exact .inl ⟨a, rfl, ⟨xs, .inl (rd_same e1.rep.same hq)⟩, q I1 H1 e1 _ (itok_list (.inl hq) (f I1))⟩
  · exact main _ ok q
theorem fi_seq (h : FE X W e m) : FI X W tg e (mSeqI m) := PI.imp (pi_seq h) seq_imp
/-- range -/
def rngOk (i : Int) : Bool := decide (-(2 ^ 62) ≤ i) && decide (i < 2 ^ 62)
def mRng (ms : M (List RV)) : M (List PyData) := fun Γ => (ms Γ).bind fun rs Γ1 => match peeks Γ1 rs with
  | some [.int j] => if rngOk j = true then .ok (intsD 0 j.toNat) Γ1 else .no
  | some [.int i, .int j] => if (rngOk i && rngOk j) = true then .ok (intsD i (j - i).toNat) Γ1 else .no
  | _ => .no
theorem rngOk_of {i : Int} (h : rngOk i = true) : -(2 ^ 62) ≤ i ∧ i < 2 ^ 62 := by
  unfold rngOk at h
  rw [Bool.and_eq_true] at h
  exact ⟨of_decide_eq_true h.1, of_decide_eq_true h.2⟩
theorem fi_range1 {a : Expr} {ms : M (List RV)} (hg : Gl X "range") (hm : X.mg "range" = none) (ha : FA X W [a] 1 ms) (hs : starEach [a] X.env = [(false, eval a X.env)] := by rfl) : FI X W tg (.Call (.Name "range" p) [a] [] pos) (mRng ms) := by
  refine PI.imp (pi_range1 hg hm ha.pa hs) fun σ H R ⟨I, Γ, r, q⟩ => ?_
  refine ⟨I, Γ, r, ?_⟩
  cases eq : ms Γ with
  | no => unfold mRng at q; rw [eq] at q; exact q
  | ex x Γ1 => unfold mRng at q; rw [eq] at q; exact q
  | ok rs Γ1 =>
    intro I1 H1 e1 vs oks
    unfold mRng at q
    rw [eq] at q
    obtain ⟨_, q⟩ := q.bind0 I1 H1 e1
    have hl := ha.len _ _ _ eq
    split at q
    · rename_i j pk
      have lk := RVs.lk e1.rep oks pk
      split at q
      · rename_i hj
        obtain ⟨h1, h2⟩ := rngOk_of hj
        cases lk with
        | cons l1 l2 =>
          cases l2
          cases (show _ = V.int j from l1)
          exact ⟨j, rfl, h1, h2, q I1 H1 e1 _ itok_range⟩
      · exact q.elim
    · rename_i i j pk
      have lk := RVs.lk e1.rep oks pk
      have : vs.length = 2 := Paired.length lk
      rw [Paired.length oks, hl] at this
      cases this
    · exact q.elim
theorem rng2_imp {ms : M (List RV)} (hl0 : ∀ Γ rvs Γ', ms Γ = .ok rvs Γ' → rvs.length = 2) : ∀ σ H R, Tit X.mg W (mRng ms) σ H R → iRng2 (Ta X.mg X.K W ms) σ H R := by
  intro σ H R ⟨I, Γ, r, q⟩
  refine ⟨I, Γ, r, ?_⟩
  cases eq : ms Γ with
  | no => unfold mRng at q; rw [eq] at q; exact q
  | ex x Γ1 => unfold mRng at q; rw [eq] at q; exact q
  | ok rs Γ1 =>
    intro I1 H1 e1 vs oks
    unfold mRng at q
    rw [eq] at q
    obtain ⟨_, q⟩ := q.bind0 I1 H1 e1
    have hl := hl0 _ _ _ eq
    split at q
    · rename_i j pk
      have lk := RVs.lk e1.rep oks pk
      have : vs.length = 1 := Paired.length lk
      rw [Paired.length oks, hl] at this
      cases this
    · rename_i i j pk
      have lk := RVs.lk e1.rep oks pk
      split at q
      · rename_i hj
        rw [Bool.and_eq_true] at hj
        obtain ⟨h1, h2⟩ := rngOk_of hj.1
        obtain ⟨h3, h4⟩ := rngOk_of hj.2
        cases lk with
        | cons l1 l2 =>
          cases l2 with
          | cons l2 l3 =>
            cases l3
            cases (show _ = V.int i from l1)
            cases (show _ = V.int j from l2)
            exact ⟨i, j, rfl, ⟨h1, h2, h3, h4⟩, q I1 H1 e1 _ itok_range⟩
      · exact q.elim
    · exact q.elim
theorem fi_range2 {a b : Expr} {ms : M (List RV)} (hg : Gl X "range") (hm : X.mg "range" = none) (ha : FA X W [a, b] 2 ms) (hs : starEach [a, b] X.env = [(false, eval a X.env), (false, eval b X.env)] := by rfl) (hs2 : starEach [b] X.env = [(false, eval b X.env)] := by rfl) :
    FI X W tg (.Call (.Name "range" p) [a, b] [] pos) (mRng ms) := PI.imp (pi_range2 hg hm ha.pa hs hs2) (rng2_imp ha.len)
end

/-! ### raise, try -/
section
variable {X : Cx} {W : WX} {P : List Nat} {pos p : Pos}
theorem pmk_own0 {C : Addr} {bmB : List Value} {B newId initId : String} {x : Str} (F : ExcBaseFacts B newId initId bmB) (q : PySem.W.excIn X.K C bmB newId = true) (gC : X.mg x = some (.ref C)) (kC : PySem.W.keepIn X.K (.ref C) = true)
    (r : Raises X (.ref C)) (hg : Gl X x) (hdb : (x == ("__debug__" : Str)) = false := by decide) : PMk X (.Call (.Name x p) [] [] pos) (fun _ H Q => Q (.ref C) none H) := by
  intro pins s σ H Q I h
  refine wpAny_Call_Name_kw (ld_glob I hg gC ?_ hdb)
  refine PySem.W.callWith_K0 I.kIn kC ?_
  obtain ⟨bm, N, nm, qn, bs, hdct, sn, sub, ab, col, dd, k0, k1, k2, k3, k5, mN, hC, hN, hni, T⟩ := exc_obj I.kIn q
  refine wpAny_call_exc_subT F T hC hN hni (fun h' e hm => ?_) (Nat.zero_le _)
  exact mk_of I hm r h (I.hok.gone hm.new)
/-- raise C(), C of the text, without own __init__ -/
theorem fs_raise0 {C : Addr} {x : Str} {pos' : Pos} (hc : X.calm = true) (tk : Takes X W) (q : PySem.W.excIn X.K C [.type "ValueError", .type "Exception", .type "BaseException", .type "object"] "ValueError.__new__" = true) (gC : X.mg x = some (.ref C))
    (kC : PySem.W.keepIn X.K (.ref C) = true) (h1 : PySem.W.subIn X.K (.ref C) (.type "BaseException") = some true) (h2 : PySem.W.typeIn X.K (.ref C) = some (.type "type")) (hg : Gl X x) (hdb : (x == ("__debug__" : Str)) = false := by decide) :
    FS X W P (.Raise (some (.Call (.Name x p) [] [] pos)) none pos') (fun Γ => .ex ⟨x, []⟩ Γ) :=
  PS.imp (ps_raise hc tk (pmk_own0 PySem.F.excBase_ValueError q gC kC (raises_own h1 h2) hg hdb)) fun D σ H ⟨I, Γ, r, z⟩ => z (.ref C) none σ I H (Sq.refl r) ⟨gC, .inl ⟨rfl, rfl⟩⟩
/-- which exceptions a clause takes -/
def noEx : Fl → Fl
  | .ex _ _ => .no
  | r => r
def mTry (body : Env → Fl) (takes : Str → Bool) (suite : Env → Fl) : Env → Fl := fun Γ => match body Γ with
  | .ex e Γ1 => if takes e.c = true then noEx (suite Γ1) else .ex e Γ1
  | .nx Γ1 => .nx Γ1
  | .rt rv Γ1 => .rt rv Γ1
  | .bk Γ1 => .bk Γ1
  | .ct Γ1 => .ct Γ1
  | .no => .no
/-- try: body / except C: suite -/
theorem fs_try {x : Str} {c : Value} {takes : Str → Bool} {body suite : List Stmt} {b₀ : Stmt} {np pos' : Pos} {mb ms : Env → Fl} (hs : X.stack = X.env :: X.outer) (hf : X.env.frame = some X.env.locals) (hc : Names X x c) (tk : Takes X W)
    (ht : ∀ y cls, X.mg y = some cls → ∃ b, PySem.W.exmOne X.K cls c = some b ∧ takes y = b)
    (hb : ∀ (W' : WX) (pn : List (Addr × Obj)) (xe : Value → Shared → Prop), Takes (X.tr pn xe) W' → PassesOwn (model X.prog X.w) X.A X.env xe → FSs (X.tr pn xe) W' P body mb)
    (hsu : ∀ (a : Addr) (oe : Obj) (cls : Value) (d : Option Addr) (pn : List (Addr × Obj)), Zc cls d oe → (∃ vs, oe.data = .fields vs) → FSs (X.suite a ((a, oe) :: pn)) (fun _ _ _ _ => False) P (b₀ :: suite) ms) :
    FS X W P (.Try body [.ExceptHandler (some (.Name x np)) none (b₀ :: suite) pos'] [] [] pos) (mTry mb takes ms) := by
  refine PS.imp (ps_try_only hs hf hc tk (tb := fun W' => Ts X.mg W' P mb) hb (ts := fun _ _ _ => Ts X.mg (fun _ _ _ _ => False) P ms) hsu) fun D σ H ⟨I, Γ, r, q⟩ => ⟨I, Γ, r, ?_⟩
  unfold mTry at q
  cases z : mb Γ with
  | nx Γ1 => rw [z] at q; exact q
  | rt rv Γ1 => rw [z] at q; exact q
  | bk Γ1 => rw [z] at q; exact q
  | ct Γ1 => rw [z] at q; exact q
  | no => rw [z] at q; exact q
  | ex e Γ1 =>
    rw [z] at q
    intro cls d σ' I' H' s xo
    obtain ⟨b, eb, et⟩ := ht e.c cls xo.1
    refine ⟨b, eb, fun hb a na => ?_, fun hb => ?_⟩
    · simp only [et, hb, if_true] at q
      refine ⟨I', Γ1, s.rep, ?_⟩
      have q := Rf.re s q
      cases y : ms Γ1 with
      | ex e2 Γ2 => rw [y] at q; exact q.elim
      | _ => rw [y] at q; exact q
    · simp only [et, hb, Bool.false_eq_true, if_false] at q
      exact q cls d σ' I' H' s xo
end
end DZ

set_option maxRecDepth 100000
set_option maxHeartbeats 4000000
namespace DZ
open PySem PySem.Spec L2
open PyProof.Rows hiding St

/-! ### what a def is worth -/
inductive Fo where
  | ret (r : SV) (out : Option SV) | ex (e : Exn) (out : Option SV) | no
/-- what the promise asks of the heap behind: the first argument alone may have changed -/
def OutOk (mg : Str → Option Value) (io : Bool) (vs : List V) (I' H' : Hp) (out : Option SV) : Prop :=
  io = true → ∃ v o, vs.head? = some v ∧ out = some o ∧ o.own = true ∧ SVok mg I' H' v o
def ioA (io : Bool) (vs : List V) (a : Addr) : Prop := io = true ∧ vs.head? = some (.ref a)
/-- the arguments lie well: the first one owned where it may change, the others frozen -/
structure ArgOk (mg : Str → Option Value) (io : Bool) (I H : Hp) (vs : List V) (svs : List SV) : Prop where
  same : Same I H
  ok : Paired (SVok mg I H) vs svs
  io : ∀ (i : Nat) (sv : SV), svs[i]? = some sv → sv.own = (io && i == 0)
def spF (mg : Str → Option Value) (io : Bool) (n : Nat) (C : List SV → Fo) : Sp := fun vs H Q E => ∃ I svs, svs.length = n ∧ ArgOk mg io I H vs svs ∧
  match C svs with
  | .ret r out => ∀ v I' H', Stp (ioA io vs) I H I' H' → Same I' H' → SVok mg I' H' v r → (r.own = true → ∀ a, v = .ref a → H a = none) → OutOk mg io vs I' H' out → Q v H'
  | .ex e out => ∀ cls d I' H', Stp (ioA io vs) I H I' H' → Same I' H' → XOk mg I' H' e cls d → OutOk mg io vs I' H' out → E cls d H'
  | .no => False
def svOf : RV → Option SV
  | .fz d => some (.fz d)
  | .ow d => some (.ow d)
  | .ob c fs => some (.ob c fs)
  | _ => none
def outOf (io : Bool) (Γ : Env) : Option (Option SV) := if io = true then (match Γ[0]? with
  | some (some sv) => if sv.own = true then some (some sv) else none
  | _ => none) else some none
/-- a def's body, at its arguments; N slots -/
def fnOf (io : Bool) (N : Nat) (body : Env → Fl) (svs : List SV) : Fo :=
  match body (svs.map some ++ List.replicate (N - svs.length) none) with
  | .nx Γ => (match outOf io Γ with
    | some o => .ret (.fz .none) o
    | none => .no)
  | .rt rv Γ => (match svOf rv, outOf io Γ with
    | some r, some o => .ret r o
    | _, _ => .no)
  | .ex e Γ => (match outOf io Γ with
    | some o => .ex e o
    | none => .no)
  | _ => .no
theorem pair_get {α β : Type} {F : α → β → Prop} : ∀ {xs : List α} {ys : List β} {i : Nat} {y : β}, Paired F xs ys → ys[i]? = some y → ∃ x, xs[i]? = some x ∧ F x y
  | _, _, _, _, .nil, h => by simp at h
  | _, _, 0, _, .cons h _, e => by simp at e; subst e; exact ⟨_, rfl, h⟩
  | _, _, i + 1, y, .cons _ r, e => by
    obtain ⟨x, e1, e2⟩ := pair_get (i := i) (y := y) r (by simpa using e)
    exact ⟨x, by simpa using e1, e2⟩
theorem start_get {svs : List SV} {k i : Nat} {sv : SV} (h : (svs.map some ++ List.replicate k none)[i]? = some (some sv)) : svs[i]? = some sv := by
  rcases Nat.lt_or_ge i svs.length with z | z
  · rw [List.getElem?_append_left (by rw [List.length_map]; exact z), List.getElem?_map] at h
    cases q : svs[i]? with
    | none => rw [q] at h; cases h
    | some y => rw [q] at h; cases h; rfl
  · rw [List.getElem?_append_right (by rw [List.length_map]; exact z)] at h
    rw [List.getElem?_replicate] at h
    split at h <;> cases h
section
variable {P : Program} {w : World} {K : PySem.W.Frag} {mg : Str → Option Value} {base : Heap}
theorem ArgOk.rep {io : Bool} {I H : Hp} {vs : List V} {svs : List SV} {N : List Str} (a : ArgOk mg io I H vs svs) (hN : vs.length ≤ N.length) : Rep mg I H (start N vs) (svs.map some ++ List.replicate (N.length - svs.length) none) where
  same := a.same
  slot := fun i sv h => by
    have h := start_get h
    obtain ⟨v, e1, ok⟩ := pair_get a.ok h
    refine ⟨v, ?_, ok⟩
    unfold L2.start
    have hi : i < vs.length := by
      rcases Nat.lt_or_ge i vs.length with z | z
      · exact z
      · rw [List.getElem?_eq_none z] at e1; cases e1
    rw [List.getElem?_append_left (by rw [List.length_map]; exact hi), List.getElem?_map, e1]
    rfl
  inj := fun i j b hij ⟨s1, h1, o1⟩ ⟨s2, h2, o2⟩ _ => by
    have e1 := a.io i s1 (start_get h1)
    have e2 := a.io j s2 (start_get h2)
    rw [o1] at e1
    rw [o2] at e2
    have z1 : i = 0 := by
      have := (Bool.and_eq_true _ _).mp e1.symm
      exact beq_iff_eq.mp this.2
    have z2 : j = 0 := by
      have := (Bool.and_eq_true _ _).mp e2.symm
      exact beq_iff_eq.mp this.2
    exact absurd (z1.trans z2.symm) hij
  len := by
    have := Paired.length a.ok
    unfold L2.start
    rw [List.length_append, List.length_append, List.length_map, List.length_map, List.length_replicate, List.length_replicate, this]
theorem own0 {io : Bool} {I H : Hp} {vs : List V} {svs : List SV} {k : Nat} (a : ArgOk mg io I H vs svs) {i : Nat} (h : isOwn (svs.map some ++ List.replicate k none) i) : io = true ∧ i = 0 := by
  obtain ⟨s1, h1, o1⟩ := h
  have e1 := a.io i s1 (start_get h1)
  rw [o1] at e1
  have := (Bool.and_eq_true _ _).mp e1.symm
  exact ⟨this.1, beq_iff_eq.mp this.2⟩
/-- what a def's body is worth, from its reading -/
theorem fn_core {X : Cx} {ss : List Stmt} {io : Bool} {N : List Str} {n : Nat} {body : Env → Fl} {I H : Hp} {vs : List V} {svs : List SV} {Q : VK} {E : XK} (hb : FSs X (fun cls d _ H => E cls d H) (if io = true then [0] else []) ss body) (a : ArgOk X.mg io I H vs svs) (hl : svs.length = n) (hN : n ≤ N.length)
    (h : match fnOf io N.length body svs with
      | .ret r out => ∀ v I' H', Stp (ioA io vs) I H I' H' → Same I' H' → SVok X.mg I' H' v r → (r.own = true → ∀ a, v = .ref a → H a = none) → OutOk X.mg io vs I' H' out → Q v H'
      | .ex e out => ∀ cls d I' H', Stp (ioA io vs) I H I' H' → Same I' H' → XOk X.mg I' H' e cls d → OutOk X.mg io vs I' H' out → E cls d H'
      | .no => False) : ∃ t, PSs X ss t ∧ t { nx := fun _ H' => Q .non H', rt := Q } (start N vs) H := by
  have hvl : vs.length = n := (Paired.length a.ok).trans hl
  refine ⟨_, hb, I, _, a.rep (N := N) (by rw [hvl]; exact hN), ?_⟩
  have r0 : Rep X.mg I H (start N vs) (svs.map some ++ List.replicate (N.length - svs.length) none) := a.rep (by rw [hvl]; exact hN)
  have hio : ∀ b, ownA (start N vs) (svs.map some ++ List.replicate (N.length - svs.length) none) b → ioA io vs b := fun b ⟨i, h1, h2⟩ => by
    obtain ⟨z1, rfl⟩ := own0 a h1
    refine ⟨z1, ?_⟩
    cases vs with
    | nil =>
      exfalso
      obtain ⟨s1, e1, _⟩ := h1
      have e1 := start_get e1
      have : svs.length = 0 := hl.trans hvl.symm
      rw [List.getElem?_eq_none (by rw [this]; exact Nat.zero_le _)] at e1
      cases e1
    | cons v r =>
      have h2 : some (some v) = some (some (.ref b)) := h2
      cases h2
      rfl
  have hnp : ∀ b, ¬ npA (if io = true then [0] else []) (start N vs) (svs.map some ++ List.replicate (N.length - svs.length) none) b := fun b ⟨i, hp, h1, _⟩ => by
    obtain ⟨z1, rfl⟩ := own0 a h1
    rw [z1, if_pos rfl] at hp
    exact hp (List.mem_singleton.mpr rfl)
  have hout : ∀ {σ' : St} {I' H' : Hp} {Γ' : Env} {o : Option SV}, Sq X.mg (if io = true then [0] else []) (start N vs) I H (svs.map some ++ List.replicate (N.length - svs.length) none) σ' I' H' Γ' → outOf io Γ' = some o → OutOk X.mg io vs I' H' o := by
    intro σ' I' H' Γ' o s e hi
    subst hi
    unfold outOf at e
    rw [if_pos rfl] at e
    split at e
    · rename_i sv q
      split at e
      · rename_i ho
        cases e
        obtain ⟨v, e1, ok⟩ := s.rep.slot 0 sv q
        rw [s.pin 0 (by rw [if_pos rfl]; exact List.mem_singleton.mpr rfl)] at e1
        cases vs with
        | nil =>
          unfold L2.start at e1
          simp only [List.map_nil, List.nil_append, List.length_nil] at e1
          rw [List.getElem?_replicate] at e1
          split at e1 <;> cases e1
        | cons v' r =>
          have e1 : some (some v') = some (some v) := e1
          cases e1
          exact ⟨_, sv, rfl, rfl, ho, ok⟩
      · cases e
    · cases e
  unfold fnOf at h
  show Rf X.mg _ _ _ I H _ (body (svs.map some ++ List.replicate (N.length - svs.length) none)) _
  cases z : body (svs.map some ++ List.replicate (N.length - svs.length) none) with
  | no => rw [z] at h; exact h.elim
  | bk Γ => rw [z] at h; exact h.elim
  | ct Γ => rw [z] at h; exact h.elim
  | nx Γ =>
    rw [z] at h
    intro σ' I' H' s
    cases y : outOf io Γ with
    | none => simp only [y] at h
    | some o => simp only [y] at h; exact h .non I' H' (s.stp.mono hio) s.rep.same .non (fun o => by cases o) (hout s y)
  | rt rv Γ =>
    rw [z] at h
    intro v σ' I' H' s rv'
    cases y : outOf io Γ with
    | none => cases x : svOf rv <;> simp only [x, y] at h
    | some o =>
      cases x : svOf rv with
      | none => simp only [x, y] at h
      | some r =>
        simp only [x, y] at h
        refine h v I' H' (s.stp.mono hio) s.rep.same ?_ ?_ (hout s y)
        · cases rv with
          | fz d => cases x; exact rv'
          | ow d => cases x; obtain ⟨a, ea, o, _⟩ := rv'; exact ⟨a, ea, o⟩
          | ob c fs => cases x; obtain ⟨a, ea, o, _⟩ := rv'; exact ⟨a, ea, o⟩
          | br i => cases x
          | gl d => cases x
        · intro ho b eb
          cases rv with
          | fz d => cases x; cases ho
          | ow d => cases x; obtain ⟨a, ea, _, q⟩ := rv'; rw [eb] at ea; cases ea; exact q.resolve_right (hnp b)
          | ob c fs => cases x; obtain ⟨a, ea, _, q⟩ := rv'; rw [eb] at ea; cases ea; exact q.resolve_right (hnp b)
          | br i => cases x
          | gl d => cases x
  | ex e Γ =>
    rw [z] at h
    intro cls d σ' I' H' s xo
    cases y : outOf io Γ with
    | none => simp only [y] at h
    | some o => simp only [y] at h; exact h cls d I' H' (s.stp.mono hio) s.rep.same xo (hout s y)
/-- THE RULE for a def -/
theorem fn_ok {x qual : Str} {st : Stmt} {f : Addr} {fd : FuncData} {N ps : List Str} {k n : Nat} {io : Bool} {body : Env → Fl} (F : Fun K x qual st f fd) (S : FnScope N ps (defScope st)) (hn : ps.length = n) (hN : n ≤ N.length)
    (hbody : ∀ (X : Cx) (W : WX), X.prog = P → X.w = w → X.K = K → X.mg = mg → X.base = base → X.N = N → X.env.scope = defScope st → X.calm = true → Room k X.A → Takes X W → PassesOwn (model X.prog X.w) X.A X.env X.xe →
      X.stack = X.env :: X.outer → X.env.frame = some X.env.locals → (∀ y, X.fn y = true) → FSs X W (if io = true then [0] else []) (defBody st) body) :
    FnOk P w K mg base (L2.CX P w) (k + 1) f fd ps (spF mg io n (fnOf io N.length body)) := by
  refine F.okX S (fun vs H Q E h => ?_) (fun cdv A outer s H vs Q E hr h => ?_)
  · obtain ⟨I, svs, hl, a, _⟩ := h
    rw [Paired.length a.ok, hl, hn]
  · obtain ⟨I, svs, hl, a, h⟩ := h
    have tk : Takes (cxOf (L2.CX P w) P w K mg base N qual (defScope st) f cdv A outer s H E) (fun cls d _ H => E cls d H) := takes_of rfl rfl rfl rfl
    have hb := hbody (cxOf (L2.CX P w) P w K mg base N qual (defScope st) f cdv A outer s H E) (fun cls d _ H => E cls d H) rfl rfl rfl rfl rfl rfl rfl rfl hr tk (passes_of rfl) rfl rfl (fun _ => rfl)
    exact fn_core hb a hl hN h
end

/-! ### calls -/
def rvOf : SV → RV
  | .fz d => .fz d
  | .ow d => .ow d
  | .ob c fs => .ob c fs
  | .sc d => .gl d
/-- handed in: frozen, or as it stands still -/
def giv (r : RV) : M SV := fun Γ => match r with
  | .gl (.list ds) => .ok (.sc (.list ds)) Γ
  | r => (frz r Γ).bind fun d Γ1 => .ok (.fz d) Γ1
def givs : List RV → M (List SV)
  | [], Γ => .ok [] Γ
  | r :: rs, Γ => (giv r Γ).bind fun d Γ1 => (givs rs Γ1).bind fun ds Γ2 => .ok (d :: ds) Γ2
/-- f(..), all handed in frozen -/
def mCall (C : List SV → Fo) (ms : M (List RV)) : M RV := fun Γ => (ms Γ).bind fun rs Γ1 => (givs rs Γ1).bind fun ds Γ2 => match C ds with
  | .ret r _ => .ok (rvOf r) Γ2
  | .ex e _ => .ex e Γ2
  | .no => .no
theorem svs_fz {mg : Str → Option Value} {I H : Hp} : ∀ {vs : List V} {ds : List PyData}, RpAll I vs ds → Paired (SVok mg I H) vs (ds.map SV.fz)
  | _, _, .nil => .nil
  | _, _, .cons h r => .cons h (svs_fz r)
theorem fz_own {ds : List PyData} {i : Nat} {sv : SV} (h : (ds.map SV.fz)[i]? = some sv) : sv.own = false := by
  rw [List.getElem?_map] at h
  cases q : ds[i]? with
  | none => rw [q] at h; cases h
  | some d => rw [q] at h; cases h; rfl
section
variable {X : Cx} {W : WX} {pos p : Pos} {e : Expr} {es : List Expr} {n k : Nat} {ms : M (List RV)} {x : Str} {f : Addr} {fd : FuncData} {ps : List Str} {C : List SV → Fo}
theorem rv_ret {I' H' H Hb : Hp} {σ : St} {v : V} {r : SV} (ok : SVok X.mg I' H' v r) (f : r.own = true → ∀ a, v = .ref a → H a = none) (hb : ∀ y, H y = none → Hb y = none) : RVok X.mg X.K I' H' Hb σ v (rvOf r) := by
  cases r with
  | fz d => exact ok
  | ow d => obtain ⟨a, ea, o⟩ := ok; exact ⟨a, ea, o, hb a (f rfl a ea)⟩
  | ob c fs => obtain ⟨a, ea, o⟩ := ok; exact ⟨a, ea, o, hb a (f rfl a ea)⟩
  | sc d => exact .inr ok
theorem giv_noex {r : RV} {Γ Γ' : Env} {e : Exn} (h : giv r Γ = .ex e Γ') : False := by
  unfold giv at h
  split at h
  · cases h
  · cases q : frz r Γ with
    | no => rw [q] at h; cases h
    | ex e Γ1 => exact frz_noex q
    | ok d Γ1 => rw [q] at h; cases h
theorem givs_noex : ∀ {rs : List RV} {Γ Γ' : Env} {e : Exn}, givs rs Γ = .ex e Γ' → False
  | [], _, _, _, h => by cases h
  | r :: rs, Γ, Γ', e, h => by
    unfold givs at h
    cases q : giv r Γ with
    | no => rw [q] at h; cases h
    | ex e Γ1 => exact giv_noex q
    | ok d Γ1 =>
      rw [q] at h
      cases p : givs rs Γ1 with
      | no => simp only [Out.bind, p] at h; cases h
      | ex e Γ2 => exact givs_noex p
      | ok ds Γ2 => simp only [Out.bind, p] at h; cases h
/-- what giving and freezing ask of a value -/
def RVg (mg : Str → Option Value) (I H Hb : Hp) (σ : St) (v : V) (r : RV) : Prop := RVw I H Hb σ v r ∧ ∀ ds, r = .gl (.list ds) → ScOk I v (.list ds)
theorem RVok.g {mg : Str → Option Value} {K : PySem.W.Frag} {I H Hb : Hp} {σ : St} {v : V} {r : RV} (ok : RVok mg K I H Hb σ v r) : RVg mg I H Hb σ v r := ⟨ok.w, fun ds e => by
  subst e
  rcases ok with ⟨_, _, _, _, ed, _⟩ | ok
  · cases ed
  · exact ok⟩
theorem RVg.inc {mg : Str → Option Value} {I I' H Hb : Hp} {σ : St} {v : V} {r : RV} (s : Same I I') (ok : RVg mg I H Hb σ v r) : RVg mg I' H Hb σ v r := ⟨ok.1.inc s, fun ds e => (ok.2 ds e).mono s⟩
theorem Ep.giv {mg : Str → Option Value} {σ : St} {I0 H0 I H : Hp} {Γ0 Γ Γ1 : Env} {v : V} {r : RV} {sv : SV} (r0 : Rep mg I0 H0 σ Γ0) (e : Ep mg σ I0 H0 Γ0 I H Γ) (ok : RVg mg I H H0 σ v r) (h : DZ.giv r Γ = .ok sv Γ1) :
    ∃ I1, Ep mg σ I0 H0 Γ0 I1 H Γ1 ∧ (∀ H', SVok mg I1 H' v sv) ∧ sv.own = false ∧ Same I I1 := by
  unfold DZ.giv at h
  split at h
  · cases h
    exact ⟨I, e, fun _ => ok.2 _ rfl, rfl, Same.refl I⟩
  · obtain ⟨d, Γ2, h1, h2⟩ := Out.bind_ok h
    cases h2
    obtain ⟨I1, e1, rp, s1, _⟩ := e.frz r0 ok.1 h1
    exact ⟨I1, e1, fun _ => rp, rfl, s1⟩
theorem SVok.inc {mg : Str → Option Value} {I I' H : Hp} {v : V} {sv : SV} (s : Same I I') (o : sv.own = false) (ok : SVok mg I H v sv) : SVok mg I' H v sv := by
  cases sv with
  | fz d => exact Rp.mono s ok
  | sc d => exact ScOk.mono s ok
  | ow d => cases o
  | ob c fs => cases o
theorem Ep.givs {mg : Str → Option Value} {σ : St} {I0 H0 : Hp} {Γ0 : Env} (r0 : Rep mg I0 H0 σ Γ0) : ∀ {vs : List V} {rs : List RV} {I H : Hp} {Γ Γ1 : Env} {svs : List SV}, Ep mg σ I0 H0 Γ0 I H Γ → Paired (RVg mg I H H0 σ) vs rs → DZ.givs rs Γ = .ok svs Γ1 →
    ∃ I1, Ep mg σ I0 H0 Γ0 I1 H Γ1 ∧ Paired (SVok mg I1 H) vs svs ∧ (∀ (i : Nat) (sv : SV), svs[i]? = some sv → sv.own = false) ∧ Same I I1
  | _, _, I, _, _, _, _, e, .nil, h => by cases h; exact ⟨I, e, .nil, fun i sv z => by simp at z, Same.refl I⟩
  | _, _, I, H, Γ, Γ1, ds, e, .cons ok oks, h => by
    obtain ⟨d, Γ2, h1, h⟩ := Out.bind_ok h
    obtain ⟨ds, Γ3, h2, h⟩ := Out.bind_ok h
    cases h
    obtain ⟨I1, e1, rp, ow, s1⟩ := e.giv r0 ok h1
    obtain ⟨I2, e2, rps, ows, s2⟩ := Ep.givs r0 e1 (Paired.mapP oks fun _ _ q => q.inc s1) h2
    refine ⟨I2, e2, .cons ((rp H).inc s2 ow) rps, fun i sv z => ?_, s1.trans s2⟩
    cases i with
    | zero => cases z; exact ow
    | succ i => exact ows i sv z
theorem ta_call {t : Ta X.mg X.K W ms = Ta X.mg X.K W ms} (hl : ∀ Γ rvs Γ', ms Γ = .ok rvs Γ' → rvs.length = n) : ∀ σ H Q, Tm X.mg X.K W (mCall C ms) σ H Q → tCallS (spF X.mg false n C) (WE W) (Ta X.mg X.K W ms) σ H Q := by
  intro σ H Q ⟨I, Γ, r, q⟩
  refine ⟨I, Γ, r, ?_⟩
  have q := q.bind0
  cases eq : ms Γ with
  | no => rw [eq] at q; exact q
  | ex e Γ1 => rw [eq] at q; exact q
  | ok rs Γ1 =>
    rw [eq] at q
    intro I1 H1 e1 vs oks
    obtain ⟨_, q⟩ := q I1 H1 e1
    cases p : givs rs Γ1 with
    | no => rw [p] at q; exact q.elim
    | ex e Γ2 => exact (givs_noex p).elim
    | ok svs Γ2 =>
      rw [p] at q
      obtain ⟨I2, e2, rps, ows, s2⟩ := e1.givs r (Paired.mapP oks fun _ _ z => z.g) p
      have hsl : svs.length = n := by rw [← Paired.length rps, Paired.length oks]; exact hl _ _ _ eq
      refine ⟨I2, svs, hsl, ⟨e2.rep.same, rps, fun i sv h => by rw [ows i sv h]; rfl⟩, ?_⟩
      have no : ∀ a, ¬ ioA false vs a := fun a h => by cases h.1
      have z : Rs X.mg W σ I H Γ (match C svs with | .ret r _ => .ok (rvOf r) Γ2 | .ex e _ => .ex e Γ2 | .no => .no) _ := q
      cases y : C svs with
      | no => rw [y] at z; exact z.elim
      | ret r' out =>
        rw [y] at z
        intro v I' H' st sm ok fr _
        have e3 := e2.trans (Ep.step e2.rep (st.mono fun a h => no a h) sm)
        exact z I' H' e3 v (rv_ret ok fr e2.stp.dom)
      | ex x out =>
        rw [y] at z
        intro cls d I' H' st sm xo _
        exact z cls d I' H' (e2.trans (Ep.step e2.rep (st.mono fun a h => no a h) sm)) xo
theorem fe_call (F : FnOk X.prog X.w X.K X.mg X.base (L2.CX X.prog X.w) k f fd ps (spF X.mg false n C)) (hr : Room k X.A) (hg : Gl X x) (hm : X.mg x = some (.ref f)) (hk : PySem.W.keepIn X.K (.ref f) = true) (hb : L2.Binds X.K fd ps []) (tk : Takes X W)
    (ha : FA X W (e :: es) n ms) (hdb : (x == ("__debug__" : Str)) = false := by decide) (he : starEach (e :: es) X.env = (false, eval e X.env) :: starEach es X.env := by rfl) (hpl : (backTo pos (starEach es X.env)).any (·.1) = false := by rfl) :
    FE X W (.Call (.Name x p) (e :: es) [] pos) (mCall C ms) :=
  PE.imp (pe_callS F hr hg hm hk hb (fun σ => passAt tk σ) ha.pa hdb he hpl) (ta_call (t := rfl) ha.len)
end
end DZ

set_option maxRecDepth 100000
set_option maxHeartbeats 4000000
namespace DZ
open PySem PySem.Spec L2
open PyProof.Rows hiding St

/-! ### calls that may change their first argument -/
def recv (Γ : Env) : RV → Option SV
  | .br i => (match Γ[i]? with
    | some (some sv) => if sv.own = true then some sv else none
    | _ => none)
  | .ob c fs => some (.ob c fs)
  | _ => none
def back (r : RV) (o : SV) (Γ : Env) : Env := match r with
  | .br i => Γ.set i (some o)
  | _ => Γ
def callIo (C : List SV → Fo) (r : RV) (ds : List PyData) (Γ : Env) : Out RV := match recv Γ r with
  | some sv => (match C (sv :: ds.map SV.fz) with
    | .ret r' (some o) => .ok (rvOf r') (back r o Γ)
    | .ex e (some o) => .ex e (back r o Γ)
    | _ => .no)
  | none => .no
def mCallIo (C : List SV → Fo) (ms : M (List RV)) : M RV := fun Γ => (ms Γ).bind fun rs Γ1 => match rs with
  | [] => .no
  | r :: rest => (frzs rest Γ1).bind (callIo C r)
section
variable {mg : Str → Option Value} {K : PySem.W.Frag} {W : WX} {σ : St} {I H I1 H1 I2 H2 : Hp} {Γ Γ1 Γ2 : Env}
/-- what is handed in first, as it lies when all is frozen -/
theorem recv_ok {v : V} {r : RV} {sv : SV} (r0 : Rep mg I H σ Γ) (e2 : Ep mg σ I H Γ I2 H1 Γ2) (ok : RVok mg K I1 H1 H σ v r) (s : Same I1 I2) (dt : ∀ a o, I2 a = some o → I1 a = some o ∨ isDat o = true) (h : recv Γ2 r = some sv) :
    SVok mg I2 H1 v sv ∧ sv.own = true ∧ ∃ a, v = .ref a := by
  cases r with
  | fz d => cases h
  | ow d => cases h
  | gl d => cases h
  | br i =>
    unfold recv at h
    simp only at h
    split at h
    · rename_i sv' q
      split at h
      · rename_i ho
        cases h
        obtain ⟨w, e1, o⟩ := e2.rep.slot i _ q
        have hv : σ[i]? = some (some v) := ok
        rw [hv] at e1; cases e1
        refine ⟨o, ho, ?_⟩
        cases sv with
        | fz d => cases ho
        | sc d => cases ho
        | ow d => obtain ⟨a, ea, _⟩ := o; exact ⟨a, ea⟩
        | ob c fs => obtain ⟨a, ea, _⟩ := o; exact ⟨a, ea⟩
      · cases h
    · cases h
  | ob c fs =>
    cases h
    obtain ⟨a, ea, ⟨⟨C, dx, fv, z1, z2, z3, z4, z5⟩, z6⟩, f⟩ := ok
    refine ⟨⟨a, ea, ⟨C, dx, fv, z1, z2, z3, ?_, z5.mono s⟩, ?_⟩, rfl, a, ea⟩
    · cases q : I2 dx with
      | none => rfl
      | some o =>
        rcases dt dx o q with z | z
        · rw [z4] at z; cases z
        · have := e2.rep.same dx o q
          rw [z3] at this; cases this; cases z
    · cases q : I2 a with
      | none => rfl
      | some o =>
        rcases dt a o q with z | z
        · rw [z6] at z; cases z
        · have := e2.rep.same a o q
          rw [z2] at this; cases this; cases z
/-- behind such a call -/
theorem back_ok {I' H' : Hp} {v : V} {r : RV} {sv o : SV} {a : Addr} (r0 : Rep mg I H σ Γ) (e2 : Ep mg σ I H Γ I2 H1 Γ2) (ok : RVok mg K I1 H1 H σ v r) (ev : v = .ref a) (h : recv Γ2 r = some sv) (oks : SVok mg I2 H1 v sv)
    (st : Stp (fun b => b = a) I2 H1 I' H') (sm : Same I' H') (oo : o.own = true) (ook : SVok mg I' H' v o) : Ep mg σ I H Γ I' H' (back r o Γ2) := by
  have others : ∀ {i : Nat}, (∀ j sv', j ≠ i → Γ2[j]? = some (some sv') → sv'.own = true → σ[j]? ≠ some (some (.ref a))) → ∀ (j : Nat) (sv' : SV), j ≠ i → Γ2[j]? = some (some sv') → ∃ v, σ[j]? = some (some v) ∧ SVok mg I' H' v sv' := by
    intro i hne j sv' hj q
    obtain ⟨w, e1, q2⟩ := e2.rep.slot j sv' q
    refine ⟨w, e1, ?_⟩
    cases sv' with
    | fz d => exact Rp.mono st.inc q2
    | sc d => exact ScOk.mono st.inc q2
    | ow d =>
      obtain ⟨x, ex, q3⟩ := q2
      exact ⟨x, ex, q3.stp st fun z => hne j _ hj q rfl (by rw [e1, ex, z])⟩
    | ob c fs =>
      obtain ⟨x, ex, q3⟩ := q2
      refine ⟨x, ex, q3.stp st (fun z => hne j _ hj q rfl (by rw [e1, ex, z])) fun y z hy hz => ?_⟩
      subst hy
      subst ev
      cases sv with
      | sc d =>
        cases r with
        | br k =>
          simp only [recv] at h
          split at h
          · split at h
            · rename_i ho; cases h; cases ho
            · cases h
          · cases h
        | ob c fs => cases h
        | _ => cases h
      | fz d =>
        cases r with
        | br k =>
          simp only [recv] at h
          split at h
          · split at h
            · rename_i ho; cases h; cases ho
            · cases h
          · cases h
        | ob c fs => cases h
        | _ => cases h
      | ow d => obtain ⟨b, eb, ⟨o', q1, q2⟩, _⟩ := oks; cases eb; rw [hz] at q1; cases q1; cases q2
      | ob c fs => obtain ⟨b, eb, ⟨C, dx, fv, _, q1, _⟩, _⟩ := oks; cases eb; rw [hz] at q1; cases q1
  cases r with
  | fz d => cases h
  | ow d => cases h
  | gl d => cases h
  | ob c fs =>
    obtain ⟨b, eb, _, f⟩ := ok
    rw [ev] at eb
    cases eb
    have nown : ∀ x, ownA σ Γ2 x → x ≠ a := fun x hx z => e2.owned r0 x hx (by rw [z]; exact f)
    refine ⟨e2.stp.trans st fun x hx => .inr (by rw [hx]; exact f), ⟨sm, fun j sv' q => ?_, e2.rep.inj, e2.rep.len⟩, e2.les⟩
    exact others (i := σ.length + Γ2.length + j + 1) (fun k s _ q1 q2 q3 => nown a ⟨k, ⟨s, q1, q2⟩, q3⟩ rfl) j sv' (by omega) q
  | br i =>
    have hv : σ[i]? = some (some v) := ok
    have hown : isOwn Γ2 i := by
      simp only [recv] at h
      split at h
      · rename_i sv' q
        split at h
        · rename_i ho; exact ⟨sv', q, ho⟩
        · cases h
      · cases h
    have hi : i < Γ2.length := by
      obtain ⟨s, q, _⟩ := hown
      rcases Nat.lt_or_ge i Γ2.length with z | z
      · exact z
      · rw [List.getElem?_eq_none z] at q; cases q
    have ia : ownA σ Γ2 a := ⟨i, hown, by rw [hv, ev]⟩
    have les : ∀ j : Nat, isOwn (Γ2.set i (some o)) j → isOwn Γ2 j := fun j ⟨s, q1, q2⟩ => by
      rcases get_set q1 with ⟨rfl, _, _⟩ | ⟨_, z⟩
      · exact hown
      · exact ⟨s, z, q2⟩
    refine ⟨e2.stp.trans st fun x hx => .inl (by rw [hx]; exact e2.les.own ia), ⟨sm, fun j sv' q => ?_, fun j k x hjk h1 h2 => e2.rep.inj j k x hjk (les j h1) (les k h2), ?_⟩, ⟨?_, fun j hj => e2.les.2 j (les j hj)⟩⟩
    · rcases get_set q with ⟨rfl, ez, _⟩ | ⟨hj, z⟩
      · cases ez
        exact ⟨v, hv, ook⟩
      · exact others (i := i) (fun k s hk q1 q2 q3 => e2.rep.inj i k a (fun z => hk z.symm) hown ⟨s, q1, q2⟩ (by rw [hv, ev]) q3) j sv' (fun z => hj z.symm) z
    · show (Γ2.set i (some o)).length = _
      rw [List.length_set]; exact e2.rep.len
    · show (Γ2.set i (some o)).length = _
      rw [List.length_set]; exact e2.les.1
end
section
variable {X : Cx} {W : WX} {pos p : Pos} {e : Expr} {es : List Expr} {n k : Nat} {ms : M (List RV)} {x : Str} {f : Addr} {fd : FuncData} {ps : List Str} {C : List SV → Fo} {σ : St} {I H I1 H1 : Hp} {Γ Γ1 : Env}
/-- the callee, its first argument and the others evaluated -/
theorem io_call {v : V} {vs : List V} {r : RV} {rest : List RV} {Q : VK} (r0 : Rep X.mg I H σ Γ) (e1 : Ep X.mg σ I H Γ I1 H1 Γ1) (ok : RVok X.mg X.K I1 H1 H σ v r) (oks : RVs X.mg X.K I1 H1 H σ vs rest) (hn : rest.length + 1 = n)
    (q : Rs X.mg W σ I H Γ ((frzs rest Γ1).bind (callIo C r)) fun rv _ I' H' => ∀ v, RVok X.mg X.K I' H' H σ v rv → Q v H') : spF X.mg true n C (v :: vs) H1 Q (WE W σ) := by
  cases p : frzs rest Γ1 with
  | no => rw [p] at q; exact q.elim
  | ex e Γ2 => exact (frzs_noex p).elim
  | ok ds Γ2 =>
    rw [p] at q
    obtain ⟨I2, e2, rps, s2, dt⟩ := e1.frzs r0 oks.w p
    have q : Rs X.mg W σ I H Γ (callIo C r ds Γ2) _ := q
    unfold callIo at q
    cases hr : recv Γ2 r with
    | none => rw [hr] at q; exact q.elim
    | some sv =>
      rw [hr] at q
      simp only at q
      obtain ⟨sok, so, a, ea⟩ := recv_ok r0 e2 ok s2 dt hr
      have hlen : ds.length = rest.length := by rw [← rps.length]; exact Paired.length oks
      refine ⟨I2, sv :: ds.map SV.fz, by rw [List.length_cons, List.length_map, hlen]; exact hn, ⟨e2.rep.same, .cons sok (svs_fz rps), fun i s z => ?_⟩, ?_⟩
      · cases i with
        | zero => cases z; exact so
        | succ i =>
          have z : (ds.map SV.fz)[i]? = some s := z
          rw [fz_own z]; rfl
      · have ho : ∀ b, ioA true (v :: vs) b → b = a := fun b ⟨_, z⟩ => by
          have z : some v = some (.ref b) := z
          rw [ea] at z; cases z; rfl
        cases y : C (sv :: ds.map SV.fz) with
        | no => rw [y] at q; exact q.elim
        | ret r' out =>
          rw [y] at q
          intro u I' H' st sm uok fr oo
          obtain ⟨v', o, z1, z2, z3, z4⟩ := oo rfl
          cases z1
          subst z2
          exact q I' H' (back_ok r0 e2 ok ea hr sok (st.mono ho) sm z3 z4) u (rv_ret uok fr e2.stp.dom)
        | ex x out =>
          rw [y] at q
          intro cls d I' H' st sm xo oo
          obtain ⟨v', o, z1, z2, z3, z4⟩ := oo rfl
          cases z1
          subst z2
          exact q cls d I' H' (back_ok r0 e2 ok ea hr sok (st.mono ho) sm z3 z4) xo
theorem fe_callIo (F : FnOk X.prog X.w X.K X.mg X.base (L2.CX X.prog X.w) k f fd ps (spF X.mg true n C)) (hr : Room k X.A) (hg : Gl X x) (hm : X.mg x = some (.ref f)) (hk : PySem.W.keepIn X.K (.ref f) = true) (hb : L2.Binds X.K fd ps []) (tk : Takes X W)
    (ha : FA X W (e :: es) n ms) (hdb : (x == ("__debug__" : Str)) = false := by decide) (he : starEach (e :: es) X.env = (false, eval e X.env) :: starEach es X.env := by rfl) (hpl : (backTo pos (starEach es X.env)).any (·.1) = false := by rfl) :
    FE X W (.Call (.Name x p) (e :: es) [] pos) (mCallIo C ms) := by
  refine PE.imp (pe_callS F hr hg hm hk hb (fun σ => passAt tk σ) ha.pa hdb he hpl) fun σ H Q ⟨I, Γ, r, q⟩ => ⟨I, Γ, r, ?_⟩
  have q := q.bind0
  cases eq : ms Γ with
  | no => rw [eq] at q; exact q
  | ex e Γ1 => rw [eq] at q; exact q
  | ok rs Γ1 =>
    rw [eq] at q
    intro I1 H1 e1 vs oks
    obtain ⟨_, q⟩ := q I1 H1 e1
    have hl := ha.len _ _ _ eq
    cases oks with
    | nil => exact q.elim
    | cons ok oks => exact io_call r e1 ok oks hl q
end
end DZ

set_option maxRecDepth 100000
set_option maxHeartbeats 4000000
namespace DZ
open PySem PySem.Spec L2
open PyProof.Rows hiding St

/-! ### comprehensions -/
def wipeE (Γ : Env) : List Nat → Env
  | [] => Γ
  | v :: vs => (wipeE Γ vs).set v none
/-- behind a turn: the block's own slots as they were outside -/
def mixE (vs : List Nat) (Γ0 Γ : Env) : Env := (List.range Γ0.length).map fun i => if i ∈ vs then (Γ0[i]?).getD none else (Γ[i]?).getD none
theorem wipeE_length (Γ : Env) : ∀ vs : List Nat, (wipeE Γ vs).length = Γ.length
  | [] => rfl
  | v :: vs => by show ((wipeE Γ vs).set v none).length = _; rw [List.length_set, wipeE_length Γ vs]
theorem wipeE_get {Γ : Env} {i : Nat} {sv : SV} : ∀ {vs : List Nat}, (wipeE Γ vs)[i]? = some (some sv) → Γ[i]? = some (some sv) ∧ i ∉ vs
  | [], h => ⟨h, by simp⟩
  | v :: vs, h => by
    rcases get_set (show ((wipeE Γ vs).set v none)[i]? = some (some sv) from h) with ⟨_, e, _⟩ | ⟨hne, e⟩
    · cases e
    · obtain ⟨h1, h2⟩ := wipeE_get e
      exact ⟨h1, fun z => by rcases List.mem_cons.mp z with z | z; exact hne z.symm; exact h2 z⟩
theorem wipe_in {σ : St} {i : Nat} : ∀ {vs : List Nat}, i ∈ vs → i < σ.length → (wipe σ vs)[i]? = some none
  | v :: vs, h, hi => by
    show ((wipe σ vs).set v none)[i]? = _
    by_cases hv : v = i
    · subst hv; exact List.getElem?_set_self (by rw [wipe_length]; exact hi)
    · rw [List.getElem?_set_ne hv]
      rcases List.mem_cons.mp h with z | z
      · exact absurd z.symm hv
      · exact wipe_in z hi
theorem wipeE_out {Γ : Env} {i : Nat} : ∀ {vs : List Nat}, i ∉ vs → (wipeE Γ vs)[i]? = Γ[i]?
  | [], _ => rfl
  | v :: vs, h => by
    show ((wipeE Γ vs).set v none)[i]? = _
    rw [List.getElem?_set_ne (fun z => h (by rw [z]; exact List.mem_cons_self)), wipeE_out fun z => h (List.mem_cons_of_mem _ z)]
theorem mixE_get {vs : List Nat} {Γ0 Γ : Env} {i : Nat} {sv : SV} (h : (mixE vs Γ0 Γ)[i]? = some (some sv)) : (i ∈ vs ∧ Γ0[i]? = some (some sv)) ∨ (i ∉ vs ∧ Γ[i]? = some (some sv)) := by
  unfold mixE at h
  rw [List.getElem?_map] at h
  rcases Nat.lt_or_ge i Γ0.length with z | z
  · rw [List.getElem?_range z] at h
    simp only [Option.map_some, Option.some.injEq] at h
    split at h
    · rename_i hv
      cases q : Γ0[i]? with
      | none => rw [q] at h; cases h
      | some y => rw [q] at h; exact .inl ⟨hv, by rw [show y = some sv from h]⟩
    · rename_i hv
      cases q : Γ[i]? with
      | none => rw [q] at h; cases h
      | some y => rw [q] at h; exact .inr ⟨hv, by rw [show y = some sv from h]⟩
  · rw [List.getElem?_eq_none (by rw [List.length_range]; exact z)] at h; cases h
theorem mixE_length (vs : List Nat) (Γ0 Γ : Env) : (mixE vs Γ0 Γ).length = Γ0.length := by unfold mixE; rw [List.length_map, List.length_range]
/-- all slots but these -/
def outP (N : Nat) (vs : List Nat) : List Nat := (List.range N).filter fun i => !vs.contains i
theorem mem_outP {N i : Nat} {vs : List Nat} : i ∈ outP N vs ↔ i < N ∧ i ∉ vs := by
  unfold outP
  rw [List.mem_filter, List.mem_range]
  simp
/-- the loop: its target, what a turn makes of the new object's content -/
def lcG (vs : List Nat) (tg : Tgt) (turn : PyData → Env → Out PyData) : List PyData → PyData → Env → Out PyData
  | [], acc, Γ => .ok acc Γ
  | d :: ds, acc, Γ => match tg d (wipeE Γ vs) with
    | none => .no
    | some Γ1 => match turn acc Γ1 with
      | .ok acc' Γ2 => lcG vs tg turn ds acc' (mixE vs Γ Γ2)
      | _ => .no
/-- the heap with the object at D: what may have changed -/
structure Ed (mg : Str → Option Value) (D : Addr) (σ : St) (I H : Hp) (Γ : Env) (I' H' : Hp) (Γ' : Env) : Prop where
  stp : Stp (fun a => ownA σ Γ a ∨ a = D) I H I' H'
  rep : Rep mg I' H' σ Γ'
  les : Les Γ Γ'
structure At (D : Addr) (I H : Hp) (acc : PyData) : Prop where
  ex : ∃ o, H D = some o ∧ Ob I o acc
  fr : I D = none
def Rd1 (mg : Str → Option Value) (D : Addr) (σ : St) (I H : Hp) (Γ : Env) (o : Out PyData) (Nx : Hp → Prop) : Prop := match o with
  | .ok acc' Γ' => ∀ I' H', Ed mg D σ I H Γ I' H' Γ' → At D I' H' acc' → Nx H'
  | _ => False
def TurnOk (mg : Str → Option Value) (D : Addr) (tr : St → Hp → (Hp → Prop) → Prop) (turn : PyData → Env → Out PyData) : Prop :=
  ∀ σ I H Γ acc Nx, Rep mg I H σ Γ → At D I H acc → (∀ x, ownA σ Γ x → x ≠ D) → Rd1 mg D σ I H Γ (turn acc Γ) Nx → tr σ H Nx
section
variable {mg : Str → Option Value} {D : Addr} {σ : St} {I H I1 H1 I2 H2 : Hp} {Γ Γ1 Γ2 : Env}
theorem Ed.refl (r : Rep mg I H σ Γ) : Ed mg D σ I H Γ I H Γ := ⟨Stp.refl, r, Les.refl⟩
theorem Ed.trans (a : Ed mg D σ I H Γ I1 H1 Γ1) (b : Ed mg D σ I1 H1 Γ1 I2 H2 Γ2) : Ed mg D σ I H Γ I2 H2 Γ2 :=
  ⟨a.stp.trans b.stp fun x h => .inl (h.imp a.les.own id), b.rep, a.les.trans b.les⟩
theorem Ep.ed (a : Ep mg σ I H Γ I1 H1 Γ1) : Ed mg D σ I H Γ I1 H1 Γ1 := ⟨a.stp.mono fun _ h => .inl h, a.rep, a.les⟩
theorem At.ep {acc : PyData} (a : At D I H acc) (n : ∀ x, ownA σ Γ x → x ≠ D) (e : Ep mg σ I H Γ I1 H1 Γ1) : At D I1 H1 acc := by
  obtain ⟨⟨o, e1, e2⟩, fr⟩ := a
  have nD : ¬ ownA σ Γ D := fun z => n D z rfl
  obtain ⟨z1, z2⟩ := OwnAt.stp (a := D) (d := acc) ⟨⟨o, e1, e2⟩, fr⟩ e.stp nD
  exact ⟨z1, z2⟩
theorem Rep.wipe (r : Rep mg I H σ Γ) (vs : List Nat) : Rep mg I H (wipe σ vs) (wipeE Γ vs) where
  same := r.same
  slot := fun i sv h => by
    obtain ⟨h1, h2⟩ := wipeE_get h
    obtain ⟨v, e, ok⟩ := r.slot i sv h1
    exact ⟨v, by rw [wipe_out h2]; exact e, ok⟩
  inj := fun i j a hij ⟨s1, h1, o1⟩ ⟨s2, h2, o2⟩ e1 e2 => by
    obtain ⟨z1, n1⟩ := wipeE_get h1
    obtain ⟨z2, n2⟩ := wipeE_get h2
    rw [wipe_out n1] at e1
    rw [wipe_out n2] at e2
    exact r.inj i j a hij ⟨s1, z1, o1⟩ ⟨s2, z2, o2⟩ e1 e2
  len := by rw [wipeE_length, wipe_length]; exact r.len
theorem own_wipe {vs : List Nat} {i : Nat} (h : isOwn (wipeE Γ vs) i) : isOwn Γ i ∧ i ∉ vs := by
  obtain ⟨s, h1, o⟩ := h
  obtain ⟨z, n⟩ := wipeE_get h1
  exact ⟨⟨s, z, o⟩, n⟩
/-- a turn's end, seen from outside -/
theorem Ed.mix {σ2 : St} {vs : List Nat} {N : Nat} (r : Rep mg I H σ Γ) (hN : σ.length = N) (r2 : Rep mg I H σ2 Γ1) (t : Tq (outP N vs) (wipe σ vs) (wipeE Γ vs) σ2 Γ1) (e : Ed mg D σ2 I H Γ1 I2 H2 Γ2) (nD : ∀ x, ownA σ Γ x → x ≠ D) (hD : ∀ y, H D ≠ some (.own y)) :
    Ed mg D σ I H Γ I2 H2 (mixE vs Γ Γ2) := by
  have inner : ∀ i, isOwn Γ1 i → i < N → isOwn Γ i ∧ i ∉ vs ∧ σ2[i]? = σ[i]? := fun i h hi => by
    by_cases hv : i ∈ vs
    · exfalso
      obtain ⟨s, h1, o⟩ := h
      obtain ⟨v, e1, ok⟩ := r2.slot i s h1
      obtain ⟨a, ea⟩ : ∃ a, v = .ref a := by
        cases s with
        | fz d => cases o
        | sc d => cases o
        | ow d => obtain ⟨a, ea, _⟩ := ok; exact ⟨a, ea⟩
        | ob c fs => obtain ⟨a, ea, _⟩ := ok; exact ⟨a, ea⟩
      obtain ⟨j, hj, h2, e2⟩ := t.np a ⟨i, fun z => (mem_outP.mp z).2 hv, ⟨s, h1, o⟩, by rw [e1, ea]⟩
      obtain ⟨_, n2⟩ := own_wipe h2
      have : j < N := by
        obtain ⟨s', q, _⟩ := h2
        rcases Nat.lt_or_ge j N with z | z
        · exact z
        · rw [List.getElem?_eq_none (by rw [wipeE_length, r.len, hN]; exact z)] at q; cases q
      exact hj (mem_outP.mpr ⟨this, n2⟩)
    · have hp := mem_outP.mpr ⟨hi, hv⟩
      exact ⟨(own_wipe (t.pown i hp h)).1, hv, by rw [t.pin i hp, wipe_out hv]⟩
  have lt1 : ∀ (i : Nat) (Γx : Env), Γx.length = Γ1.length → isOwn Γx i → i < N := fun i Γx hl ⟨s, q, _⟩ => by
    rcases Nat.lt_or_ge i N with z | z
    · exact z
    · rw [List.getElem?_eq_none (by rw [hl, r2.len, t.slen, wipe_length, hN]; exact z)] at q; cases q
  have own1 : ∀ a, ownA σ2 Γ1 a → ownA σ Γ a := fun a ⟨i, h1, h2⟩ => by
    obtain ⟨z1, _, z3⟩ := inner i h1 (lt1 i Γ1 rfl h1)
    exact ⟨i, z1, by rw [← z3]; exact h2⟩
  have ownM : ∀ i, isOwn (mixE vs Γ Γ2) i → isOwn Γ i := fun i ⟨s, q, o⟩ => by
    rcases mixE_get q with ⟨_, z⟩ | ⟨_, z⟩
    · exact ⟨s, z, o⟩
    · have h1 := e.les.2 i ⟨s, z, o⟩
      exact (inner i h1 (lt1 i Γ1 rfl h1)).1
  refine ⟨e.stp.mono fun a h => h.imp (own1 a) id, ⟨e.rep.same, fun i sv q => ?_, fun i j a hij h1 h2 => r.inj i j a hij (ownM i h1) (ownM j h2), by rw [mixE_length]; exact r.len⟩, mixE_length _ _ _, ownM⟩
  rcases mixE_get q with ⟨hv, z⟩ | ⟨hv, z⟩
  · obtain ⟨v, e1, ok⟩ := r.slot i sv z
    refine ⟨v, e1, ?_⟩
    have nO : sv.own = true → ∀ a, v = .ref a → ¬ (ownA σ2 Γ1 a ∨ a = D) := fun o a ea hO => by
      rcases hO with ⟨j, h1, h2⟩ | hO
      · obtain ⟨z1, z2, z3⟩ := inner j h1 (lt1 j Γ1 rfl h1)
        refine r.inj i j a (fun z => z2 (by rw [← z]; exact hv)) ⟨sv, z, o⟩ z1 (by rw [e1, ea]) (by rw [← z3]; exact h2)
      · exact nD a ⟨i, ⟨sv, z, o⟩, by rw [e1, ea]⟩ hO
    cases sv with
    | fz d => exact Rp.mono e.stp.inc ok
    | sc d => exact ScOk.mono e.stp.inc ok
    | ow d => obtain ⟨a, ea, o⟩ := ok; exact ⟨a, ea, o.stp e.stp (nO rfl a ea)⟩
    | ob c fs =>
      obtain ⟨a, ea, o⟩ := ok
      refine ⟨a, ea, o.stp e.stp (nO rfl a ea) fun x y hx => ?_⟩
      rcases hx with hx | hx
      · exact r.noOwn x y (own1 x hx)
      · rw [hx]; exact hD y
  · obtain ⟨v, e1, ok⟩ := e.rep.slot i sv z
    have hi : i < N := by
      rcases Nat.lt_or_ge i N with c | c
      · exact c
      · rw [List.getElem?_eq_none (by rw [e.les.1, r2.len, t.slen, wipe_length, hN]; exact c)] at z; cases z
    refine ⟨v, ?_, ok⟩
    rw [← e1, t.pin i (mem_outP.mpr ⟨hi, hv⟩), wipe_out hv]
theorem own_mixN (r : Rep mg I H σ Γ) (e : Ed mg D σ I H Γ I1 H1 Γ1) (nD : ∀ x, ownA σ Γ x → x ≠ D) : ∀ x, ownA σ Γ1 x → x ≠ D := fun x h => nD x (e.les.own h)
/-- the loop itself -/
theorem loop_ok {J : It} {I0 : Hp} {ds : List PyData} {g : TG} {tg : Tgt} {vs : List Nat} {N : Nat} {tr : St → Hp → (Hp → Prop) → Prop} {turn : PyData → Env → Out PyData} {acc : PyData} {Nx : Hp → Prop}
    (hJ : ItOk J I0 ds) (hg : ∀ v σ H Q, Tg mg (outP N vs) tg v σ H Q → g v σ H Q) (ht : TurnOk mg D tr turn) (hN : σ.length = N) (r : Rep mg I H σ Γ) (s0 : Same I0 I) (a : At D I H acc) (nD : ∀ x, ownA σ Γ x → x ≠ D)
    (h : Rd1 mg D σ I H Γ (lcG vs tg turn ds acc Γ) Nx) :
    ∃ W : Nat → Nat → Hp → Prop, (∃ m, W 0 m H) ∧ ∀ i m H, W i m H → (J.stop i H ∧ Nx H) ∨ (J.go i H ∧ ∃ N1 : Hp → Prop, (∀ H', N1 H' → ∃ m', m' < m ∧ W (i + 1) m' H') ∧
      ∀ x H', J.yld i H x H' → g x (wipe σ vs) H' fun σ2 H2 => wipe σ2 vs = wipe σ vs ∧ tr σ2 H2 N1) := by
  refine ⟨fun i m H' => m = ds.length - i ∧ i ≤ ds.length ∧ ∃ I' Γ' acc', Same I0 I' ∧ Rep mg I' H' σ Γ' ∧ At D I' H' acc' ∧ (∀ x, ownA σ Γ' x → x ≠ D) ∧ Rd1 mg D σ I' H' Γ' (lcG vs tg turn (ds.drop i) acc' Γ') Nx,
    ⟨_, rfl, Nat.zero_le _, I, Γ, acc, s0, r, a, nD, h⟩, fun i m H ⟨em, hi, I, Γ, acc, s0, r, a, nD, h⟩ => ?_⟩
  rcases Nat.lt_or_ge i ds.length with hlt | hge
  · obtain ⟨d, ed⟩ : ∃ d, ds[i]? = some d := ⟨_, List.getElem?_eq_getElem hlt⟩
    have edr : ds.drop i = d :: ds.drop (i + 1) := by
      rw [List.drop_eq_getElem_cons hlt]
      rw [List.getElem?_eq_getElem hlt] at ed
      rw [Option.some.inj ed]
    rw [edr] at h
    obtain ⟨g1, g2⟩ := hJ.go i d I H s0 r.same ed
    refine .inr ⟨g1, fun H' => ∃ m', m' < m ∧ (m' = ds.length - (i + 1) ∧ i + 1 ≤ ds.length ∧ ∃ I' Γ' acc', Same I0 I' ∧ Rep mg I' H' σ Γ' ∧ At D I' H' acc' ∧ (∀ x, ownA σ Γ' x → x ≠ D) ∧ Rd1 mg D σ I' H' Γ' (lcG vs tg turn (ds.drop (i + 1)) acc' Γ') Nx), fun H' z => z, fun x H2 y => ?_⟩
    obtain ⟨I2, st, sm, rp⟩ := g2 x H2 y
    have e2 := Ep.step r st sm
    simp only [lcG] at h
    cases z : tg d (wipeE Γ vs) with
    | none => rw [z] at h; exact h.elim
    | some Γ1 =>
      rw [z] at h
      simp only at h
      refine hg _ _ _ _ ⟨I2, wipeE Γ vs, d, e2.rep.wipe vs, rp, Γ1, z, fun σ2 r2 t2 => ⟨?_, ?_⟩⟩
      · -- the target stores at the block's own slots alone
        refine List.ext_getElem? fun j => ?_
        have hl : σ2.length = N := by rw [t2.slen, wipe_length, hN]
        rcases Nat.lt_or_ge j N with c | c
        · by_cases hv : j ∈ vs
          · rw [wipe_in hv (by rw [hl]; exact c), wipe_in hv (by rw [hN]; exact c)]
          · rw [wipe_out hv, t2.pin j (mem_outP.mpr ⟨c, hv⟩)]
        · rw [List.getElem?_eq_none (by rw [wipe_length, hl]; exact c), List.getElem?_eq_none (by rw [wipe_length, hN]; exact c)]
      · have hDn : ∀ y, H2 D ≠ some (.own y) := fun y q => by
          obtain ⟨⟨o, q1, q2⟩, _⟩ := a.ep nD e2
          rw [q] at q1; cases q1; cases q2
        have nD1 : ∀ x, ownA σ2 Γ1 x → x ≠ D := fun x hx => by
          have e0 : Ed mg D σ2 I2 H2 Γ1 I2 H2 Γ1 := Ed.refl r2
          have m0 := Ed.mix e2.rep hN r2 t2 e0 nD hDn
          intro q
          subst q
          obtain ⟨j, h1, h2⟩ := hx
          have lt : j < N := by
            obtain ⟨s, c, _⟩ := h1
            rcases Nat.lt_or_ge j N with w | w
            · exact w
            · rw [List.getElem?_eq_none (by rw [r2.len, t2.slen, wipe_length, hN]; exact w)] at c; cases c
          by_cases hv : j ∈ vs
          · obtain ⟨k, hk, h3, e3⟩ := t2.np _ ⟨j, fun c => (mem_outP.mp c).2 hv, h1, h2⟩
            obtain ⟨z1, z2⟩ := own_wipe h3
            rw [wipe_out z2] at e3
            exact nD _ ⟨k, z1, e3⟩ rfl
          · have hp := mem_outP.mpr ⟨lt, hv⟩
            have z1 := (own_wipe (t2.pown j hp h1)).1
            rw [t2.pin j hp, wipe_out hv] at h2
            exact nD _ ⟨j, z1, h2⟩ rfl
        refine ht σ2 I2 H2 Γ1 acc _ r2 (a.ep nD e2) nD1 ?_
        cases q : turn acc Γ1 with
        | no => rw [q] at h; exact h.elim
        | ex e Γ2 => rw [q] at h; exact h.elim
        | ok acc' Γ2 =>
          rw [q] at h
          intro I' H' ed' at'
          have m := Ed.mix e2.rep hN r2 t2 ed' nD hDn
          refine ⟨_, by omega, rfl, hlt, I', _, acc', (s0.trans st.inc).trans m.stp.inc, m.rep, at', fun x hx => nD x (m.les.own hx), ?_⟩
          have h : Rd1 mg D σ I H Γ (lcG vs tg turn (ds.drop (i + 1)) acc' (mixE vs Γ Γ2)) Nx := h
          generalize lcG vs tg turn (ds.drop (i + 1)) acc' (mixE vs Γ Γ2) = o at h ⊢
          cases o with
          | ok b Γ3 => exact fun I'' H'' ed'' at'' => h I'' H'' ((e2.ed.trans m).trans ed'') at''
          | ex e Γ3 => exact h
          | no => exact h
  · have hi' : i = ds.length := by omega
    subst hi'
    rw [List.drop_length] at h
    exact .inl ⟨hJ.stop I H s0 r.same, h I H (Ed.refl r) a⟩
/-! ### list comprehensions -/
def appD (acc y : PyData) : Option PyData := match acc with
  | .list xs => if xs.length < sizeLine then some (.list (xs ++ [y])) else none
  | _ => none
def Out.ofO {α : Type} (o : Option α) (Γ : Env) : Out α := match o with
  | some a => .ok a Γ
  | none => .no
def turnL (tt : M Bool) (te : M RV) (acc : PyData) (Γ : Env) : Out PyData := (tt Γ).bind fun b Γ1 => if b = true then (te Γ1).bind fun rv Γ2 => (frz rv Γ2).bind fun y Γ3 => Out.ofO (appD acc y) Γ3 else .ok acc Γ1
abbrev WF : WX := fun _ _ _ _ => False
/-- in a turn nothing is raised -/
theorem Rd1.bind {α : Type} {o : Out α} {f : α → Env → Out PyData} {Nx : Hp → Prop} (h : Rd1 mg D σ I H Γ (o.bind f) Nx) :
    Rs mg WF σ I H Γ o fun a Γ1 I1 H1 => Ep mg σ I H Γ I1 H1 Γ1 ∧ Rd1 mg D σ I1 H1 Γ1 (f a Γ1) Nx := by
  cases o with
  | no => exact h
  | ex e Γ1 => exact h.elim
  | ok a Γ1 =>
    intro I1 H1 e1
    refine ⟨e1, ?_⟩
    have h : Rd1 mg D σ I H Γ (f a Γ1) Nx := h
    generalize f a Γ1 = o at h ⊢
    cases o with
    | ok b Γ2 => exact fun I' H' e2 => h I' H' (e1.ed.trans e2)
    | ex e Γ2 => exact h
    | no => exact h
theorem Rd1.bind0 {α : Type} {o : Out α} {f : α → Env → Out PyData} {Nx : Hp → Prop} (h : Rd1 mg D σ I H Γ (o.bind f) Nx) :
    Rs mg WF σ I H Γ o fun a Γ1 I1 H1 => Ep mg σ I H Γ I1 H1 Γ1 ∧ Rd1 mg D σ I H Γ (f a Γ1) Nx := by
  cases o with
  | no => exact h
  | ex e Γ1 => exact h.elim
  | ok a Γ1 => exact fun I1 H1 e1 => ⟨e1, h⟩
theorem turn_list {K : PySem.W.Frag} {tt : M Bool} {te : M RV} : TurnOk mg D (fun σ2 H2 Nx => Tb mg WF tt σ2 H2 fun b H3 => if b = true then Tm mg K WF te σ2 H3 fun y H4 => ∃ acc, H4 D = some (.lst acc) ∧ acc.length < sizeLine ∧ Nx (upd H4 D (.lst (acc ++ [y]))) else Nx H3) (turnL tt te) := by
  intro σ I H Γ acc Nx r a nD h
  refine ⟨I, Γ, r, h.bind.imp fun b Γ1 I1 H1 _ ⟨e1, h⟩ => ?_⟩
  have a1 := a.ep nD e1
  have nD1 : ∀ x, ownA σ Γ1 x → x ≠ D := fun x z => nD x (e1.les.own z)
  cases b with
  | false => exact h I1 H1 (Ed.refl e1.rep) a1
  | true =>
    refine ⟨I1, Γ1, e1.rep, (Rd1.bind0 h).imp fun rv Γ2 I2 H2 _ ⟨e2, h⟩ v ok => ?_⟩
    cases q : frz rv Γ2 with
    | no => rw [q] at h; exact h.elim
    | ex e Γ3 => exact (frz_noex q).elim
    | ok y Γ3 =>
      rw [q] at h
      obtain ⟨I3, e3, rp, s3, _⟩ := e2.frz e1.rep ok.w q
      obtain ⟨⟨o, z1, z2⟩, z3⟩ := a1.ep nD1 e3
      have z0 := (a1.ep nD1 e2).ex
      have h : Rd1 mg D σ I1 H1 Γ1 (Out.ofO (appD acc y) Γ3) Nx := h
      cases z2 with
      | @lst xs ds rps =>
        simp only [appD] at h
        split at h
        · rename_i hl
          refine ⟨xs, z1, by rw [rps.length]; exact hl, ?_⟩
          have sI : Same I3 (upd H2 D (.lst (xs ++ [v]))) := fun x u e => by
            rw [upd_ne (fun c => by rw [c, z3] at e; cases e)]
            exact e3.rep.same x u e
          have notD : ∀ j, isOwn Γ3 j → σ[j]? ≠ some (some (.ref D)) := fun j hj c => nD1 D (e3.les.own ⟨j, hj, c⟩) rfl
          have r4 : Rep mg I3 (upd H2 D (.lst (xs ++ [v]))) σ Γ3 := by
            refine ⟨sI, fun j sv c => ?_, e3.rep.inj, e3.rep.len⟩
            obtain ⟨w, c1, ok⟩ := e3.rep.slot j sv c
            refine ⟨w, c1, ?_⟩
            cases sv with
            | fz d => exact ok
            | sc d => exact ok
            | ow d =>
              obtain ⟨b, eb, ⟨o, p1, p2⟩, p3⟩ := ok
              have : b ≠ D := fun z => notD j ⟨_, c, rfl⟩ (by rw [c1, eb, z])
              exact ⟨b, eb, ⟨o, by rw [upd_ne this]; exact p1, p2⟩, p3⟩
            | ob cl fs =>
              obtain ⟨b, eb, ⟨C, dx, fv, p1, p2, p3, p4, p5⟩, p6⟩ := ok
              have : b ≠ D := fun z => notD j ⟨_, c, rfl⟩ (by rw [c1, eb, z])
              have : dx ≠ D := fun z => by rw [z, z1] at p3; cases p3
              exact ⟨b, eb, ⟨C, dx, fv, p1, by rw [upd_ne ‹b ≠ D›]; exact p2, by rw [upd_ne this]; exact p3, p4, p5⟩, p6⟩
          have hupd : Stp (fun x => x = D) I3 H2 I3 (upd H2 D (.lst (xs ++ [v]))) :=
            ⟨Same.refl _, fun x u nx e => by rw [upd_ne nx]; exact e, fun x e => by
              by_cases c : x = D
              · rw [c, upd_same] at e; cases e
              · rw [upd_ne c] at e; exact e, fun x u e => .inl e⟩
          have e13 : Ed mg D σ I1 H1 Γ1 I3 (upd H2 D (.lst (xs ++ [v]))) Γ3 := ⟨e3.ed.stp.trans hupd fun x c => .inl (.inr c), r4, e3.les⟩
          exact h _ _ e13 ⟨⟨_, upd_same, .lst (rps.append (.cons rp .nil))⟩, z3⟩
        · exact h.elim
      | _ => exact h.elim
def mLc (vs : List Nat) (mi : M (List PyData)) (tg : Tgt) (tt : M Bool) (te : M RV) : M RV := fun Γ => (mi Γ).bind fun ds Γ1 => (match lcG vs tg (turnL tt te) ds (.list []) Γ1 with
  | .ok acc Γ2 => .ok (.ow acc) Γ2
  | _ => .no)
theorem tm_lc {K : PySem.W.Frag} {W : WX} {vs : List Nat} {mi : M (List PyData)} {tg : Tgt} {g : TG} {tt : M Bool} {te : M RV} {N : Nat} (hg : ∀ v σ H Q, Tg mg (outP N vs) tg v σ H Q → g v σ H Q) :
    ∀ σ H Q, σ.length = N → Tm mg K W (mLc vs mi tg tt te) σ H Q → tLc (Tit mg W mi) g (Tb mg WF tt) (Tm mg K WF te) vs σ H Q := by
  intro σ H Q hN ⟨I, Γ, r, h⟩
  refine ⟨I, Γ, r, h.bind0.imp fun ds Γ1 I1 H1 _ ⟨e1, h⟩ J hJ D nD => ?_⟩
  have hn := Ep.newO e1.rep (o := .lst []) nD
  have nD0 : H D = none := e1.stp.dom D nD
  have a0 : At D I1 (upd H1 D (.lst [])) (.list []) := ⟨⟨_, upd_same, .lst .nil⟩, same_none e1.rep.same nD⟩
  have e0 := e1.trans hn
  refine loop_ok (D := D) (tr := fun σ2 H2 Nx => Tb mg WF tt σ2 H2 fun b H3 => if b = true then Tm mg K WF te σ2 H3 fun y H4 => ∃ acc, H4 D = some (.lst acc) ∧ acc.length < sizeLine ∧ Nx (upd H4 D (.lst (acc ++ [y]))) else Nx H3) (Nx := fun H' => Q (.ref D) H') hJ hg turn_list hN hn.rep (Same.refl I1) a0 (fun x hx c => e0.owned r x hx (by rw [c]; exact nD0)) ?_
  cases q : lcG vs tg (turnL tt te) ds (.list []) Γ1 with
  | no => rw [q] at h; exact h.elim
  | ex e Γ2 => rw [q] at h; exact h.elim
  | ok acc Γ2 =>
    rw [q] at h
    intro I' H' ed at'
    obtain ⟨at1, at2⟩ := at'
    have ep : Ep mg σ I H Γ I' H' Γ2 := ⟨e0.stp.trans ed.stp fun x c => c.elim (fun z => .inl (e0.les.own z)) fun z => .inr (by rw [z]; exact nD0), ed.rep, e0.les.trans ed.les⟩
    exact h I' H' ep (.ref D) ⟨D, rfl, ⟨at1, at2⟩, nD0⟩
end
section
variable {X : Cx} {W : WX}
theorem PE.impL {e : Expr} {t t' : TE} (h : PE X e t) (i : ∀ σ H Q, σ.length = X.N.length → t' σ H Q → t σ H Q) : PE X e t' := ⟨fun pins s σ H Q I q => h.run pins s σ H Q I (i σ H Q I.len q)⟩
theorem PS.impL {e : Stmt} {t t' : TS} (h : PS X e t) (i : ∀ D σ H, σ.length = X.N.length → t' D σ H → t D σ H) : PS X e t' := ⟨fun pins s σ H D I q => h.run pins s σ H D I (i D σ H I.len q)⟩
theorem PTs.imp {ifs : List Expr} {t t' : TT} (h : PTs X ifs t) (i : ∀ σ H Q, t' σ H Q → t σ H Q) : PTs X ifs t' := ⟨fun pins s σ H Q I q => h.run pins s σ H Q I (i σ H Q q)⟩
abbrev FPs (X : Cx) (W : WX) (ifs : List Expr) (t : M Bool) : Prop := PTs X ifs (Tb X.mg W t)
def mYes : M Bool := fun Γ => .ok true Γ
theorem fps_nil : FPs X W [] mYes := PTs.imp pts_nil fun σ H Q ⟨I, Γ, r, h⟩ => h.pure r
theorem fps_one {c : Expr} {t : M Bool} (h : FT X W c t) : FPs X W [c] t := pts_one h
variable {elt tg iter : Expr} {ifs : List Expr} {scope : Scope} {own : List (Str × Nat)} {pos : Pos} {mi : M (List PyData)} {t : Tgt} {tt : M Bool} {te : M RV} {N : Nat}
/-- [elt for tg in iter if ..] -/
theorem fe_lc (hc : X.calm = true) (hN : X.N.Nodup) (hl : X.N.length = N) (hi : FI X W tg iter mi) (ok : BlkOk X.N X.env.scope scope own)
    (hg : ∀ (s : Shared) (H : Hp) (C : Addr) (cl : List (Str × Addr)) (fp : List Addr), FG (X.blk s H scope (compEnvC scope cl C X.env) fp) (outP N (own.map (·.2))) tg t) (ht : ∀ (s : Shared) (H : Hp) (C : Addr) (cl : List (Str × Addr)) (fp : List Addr), FPs (X.blk s H scope (compEnvC scope cl C X.env) fp) WF ifs tt)
    (he : ∀ (s : Shared) (H : Hp) (C : Addr) (cl : List (Str × Addr)) (fp : List Addr), FE (X.blk s H scope (compEnvC scope cl C X.env) fp) WF elt te) (hs : ∀ x, foldedSetIterable iter X.env x = pure x := by intro _; rfl) :
    FE X W (.ListComp elt [⟨tg, iter, ifs, 0⟩] scope pos) (mLc (own.map (·.2)) mi t tt te) :=
  PE.impL (pe_lc hc hN hi ok hg ht he hs) fun σ H Q hσ h => tm_lc (N := N) (fun _ _ _ _ z => z) σ H Q (by rw [hσ, hl]) h
/-- name = [..] -/
theorem fs_setLc {i : Nat} {y : Str} {py spos : Pos} {P : List Nat} (hc : X.calm = true) (hN : X.N.Nodup) (hl : X.N.length = N) (hy : X.N[i]? = some y) (hyl : X.env.scope.names.lookup y = some .local)
    (hsw : swapsWith (.ListComp elt [⟨tg, iter, ifs, 0⟩] scope pos) (some (.Name y py)) spos.line X.env = pure true) (hi : FI X W tg iter mi) (ok : BlkOk X.N X.env.scope scope own)
    (hg : ∀ (s : Shared) (H : Hp) (C : Addr) (cl : List (Str × Addr)) (fp : List Addr), FG (X.blk s H scope (compEnvC scope cl C X.env) fp) (outP N (own.map (·.2))) tg t) (ht : ∀ (s : Shared) (H : Hp) (C : Addr) (cl : List (Str × Addr)) (fp : List Addr), FPs (X.blk s H scope (compEnvC scope cl C X.env) fp) WF ifs tt)
    (he : ∀ (s : Shared) (H : Hp) (C : Addr) (cl : List (Str × Addr)) (fp : List Addr), FE (X.blk s H scope (compEnvC scope cl C X.env) fp) WF elt te) (hs : ∀ x, foldedSetIterable iter X.env x = pure x := by intro _; rfl) (hp : i ∉ P := by decide) :
    FS X W P (.Assign [.Name y py] (.ListComp elt [⟨tg, iter, ifs, 0⟩] scope pos) spos) (mSet i (mLc (own.map (·.2)) mi t tt te)) :=
  PS.impL (ps_setLc hc hN hy hyl hsw hi ok hg ht he hs) fun D σ H hσ ⟨I, Γ, r, q⟩ =>
    tm_lc (N := N) (fun _ _ _ _ z => z) σ H _ (by rw [hσ, hl]) ⟨I, Γ, r, q.out.imp fun rv Γ1 I1 H1 e1 ⟨_, q⟩ v ok => putv_ok r e1 ok hp q⟩
end
end DZ

set_option maxRecDepth 100000
set_option maxHeartbeats 4000000
namespace DZ
open PySem PySem.Spec L2
open PyProof.Rows hiding St

/-! ### what the operators' rules want -/
section
variable {mg : Str → Option Value} {K : PySem.W.Frag} {I H Hb : Hp} {σ : St} {Γ : Env} {v : V} {r : RV} {ds : List PyData}
def RV.isGl : RV → Bool
  | .gl _ => true
  | _ => false
theorem RVok.lstX (r0 : Rep mg I H σ Γ) (ok : RVok mg K I H Hb σ v r) (h : peek Γ r = some (.list ds)) (g : r.isGl = false) : ∃ a xs, v = .ref a ∧ H a = some (.lst xs) ∧ RpAll I xs ds := by
  cases r with
  | fz d =>
    cases h
    cases ok with
    | lst h1 h2 => exact ⟨_, _, rfl, r0.same _ _ h1, h2⟩
  | ow d =>
    cases h
    obtain ⟨a, rfl, ⟨⟨o, e1, e2⟩, _⟩, _⟩ := ok
    cases e2 with
    | lst h2 => exact ⟨_, _, rfl, e1, h2⟩
  | ob c fs => cases h
  | gl d => cases g
  | br i =>
    have hv : σ[i]? = some (some v) := ok
    have h : slotD Γ i = some (.list ds) := h
    unfold slotD at h
    split at h
    · rename_i e
      cases h
      obtain ⟨w, e1, o⟩ := r0.slot i _ e
      rw [hv] at e1; cases e1
      cases o with
      | lst h1 h2 => exact ⟨_, _, rfl, r0.same _ _ h1, h2⟩
    · rename_i e
      cases h
      obtain ⟨w, e1, a, rfl, ⟨⟨o, e2, e3⟩, _⟩⟩ := r0.slot i _ e
      rw [hv] at e1; cases e1
      cases e3 with
      | lst h2 => exact ⟨_, _, rfl, e2, h2⟩
    · cases h
end
theorem lk_flat {K : PySem.W.Frag} {I H : Hp} {v : V} {i : Int} (h : Lk K I H v (.int i)) : v = .int i := h
/-- the result of an operation that makes nothing -/
theorem res0 {mg : Str → Option Value} {K : PySem.W.Frag} {I H Hb : Hp} {σ : St} {x : V} {rv : RV} {Q : VK} (s : Same I H) (h : ∀ x I' H', Stp (fun _ => False) I H I' H' → Same I' H' → RVok mg K I' H' Hb σ x rv → Q x H') (ok : RVok mg K I H Hb σ x rv) : Q x H :=
  h x I H Stp.refl s ok
/-- .. a new tuple, a new list -/
theorem resT {mg : Str → Option Value} {K : PySem.W.Frag} {I H Hb : Hp} {σ : St} {ds : List PyData} {xs : List V} {p : Addr} {Q : VK} (s : Same I H) (h : ∀ x I' H', Stp (fun _ => False) I H I' H' → Same I' H' → RVok mg K I' H' Hb σ x (.fz (.tuple ds)) → Q x H')
    (np : H p = none) (rp : RpAll I xs ds) : Q (.ref p) (upd H p (.tup xs)) :=
  h _ (upd I p (.tup xs)) _ (Stp.newF s np) (same_upd2 s) (.tup upd_same (rp.mono (same_new (same_none s np))))
theorem resL {mg : Str → Option Value} {K : PySem.W.Frag} {I H Hb : Hp} {σ : St} {ds : List PyData} {xs : List V} {p : Addr} {Q : VK} (s : Same I H) (hb : ∀ x, H x = none → Hb x = none) (h : ∀ x I' H', Stp (fun _ => False) I H I' H' → Same I' H' → RVok mg K I' H' Hb σ x (.ow (.list ds)) → Q x H')
    (np : H p = none) (rp : RpAll I xs ds) : Q (.ref p) (upd H p (.lst xs)) :=
  h _ I _ (Stp.newO np) (s.trans (same_new np)) ⟨p, rfl, ⟨⟨_, upd_same, .lst rp⟩, same_none s np⟩, hb p np⟩

/-! ### arithmetic -/
section
variable {X : Cx}
def fAdd : F2 := fun r1 r2 d e => match d, e with
  | .int i, .int j => some (.fz (.int (i + j)))
  | .str a, .str b => if a.length + b.length ≤ sizeLine then some (.fz (.str (a ++ b))) else none
  | .list xs, .list ys => if r1.isGl = false ∧ r2.isGl = false ∧ xs.length + ys.length ≤ sizeLine then some (.ow (.list (xs ++ ys))) else none
  | .tuple xs, .tuple ys => if xs.length + ys.length ≤ sizeLine then (match xs, ys with
    | [], _ => some r2
    | _, [] => some r1
    | x :: xs, y :: ys => some (.fz (.tuple ((x :: xs) ++ (y :: ys))))) else none
  | _, _ => none
def rAddX (K : PySem.W.Frag) : R2 := fun x y H Q => rI0 (fun i j => .int (i + j)) x y H Q ∨ (∃ i j, x = .str i ∧ y = .str j ∧ i.length + j.length ≤ sizeLine ∧ Q (.str (i ++ j)) H) ∨ rCat x y H Q ∨ rCatA K x y H Q
theorem op_addX : OpR X (binaryOp .Add) (rAddX X.K) := op_add.or (op_add_str.or (op_cat.or op_catA))
theorem Out.some_of {α : Type} {c : Prop} [Decidable c] {a b : α} (h : (if c then some a else none) = some b) : c ∧ a = b := by
  split at h
  · rename_i hc; cases h; exact ⟨hc, rfl⟩
  · cases h
theorem ok_add : Op2 X (rAddX X.K) fAdd := by
  intro I H Hb σ Γ v u r1 r2 rv d e Q r0 hb ok1 ok2 l1 l2 p1 p2 hf h
  unfold fAdd at hf
  split at hf
  · cases hf
    exact .inl ⟨_, _, l1, l2, res0 r0.same h (.int _)⟩
  · obtain ⟨hl, rfl⟩ := Out.some_of hf
    exact .inr (.inl ⟨_, _, l1, l2, hl, res0 r0.same h (.str _)⟩)
  · obtain ⟨⟨g1, g2, hl⟩, rfl⟩ := Out.some_of hf
    obtain ⟨a, xs', rfl, e1, q1⟩ := ok1.lstX r0 p1 g1
    obtain ⟨b, ys', rfl, e2, q2⟩ := ok2.lstX r0 p2 g2
    exact .inr (.inr (.inl ⟨a, b, xs', ys', rfl, rfl, e1, e2, by rw [q1.length, q2.length]; exact hl, fun p np => resL r0.same hb h np (q1.append q2)⟩))
  · rename_i xs ys
    obtain ⟨a, xs', rfl, e1, q1⟩ := l1
    obtain ⟨b, ys', rfl, e2, q2⟩ := l2
    split at hf
    · rename_i hl
      refine .inr (.inr (.inr ⟨a, b, xs', ys', rfl, rfl, e1, e2, by rw [q1.length, q2.length]; exact hl, fun z => ?_, fun z1 z2 => ?_, fun z1 z2 p np => ?_⟩))
      · subst z
        cases q1
        cases hf
        exact res0 r0.same h ok2
      · subst z2
        cases q2
        cases q1 with
        | nil => exact absurd rfl z1
        | cons c1 c2 => cases hf; exact res0 r0.same h ok1
      · cases q1 with
        | nil => exact absurd rfl z1
        | cons c1 c2 =>
          cases q2 with
          | nil => exact absurd rfl z2
          | cons c3 c4 => cases hf; exact resT r0.same h np (RpAll.append (.cons c1 c2) (.cons c3 c4))
    · cases hf
  · cases hf
def fSub : F2 := fun _ _ d e => match d, e with
  | .int i, .int j => some (.fz (.int (i - j)))
  | _, _ => none
theorem ok_sub : Op2 X (rI0 fun i j => .int (i - j)) fSub := by
  intro I H Hb σ Γ v u r1 r2 rv d e Q r0 hb ok1 ok2 l1 l2 p1 p2 hf h
  unfold fSub at hf
  split at hf
  · cases hf; exact ⟨_, _, l1, l2, res0 r0.same h (.int _)⟩
  · cases hf
def mulOk (i j : Int) : Bool := (decide (-(2 ^ 64) < i) && decide (i < 2 ^ 64)) || (decide (-(2 ^ 64) < j) && decide (j < 2 ^ 64))
theorem mulOk_of {i j : Int} (h : mulOk i j = true) : CMul i j := by
  unfold mulOk at h
  rw [Bool.or_eq_true, Bool.and_eq_true, Bool.and_eq_true] at h
  exact h.imp (fun z => ⟨of_decide_eq_true z.1, of_decide_eq_true z.2⟩) fun z => ⟨of_decide_eq_true z.1, of_decide_eq_true z.2⟩
def fMul : F2 := fun r1 _ d e => match d, e with
  | .int i, .int j => if mulOk i j = true then some (.fz (.int (i * j))) else none
  | .list xs, .int k => if r1.isGl = false ∧ -(2 ^ 63) ≤ k ∧ k < 2 ^ 63 ∧ xs.length * k.toNat ≤ sizeLine then some (.ow (.list (List.replicate k.toNat xs).flatten)) else none
  | _, _ => none
theorem RpAll.rep {I : Hp} {vs : List V} {ds : List PyData} (h : RpAll I vs ds) : ∀ k : Nat, RpAll I (List.replicate k vs).flatten (List.replicate k ds).flatten
  | 0 => .nil
  | k + 1 => by
    rw [List.replicate_succ, List.replicate_succ, List.flatten_cons, List.flatten_cons]
    exact h.append (h.rep k)
def rMulX : R2 := fun x y H Q => rI CMul (fun i j => .int (i * j)) x y H Q ∨ rRep x y H Q
theorem op_mulX : OpR X (binaryOp .Mult) rMulX := op_mul.or op_rep
theorem ok_mul : Op2 X rMulX fMul := by
  intro I H Hb σ Γ v u r1 r2 rv d e Q r0 hb ok1 ok2 l1 l2 p1 p2 hf h
  unfold fMul at hf
  split at hf
  · obtain ⟨hl, rfl⟩ := Out.some_of hf
    exact .inl ⟨_, _, l1, l2, mulOk_of hl, res0 r0.same h (.int _)⟩
  · obtain ⟨⟨g1, k1, k2, hl⟩, rfl⟩ := Out.some_of hf
    obtain ⟨a, xs', rfl, e1, q1⟩ := ok1.lstX r0 p1 g1
    exact .inr ⟨a, _, xs', rfl, l2, e1, k1, k2, by rw [q1.length]; exact hl, fun p np => resL r0.same hb h np (q1.rep _)⟩
  · cases hf
def fDiv : F2 := fun _ _ d e => match d, e with
  | .int i, .int j => if 0 < j ∧ j < 1073741824 then some (.fz (.int (i / j))) else none
  | _, _ => none
theorem ok_div : Op2 X (rI CDiv fun i j => .int (i / j)) fDiv := by
  intro I H Hb σ Γ v u r1 r2 rv d e Q r0 hb ok1 ok2 l1 l2 p1 p2 hf h
  unfold fDiv at hf
  split at hf
  · obtain ⟨hl, rfl⟩ := Out.some_of hf
    exact ⟨_, _, l1, l2, hl, res0 r0.same h (.int _)⟩
  · cases hf
def fMod : F2 := fun _ _ d e => match d, e with
  | .int i, .int j => if 0 < j then some (.fz (.int (i % j))) else none
  | _, _ => none
theorem ok_mod : Op2 X (rI (fun _ j => 0 < j) fun i j => .int (i % j)) fMod := by
  intro I H Hb σ Γ v u r1 r2 rv d e Q r0 hb ok1 ok2 l1 l2 p1 p2 hf h
  unfold fMod at hf
  split at hf
  · obtain ⟨hl, rfl⟩ := Out.some_of hf
    exact ⟨_, _, l1, l2, hl, res0 r0.same h (.int _)⟩
  · cases hf
def fPow : F2 := fun _ _ d e => match d, e with
  | .int i, .int j => if 0 ≤ j ∧ j ≤ 1000000 ∧ i.natAbs < 2 ^ 64 then some (.fz (.int (i ^ j.toNat))) else none
  | _, _ => none
theorem ok_pow : Op2 X (rI CPow fun i j => .int (i ^ j.toNat)) fPow := by
  intro I H Hb σ Γ v u r1 r2 rv d e Q r0 hb ok1 ok2 l1 l2 p1 p2 hf h
  unfold fPow at hf
  split at hf
  · obtain ⟨hl, rfl⟩ := Out.some_of hf
    exact ⟨_, _, l1, l2, hl, res0 r0.same h (.int _)⟩
  · cases hf
end

/-! ### comparisons -/
mutual
theorem Rp.dp {K : PySem.W.Frag} {I H : Hp} (s : Same I H) : ∀ {d : PyData} {v : V}, Rp I v d → d.canLay0 = true → Dp K H v d
  | .none, _, .non, _ => .non
  | .bool _, _, .bl b, _ => .bl b
  | .int _, _, .int i, _ => .int i
  | .str _, _, .str x, _ => .str x
  | .list _, _, .lst h r, c => .lst (.inl (.inl (s _ _ h))) (RpAll.dp s r (by simpa [PyData.canLay0] using c))
  | .tuple _, _, .tup h r, c => .tup (.inl (.inl (s _ _ h))) (RpAll.dp s r (by simpa [PyData.canLay0] using c))
  | .dict _, _, _, c => by simp [PyData.canLay0] at c
theorem RpAll.dp {K : PySem.W.Frag} {I H : Hp} (s : Same I H) : ∀ {ds : List PyData} {vs : List V}, RpAll I vs ds → PyData.canLayAll0 ds = true → DpAll K H vs ds
  | [], _, .nil, _ => .nil
  | d :: ds, _, .cons h r, c => by
    simp only [PyData.canLayAll0, Bool.and_eq_true] at c
    exact .cons (Rp.dp s h c.1) (RpAll.dp s r c.2)
end
theorem Lk.dp {K : PySem.W.Frag} {I H : Hp} (s : Same I H) {v : V} {d : PyData} (l : Lk K I H v d) (c : d.canLay0 = true) : Dp K H v d := by
  cases d with
  | none => cases (show v = .non from l); exact .non
  | bool b => cases (show v = .bl b from l); exact .bl b
  | int i => cases (show v = .int i from l); exact .int i
  | str x => cases (show v = .str x from l); exact .str x
  | list ds => obtain ⟨a, xs, rfl, q, r⟩ := l; exact .lst q (RpAll.dp s r (by simpa [PyData.canLay0] using c))
  | tuple ds => obtain ⟨a, xs, rfl, q, r⟩ := l; exact .tup q (RpAll.dp s r (by simpa [PyData.canLay0] using c))
  | dict es => simp [PyData.canLay0] at c
section
variable {X : Cx}
def fEq : F2 := fun _ _ d e => if SeqAt.shaped d = true ∧ SeqAt.shaped e = true then some (.fz (.bool (PyData.eqv d e))) else none
def fNe : F2 := fun _ _ d e => if SeqAt.shaped d = true ∧ SeqAt.shaped e = true then some (.fz (.bool (!PyData.eqv d e))) else none
theorem ok_eq : Op2 X (rEqD X.K) fEq := by
  intro I H Hb σ Γ v u r1 r2 rv d e Q r0 hb ok1 ok2 l1 l2 p1 p2 hf h
  obtain ⟨⟨s1, s2⟩, rfl⟩ := Out.some_of hf
  exact ⟨d, e, l1.dp r0.same (SeqAt.canLay_of_shaped s1), l2.dp r0.same (SeqAt.canLay_of_shaped s2), s1, s2, res0 r0.same h (.bl _)⟩
theorem ok_ne : Op2 X (rNeD X.K) fNe := by
  intro I H Hb σ Γ v u r1 r2 rv d e Q r0 hb ok1 ok2 l1 l2 p1 p2 hf h
  obtain ⟨⟨s1, s2⟩, rfl⟩ := Out.some_of hf
  exact ⟨d, e, l1.dp r0.same (SeqAt.canLay_of_shaped s1), l2.dp r0.same (SeqAt.canLay_of_shaped s2), s1, s2, res0 r0.same h (.bl _)⟩
end
end DZ

set_option maxRecDepth 100000
set_option maxHeartbeats 4000000
namespace DZ
open PySem PySem.Spec L2
open PyProof.Rows hiding St

/-! ### defs where no repr is under way -/
section
variable {P : Program} {w : World} {K : PySem.W.Frag} {mg : Str → Option Value} {base : Heap}
structure FnG (P : Program) (w : World) (K : PySem.W.Frag) (mg : Str → Option Value) (base : Heap) (k : Nat) (f : Addr) (fd : FuncData) (ps : List Str) (sp : Sp) : Prop where
  len : ∀ vs H Q E, sp vs H Q E → vs.length = ps.length
  go : ∀ (A : Around) (fr : List PySem.Env) (s : Shared) (H : Hp) (args : Args) (us : List Value) (vs : List V) (Q : VK) (E : XK), A.guards = some [] → Room k A → Env0 P w K mg base A fr s H →
    BindsTo s fd args (ps.zip us) → Vals vs us → sp vs H Q E → codeAny (model P w) A (.call (.ref f) args) (CR (L2.CX P w) fr P w H s Q E) s
/-- a def run once, at what stands around it -/
theorem def_run {x qual : Str} {st : Stmt} {f : Addr} {fd : FuncData} {N ps : List Str} {k : Nat} {A : Around} {fr : List PySem.Env} {s : Shared} {H : Hp} {args : Args} {us : List Value} {vs : List V} {Q : VK} {E : XK}
    (F : Fun K x qual st f fd) (S : FnScope N ps (defScope st)) (room : Room (k + 1) A) (e0 : Env0 P w K mg base A fr s H) (bd : BindsTo s fd args (ps.zip us)) (rv : Vals vs us) (hl : vs.length = ps.length)
    (body : ∀ cdv : Value, Room k (A.deeper (envOfC qual (defScope st) s.heap.objs.size f cdv)) →
      ∃ t, PSs (cxOf (L2.CX P w) P w K mg base N qual (defScope st) f cdv A fr s H E) (defBody st) t ∧ t { nx := fun _ H' => Q .non H', rt := Q } (start N vs) H) :
    codeAny (model P w) A (.call (.ref f) args) (CR (L2.CX P w) fr P w H s Q E) s := by
  obtain ⟨oc, od, kV, doc, pm, an, cdv, ct, osl, rfl, lk, hcd⟩ := F.ex
  have old : ∀ b o, base.get? b = some o → s.heap.get? b = some o := fun b o z => (e0.bs b o z).1
  have inK : K.In s.heap := e0.mod.kin.keeps old
  have named : ∀ y ∈ ps.zip us, (defScope st).names.lookup y.1 = some .local ∨ ((defScope st).names.lookup y.1 = some .cell ∧ ((cellsFrom (s.heap.objs.size + 1) (defScope st).names []).lookup y.1).isSome = true) := by
    rintro ⟨a, b⟩ m
    exact (S.par a (List.of_mem_zip m).1).imp id fun z => ⟨z, PySem.W.cellsFrom_some _ _ _ (.inl z)⟩
  refine codeAny_call_function room.depth (inK _ _ lk) rfl S.co S.gen rfl (PySem.W.codeRec_of inK hcd) (bd _ _ _ _ ?_)
  refine wpAny_newFunctionEnv_cells S.kind named fun env ee s1 ic => ?_
  subst ee
  refine ⟨e0.mod.nolimit.keeps fun b o z => ic.toInCall.keep b o (old b o z), codeAny_func ?_⟩
  obtain ⟨t, pt, ht⟩ := body cdv (room.deeper _)
  have at0 := inv_start (CX := L2.CX P w) (E := E) S room.hd e0 hl rv ic
  refine wpAny_mono (pt.run [] s1 _ H _ at0 ht) (fun fl s2 h2 => ?_) fun _ _ z => z
  cases fl with
  | next =>
    obtain ⟨_, H2, J, q⟩ := h2
    exact ⟨.non, H2, J.os, J.bare, J.base, J.hok, rfl, q⟩
  | ret u =>
    obtain ⟨v, _, H2, J, r2, q⟩ := h2
    exact ⟨v, H2, J.os, J.bare, J.base, J.hok, r2, q⟩
  | brk => obtain ⟨_, _, _, q⟩ := h2; exact q.elim
  | cont => obtain ⟨_, _, _, q⟩ := h2; exact q.elim
theorem FnOk.g {k : Nat} {f : Addr} {fd : FuncData} {ps : List Str} {sp : Sp} (F : FnOk P w K mg base (L2.CX P w) k f fd ps sp) : FnG P w K mg base k f fd ps sp :=
  ⟨F.len, fun A fr s H args us vs Q E _ => F.run A fr s H args us vs Q E⟩
end
section
variable {X : Cx} {k : Nat} {f : Addr} {fd : FuncData} {ps : List Str} {sp : Sp} {E : L2.St → XK} {x : Str} {p pos : Pos} {e : Expr} {es : List Expr} {t : TA}
/-- f(..) where no repr is under way -/
theorem pe_callG' (F : FnG X.prog X.w X.K X.mg X.base k f fd ps sp) (gd : X.A.guards = some []) (room : Room k X.A) (hg : Gl X x) (hm : X.mg x = some (.ref f)) (hk : PySem.W.keepIn X.K (.ref f) = true) (bs : L2.Binds X.K fd ps []) (hx : ∀ σ, PassesAt (L2.CX X.prog X.w) X σ (E σ))
    (ha : PA X (e :: es) t) (hdb : (x == ("__debug__" : Str)) = false := by decide) (he : starEach (e :: es) X.env = (false, eval e X.env) :: starEach es X.env := by rfl) (hpl : (backTo pos (starEach es X.env)).any (·.1) = false := by rfl) :
    PE X (.Call (.Name x p) (e :: es) [] pos) (tCallS sp E t) := ⟨fun pins s σ H Q I h => by
  refine wpAny_Call_Name_kw (ld_glob I hg hm (PySem.W.callWith_K (h₀ := X.base) I.ok.mod.kin hk (thn (ha.run pos pins s σ H _ I h) ?_) he hpl) hdb)
  rintro us s1 ⟨vs, H1, J, rv, q⟩
  refine ⟨J.kIn, wpAny_call ?_⟩
  have nu : us.length = ps.length := rv.length.symm.trans (F.len _ _ _ _ q)
  have bd := bs s1 us J.kIn (by rw [List.append_nil]; exact nu)
  rw [List.append_nil] at bd
  refine codeAny_mono (F.go X.A X.stack s1 H1 ⟨us, []⟩ us vs Q (E σ) gd room J.env0 bd rv q) fun r s2 z => ?_
  match r, z with
  | .error er, z => exact hx σ pins H1 s1 er s2 J z
  | .ok (.ret u), z => exact J.after z⟩
end

/-! ### the law's own call -/
section
variable {P : Program} {w : World} {K : PySem.W.Frag} {mg mb : Str → Option Value} {k : Nat} {fa a : Addr} {fd : FuncData} {x : Str} {sp : Sp} {s : Shared} {vs : List Value} {ns : List Int}
/-- the script's cell, the one that may be known -/
def cellOf (a : Addr) (vs : List Value) (ns : List Int) : HO := .frz { cls := .type "list", data := .seq vs.toArray } (.lst (ns.map V.int))
theorem law_at {H : Hp} (inK : K.In s.heap) (gl : s.heap.Ns mainGlobals mg) (bu : s.heap.Ns builtinsNs mb) (bb : ∀ y : Str, y ≠ "__name__" → mb y = bootBuiltins y) (lim : s.heap.NoLimit) (gens : s.gens = #[])
    (ha : s.heap.get? a = some { cls := .type "list", data := .seq vs.toArray }) (room : Room k callerA)
    (F : ∀ base : Heap, K.In base → base.Ns mainGlobals mg → FnG P w K mg base k fa fd [x] sp) (bd : ∀ (z : Shared) (u : Value), BindsTo z fd ⟨[u], []⟩ [(x, u)])
    (one : ∀ b u, H b = some u → b = a ∧ u = cellOf a vs ns ∧ K.lookup a = none) (lies : HOk P w H s.heap) (q : sp [.ref a] H (fun v _ => v = .bl true) fun _ _ _ => False) :
    codeAny (model P w) callerA (.call (.ref fa) ⟨[.ref a], []⟩) (fun r z => r = .ok (.ret (.bool true)) ∧ OldK s.heap z.heap ∧ z.os = s.os ∧ AllBare z.gens) s := by
  have free : ∀ {b : Addr}, (∀ u, H b = some u → False) → H b = none := fun {b} z => by
    cases e : H b with
    | none => rfl
    | some u => exact (z u e).elim
  have dict : ∀ {b : Addr} {m : Str → Option Value}, s.heap.Ns b m → (hidT s.heap H).Ns b m := fun {b m} n => by
    obtain ⟨o, es, ep, e1, e2, e3⟩ := n
    refine ⟨o, es, ep, hidT_get e1 (free fun u z => ?_), e2, e3⟩
    obtain ⟨rfl, _, _⟩ := one b u z
    cases ha.symm.trans e1
    cases e2
  have inK2 : K.In (hidT s.heap H) := fun b o z => hidT_get (inK b o z) (free fun u y => by
    obtain ⟨rfl, _, e⟩ := one b u y
    cases e.symm.trans z)
  obtain ⟨mc, c1, c2⟩ := lim
  have e0 : Env0 P w K mg (hidT s.heap H) callerA [] s H := {
    frames := rfl
    mod := ⟨inK2, dict gl, ⟨mb, dict bu, bb⟩, ⟨mc, dict c1, c2⟩⟩
    bs := fun b o z => of_hidT z
    bsz := Nat.le_of_eq (hidT_size _ _)
    funs := trivial
    frf := fun b z => nomatch z
    hok := lies
    bare := .of_eq gens }
  refine codeAny_mono ((F _ inK2 (dict gl)).go callerA [] s H _ [.ref a] [.ref a] _ _ rfl room e0 (bd s (.ref a)) (.cons rfl .nil) q) fun r z hz => ?_
  cases r with
  | error er => obtain ⟨_, _, _, _, _, _, _, _, _, _, _, _, no⟩ := hz; exact no.elim
  | ok fl =>
    cases fl with
    | next => exact False.elim hz
    | brk => exact False.elim hz
    | cont => exact False.elim hz
    | ret u =>
      obtain ⟨v, H2, os, bare, un, lies2, rv, e⟩ := hz
      have e : v = .bl true := e
      cases e
      cases (show u = Value.bool true from rv)
      refine ⟨rfl, OldK.of_keep fun b o y => ?_, os, bare⟩
      cases e : H b with
      | none => exact un.keep b o y e (fun n => nomatch n) fun n => nomatch n
      | some u =>
        obtain ⟨_, e2, _⟩ := one b u e
        rw [e2] at e
        have l1 := (lies b _ e).1
        have l2 := (lies2 b _ (un.frzs b _ _ e)).1
        exact (l1.symm.trans y) ▸ l2
theorem law_runG (inK : K.In s.heap) (gl : s.heap.Ns mainGlobals mg) (bu : s.heap.Ns builtinsNs mb) (bb : ∀ y : Str, y ≠ "__name__" → mb y = bootBuiltins y) (lim : s.heap.NoLimit) (gens : s.gens = #[])
    (ha : s.heap.get? a = some { cls := .type "list", data := .seq vs.toArray }) (hi : IntsAre vs ns) (hl : ns.length ≤ sizeLine) (room : Room k callerA)
    (F : ∀ base : Heap, K.In base → base.Ns mainGlobals mg → FnG P w K mg base k fa fd [x] sp) (bd : ∀ (z : Shared) (u : Value), BindsTo z fd ⟨[u], []⟩ [(x, u)])
    (hsp : ∀ H : Hp, Only H → SqL K H a (ns.map V.int) → sp [.ref a] H (fun v _ => v = .bl true) fun _ _ _ => False) :
    codeAny (model P w) callerA (.call (.ref fa) ⟨[.ref a], []⟩) (fun r z => r = .ok (.ret (.bool true)) ∧ OldK s.heap z.heap ∧ z.os = s.os ∧ AllBare z.gens) s := by
  have items := vals_ints hi
  cases e : K.lookup a with
  | some o =>
    cases (ha.symm.trans (inK a o e))
    have known : SqL K (fun _ => none) a (ns.map V.int) := .inr ⟨_, vs.toArray, _, e, rfl, rfl, rfl, by rw [List.size_toArray, hi.length]; exact hl, by simpa using items⟩
    exact law_at (vs := vs) (ns := ns) inK gl bu bb lim gens ha room F bd (H := fun _ => none) (fun b u z => by cases z) (fun b u z => by cases z) (hsp _ (fun _ => .inl rfl) known)
  | none =>
    have one : ∀ b u, (if b = a then some (cellOf a vs ns) else none) = some u → b = a ∧ u = cellOf a vs ns ∧ K.lookup a = none := fun b u z => by
      split at z
      · rename_i h; cases z; exact ⟨h, rfl, e⟩
      · cases z
    refine law_at inK gl bu bb lim gens ha room F bd one (fun b u z => ?_) (hsp _ (fun b => ?_) (.inl (.inr ⟨_, if_pos rfl⟩)))
    · obtain ⟨rfl, rfl, _⟩ := one b u z
      exact ⟨ha, by rw [List.length_map]; exact hl, vs, _, items, ha⟩
    · by_cases h : b = a
      · exact .inr ⟨_, _, if_pos h⟩
      · exact .inl (if_neg h)
end
/-- the goal that k_head leaves, from the law's promise where no repr is under way -/
theorem walk_g {l : PySem.W.OpenLaw} {n k : Nat} {q : Program} {loose : List Str} {XP : (Str → Option Value) → Heap → Prop} {YP : World → Heap → Prop} {d : DefRec} {K : Params → PySem.W.Frag} {sp : World → Sp} {x : Str}
    (hn : l.most = some n) (small : n ≤ sizeLine) (nodef : d.params.defaults = []) (room : Room k callerA) (hY : ∀ (w : World) (h : Heap), YP w h → (K w.params).In h)
    (F : ∀ (w : World) (mg : Str → Option Value) (fa : Addr) (h : Heap), (K w.params).In h → h.Ns mainGlobals mg → mg d.name = some (.ref fa) →
      ∃ fd : FuncData, (∀ (s : Shared) (u : Value), BindsTo s fd ⟨[u], []⟩ [(x, u)]) ∧ ∀ base : Heap, (K w.params).In base → base.Ns mainGlobals mg → FnG l.prog w (K w.params) mg base k fa fd [x] (sp w))
    (hsp : ∀ (w : World) (H : Hp) (a : Addr) (ns : List Int), ns.length ≤ n → Only H → SqL (K w.params) H a (ns.map V.int) → sp w [.ref a] H (fun v _ => v = .bl true) fun _ _ _ => False) :
    PySem.W.WalkO q loose XP YP l.row.toRowW d [] (fun f vs => PySem.call f vs) := by
  refine Att.attach_call hn nodef fun w s0 s mg mb fa o pm cd doc a vs ns G Y ho hd hcd hmg hobj hints hlen hg => ?_
  obtain ⟨fd, bd, hF⟩ := F w mg fa _ (hY w _ Y) G.T.g hmg
  exact law_runG (hY w _ Y) G.T.g G.T.b G.T.builtins G.T.nolimit hg hobj hints (Nat.le_trans hlen small) room hF bd fun H h1 h2 => hsp w H a ns hlen h1 h2

/-! ### the evaluator's defs and calls, so -/
section
variable {P : Program} {w : World} {K : PySem.W.Frag} {mg : Str → Option Value} {base : Heap}
theorem fn_okG {x qual : Str} {st : Stmt} {f : Addr} {fd : FuncData} {N ps : List Str} {k n : Nat} {io : Bool} {body : Env → Fl} (F : Fun K x qual st f fd) (S : FnScope N ps (defScope st)) (hn : ps.length = n) (hN : n ≤ N.length)
    (hbody : ∀ (X : Cx) (W : WX), X.prog = P → X.w = w → X.K = K → X.mg = mg → X.base = base → X.N = N → X.env.scope = defScope st → X.calm = true → Room k X.A → Takes X W → PassesOwn (model X.prog X.w) X.A X.env X.xe →
      X.stack = X.env :: X.outer → X.env.frame = some X.env.locals → (∀ y, X.fn y = true) → X.A.guards = some [] → FSs X W (if io = true then [0] else []) (defBody st) body) :
    FnG P w K mg base (k + 1) f fd ps (spF mg io n (fnOf io N.length body)) := by
  have hlen : ∀ (vs : List V) (H : Hp) (Q : VK) (E : XK), spF mg io n (fnOf io N.length body) vs H Q E → vs.length = ps.length := fun vs H Q E h => by
    obtain ⟨I, svs, hl, a, _⟩ := h
    rw [Paired.length a.ok, hl, hn]
  refine ⟨hlen, fun A fr s H args us vs Q E gd room e0 bd rv h => def_run F S room e0 bd rv (hlen _ _ _ _ h) fun cdv r2 => ?_⟩
  obtain ⟨I, svs, hl, a, h⟩ := h
  have tk : Takes (cxOf (L2.CX P w) P w K mg base N qual (defScope st) f cdv A fr s H E) (fun cls d _ H => E cls d H) := takes_of rfl rfl rfl rfl
  have hb := hbody (cxOf (L2.CX P w) P w K mg base N qual (defScope st) f cdv A fr s H E) (fun cls d _ H => E cls d H) rfl rfl rfl rfl rfl rfl rfl rfl r2 tk (passes_of rfl) rfl rfl (fun _ => rfl) gd
  exact fn_core hb a hl hN h
end
section
variable {X : Cx} {W : WX} {pos p : Pos} {e : Expr} {es : List Expr} {n k : Nat} {ms : M (List RV)} {x : Str} {f : Addr} {fd : FuncData} {ps : List Str} {C : List SV → Fo}
theorem fe_callG (F : FnG X.prog X.w X.K X.mg X.base k f fd ps (spF X.mg false n C)) (gd : X.A.guards = some []) (hr : Room k X.A) (hg : Gl X x) (hm : X.mg x = some (.ref f)) (hk : PySem.W.keepIn X.K (.ref f) = true) (hb : L2.Binds X.K fd ps []) (tk : Takes X W)
    (ha : FA X W (e :: es) n ms) (hdb : (x == ("__debug__" : Str)) = false := by decide) (he : starEach (e :: es) X.env = (false, eval e X.env) :: starEach es X.env := by rfl) (hpl : (backTo pos (starEach es X.env)).any (·.1) = false := by rfl) :
    FE X W (.Call (.Name x p) (e :: es) [] pos) (mCall C ms) :=
  PE.imp (pe_callG' F gd hr hg hm hk hb (fun σ => passAt tk σ) ha.pa hdb he hpl) (ta_call (t := rfl) ha.len)
/-- repr of data -/
def rRepr (K : PySem.W.Frag) : List V → Hp → VK → Prop := fun xs H Q => ∃ v d, xs = [v] ∧ Dp K H v d ∧ d.canLay0 = true ∧ d.showable = true ∧ d.depth ≤ 40 ∧ d.shown.length ≤ sizeLine ∧ Q (.str d.shown) H
theorem call_reprD (gd : X.A.guards = some []) (hu : X.A.units + 64 < cLine) : CallR X (.builtin "repr") (rRepr X.K) := by
  intro pins s σ H xs us Q I r h
  obtain ⟨v, d, rfl, dp, cl, sh, dep, sz, q⟩ := h
  cases r with
  | cons rv rn =>
    cases rn
    obtain ⟨as, rd⟩ := Dp.reads I d _ _ dp rv
    cases rd with
    | none => cases dp; exact PySem.P.repr_of_none ⟨.str _, H, I.tok _, ⟨_, rfl⟩, q⟩
    | bool b => cases dp; exact PySem.P.repr_of_bool ⟨.str _, H, I.tok _, ⟨_, rfl⟩, q⟩
    | int i t => cases dp; exact PySem.P.repr_of_int (of_decide_eq_true sh) ⟨.str _, H, I.tok _, ⟨_, rfl⟩, q⟩
    | str x t => cases dp; exact PySem.P.repr_of_str ⟨.str _, H, I.tok _, ⟨_, rfl⟩, q⟩ sz
    | list e1 e2 e3 e4 =>
      exact repr_of_reads' (.list e1 e2 e3 e4) sh (PyData.noDict_hsm (PyData.hasDict_of_canLay _ cl)) gd (by omega) (fun _ _ z => z) (fun h' u tk hk => ⟨.str _, H, I.kept hk, ⟨_, rfl⟩, q⟩) sz
    | tuple e1 e2 e3 e4 =>
      exact repr_of_reads' (.tuple e1 e2 e3 e4) sh (PyData.noDict_hsm (PyData.hasDict_of_canLay _ cl)) gd (by omega) (fun _ _ z => z) (fun h' u tk hk => ⟨.str _, H, I.kept hk, ⟨_, rfl⟩, q⟩) sz
    | dict e1 e2 e3 e4 e5 => simp [PyData.canLay0] at cl
def fRepr : FN := fun _ ds => match ds with
  | [d] => if d.canLay0 = true ∧ d.showable = true ∧ d.depth ≤ 40 ∧ d.shown.length ≤ sizeLine then some (.fz (.str d.shown)) else none
  | _ => none
end
end DZ

set_option maxRecDepth 100000
set_option maxHeartbeats 4000000
namespace DX
open PySem PySem.Spec PySem.W PySem.Calls PySem.HandSPX
/-! ### an own exception E(line, column), its __init__ by super().__init__ and two stores -/
def btArgs : Arguments := { posonlyargs := [], args := [{ arg := "self", annotation := none, pos := ⟨11, 17, 11, 21⟩ }, { arg := "line", annotation := none, pos := ⟨11, 23, 11, 27⟩ }, { arg := "column", annotation := none, pos := ⟨11, 29, 11, 35⟩ }], vararg := none, kwonlyargs := [], kw_defaults := [], kwarg := none, defaults := [] }
def btBody : List Stmt := [
  .Expr (.Call (.Attribute (.Call (.Name "super" ⟨12, 8, 12, 13⟩) [] [] ⟨12, 8, 12, 15⟩) "__init__" ⟨12, 8, 12, 24⟩) [.Name "line" ⟨12, 25, 12, 29⟩, .Name "column" ⟨12, 31, 12, 37⟩] [] ⟨12, 8, 12, 38⟩) ⟨12, 8, 12, 38⟩,
  .Assign [.Attribute (.Name "self" ⟨13, 8, 13, 12⟩) "line" ⟨13, 8, 13, 17⟩] (.Name "line" ⟨13, 20, 13, 24⟩) ⟨13, 8, 13, 24⟩,
  .Assign [.Attribute (.Name "self" ⟨14, 8, 14, 12⟩) "column" ⟨14, 8, 14, 19⟩] (.Name "column" ⟨14, 22, 14, 28⟩) ⟨14, 8, 14, 28⟩]
def btScope : Scope := { kind := .function, names := [(PySem.Str.ofString "self", .local), (PySem.Str.ofString "line", .local), (PySem.Str.ofString "column", .local), (PySem.Str.ofString "__class__", .free), (PySem.Str.ofString "super", .globalImplicit)], isGenerator := false, isCoroutine := false, more := [] }
structure BtC (prog : Program) (K : Frag) (mg : Str → Option Value) (C fI : Addr) : Prop where
  ox : L2.OexC K C
  ini : findIn K (.ref C) "__init__" = some (some (.ref fI))
  tI : typeIn K (.ref fI) = some (.type "function")
  fn : ∃ (oc kV doc pm ct : Value) (an od : Option Addr) (osl : Array (Option Value)) (cda cc : Addr),
    K.lookup fI = some ⟨oc, od, .func (ksFn "__init__" "BadText.__init__" btArgs btBody btScope .none kV doc pm an (.ref cda) ct cc), osl⟩ ∧ codeIn K (.ref cda) "BadText.__init__" = true ∧
    (∃ (cl : Value) (cld : Option Addr) (csl : Array (Option Value)), K.lookup cc = some ⟨cl, cld, .cell (some (.ref C)), csl⟩) ∧
    ∃ (ccl : Value) (cdd : Option Addr) (vs : Array Value) (ccs : Array (Option Value)) (file : Str) (tf : Tok), K.lookup cda = some ⟨ccl, cdd, .fields vs, ccs⟩ ∧ vs[2]? = some (.str file tf) ∧ ((prog.main.file : Str) == file) = true
  top : (prog.main.scope.names.lookup ("super" : Str)).isSome = false
  sup : ks_superIn K C C "__init__" = some (some (.builtin "ValueError.__init__"))
  isV : subIn K (.ref C) (.type "ValueError") = some true
  own : mroIn K C (.ref C) = some true
  op : nsIn K cStatics "thirdparty.any" = some none
  ns : mg "super" = none
  noL : findIn K (.ref C) "line" = some none
  noC : findIn K (.ref C) "column" = some none
section
variable {prog : Program} {w : World} {A : Around} {E : Value → Shared → Prop} {R : Result → Shared → Prop} {h : Heap} {g : Array GenState} {d : Drawn} {t : Nat} {os : OsState}
/-- the bound __init__ called: the exception's args are laid anew -/
theorem mw_call {B newId initId : String} {bmB : List Value} {nm q : Str} {C N u e t0 : Addr} {bs bm : List Value} {hdct : Bool} {sn : List Str} {sub : List Value} {ab : Bool} {col : Option Bool} {dd : Option Addr} {k0 k1 k2 k3 k5 : Option Value} {rest : List Value} {Q : Value → Shared → Prop}
    (FB : ExcBaseFacts B newId initId bmB) (hC : h.get? C = some (excClassObj nm q C N bs bm hdct sn sub ab col dd k0 k1 k2 k3 k5 newId)) (he : h.get? e = some (excObj C t0 none .none)) (hu : h.get? u = some (kxs_mw initId e)) (hz : rest.length ≤ sizeLine)
    (hq : ∀ h', (∀ b o, b ≠ e → h.get? b = some o → h'.get? b = some o) → h'.get? e = some (excObj C h.objs.size none .none) → Q .none ⟨h', g, d, t, os⟩) : wpAny (model prog w) A (call (.ref u) rest) Q E ⟨h, g, d, t, os⟩ := by
  refine wpAny_call (codeAny_of_tree ?_)
  change wpAny _ A.in1 (callAny (.ref u) ⟨rest, []⟩) _ _ _
  simp only [callAny]
  refine wpAny_bind (wpAny_load hu ?_)
  simp only [kxs_mw]
  refine KFB.if_so (by decide) (wpAny_bind (check_bound_init FB.toExcCallFacts hC he rfl (wpAny_bind (wpAny_pure (wpAny_pure ⟨plainId_quiet FB.init.plain _, codeAny_builtin FB.initEntry ?_⟩)))))
  exact exc_init_tree (cls := .ref C) (dv := none) (c2 := .none) (c3 := .none) (b4 := .bool false) he hz fun h' k1 k2 _ => hq h' k1 k2
end
section
variable {prog : Program} {w : World} {A : Around} {E : Value → Shared → Prop} {R : Result → Shared → Prop} {s : Shared} {K : Frag} {mg mb : Str → Option Value} {C fI : Addr}
theorem fit2 (u v : Value) : [u, v].length ≤ sizeLine := by rw [sizeLine_eq]; exact (by decide : 2 ≤ 16777216)
/-- one of the names in the function's own dict -/
theorem ldN {env : Env} {m : Str → Option Value} {x : Str} {pos : Pos} {v : Value} {z : Shared} {Q : Value → Shared → Prop} (hn : z.heap.Ns env.locals m) (hv : m x = some v) (q : Q v z)
    (hk : env.scope.kind = .function := by rfl) (hl : env.kindOf x = some .local := by rfl) (hd : (x == ("__debug__" : Str)) = false := by decide) : wpAny (model prog w) A (eval (.Name x pos) env) Q E z := wpAny_Name (wpAny_loadName_local hk hl hn hv q) hd
theorem bt_run (T : BtC prog K mg C fI) {x t0 cda cc : Addr} {u v oc kV doc pm ct cl ccl : Value} {an od cld cdd : Option Addr} {osl csl ccs : Array (Option Value)} {vs : Array Value} {file : Str} {tf : Tok} {args : Args}
    (lk : K.lookup fI = some ⟨oc, od, .func (ksFn "__init__" "BadText.__init__" btArgs btBody btScope .none kV doc pm an (.ref cda) ct cc), osl⟩) (hcd : codeIn K (.ref cda) "BadText.__init__" = true) (lc : K.lookup cc = some ⟨cl, cld, .cell (some (.ref C)), csl⟩)
    (ld : K.lookup cda = some ⟨ccl, cdd, .fields vs, ccs⟩) (hvs : vs[2]? = some (.str file tf)) (hfile : ((prog.main.file : Str) == file) = true)
    (bd : BindsTo s (ksFn "__init__" "BadText.__init__" btArgs btBody btScope .none kV doc pm an (.ref cda) ct cc) args [("self", .ref x), ("line", u), ("column", v)]) (X : K.In s.heap) (lim : s.heap.NoLimit) (gl : s.heap.Ns mainGlobals mg) (bu : s.heap.Ns builtinsNs mb) (bb : ∀ y : Str, y ≠ "__name__" → mb y = bootBuiltins y)
    (hx : s.heap.get? x = some (excObj C t0 none .none)) (hnx : K.lookup x = none) (room : A.depth < recursionLimit)
    (hq : ∀ h' tk dx, (∀ b o, b ≠ x → s.heap.get? b = some o → h'.get? b = some o) → s.heap.objs.size ≤ dx → dx ≠ x → (∃ t1, h'.get? x = some (excObj C t1 (some dx) .none)) →
      h'.Ns1 dx (fun y => if y = "column" then some v else if y = "line" then some u else none) → R (.ok (.ret .none)) { s with heap := h', toks := tk }) :
    codeAny (model prog w) A (.call (.ref fI) args) R s := by
  obtain ⟨nm, q, N, bs, bm, sn, sub, ab, col, dd, k0, k1, k2, k3, k5, hC, hbm⟩ := T.ox.cls
  have hcl : clsIn K C = some { name := nm, bases := bs, mro := .ref C :: bm, ns := N, qualname := q, hasDict := true, slotNames := sn, subclasses := sub, abstract := ab, collection := col, hasDel := false } := by unfold clsIn; rw [hC] <;> rfl
  refine ks_codeAny_call_defAt (fd := ksFn "__init__" "BadText.__init__" btArgs btBody btScope .none kV doc pm an (.ref cda) ct cc) (body := btBody)
    (binds := [("self", .ref x), ("line", u), ("column", v)]) room (X _ _ lk) rfl lim (codeRec_of X hcd) rfl bd (show ∀ y ∈ btScope.names, y.2 ≠ .cell by decide)
    (by intro y hy; simp only [List.mem_cons, List.not_mem_nil, or_false] at hy; rcases hy with rfl | rfl | rfl <;> rfl) (fun h1 hns key1 => ?_)
  have X1 : K.In h1 := X.keeps key1
  have hxL : s.heap.objs.size ≠ x := Nat.ne_of_gt (Heap.lt_size hx)
  refine ks_wpAt_execs_cons (ks_wpAt_Expr_any (ks_wpAt_MethodCall ?_))
  refine ks_wpAt_super_base (f := fI) (cc := cda) (ar := { arg := "self", annotation := none, pos := ⟨11, 17, 11, 21⟩ }) rfl rfl (by decide) rfl (X1 _ _ lk) rfl rfl rfl (X1 _ _ ld) rfl hvs hfile T.top ?_
  refine ks_loadName_global rfl rfl (loadGlobal_builtin (gl.keeps key1) T.ns (bu.keeps key1) ((bb "super" (by decide)).trans (show bootBuiltins "super" = some (.type "super") by rfl)) ⟨rfl, ?_⟩)
  refine wpAny_loadName_free rfl rfl rfl ⟨_, X1 _ _ lc, rfl⟩ ?_
  refine wpAny_loadName_local rfl rfl hns (v := .ref x) rfl ?_
  refine ks_wpAny_isType_cls (X1 _ _ hC) rfl ⟨rfl, ?_⟩
  have hx1 := key1 _ _ hx
  refine ks_wpAny_call_super (X1 _ _ hC) rfl hx1 rfl (fun c e => nomatch e) (looks_mroIn X1 T.own) (fun h2 so2 key2 => ?_)
  have X2 : K.In h2 := X1.keeps key2
  have hx2 := key2 _ _ hx1
  have hsup : alongIn K "__init__" (((Value.ref C :: bm).dropWhile (· != .ref C)).drop 1) = some (some (.builtin "ValueError.__init__")) := by
    have z := T.sup
    unfold ks_superIn at z
    rw [hcl] at z
    exact z
  have hxC : x ≠ C := fun e => by
    rw [e] at hx
    cases hx.symm.trans (X _ _ hC)
  have I2 : InstAt h2 x (excObj C t0 none .none) C none := ⟨hx2, rfl, rfl, trivial⟩
  refine kxs_getMethod kxs_ValueError so2 (looks_opaque X2 T.op) ((looks_clsIn X2 hcl).andThen .now) rfl X2 hsup (I2.type.andThen (looks_mroIn X2 ?_)) hxC (by decide) ?_
  · exact T.isV
  have hL2 : h2.Ns s.heap.objs.size _ := hns.keeps key2
  have key3 : ∀ b o, h2.get? b = some o → (h2.push (kxs_mw "ValueError.__init__" x)).get? b = some o := fun b o e => Heap.get?_push_of_some _ e
  have hL3 := hL2.keeps key3
  have hmw : (h2.push (kxs_mw "ValueError.__init__" x)).get? h2.objs.size = some (kxs_mw "ValueError.__init__" x) := Heap.get?_push_at rfl rfl
  refine kxs_callWith (i := "ValueError.__init__") (x := x) (by rfl) ?_
  refine evalArgs_plain (Calls.spliced_cons (ldN hL3 (v := u) rfl (Calls.spliced_cons (ldN hL3 (v := v) rfl (Calls.spliced_nil ?_)))))
  refine ⟨hmw, ?_⟩
  refine mw_call F.excBase_ValueError (key3 _ _ (X2 _ _ hC)) (key3 _ _ hx2) hmw (fit2 u v) fun h4 key4 hx4 => ?_
  have X4 : K.In h4 := fun a o e => key4 a o (fun z => by rw [z, hnx] at e; cases e) (key3 _ _ (X2 a o e))
  have hL4 : h4.Ns s.heap.objs.size (fun y => List.lookup y (List.reverse ([("self", Value.ref x), ("line", u), ("column", v)] : List (Str × Value)))) := by
    obtain ⟨oL, es, ep, e1, e2⟩ := hL3
    exact ⟨oL, es, ep, key4 _ _ hxL e1, e2⟩
  refine ks_wpAt_execs_cons (ks_wpAt_Assign_Attr (wpAt_of_wpAny (ldN hL4 (v := u) rfl (ldN hL4 (v := .ref x) rfl ?_))))
  refine set_plain X4 (ox := excObj C _ none .none) (od := none) ⟨hx4, rfl, rfl, trivial⟩ T.ox.sa ?_
  refine exc_osa X4 hx4 hcl hbm rfl T.noL (fun h5 tk5 dx key5 dn dne hx5 ns5 => ?_)
  have X5 : K.In h5 := fun a o e => key5 a o (fun z => by rw [z, hnx] at e; cases e) (X4 a o e)
  have hL5 : h5.Ns s.heap.objs.size (fun y => List.lookup y (List.reverse ([("self", Value.ref x), ("line", u), ("column", v)] : List (Str × Value)))) := by
    obtain ⟨oL, es, ep, e1, e2⟩ := hL4
    exact ⟨oL, es, ep, key5 _ _ hxL e1, e2⟩
  refine ks_wpAt_execs_cons (ks_wpAt_Assign_Attr (wpAt_of_wpAny (ldN hL5 (v := v) rfl (ldN hL5 (v := .ref x) rfl ?_))))
  obtain ⟨oD, hoD⟩ : ∃ oD, h5.get? dx = some oD := by
    obtain ⟨oD, _, _, z, _⟩ := ns5
    exact ⟨oD, z⟩
  refine set_plain X5 (ox := excObj C _ (some dx) .none) (od := some oD) ⟨hx5, rfl, rfl, hoD⟩ T.ox.sa ?_
  refine OEX.osa_old X5 hx5 ns5 (nl := ["line"]) (fun y hy => ?_) (by decide) hcl hbm rfl T.noC (fun h6 tk6 key6 ns6 => ?_)
  · by_cases e : y = "line"
    · exact List.mem_singleton.mpr e
    · rw [if_neg e] at hy; exact absurd rfl hy
  have hLD : s.heap.objs.size < dx := by
    obtain ⟨oL, es, ep, e1, _⟩ := hL4
    exact Nat.lt_of_lt_of_le (Heap.lt_size e1) dn
  refine wpAt_of_wpAny (wpAny_execs_nil ?_)
  refine hq h6 tk6 dx (fun b o nb e => ?_) (Nat.le_of_lt hLD) dne ⟨_, key6 _ _ (Ne.symm dne) hx5⟩ ns6
  exact key6 _ _ (Nat.ne_of_lt (Nat.lt_trans (Heap.lt_size e) hLD)) (key5 _ _ nb (key4 _ _ nb (key3 _ _ (key2 _ _ (key1 _ _ e)))))
end
end DX
namespace DZ
open PySem PySem.Spec L2
open PyProof.Rows hiding St
def spBt (C : Addr) : Sp := fun vs H Q _ => ∃ a x y, vs = [.ref a, x, y] ∧ H a = some (exo a C none) ∧ ∀ dx, H dx = none → dx ≠ a → Q .non (upd (upd H dx (exd dx [("column", y), ("line", x)])) a (exo a C (some dx)))
section
variable {P : Program} {w : World} {K : PySem.W.Frag} {mg : Str → Option Value} {base : Heap} {C fI : Addr} {k : Nat}
theorem bt_fn (T : DX.BtC P K mg C fI) : ∃ fd, (∀ base : Heap, FnOk P w K mg base (L2.CX P w) k fI fd ["self", "line", "column"] (spBt C)) ∧ L2.Binds K fd ["self", "line", "column"] [] := by
  obtain ⟨oc, kV, doc, pm, ct, an, od, osl, cda, cc, lk, hcd, ⟨cl, cld, csl, lc⟩, ccl, cdd, ws, ccs, file, tf, ld, hvs, hfile⟩ := T.fn
  refine ⟨PySem.W.ksFn "__init__" "BadText.__init__" DX.btArgs DX.btBody DX.btScope .none kV doc pm an (.ref cda) ct cc, fun base => ⟨fun vs H Q E ⟨a, x, y, e, _⟩ => by rw [e]; rfl, fun A fr s H args us vs Q E hr e0 bd rv hsp => ?_⟩, ?_⟩
  · obtain ⟨a, x, y, rfl, ea, q⟩ := hsp
    obtain ⟨t1, ha⟩ := exo_at e0.hok ea
    have old : ∀ b o, base.get? b = some o → s.heap.get? b = some o := fun b o z => (e0.bs b o z).1
    obtain ⟨kin, gl, ⟨mb, bu, bb⟩, lim⟩ := e0.mod
    have hnx : K.lookup a = none := by
      cases z : K.lookup a with
      | none => rfl
      | some o => rw [(e0.bs _ _ (kin _ _ z)).2] at ea; cases ea
    obtain ⟨u0, u1, u2, eu, r0, r1, r2⟩ : ∃ u0 u1 u2, us = [u0, u1, u2] ∧ L2.RelV (.ref a) u0 ∧ L2.RelV x u1 ∧ L2.RelV y u2 := by
      match us, rv with
      | [_, _, _], .cons r0 (.cons r1 (.cons r2 .nil)) => exact ⟨_, _, _, rfl, r0, r1, r2⟩
    subst eu
    cases (show u0 = Value.ref a from r0)
    refine DX.bt_run T lk hcd lc ld hvs hfile bd (kin.keeps old) (lim.keeps old) (gl.keeps old) (bu.keeps old) bb ha hnx hr.depth fun h' tk dx key dn dne ⟨t2, hx⟩ ns => ?_
    have nd : H dx = none := e0.hok.fresh dn
    have rel : ∀ f, RelO (List.lookup f [(("column" : Str), y), ("line", x)]) (if f = "column" then some u2 else if f = "line" then some u1 else none) := fun f => by
      rw [lookup_put]
      split
      · exact r2
      · rw [lookup_put]
        split
        · exact r1
        · exact True.intro
    have nota : ∀ {b : Addr}, H b = none → b ≠ a := fun {b} z e => by rw [e, ea] at z; cases z
    refine ⟨.non, _, rfl, e0.bare, ?_, ?_, rfl, q dx nd dne⟩
    · exact {
        keep := fun b o e1 e2 _ _ => key b o (nota e2) e1
        slot := fun b o e1 e2 _ _ => ⟨o.slots, key b o (nota e2) e1⟩
        free := fun b o e1 e2 _ => by rw [upd_ne (nota e2), upd_ne (Nat.ne_of_lt (Nat.lt_of_lt_of_le (Heap.lt_size e1) dn))]; exact e2
        there := fun b o e1 _ => by
          by_cases z : b = a
          · rw [z]; exact ⟨_, hx⟩
          · exact ⟨_, key b o z e1⟩
        tups := fun b xs z => by rw [upd_ne (ne_of z ea (fun e => exo_tup e.symm)), upd_ne (ne_of_none z nd)]; exact z
        frzs := fun b o u z => by rw [upd_ne (ne_of z ea (fun e => exo_frz e.symm)), upd_ne (ne_of_none z nd)]; exact z
        tbls := fun b ps z => ⟨#[], by rw [upd_ne (ne_of z ea (fun e => exo_tbl e.symm)), upd_ne (ne_of_none z nd), Array.append_empty]; exact z⟩ }
    · intro b o e
      by_cases z : b = a
      · subst z
        rw [upd_same] at e
        cases e
        exact exo_ok hx
      · rw [upd_ne z] at e
        by_cases z2 : b = dx
        · subst z2
          rw [upd_same] at e
          cases e
          exact exd_ok ns rel
        · rw [upd_ne z2] at e
          refine (e0.hok b o e).stay (fun c v oc2 q => key c v ?_ q) (fun c q => ?_) fun c xs q => ?_
          · rcases oc2 with rfl | q2
            · exact z
            · exact ne_of q2 ea fun e => exo_own e.symm
          · rw [upd_ne (ne_of q ea fun e => exo_own e.symm), upd_ne (ne_of_none q nd)]; exact q
          · rw [upd_ne (ne_of q ea fun e => exo_tup e.symm), upd_ne (ne_of_none q nd)]; exact q
  · exact L2.Binds.all fun us hl => match us, hl with | [_, _, _], _ => rfl
end
section
variable {X : Cx} {W : WX} {P : List Nat} {p pos pos2 : Pos} {C fI : Addr} {k : Nat} {e1 e2 : Expr} {ms : M (List RV)}
/-- raise E(line, column) -/
def mRaise2 (c : Str) (ms : M (List RV)) : Env → Fl := fun Γ => ((ms Γ).bind fun rs Γ1 => (frzs rs Γ1).bind fun ds Γ2 => .ok ds Γ2).fl fun ds Γ2 => match ds with
  | [l, m] => .ex ⟨c, [("column", m), ("line", l)]⟩ Γ2
  | _ => .no
theorem fs_raise2 (T : DX.BtC X.prog X.K X.mg C fI) (hc : X.calm = true) (tk : Takes X W) (hr : Room (k + 1) X.A) (hx : Passes (L2.CX X.prog X.w) X fun _ _ _ => False) (ha : FA X W [e1, e2] 2 ms) (gC : X.mg "BadText" = some (.ref C)) (hg : Gl X "BadText")
    (he : starEach [e1, e2] X.env = (false, eval e1 X.env) :: starEach [e2] X.env := by rfl) (hpl : (backTo pos (starEach [e2] X.env)).any (·.1) = false := by rfl) :
    FS X W P (.Raise (some (.Call (.Name "BadText" p) [e1, e2] [] pos)) none pos2) (mRaise2 "BadText" ms) := by
  obtain ⟨fd, F, bs⟩ := bt_fn (w := X.w) (k := k) T
  refine PS.imp (ps_raise hc tk (pmk_oex (x := "BadText") T.ox T.ini T.tI (F X.base) hr bs .nil hx hg gC ha.pa (by decide) he hpl)) fun D σ H ⟨I, Γ, r, q⟩ => ?_
  have q := q.out.frzs (K := X.K) r
  refine ⟨I, Γ, r, ?_⟩
  cases eq : ms Γ with
  | no => rw [eq] at q; exact q
  | ex e Γ1 => rw [eq] at q; exact q
  | ok rs Γ1 =>
    rw [eq] at q
    intro I1 H1 e1 vs oks
    obtain ⟨ds, Γ2, I2, el, e2, rps, z⟩ := q I1 H1 e1 vs oks
    have dl : ds.length = 2 := el.trans (ha.len _ _ _ eq)
    match ds, dl, rps, z with
    | [l, m], _, .cons rl (.cons rm .nil), z =>
      rename_i v1 v2
      refine ⟨(by decide : 2 ≤ 1000), fun a na => ⟨a, v1, v2, rfl, upd_same, fun dx nd ne => ⟨rfl, dx, _, upd_same, by rw [upd_ne ne, upd_same], by rw [upd_ne ne] at nd; exact nd, ?_⟩⟩⟩
      have nd1 : H1 dx = none := by rw [upd_ne ne] at nd; exact nd
      have eH : upd (del (upd (upd (upd H1 a (exo a C none)) dx (exd dx [("column", v2), ("line", v1)])) a (exo a C (some dx))) a) dx (.xd [("column", v2), ("line", v1)]) = upd H1 dx (.xd [("column", v2), ("line", v1)]) := by
        funext b
        by_cases h1 : b = dx
        · rw [h1, upd_same, upd_same]
        · rw [upd_ne h1, upd_ne h1]
          by_cases h2 : b = a
          · rw [h2, del_same, na]
          · rw [del_ne h2, upd_ne h2, upd_ne h1, upd_ne h2]
      rw [eH]
      obtain ⟨_, z⟩ := z I2 H1 e2
      have e3 := e2.trans (Ep.newO (o := .xd [("column", v2), ("line", v1)]) e2.rep nd1)
      exact z (.ref C) (some dx) σ I2 _ e3.sq ⟨gC, .inr ⟨dx, _, rfl, upd_same, .cons ⟨rfl, rm⟩ (.cons ⟨rfl, rl⟩ .nil)⟩⟩
end
end DZ

set_option maxRecDepth 100000
set_option maxHeartbeats 4000000
namespace DZ
open PySem PySem.Spec L2
open PyProof.Rows hiding St

/-! ### order -/
section
variable {X : Cx}
def ltS (a b : Str) : Bool := decide (a.cps.toList < b.cps.toList)
def rOrd (fi : Int → Int → Bool) (fs : Str → Str → Bool) : R2 := fun x y H Q => rI0 (fun i j => .bl (fi i j)) x y H Q ∨ (∃ i j, x = .str i ∧ y = .str j ∧ Q (.bl (fs i j)) H)
def fOrd (fi : Int → Int → Bool) (fs : Str → Str → Bool) : F2 := fun _ _ d e => match d, e with
  | .int i, .int j => some (.fz (.bool (fi i j)))
  | .str i, .str j => some (.fz (.bool (fs i j)))
  | _, _ => none
theorem ok_ord {fi : Int → Int → Bool} {fs : Str → Str → Bool} : Op2 X (rOrd fi fs) (fOrd fi fs) := by
  intro I H Hb σ Γ v u r1 r2 rv d e Q r0 hb ok1 ok2 l1 l2 p1 p2 hf h
  unfold fOrd at hf
  split at hf
  · cases hf; exact .inl ⟨_, _, l1, l2, res0 r0.same h (.bl _)⟩
  · cases hf; exact .inr ⟨_, _, l1, l2, res0 r0.same h (.bl _)⟩
  · cases hf
theorem op_ltX : OpR X (compareOp .Lt) (rOrd (fun i j => decide (i < j)) ltS) := op_lt.or op_lt_str
theorem op_leX : OpR X (compareOp .LtE) (rOrd (fun i j => decide (i ≤ j)) fun a b => !ltS b a) := op_le.or op_le_str
theorem op_gtX : OpR X (compareOp .Gt) (rOrd (fun i j => decide (j < i)) fun a b => ltS b a) := op_gt.or op_gt_str
theorem op_geX : OpR X (compareOp .GtE) (rOrd (fun i j => decide (j ≤ i)) fun a b => !ltS a b) := op_ge.or op_ge_str

/-! ### is -/
def rIsX (neg : Bool) : R2 := fun x y H Q => (y = .non ∧ Q (.bl (neg != decide (x = .non))) H) ∨ (∃ a b, x = .bl a ∧ y = .bl b ∧ Q (.bl (neg != decide (a = b))) H)
theorem op_isX : OpR X (compareOp .Is) (rIsX false) := by
  intro pins s σ H x y v u Q I rx ry h
  rcases h with ⟨e, q⟩ | ⟨a, b, e1, e2, q⟩
  · exact op_isN pins s σ H x y v u Q I rx ry ⟨e, by simpa using q⟩
  · exact op_is_bl pins s σ H x y v u Q I rx ry ⟨a, b, e1, e2, by simpa using q⟩
theorem op_isnotX : OpR X (compareOp .IsNot) (rIsX true) := by
  intro pins s σ H x y v u Q I rx ry h
  rcases h with ⟨e, q⟩ | ⟨a, b, e1, e2, q⟩
  · exact op_notN pins s σ H x y v u Q I rx ry ⟨e, by simpa using q⟩
  · exact op_isnot_bl pins s σ H x y v u Q I rx ry ⟨a, b, e1, e2, by simpa using q⟩
def PyData.isNon : PyData → Bool
  | .none => true
  | _ => false
def fIs (neg : Bool) : F2 := fun _ _ d e => match e with
  | .none => some (.fz (.bool (neg != PyData.isNon d)))
  | .bool b => (match d with
    | .bool a => some (.fz (.bool (neg != decide (a = b))))
    | _ => none)
  | _ => none
theorem lk_non {K : PySem.W.Frag} {I H : Hp} {v : V} {d : PyData} (l : Lk K I H v d) : decide (v = .non) = PyData.isNon d := by
  cases d with
  | none => cases (show v = .non from l); rfl
  | bool b => cases (show v = .bl b from l); rfl
  | int i => cases (show v = .int i from l); rfl
  | str x => cases (show v = .str x from l); rfl
  | list ds => obtain ⟨a, xs, rfl, _⟩ := l; rfl
  | tuple ds => obtain ⟨a, xs, rfl, _⟩ := l; rfl
  | dict es => obtain ⟨a, rfl, _⟩ := l; rfl
theorem ok_is {neg : Bool} : Op2 X (rIsX neg) (fIs neg) := by
  intro I H Hb σ Γ v u r1 r2 rv d e Q r0 hb ok1 ok2 l1 l2 p1 p2 hf h
  unfold fIs at hf
  split at hf
  · cases hf
    exact .inl ⟨l2, by rw [lk_non l1]; exact res0 r0.same h (.bl _)⟩
  · split at hf
    · cases hf; exact .inr ⟨_, _, l1, l2, res0 r0.same h (.bl _)⟩
    · cases hf
  · cases hf

/-! ### in -/
def flatD : PyData → Option V
  | .none => some .non
  | .bool b => some (.bl b)
  | .int i => some (.int i)
  | .str s => some (.str s)
  | _ => none
def flatsD : List PyData → Option (List V)
  | [] => some []
  | d :: ds => match flatD d, flatsD ds with
    | some v, some vs => some (v :: vs)
    | _, _ => none
theorem flat_lk {K : PySem.W.Frag} {I H : Hp} {v w : V} {d : PyData} (l : Lk K I H v d) (h : flatD d = some w) : v = w ∧ flatV w = true := by
  cases d with
  | none => cases h; exact ⟨l, rfl⟩
  | bool b => cases h; exact ⟨l, rfl⟩
  | int i => cases h; exact ⟨l, rfl⟩
  | str x => cases h; exact ⟨l, rfl⟩
  | _ => cases h
theorem flats_rp {K : PySem.W.Frag} {I H : Hp} (s : Same I H) : ∀ {vs ws : List V} {ds : List PyData}, RpAll I vs ds → flatsD ds = some ws → vs = ws ∧ ws.all flatV = true
  | _, _, [], .nil, h => by cases h; exact ⟨rfl, rfl⟩
  | _, _, d :: ds, .cons r rs, h => by
    unfold flatsD at h
    split at h
    · rename_i v vs e1 e2
      cases h
      obtain ⟨a1, a2⟩ := flat_lk (K := K) (r.lk s) e1
      obtain ⟨b1, b2⟩ := flats_rp (K := K) s rs e2
      exact ⟨by rw [a1, b1], by rw [List.all_cons, a2, b2]; rfl⟩
    · cases h
def strIn (i j : Str) : Bool := !(Builtin.Str.occurrences j i 0 j.length 1).isEmpty
def rInX (K : PySem.W.Frag) (neg : Bool) : R2 := fun x y H Q => (∃ i j, x = .str i ∧ y = .str j ∧ Q (.bl (neg != strIn i j)) H) ∨ (∃ p xs, y = .ref p ∧ (SqL K H p xs ∨ SqT K H p xs) ∧ flatV x = true ∧ xs.all flatV = true ∧ Q (.bl (neg != inV x xs)) H)
theorem op_inX : OpR X (compareOp .In) (rInX X.K false) := by
  intro pins s σ H x y v u Q I rx ry h
  rcases h with ⟨i, j, e1, e2, q⟩ | ⟨p, xs, e1, e2, e3, e4, q⟩
  · exact op_in_str pins s σ H x y v u Q I rx ry ⟨i, j, e1, e2, by simpa [strIn] using q⟩
  · exact op_in_seq pins s σ H x y v u Q I rx ry ⟨p, xs, e1, e2, e3, e4, by simpa using q⟩
theorem op_notInX : OpR X (compareOp .NotIn) (rInX X.K true) := by
  intro pins s σ H x y v u Q I rx ry h
  rcases h with ⟨i, j, e1, e2, q⟩ | ⟨p, xs, e1, e2, e3, e4, q⟩
  · exact op_notin_str pins s σ H x y v u Q I rx ry ⟨i, j, e1, e2, by simpa [strIn] using q⟩
  · exact op_notIn_seq pins s σ H x y v u Q I rx ry ⟨p, xs, e1, e2, e3, e4, by simpa using q⟩
def inFlat (neg : Bool) (d : PyData) (ds : List PyData) : Option RV := match flatD d, flatsD ds with
  | some v, some vs => some (.fz (.bool (neg != inV v vs)))
  | _, _ => none
def fIn (neg : Bool) : F2 := fun _ _ d e => match e with
  | .str j => (match d with
    | .str i => some (.fz (.bool (neg != strIn i j)))
    | _ => none)
  | .list ds => inFlat neg d ds
  | .tuple ds => inFlat neg d ds
  | _ => none
theorem ok_in {neg : Bool} : Op2 X (rInX X.K neg) (fIn neg) := by
  intro I H Hb σ Γ v u r1 r2 rv d e Q r0 hb ok1 ok2 l1 l2 p1 p2 hf h
  unfold fIn at hf
  split at hf
  · split at hf
    · cases hf; exact .inl ⟨_, _, l1, l2, res0 r0.same h (.bl _)⟩
    · cases hf
  · unfold inFlat at hf
    split at hf
    · rename_i e1 e2
      cases hf
      obtain ⟨a, xs, rfl, q1, q2⟩ := l2
      obtain ⟨rfl, fv⟩ := flat_lk l1 e1
      obtain ⟨rfl, fs⟩ := flats_rp (K := X.K) r0.same q2 e2
      exact .inr ⟨a, _, rfl, .inl q1, fv, fs, res0 r0.same h (.bl _)⟩
    · cases hf
  · unfold inFlat at hf
    split at hf
    · rename_i e1 e2
      cases hf
      obtain ⟨a, xs, rfl, q1, q2⟩ := l2
      obtain ⟨rfl, fv⟩ := flat_lk l1 e1
      obtain ⟨rfl, fs⟩ := flats_rp (K := X.K) r0.same q2 e2
      exact .inr ⟨a, _, rfl, .inr q1, fv, fs, res0 r0.same h (.bl _)⟩
    · cases hf
  · cases hf

/-! ### items -/
def fIx : F2 := fun _ _ d e => match e with
  | .int i => (match d with
    | .list ds => (atI ds i).map RV.fz
    | .tuple ds => (atI ds i).map RV.fz
    | .str z => if z.length ≤ sizeLine then (atI z.cps.toList i).map (fun c => .fz (.str ⟨#[c]⟩)) else none
    | _ => none)
  | _ => none
theorem atI_rp {I : Hp} {vs : List V} {ds : List PyData} {i : Int} {d : PyData} (r : RpAll I vs ds) (h : atI ds i = some d) : ∃ v, atI vs i = some v ∧ Rp I v d := by
  unfold atI at h ⊢
  rw [r.length]
  cases z : ixN ds.length i with
  | none => rw [z] at h; cases h
  | some j => rw [z] at h; exact r.get h
theorem ok_ix : Op2 X (rIx X.K) fIx := by
  intro I H Hb σ Γ v u r1 r2 rv d e Q r0 hb ok1 ok2 l1 l2 p1 p2 hf h
  unfold fIx at hf
  split at hf
  · rename_i i
    split at hf
    · obtain ⟨z, e1, rfl⟩ := Option.map_eq_some_iff.mp hf
      obtain ⟨a, xs, rfl, q1, q2⟩ := l1
      obtain ⟨w, e2, rp⟩ := atI_rp q2 e1
      exact .inl ⟨a, xs, i, w, rfl, l2, q1, e2, res0 r0.same h rp⟩
    · obtain ⟨z, e1, rfl⟩ := Option.map_eq_some_iff.mp hf
      obtain ⟨a, xs, rfl, q1, q2⟩ := l1
      obtain ⟨w, e2, rp⟩ := atI_rp q2 e1
      exact .inr (.inl ⟨a, xs, i, w, rfl, l2, q1, e2, res0 r0.same h rp⟩)
    · split at hf
      · rename_i hz
        obtain ⟨c, e1, rfl⟩ := Option.map_eq_some_iff.mp hf
        exact .inr (.inr ⟨_, i, c, l1, l2, hz, e1, res0 r0.same h (.str _)⟩)
      · cases hf
    · cases hf
  · cases hf
end
end DZ

set_option maxRecDepth 100000
set_option maxHeartbeats 4000000
namespace DZ
open PySem PySem.Spec L2
open PyProof.Rows hiding St

/-! ### a < b <= c -/
section
variable {X : Cx} {W : WX}
def mChain (f g : F2) (ma mb mc : M RV) : M RV := fun Γ => (ma Γ).bind fun r1 Γ1 => (mb Γ1).bind fun r2 Γ2 => match peek Γ2 r1, peek Γ2 r2 with
  | some d, some e => (match f r1 r2 d e with
    | some (.fz (.bool true)) => (mc Γ2).bind fun r3 Γ3 => (match peek Γ3 r2, peek Γ3 r3 with
      | some e', some d3 => (match g r2 r3 e' d3 with
        | some rv => .ok rv Γ3
        | none => .no)
      | _, _ => .no)
    | some (.fz (.bool false)) => .ok (.fz (.bool false)) Γ2
    | _ => .no)
  | _, _ => .no
theorem fe_chain {a b c : Expr} {op op' : CmpOp} {ma mb mc : M RV} {pos : Pos} {r r' : R2} {f g : F2} (ho : OpR X (compareOp op) r) (ho' : OpR X (compareOp op') r') (ok : Op2 X r f) (ok' : Op2 X r' g) (ha : FE X W a ma) (hb : FE X W b mb) (hc : FE X W c mc)
    (hm : lastMarks [op, op'] [b, c] = false := by with_unfolding_all rfl) : FE X W (.Compare a [op, op'] [b, c] pos) (mChain f g ma mb mc) := by
  refine PE.imp (pe_chain ho ho' ha hb hc hm) fun σ H Q ⟨I, Γ, r0, h⟩ => ?_
  refine ⟨I, Γ, r0, h.bind.imp fun r1 Γ1 I1 H1 _ ⟨e1, h1⟩ v ok1 => ?_⟩
  refine ⟨I1, Γ1, e1.rep, h1.bind.imp fun r2 Γ2 I2 H2 e2 ⟨_, h2⟩ u ok2 => ?_⟩
  have ok1' := ok1.later (e1.owned r0) e1.rep e2
  have ok2' : RVok X.mg X.K I2 H2 H σ u r2 := ok2.base e1.stp.dom
  have dom2 : ∀ x, H2 x = none → H x = none := fun x z => e1.stp.dom x (e2.stp.dom x z)
  split at h2
  · rename_i d e p1 p2
    split at h2
    · rename_i ef
      refine ok I2 H2 H σ Γ2 v u r1 r2 _ d e _ e2.rep dom2 ok1' ok2' (ok1'.lk e2.rep p1) (ok2'.lk e2.rep p2) p1 p2 ef fun x I3 H3 s sm okx => ?_
      cases okx
      refine ⟨true, rfl, ?_⟩
      rw [if_pos rfl]
      have e3 := Ep.step e2.rep s sm
      refine ⟨I3, Γ2, e3.rep, ?_⟩
      have h2 := (h2.re e3).bind
      refine h2.imp fun r3 Γ3 I4 H4 e4 ⟨_, h4⟩ w okw => ?_
      have ok2'' := (ok2'.later (fun y z => (e1.trans e2).owned r0 y z) e2.rep (e3.trans e4))
      have okw' : RVok X.mg X.K I4 H4 H σ w r3 := okw.base fun y z => dom2 y (e3.stp.dom y z)
      split at h4
      · rename_i e' d3 p3 p4
        split at h4
        · rename_i rv eg
          refine ok' I4 H4 H σ Γ3 u w r2 r3 rv e' d3 Q e4.rep (fun y z => dom2 y (e3.stp.dom y (e4.stp.dom y z))) ok2'' okw' (ok2''.lk e4.rep p3) (okw'.lk e4.rep p4) p3 p4 eg fun x I5 H5 s5 sm5 okx => ?_
          obtain ⟨_, ⟨_, h5⟩⟩ := h4 I5 H5 (Ep.step e4.rep s5 sm5)
          exact h5.2.2 x okx
        · exact h4.elim
      · exact h4.elim
    · rename_i ef
      refine ok I2 H2 H σ Γ2 v u r1 r2 _ d e _ e2.rep dom2 ok1' ok2' (ok1'.lk e2.rep p1) (ok2'.lk e2.rep p2) p1 p2 ef fun x I3 H3 s sm okx => ?_
      cases okx
      refine ⟨false, rfl, ?_⟩
      rw [if_neg (fun z => nomatch z)]
      exact (h2 I3 H3 (Ep.step e2.rep s sm)).2.2 (.bl false) (.bl false)
    · exact h2.elim
  · exact h2.elim
end

/-! ### slices -/
def Tp (mg : Str → Option Value) (W : WX) (m : M (Option Int)) : TO := fun σ H Q => ∃ I Γ, Rep mg I H σ Γ ∧ Rs mg W σ I H Γ (m Γ) fun o _ _ H' => Q o H'
abbrev FO (X : Cx) (W : WX) (e : Option Expr) (m : M (Option Int)) : Prop := PO X e (Tp X.mg W m)
section
variable {X : Cx} {W : WX}
theorem PO.imp {e : Option Expr} {t t' : TO} (h : PO X e t) (i : ∀ σ H Q, t' σ H Q → t σ H Q) : PO X e t' := ⟨fun pins s σ H Q I q => h.run pins s σ H Q I (i σ H Q q)⟩
def mNoP : M (Option Int) := fun Γ => .ok none Γ
def mPart (m : M RV) : M (Option Int) := fun Γ => (m Γ).bind fun r Γ1 => match peek Γ1 r with
  | some (.int i) => .ok (some i) Γ1
  | _ => .no
theorem fo_none : FO X W none mNoP := PO.imp po_none fun σ H Q ⟨I, Γ, r, h⟩ => h I H (Ep.refl r)
theorem fo_some {e : Expr} {m : M RV} (h : FE X W e m) : FO X W (some e) (mPart m) := by
  refine PO.imp (po_some h) fun σ H Q ⟨I, Γ, r, q⟩ => ⟨I, Γ, r, q.bind.imp fun rv Γ1 I1 H1 e1 ⟨_, q⟩ v ok => ?_⟩
  split at q
  · rename_i i p
    exact ⟨i, ok.lk e1.rep p, (q.pure e1.rep).2⟩
  · exact q.elim
def cutD (xs : List PyData) (lo hi : Option Int) : List PyData := (xs.drop (HT.sIx xs.length 0 lo)).take (HT.sIx xs.length xs.length hi - HT.sIx xs.length 0 lo)
theorem RpAll.cut {I : Hp} {vs : List V} {ds : List PyData} (h : RpAll I vs ds) (lo hi : Option Int) : RpAll I (cutV vs lo hi) (cutD ds lo hi) := by
  unfold cutV cutD
  rw [h.length]
  exact (h.drop _).take _
def rSlX (K : PySem.W.Frag) : V → Option Int → Option Int → Hp → VK → Prop := fun x lo hi H Q => rSlL K x lo hi H Q ∨ rSlA K x lo hi H Q ∨ rSlS x lo hi H Q
theorem sl_X : SlR X (rSlX X.K) := sl_list.or (sl_tupA.or sl_str)
def fSl (r : RV) (d : PyData) (lo hi : Option Int) : Option RV := match d with
  | .list ds => some (.ow (.list (cutD ds lo hi)))
  | .tuple ds => if HT.sIx ds.length 0 lo = 0 ∧ HT.sIx ds.length ds.length hi = ds.length then some r else some (.fz (.tuple (cutD ds lo hi)))
  | .str z => if z.length ≤ sizeLine then some (.fz (.str (cutS z lo hi))) else none
  | _ => none
def mSl (m : M RV) (ml mh : M (Option Int)) : M RV := fun Γ => (m Γ).bind fun r Γ1 => (ml Γ1).bind fun lo Γ2 => (mh Γ2).bind fun hi Γ3 => match peek Γ3 r with
  | some d => (match fSl r d lo hi with
    | some rv => .ok rv Γ3
    | none => .no)
  | none => .no
theorem fe_sl {e : Expr} {lo hi : Option Expr} {m : M RV} {ml mh : M (Option Int)} {p2 pos : Pos} (he : FE X W e m) (hl : FO X W lo ml) (hh : FO X W hi mh) : FE X W (.Subscript e (.Slice lo hi none p2) pos) (mSl m ml mh) := by
  refine PE.imp (pe_slice sl_X he hl hh) fun σ H Q ⟨I, Γ, r0, q⟩ => ⟨I, Γ, r0, q.bind.imp fun rv Γ1 I1 H1 e1 ⟨_, q⟩ v ok => ?_⟩
  refine ⟨I1, Γ1, e1.rep, q.bind.imp fun l Γ2 I2 H2 e2 ⟨_, q⟩ => ?_⟩
  refine ⟨I2, Γ2, e2.rep, q.bind.imp fun h Γ3 I3 H3 e3 ⟨_, q⟩ => ?_⟩
  have ok3 := ok.later (e1.owned r0) e1.rep (e2.trans e3)
  have dom3 : ∀ x, H3 x = none → H x = none := fun x z => e1.stp.dom x (e2.stp.dom x (e3.stp.dom x z))
  split at q
  · rename_i d p
    split at q
    · rename_i rv' ef
      have l3 := ok3.lk e3.rep p
      have fin : ∀ x I' H', Stp (fun _ => False) I3 H3 I' H' → Same I' H' → RVok X.mg X.K I' H' H σ x rv' → Q x H' := fun x I' H' s sm okx => (q I' H' (Ep.step e3.rep s sm)).2.2.2 x okx
      unfold fSl at ef
      split at ef
      · cases ef
        obtain ⟨a, xs, rfl, q1, q2⟩ := l3
        exact .inl ⟨a, xs, rfl, q1, fun p np => resL e3.rep.same dom3 fin np (q2.cut l h)⟩
      · obtain ⟨a, xs, rfl, q1, q2⟩ := l3
        refine .inr (.inl ⟨a, xs, rfl, q1, fun c => ?_, fun c p np => ?_⟩)
        · rw [q2.length] at c
          rw [if_pos c] at ef
          cases ef
          exact res0 e3.rep.same fin ok3
        · rw [q2.length] at c
          rw [if_neg c] at ef
          cases ef
          exact resT e3.rep.same fin np (q2.cut l h)
      · split at ef
        · rename_i hz
          cases ef
          exact .inr (.inr ⟨_, l3, hz, res0 e3.rep.same fin (.str _)⟩)
        · cases ef
      · cases ef
    · exact q.elim
  · exact q.elim
end
end DZ

set_option maxRecDepth 100000
set_option maxHeartbeats 4000000
namespace DZ
open PySem PySem.Spec L2
open PyProof.Rows hiding St

/-! ### built-in functions -/
section
variable {X : Cx} {W : WX}
theorem lks1 {K : PySem.W.Frag} {I H : Hp} {vs : List V} {d : PyData} (h : Lks K I H vs [d]) : ∃ v, vs = [v] ∧ Lk K I H v d := by
  cases h with
  | cons a t => cases t; exact ⟨_, rfl, a⟩
theorem lks2 {K : PySem.W.Frag} {I H : Hp} {vs : List V} {d e : PyData} (h : Lks K I H vs [d, e]) : ∃ v u, vs = [v, u] ∧ Lk K I H v d ∧ Lk K I H u e := by
  cases h with
  | cons a t =>
    cases t with
    | cons b t => cases t; exact ⟨_, _, rfl, a, b⟩
def rLenX (K : PySem.W.Frag) : List V → Hp → VK → Prop := fun xs H Q => (∃ p ys, xs = [.ref p] ∧ (SqL K H p ys ∨ SqT K H p ys) ∧ Q (.int ys.length) H) ∨ (∃ z : Str, xs = [.str z] ∧ z.length ≤ sizeLine ∧ Q (.int z.length) H)
theorem cr_lenX : CallR X (.builtin "len") (rLenX X.K) := call_len_seq.or call_len_str
def fLen : FN := fun _ ds => match ds with
  | [.list xs] => some (.fz (.int xs.length))
  | [.tuple xs] => some (.fz (.int xs.length))
  | [.str z] => if z.length ≤ sizeLine then some (.fz (.int z.length)) else none
  | _ => none
theorem ok_len : CallOk X (rLenX X.K) fLen := by
  intro I H Hb σ Γ vs rs rv ds Q r0 hb oks lks p hf h
  unfold fLen at hf
  split at hf
  · cases hf
    obtain ⟨v, rfl, a, xs, rfl, q1, q2⟩ := lks1 lks
    exact .inl ⟨a, xs, rfl, .inl q1, by rw [q2.length]; exact res0 r0.same h (.int _)⟩
  · cases hf
    obtain ⟨v, rfl, a, xs, rfl, q1, q2⟩ := lks1 lks
    exact .inl ⟨a, xs, rfl, .inr q1, by rw [q2.length]; exact res0 r0.same h (.int _)⟩
  · obtain ⟨hz, rfl⟩ := Out.some_of hf
    obtain ⟨v, rfl, e⟩ := lks1 lks
    cases (show v = .str _ from e)
    exact .inr ⟨_, rfl, hz, res0 r0.same h (.int _)⟩
  · cases hf
def boolsD : List PyData → Option (List Bool)
  | [] => some []
  | .bool b :: ds => (boolsD ds).map (b :: ·)
  | _ => none
theorem bools_rp {I : Hp} : ∀ {vs : List V} {ds : List PyData} {bs : List Bool}, RpAll I vs ds → boolsD ds = some bs → vs = bs.map V.bl
  | _, [], _, .nil, h => by cases h; rfl
  | _, .bool b :: ds, bs, .cons r rs, h => by
    obtain ⟨cs, e, rfl⟩ := Option.map_eq_some_iff.mp h
    cases r
    rw [bools_rp rs e]; rfl
def fAll : FN := fun _ ds => match ds with
  | [.list xs] => (boolsD xs).map fun bs => .fz (.bool (bs.all id))
  | _ => none
theorem ok_all : CallOk X (rAll X.K) fAll := by
  intro I H Hb σ Γ vs rs rv ds Q r0 hb oks lks p hf h
  unfold fAll at hf
  split at hf
  · obtain ⟨bs, e, rfl⟩ := Option.map_eq_some_iff.mp hf
    obtain ⟨v, rfl, a, xs, rfl, q1, q2⟩ := lks1 lks
    obtain rfl := bools_rp q2 e
    exact ⟨a, bs, rfl, q1, res0 r0.same h (.bl _)⟩
  · cases hf
def rStrX : List V → Hp → VK → Prop := fun xs H Q => (∃ i : Int, xs = [.int i] ∧ i.natAbs.log2 < 1920 ∧ Q (.str (toString i)) H) ∨ (∃ a, xs = [.str a] ∧ Q (.str a) H)
theorem cr_strX : CallR X (.type "str") rStrX := call_str_int.or SkE.call_str_str
def fStr : FN := fun _ ds => match ds with
  | [.int i] => if i.natAbs.log2 < 1920 then some (.fz (.str (toString i))) else none
  | [.str a] => some (.fz (.str a))
  | _ => none
theorem ok_str : CallOk X rStrX fStr := by
  intro I H Hb σ Γ vs rs rv ds Q r0 hb oks lks p hf h
  unfold fStr at hf
  split at hf
  · obtain ⟨hz, rfl⟩ := Out.some_of hf
    obtain ⟨v, rfl, e⟩ := lks1 lks
    cases (show v = .int _ from e)
    exact .inl ⟨_, rfl, hz, res0 r0.same h (.str _)⟩
  · cases hf
    obtain ⟨v, rfl, e⟩ := lks1 lks
    cases (show v = .str _ from e)
    exact .inr ⟨_, rfl, res0 r0.same h (.str _)⟩
  · cases hf
def rIntX : List V → Hp → VK → Prop := fun xs H Q => ((∃ i, xs = [.int i] ∧ Q (.int i) H) ∨ ∃ k, xs = [.bl k] ∧ Q (.int (if k then 1 else 0)) H) ∨ (∃ a n, xs = [.str a] ∧ PySem.intText? a = some n ∧ a.length ≤ 640 ∧ Q (.int n) H)
theorem cr_intX : CallR X (.type "int") rIntX := call_int1.or call_int_str
def fInt : FN := fun _ ds => match ds with
  | [.int i] => some (.fz (.int i))
  | [.bool k] => some (.fz (.int (if k then 1 else 0)))
  | [.str a] => if a.length ≤ 640 then (PySem.intText? a).map fun n => .fz (.int n) else none
  | _ => none
theorem ok_int : CallOk X rIntX fInt := by
  intro I H Hb σ Γ vs rs rv ds Q r0 hb oks lks p hf h
  unfold fInt at hf
  split at hf
  · cases hf
    obtain ⟨v, rfl, e⟩ := lks1 lks
    cases (show v = .int _ from e)
    exact .inl (.inl ⟨_, rfl, res0 r0.same h (.int _)⟩)
  · cases hf
    obtain ⟨v, rfl, e⟩ := lks1 lks
    cases (show v = .bl _ from e)
    exact .inl (.inr ⟨_, rfl, res0 r0.same h (.int _)⟩)
  · split at hf
    · rename_i hz
      obtain ⟨n, e1, rfl⟩ := Option.map_eq_some_iff.mp hf
      obtain ⟨v, rfl, e⟩ := lks1 lks
      cases (show v = .str _ from e)
      exact .inr ⟨_, n, rfl, e1, hz, res0 r0.same h (.int _)⟩
    · cases hf
  · cases hf
def rMax2 : List V → Hp → VK → Prop := fun xs H Q => ∃ i j, xs = [.int i, .int j] ∧ Q (.int (if j > i then j else i)) H
theorem cr_max2 (hc : X.calm = true) : CallR X (.builtin "max") rMax2 := call_max2 hc
def fMax2 : FN := fun _ ds => match ds with
  | [.int i, .int j] => some (.fz (.int (if j > i then j else i)))
  | _ => none
theorem ok_max2 : CallOk X rMax2 fMax2 := by
  intro I H Hb σ Γ vs rs rv ds Q r0 hb oks lks p hf h
  unfold fMax2 at hf
  split at hf
  · cases hf
    obtain ⟨v, u, rfl, e1, e2⟩ := lks2 lks
    cases (show v = .int _ from e1)
    cases (show u = .int _ from e2)
    exact ⟨_, _, rfl, res0 r0.same h (.int _)⟩
  · cases hf
def rAbs : List V → Hp → VK → Prop := fun xs H Q => ∃ i, xs = [.int i] ∧ Q (.int (if i < 0 then -i else i)) H
theorem cr_abs : CallR X (.builtin "abs") rAbs := call_abs
def fAbs : FN := fun _ ds => match ds with
  | [.int i] => some (.fz (.int (if i < 0 then -i else i)))
  | _ => none
theorem ok_abs : CallOk X rAbs fAbs := by
  intro I H Hb σ Γ vs rs rv ds Q r0 hb oks lks p hf h
  unfold fAbs at hf
  split at hf
  · cases hf
    obtain ⟨v, rfl, e⟩ := lks1 lks
    cases (show v = .int _ from e)
    exact ⟨_, rfl, res0 r0.same h (.int _)⟩
  · cases hf
def rTupO (K : PySem.W.Frag) : List V → Hp → VK → Prop := fun xs H Q => ∃ p ys, xs = [.ref p] ∧ ((SqL K H p ys ∧ ∀ l, H l = none → Q (.ref l) (upd H l (.tup ys))) ∨ (SqT K H p ys ∧ Q (.ref p) H))
theorem cr_tupO : CallR X (.type "tuple") (rTupO X.K) := call_tuple_of
def fTupO : FN := fun rs ds => match rs, ds with
  | [_], [.list xs] => some (.fz (.tuple xs))
  | [r], [.tuple xs] => some r
  | _, _ => none
theorem ok_tupO : CallOk X (rTupO X.K) fTupO := by
  intro I H Hb σ Γ vs rs rv ds Q r0 hb oks lks p hf h
  unfold fTupO at hf
  split at hf
  · cases hf
    obtain ⟨v, rfl, a, xs, rfl, q1, q2⟩ := lks1 lks
    exact ⟨a, xs, rfl, .inl ⟨q1, fun l nl => resT r0.same h nl q2⟩⟩
  · cases hf
    obtain ⟨v, rfl, a, xs, rfl, q1, q2⟩ := lks1 lks
    cases oks with
    | cons ok _ => exact ⟨a, xs, rfl, .inr ⟨q1, res0 r0.same h ok⟩⟩
  · cases hf
def rLstO (K : PySem.W.Frag) : List V → Hp → VK → Prop := fun xs H Q => ∃ p ys, xs = [.ref p] ∧ (SqL K H p ys ∨ SqT K H p ys) ∧ ∀ l, H l = none → Q (.ref l) (upd H l (.lst ys))
theorem cr_lstO : CallR X (.type "list") (rLstO X.K) := call_list_of
def fLstO : FN := fun _ ds => match ds with
  | [.list xs] => some (.ow (.list xs))
  | [.tuple xs] => some (.ow (.list xs))
  | _ => none
theorem ok_lstO : CallOk X (rLstO X.K) fLstO := by
  intro I H Hb σ Γ vs rs rv ds Q r0 hb oks lks p hf h
  unfold fLstO at hf
  split at hf
  · cases hf
    obtain ⟨v, rfl, a, xs, rfl, q1, q2⟩ := lks1 lks
    exact ⟨a, xs, rfl, .inl q1, fun l nl => resL r0.same hb h nl q2⟩
  · cases hf
    obtain ⟨v, rfl, a, xs, rfl, q1, q2⟩ := lks1 lks
    exact ⟨a, xs, rfl, .inr q1, fun l nl => resL r0.same hb h nl q2⟩
  · cases hf
theorem ok_repr : CallOk X (rRepr X.K) fRepr := by
  intro I H Hb σ Γ vs rs rv ds Q r0 hb oks lks p hf h
  unfold fRepr at hf
  split at hf
  · obtain ⟨⟨c1, c2, c3, c4⟩, rfl⟩ := Out.some_of hf
    obtain ⟨v, rfl, e⟩ := lks1 lks
    exact ⟨v, _, rfl, e.dp r0.same c1, c1, c2, c3, c4, res0 r0.same h (.str _)⟩
  · cases hf
end

/-! ### isinstance -/
def tyN : PyData → Option String
  | .none => some "NoneType"
  | .bool _ => some "bool"
  | .int _ => some "int"
  | .str _ => some "str"
  | .list _ => some "list"
  | .tuple _ => some "tuple"
  | .dict _ => none
def isiAns (T t : String) : Bool := t == T || (T == "int" && t == "bool")
theorem tyx_of {K : PySem.W.Frag} {I H : Hp} {v : V} {d : PyData} {t : String} (l : Lk K I H v d) (h : tyN d = some t) : TyX K H v (.type t) := by
  cases d with
  | none => cases h; cases (show v = .non from l); exact .base .non
  | bool b => cases h; cases (show v = .bl b from l); exact .base (.bl b)
  | int i => cases h; cases (show v = .int i from l); exact .base (.int i)
  | str x => cases h; cases (show v = .str x from l); exact .base (.str x)
  | list ds =>
    cases h
    obtain ⟨a, xs, rfl, q, _⟩ := l
    rcases q with (q | ⟨o, q⟩) | ⟨o, vs, n, q, c, _⟩
    · exact .base (.lst q)
    · exact .base (.frz q)
    · exact .kList q c
  | tuple ds =>
    cases h
    obtain ⟨a, xs, rfl, q, _⟩ := l
    rcases q with (q | ⟨o, q⟩) | ⟨o, vs, n, q, c, _⟩
    · exact .base (.tup q)
    · exact .fTuple q
    · exact .kTuple q c
  | dict es => cases h
/-- what kitOne says of the built-in classes -/
def KitT (K : PySem.W.Frag) (T : String) : Prop := ∀ t ∈ ["NoneType", "bool", "int", "str", "list", "tuple"], PySem.W.kitOne K (.type t) (.type T) = some (isiAns T t)
theorem tyN_mem {d : PyData} {t : String} (h : tyN d = some t) : t ∈ ["NoneType", "bool", "int", "str", "list", "tuple"] := by
  cases d <;> cases h <;> simp
section
variable {X : Cx} {W : WX} {e : Expr} {m : M RV} {T : String} {x : Str} {p p2 pos : Pos}
def mIsi (T : String) (m : M RV) : M RV := fun Γ => (m Γ).bind fun r Γ1 => match (peek Γ1 r).bind tyN with
  | some t => .ok (.fz (.bool (isiAns T t))) Γ1
  | none => .no
theorem fe_isi (hk : KitT X.K T) (hg : Gl X "isinstance") (hm : X.mg "isinstance" = none) (hgT : Gl X x) (hmT : X.mg x = none) (hvT : bootBuiltins x = some (.type T)) (h : FE X W e m) (hn : x ≠ "__name__" := by decide) (hd : (x == ("__debug__" : Str)) = false := by decide)
    (he : starEach [e, .Name x p2] X.env = (false, eval e X.env) :: starEach [.Name x p2] X.env := by rfl) (hpl : (backTo pos (starEach [.Name x p2] X.env)).any (·.1) = false := by rfl)
    (hs : starEach [.Name x p2] X.env = (false, eval (.Name x p2) X.env) :: starEach [] X.env := by rfl) :
    FE X W (.Call (.Name "isinstance" p) [e, .Name x p2] [] pos) (mIsi T m) := by
  refine PE.imp (pe_callB call_isi hg hm (by rfl) (pa_cons h (pa_cons (pe_bltn (v := .ty T) hgT hmT hvT rfl hn hd) pa_nil hs) he) (by decide) (by decide) he hpl) fun σ H Q ⟨I, Γ, r0, q⟩ => ?_
  refine ⟨I, Γ, r0, q.bind.imp fun rv Γ1 I1 H1 e1 ⟨_, q⟩ v ok => ?_⟩
  split at q
  · rename_i t ep
    obtain ⟨d, p1, p2⟩ := Option.bind_eq_some_iff.mp ep
    exact ⟨v, .ty T, .type t, .type T, _, rfl, .ty T, tyx_of (ok.lk e1.rep p1) p2, hk t (tyN_mem p2), (q.pure e1.rep).2 _ (.bl _)⟩
  · exact q.elim
end
end DZ

set_option maxRecDepth 100000
set_option maxHeartbeats 4000000
namespace DZ
open PySem PySem.Spec L2
open PyProof.Rows hiding St

/-! ### methods of texts -/
def MtOk (X : Cx) (r : V → List V → Hp → VK → Prop) (f : Str → FN) : Prop :=
  ∀ (I H Hb : Hp) (σ : St) (Γ : Env) (a : Str) (vs : List V) (rs : List RV) (rv : RV) (ds : List PyData) (Q : VK), Rep X.mg I H σ Γ → (∀ x, H x = none → Hb x = none) → RVs X.mg X.K I H Hb σ vs rs →
    Lks X.K I H vs ds → peeks Γ rs = some ds → f a rs ds = some rv → (∀ x I' H', Stp (fun _ => False) I H I' H' → Same I' H' → RVok X.mg X.K I' H' Hb σ x rv → Q x H') → r (.str a) vs H Q
section
variable {X : Cx} {W : WX}
def mBmS (f : Str → FN) (mo : M RV) (ms : M (List RV)) : M RV := fun Γ => (mo Γ).bind fun r Γ1 => match peek Γ1 r with
  | some (.str a) => (ms Γ1).bind fun rs Γ2 => (match peeks Γ2 rs with
    | some ds => (match f a rs ds with
      | some rv => .ok rv Γ2
      | none => .no)
    | none => .no)
  | _ => .no
theorem fe_bmS {o e : Expr} {es : List Expr} {n : Nat} {name : Str} {apos cpos : Pos} {id : String} {r : V → List V → Hp → VK → Prop} {f : Str → FN} {mo : M RV} {ms : M (List RV)} (slot : Slot "str" name id) (hty : typeOf (.builtin id) = pure (.type "method_descriptor")) (hm : MtR X id r) (ok : MtOk X r f)
    (ho : FE X W o mo) (ha : FA X W (e :: es) n ms) (hbase : attributeBase o name X.env (eval o X.env) = eval o X.env := by rfl)
    (hfew : ((backTo cpos (starEach (e :: es) X.env)).all (fun x => !x.1) && (backToKw cpos (keywordEach [] X.env)).all (fun x => x.1.isSome)
      && decide ((e :: es).length + ([] : List Keyword).length + (if ([] : List Keyword).isEmpty then 0 else 1) < 30)) = true := by rfl)
    (hline : (apos.endLine == cpos.line) = true := by rfl) (hs : starEach (e :: es) X.env = (false, eval e X.env) :: starEach es X.env := by rfl) (hplain : (backTo cpos (starEach es X.env)).any (·.1) = false := by rfl) :
    FE X W (.Call (.Attribute o name apos) (e :: es) [] cpos) (mBmS f mo ms) := by
  refine PE.imp (pe_bm PySem.F.plainAttrs_str slot hty hm ho ha.pa hbase hfew hline hs hplain) fun σ H Q ⟨I, Γ, r0, q⟩ => ?_
  refine ⟨I, Γ, r0, q.bind.imp fun rv Γ1 I1 H1 e1 ⟨_, q⟩ v ok1 => ?_⟩
  split at q
  · rename_i a p
    cases (show v = .str a from ok1.lk e1.rep p)
    refine ⟨rfl, I1, Γ1, e1.rep, q.bind.imp fun rs Γ2 I2 H2 e2 ⟨_, q⟩ vs oks => ?_⟩
    split at q
    · rename_i ds p2
      split at q
      · rename_i rv' ef
        have oks' : RVs X.mg X.K I2 H2 H σ vs rs := oks.base e1.stp.dom
        refine ok I2 H2 H σ Γ2 a vs rs rv' ds Q e2.rep (fun x z => e1.stp.dom x (e2.stp.dom x z)) oks' (RVs.lk e2.rep oks' p2) p2 ef fun x I3 H3 s sm okx => ?_
        exact (q I3 H3 (Ep.step e2.rep s sm)).2.2 x okx
      · exact q.elim
    · exact q.elim
  · exact q.elim
def strsD : List PyData → Option (List Str)
  | [] => some []
  | .str a :: ds => (strsD ds).map (a :: ·)
  | _ => none
theorem strs_rp {I : Hp} : ∀ {vs : List V} {ds : List PyData} {ys : List Str}, RpAll I vs ds → strsD ds = some ys → vs = ys.map V.str
  | _, [], _, .nil, h => by cases h; rfl
  | _, .str a :: ds, ys, .cons r rs, h => by
    obtain ⟨zs, e, rfl⟩ := Option.map_eq_some_iff.mp h
    cases r
    rw [strs_rp rs e]; rfl
def rJoin (K : PySem.W.Frag) : V → List V → Hp → VK → Prop := fun x xs H Q => ∃ a p, ∃ ys : List Str, x = .str a ∧ xs = [.ref p] ∧ (SqL K H p (ys.map V.str) ∨ SqT K H p (ys.map V.str)) ∧ (ys.map (·.length)).sum + ys.length * a.length ≤ 16777216 ∧ Q (.str (Txt.join a ys)) H
theorem mt_joinX : MtR X "str.join" (rJoin X.K) := mt_join
def fJoin (a : Str) : FN := fun _ ds => match ds with
  | [.list xs] => (match strsD xs with
    | some ys => if (ys.map (·.length)).sum + ys.length * a.length ≤ 16777216 then some (.fz (.str (Txt.join a ys))) else none
    | none => none)
  | _ => none
theorem ok_join : MtOk X (rJoin X.K) fJoin := by
  intro I H Hb σ Γ a vs rs rv ds Q r0 hb oks lks p hf h
  unfold fJoin at hf
  split at hf
  · split at hf
    · rename_i ys e
      obtain ⟨hz, rfl⟩ := Out.some_of hf
      obtain ⟨v, rfl, b, xs, rfl, q1, q2⟩ := lks1 lks
      obtain rfl := strs_rp q2 e
      exact ⟨a, b, ys, rfl, rfl, .inl q1, hz, res0 r0.same h (.str _)⟩
    · cases hf
  · cases hf
def rSplit : V → List V → Hp → VK → Prop := fun x xs H Q => ∃ a b, x = .str a ∧ xs = [.str b] ∧ (b.length == 0) = false ∧ a.length + 2 ≤ sizeLine ∧ rNewStrs (Txt.split a b) H Q
theorem mt_splitX : MtR X "str.split" rSplit := mt_split
theorem rp_strs {I : Hp} : ∀ ys : List Str, RpAll I (ys.map V.str) (ys.map PyData.str)
  | [] => .nil
  | y :: ys => .cons (.str y) (rp_strs ys)
def fSplit (a : Str) : FN := fun _ ds => match ds with
  | [.str b] => if (b.length == 0) = false ∧ a.length + 2 ≤ sizeLine then some (.ow (.list ((Txt.split a b).map PyData.str))) else none
  | _ => none
theorem ok_split : MtOk X rSplit fSplit := by
  intro I H Hb σ Γ a vs rs rv ds Q r0 hb oks lks p hf h
  unfold fSplit at hf
  split at hf
  · obtain ⟨⟨h1, h2⟩, rfl⟩ := Out.some_of hf
    obtain ⟨v, rfl, e⟩ := lks1 lks
    cases (show v = .str _ from e)
    exact ⟨a, _, rfl, rfl, h1, h2, fun p np => resL r0.same hb h np (rp_strs _)⟩
  · cases hf
def rStarts : V → List V → Hp → VK → Prop := fun x xs H Q => ∃ a b, x = .str a ∧ xs = [.str b] ∧ Q (.bl (Txt.startswith a b)) H
theorem mt_startsX : MtR X "str.startswith" rStarts := mt_startswith
def fStarts (a : Str) : FN := fun _ ds => match ds with
  | [.str b] => some (.fz (.bool (Txt.startswith a b)))
  | _ => none
theorem ok_starts : MtOk X rStarts fStarts := by
  intro I H Hb σ Γ a vs rs rv ds Q r0 hb oks lks p hf h
  unfold fStarts at hf
  split at hf
  · cases hf
    obtain ⟨v, rfl, e⟩ := lks1 lks
    cases (show v = .str _ from e)
    exact ⟨a, _, rfl, rfl, res0 r0.same h (.bl _)⟩
  · cases hf
end

/-! ### methods that change a list in a slot -/
section
variable {X : Cx} {W : WX}
def mBmL (i : Nat) (C : List SV → Fo) (ms : M (List RV)) : M RV := fun Γ => match Γ[i]? with
  | some (some (.ow (.list _))) => (ms Γ).bind fun rs Γ1 => (frzs rs Γ1).bind (callIo C (.br i))
  | _ => .no
theorem fe_bmL {i : Nat} {x : Str} {e : Expr} {es : List Expr} {n : Nat} {name : Str} {p apos cpos : Pos} {id : String} {r : V → List V → Hp → VK → Prop} {C : List SV → Fo} {ms : M (List RV)} (slot : Slot "list" name id) (hty : typeOf (.builtin id) = pure (.type "method_descriptor")) (hm : MtR X id r)
    (hr : ∀ v vs H Q E, spF X.mg true (n + 1) C (v :: vs) H Q E → r v vs H Q) (hN : X.N[i]? = some x) (hv : Vis X.env.scope x) (ha : FA X W (e :: es) n ms)
    (hbase : attributeBase (.Name x p) name X.env (eval (.Name x p) X.env) = eval (.Name x p) X.env := by rfl)
    (hfew : ((backTo cpos (starEach (e :: es) X.env)).all (fun x => !x.1) && (backToKw cpos (keywordEach [] X.env)).all (fun x => x.1.isSome)
      && decide ((e :: es).length + ([] : List Keyword).length + (if ([] : List Keyword).isEmpty then 0 else 1) < 30)) = true := by rfl)
    (hline : (apos.endLine == cpos.line) = true := by rfl) (hs : starEach (e :: es) X.env = (false, eval e X.env) :: starEach es X.env := by rfl) (hplain : (backTo cpos (starEach es X.env)).any (·.1) = false := by rfl) (hd : (x == ("__debug__" : Str)) = false := by decide) (hcd : (x == ("__classdict__" : Str)) = false := by decide) :
    FE X W (.Call (.Attribute (.Name x p) name apos) (e :: es) [] cpos) (mBmL i C ms) := by
  refine PE.imp (pe_bm PySem.F.plainAttrs_list slot hty hm (pe_var hN hv hd hcd) ha.pa hbase hfew hline hs hplain) fun σ H Q ⟨I, Γ, r0, q⟩ => ?_
  unfold mBmL at q
  split at q
  · rename_i ds eG
    obtain ⟨v, ev, a, rfl, ⟨⟨o, eo, ob⟩, fr⟩⟩ := r0.slot i _ eG
    cases ob with
    | lst rp =>
      refine ⟨_, ev, .inl ⟨rfl, _, .inl (.inl eo)⟩, I, Γ, r0, ?_⟩
      have q := q.bind0
      cases eq : ms Γ with
      | no => rw [eq] at q; exact q
      | ex e Γ1 => rw [eq] at q; exact q
      | ok rs Γ1 =>
        rw [eq] at q
        intro I1 H1 e1 vs oks
        obtain ⟨_, q⟩ := q I1 H1 e1
        have hl := ha.len _ _ _ eq
        have ok1 : RVok X.mg X.K I1 H1 H σ (.ref a) (.br i) := ev
        exact hr _ _ _ _ _ (io_call r0 e1 ok1 oks (by rw [hl]) q)
  · exact q.elim
def cAppend : List SV → Fo
  | [.ow (.list ds), .fz d] => if ds.length < sizeLine then .ret (.fz .none) (some (.ow (.list (ds ++ [d])))) else .no
  | _ => .no
/-- a list written over, its slot's content -/
theorem io_put {I H : Hp} {a : Addr} {xs ys : List V} {es : List PyData} {vs : List V} (s : Same I H) (fr : I a = none) (rp : RpAll I ys es) : Stp (ioA true (.ref a :: vs)) I H I (upd H a (.lst ys)) ∧ Same I (upd H a (.lst ys)) ∧ OutOk X.mg true (.ref a :: vs) I (upd H a (.lst ys)) (some (.ow (.list es))) := by
  refine ⟨⟨Same.refl I, fun b o nb e => ?_, fun b e => ?_, fun b o e => .inl e⟩, fun b o e => ?_, fun _ => ⟨_, _, rfl, rfl, rfl, a, rfl, ⟨⟨_, upd_same, .lst rp⟩, fr⟩⟩⟩
  · rw [upd_ne (fun z => nb ⟨rfl, by rw [z]; rfl⟩)]; exact e
  · by_cases z : b = a
    · rw [z, upd_same] at e; cases e
    · rw [upd_ne z] at e; exact e
  · rw [upd_ne (fun z => by rw [z, fr] at e; cases e)]; exact s _ _ e
theorem cAppend_cases (svs : List SV) : (∃ ds d, svs = [.ow (.list ds), .fz d]) ∨ cAppend svs = .no := by
  unfold cAppend
  split
  · exact .inl ⟨_, _, rfl⟩
  · exact .inr rfl
theorem ap_append : ∀ v vs H Q E, spF X.mg true 2 cAppend (v :: vs) H Q E → rAppend v vs H Q := by
  intro v vs H Q E ⟨I, svs, hl, a, h⟩
  rcases cAppend_cases svs with ⟨ds, d, rfl⟩ | z
  · cases a.ok with
    | cons o1 t =>
      cases t with
      | cons o2 t =>
        cases t
        obtain ⟨p, rfl, ⟨⟨o, eo, ob⟩, fr⟩⟩ := o1
        cases ob with
        | lst rp =>
          by_cases hz : ds.length < sizeLine
          · simp only [cAppend, if_pos hz] at h
            obtain ⟨s1, s2, s3⟩ := io_put (X := X) (xs := []) (vs := [_]) a.same fr (rp.append (.cons o2 .nil))
            exact ⟨p, _, _, rfl, rfl, eo, by rw [rp.length]; exact hz, h .non I _ s1 s2 .non (fun z => nomatch z) s3⟩
          · simp only [cAppend, if_neg hz] at h
  · rw [z] at h; exact h.elim

/-! ### xs[i] = e, xs[i] += e -/
/-- a slot's list written over -/
theorem Ep.putL {mg : Str → Option Value} {σ : St} {I H I1 H1 : Hp} {Γ Γ1 : Env} {i : Nat} {ds es : List PyData} (r0 : Rep mg I H σ Γ) (e1 : Ep mg σ I H Γ I1 H1 Γ1) (h : Γ1[i]? = some (some (.ow (.list ds)))) :
    ∃ a xs, σ[i]? = some (some (.ref a)) ∧ H1 a = some (.lst xs) ∧ RpAll I1 xs ds ∧ ∀ ys, RpAll I1 ys es → Ep mg σ I H Γ I1 (upd H1 a (.lst ys)) (Γ1.set i (some (.ow (.list es)))) := by
  obtain ⟨v, ev, a, rfl, ⟨⟨o, eo, ob⟩, fr⟩⟩ := e1.rep.slot i _ h
  cases ob with
  | lst rp =>
    refine ⟨a, _, ev, eo, rp, fun ys ry => ?_⟩
    have rc : recv Γ1 (.br i) = some (.ow (.list ds)) := by
      show (match Γ1[i]? with
        | some (some sv) => if sv.own = true then some sv else none
        | _ => none) = _
      rw [h]; rfl
    have st : Stp (fun b => b = a) I1 H1 I1 (upd H1 a (.lst ys)) := ⟨Same.refl I1, fun b o nb e => by rw [upd_ne nb]; exact e, fun b e => by
      by_cases z : b = a
      · rw [z, upd_same] at e; cases e
      · rw [upd_ne z] at e; exact e, fun b o e => .inl e⟩
    have sm : Same I1 (upd H1 a (.lst ys)) := fun b o e => by rw [upd_ne (fun z => by rw [z, fr] at e; cases e)]; exact e1.rep.same _ _ e
    exact back_ok (K := []) (I1 := I1) (v := .ref a) (r := .br i) (o := .ow (.list es)) r0 e1 ev rfl rc ⟨a, rfl, ⟨⟨_, eo, .lst rp⟩, fr⟩⟩ st sm rfl ⟨a, rfl, ⟨⟨_, upd_same, .lst ry⟩, fr⟩⟩
def putIx (i : Nat) (d : PyData) (ri : RV) (Γ3 : Env) : Fl := match peek Γ3 ri, Γ3[i]? with
  | some (.int k), some (some (.ow (.list ds))) => (match ixN ds.length k with
    | some j => .nx (Γ3.set i (some (.ow (.list (ds.set j d)))))
    | none => .no)
  | _, _ => .no
def mPutIx (i : Nat) (mi mv : M RV) : Env → Fl := fun Γ => (mv Γ).fl fun rv Γ1 => (frz rv Γ1).fl fun d Γ2 => match Γ2[i]? with
  | some (some (.ow (.list _))) => (mi Γ2).fl (putIx i d)
  | _ => .no
variable {P : List Nat}
theorem fs_putIx {i : Nat} {x : Str} {ie e : Expr} {mi mv : M RV} {p tp pos : Pos} (hN : X.N[i]? = some x) (hv : Vis X.env.scope x) (hi : FE X W ie mi) (he : FE X W e mv)
    (ha : ∀ v, assign (.Subscript (.Name x p) ie tp) X.env v = (do
      let ov ← holding [v] (eval (.Name x p) X.env)
      let iv ← holding [v, ov] (eval ie X.env)
      standAt tp
      holding [v, ov, iv] (setItem ov iv v)
      release [v, ov, iv] []) := by intro _; rfl)
    (hs : swapsWithSole [.Subscript (.Name x p) ie tp] e pos.line X.env = pure false := by rfl) (hw : swappedStores [.Subscript (.Name x p) ie tp] e X.env = pure none := by rfl)
    (h1 : (assignEach [.Subscript (.Name x p) ie tp] X.env).map (·.2) = [assign (.Subscript (.Name x p) ie tp) X.env] := by rfl) (hd : (x == ("__debug__" : Str)) = false := by decide) (hcd : (x == ("__classdict__" : Str)) = false := by decide) :
    FS X W P (.Assign [.Subscript (.Name x p) ie tp] e pos) (mPutIx i mi mv) := by
  refine PS.imp (ps_asg he (pg_sub (pe_var hN hv hd hcd) hi set_list ha) hs hw h1) fun D σ H ⟨I, Γ, r, q⟩ => ⟨I, Γ, r, q.out.imp fun rv Γ1 I1 H1 e1 ⟨_, q⟩ v ok => ?_⟩
  cases z : frz rv Γ1 with
  | no => rw [z] at q; exact q.elim
  | ex x Γ2 => exact (frz_noex z).elim
  | ok d Γ2 =>
    rw [z] at q
    obtain ⟨I2, e2, rp, _, _⟩ := e1.frz r ok.w z
    simp only [Out.fl] at q
    split at q
    · rename_i ds0 eG
      obtain ⟨v0, ev, a, rfl, _⟩ := e2.rep.slot i _ eG
      refine ⟨_, ev, I2, Γ2, e2.rep, (Rf.re (e2.sq (P := P)) q).out.imp fun ri Γ3 I3 H3 e3 ⟨_, q⟩ iv oki => ?_⟩
      unfold putIx at q
      split at q
      · rename_i k ds p3 eG3
        split at q
        · rename_i j ej
          obtain ⟨a', xs, ea, eH, rps, mk⟩ := Ep.putL (es := ds.set j d) e2.rep e3 eG3
          rw [ev] at ea; cases ea
          cases (show iv = .int k from oki.lk e3.rep p3)
          refine ⟨a, xs, k, j, rfl, rfl, eH, by rw [rps.length]; exact ej, ?_⟩
          have e4 := mk (xs.set j v) (rps.set (rp.mono e3.stp.inc) j)
          exact q σ I3 _ e4.sq
        · exact q.elim
      · exact q.elim
    · exact q.elim
/-- xs[k] += e, whole numbers -/
def augIx (i : Nat) (k : Int) (x : Int) (re : RV) (Γ4 : Env) : Fl := match peek Γ4 re, Γ4[i]? with
  | some (.int y), some (some (.ow (.list ds))) => (match ixN ds.length k with
    | some j => .nx (Γ4.set i (some (.ow (.list (ds.set j (.int (x + y)))))))
    | none => .no)
  | _, _ => .no
def getIx (i : Nat) (me : M RV) (ri : RV) (Γ3 : Env) : Fl := match peek Γ3 ri, Γ3[i]? with
  | some (.int k), some (some (.ow (.list ds))) => if 0 ≤ k ∧ k < 2 ^ 63 then (match ds[k.toNat]? with
    | some (.int x) => (me Γ3).fl (augIx i k x)
    | _ => .no) else .no
  | _, _ => .no
def mAugIx (i : Nat) (mi me : M RV) : Env → Fl := fun Γ => match Γ[i]? with
  | some (some (.ow (.list _))) => (mi Γ).fl (getIx i me)
  | _ => .no
def rGetL : V → V → Hp → VK → Prop := fun o i H Q => ∃ p xs k v, o = .ref p ∧ i = .int k ∧ 0 ≤ k ∧ k < 2 ^ 63 ∧ H p = some (.lst xs) ∧ xs[k.toNat]? = some v ∧ Q v H
theorem get_listX : PGet X rGetL := by
  intro pins s σ H o i ov iv Q I ro ri h
  obtain ⟨p, xs, k, v, rfl, rfl, h0, h1, hp, hv, q⟩ := h
  cases ro
  obtain ⟨t, rfl⟩ := ri
  obtain ⟨its, r, pl, hz⟩ := I.list (.inl (.inl hp))
  obtain ⟨w, ew, rw'⟩ := r.get hv
  exact wpAny_getItem_list pl.isList h0 h1 (by simpa using ew) ⟨v, H, I, rw', q⟩
theorem fs_augIx {i : Nat} {x : Str} {ie e : Expr} {mi me : M RV} {p tp pos : Pos} (hN : X.N[i]? = some x) (hv : Vis X.env.scope x) (hi : FE X W ie mi) (he : FE X W e me)
    (ha : ∀ ov iv new, augStore ie ov iv new = (do holding [new, ov, iv] (setItem ov iv new); release [new, ov, iv] []; pure .next) := by intros; rfl) (hd : (x == ("__debug__" : Str)) = false := by decide) (hcd : (x == ("__classdict__" : Str)) = false := by decide) :
    FS X W P (.AugAssign (.Subscript (.Name x p) ie tp) .Add e pos) (mAugIx i mi me) := by
  refine PS.imp (ps_augS (pe_var hN hv hd hcd) hi get_listX he ip_add set_list ha) fun D σ H ⟨I, Γ, r, q⟩ => ?_
  unfold mAugIx at q
  split at q
  · rename_i ds0 eG
    obtain ⟨v0, ev, a, rfl, _⟩ := r.slot i _ eG
    refine ⟨_, ev, I, Γ, r, q.out.imp fun ri Γ3 I3 H3 e3 ⟨_, q⟩ iv oki => ?_⟩
    unfold getIx at q
    split at q
    · rename_i k ds p3 eG3
      split at q
      · rename_i hk
        split at q
        · rename_i x0 ex
          obtain ⟨v1, ev1, a1, rfl, ⟨⟨o, eo, ob⟩, fr⟩⟩ := e3.rep.slot i _ eG3
          rw [ev] at ev1; cases ev1
          cases ob with
          | lst rp =>
            obtain ⟨vx, evx, rvx⟩ := rp.get ex
            cases (show vx = .int x0 by cases rvx; rfl)
            cases (show iv = .int k from oki.lk e3.rep p3)
            refine ⟨a, _, k, _, rfl, rfl, hk.1, hk.2, eo, evx, I3, Γ3, e3.rep, (Rf.re (e3.sq (P := P)) q).out.imp fun re Γ4 I4 H4 e4 ⟨_, q⟩ yv oky => ?_⟩
            unfold augIx at q
            split at q
            · rename_i y ds4 p4 eG4
              split at q
              · rename_i j ej
                cases (show yv = .int y from oky.lk e4.rep p4)
                obtain ⟨a', xs, ea, eH, rps, mk⟩ := Ep.putL (es := ds4.set j (.int (x0 + y))) e3.rep e4 eG4
                rw [ev] at ea; cases ea
                refine ⟨x0, y, rfl, rfl, a, xs, k, j, rfl, rfl, eH, by rw [rps.length]; exact ej, ?_⟩
                exact q σ I4 _ (mk (xs.set j (.int (x0 + y))) (rps.set (.int _) j)).sq
              · exact q.elim
            · exact q.elim
        · exact q.elim
      · exact q.elim
    · exact q.elim
  · exact q.elim
end
end DZ

set_option maxRecDepth 100000
set_option maxHeartbeats 4000000
namespace DZ
open PySem PySem.Spec L2
open PyProof.Rows hiding St

/-! ### displays with stars -/
abbrev FAS (X : Cx) (W : WX) (es : List Expr) (m : M (List RV)) : Prop := PA X es (Ta X.mg X.K W m)
section
variable {X : Cx} {W : WX} {e : Expr} {es : List Expr} {m : M RV} {ms : M (List RV)} {p pos : Pos}
theorem fas_nil : FAS X W [] (fun Γ => .ok [] Γ) := PA.imp pa_nil fun σ H Q ⟨I, Γ, r, h⟩ => h I H (Ep.refl r) [] .nil
def mConsR (m : M RV) (ms : M (List RV)) : M (List RV) := fun Γ => (m Γ).bind fun r Γ1 => (ms Γ1).bind fun rs Γ2 => .ok (r :: rs) Γ2
theorem fas_cons (h : FE X W e m) (hs : FAS X W es ms) (he : starEach (e :: es) X.env = (false, eval e X.env) :: starEach es X.env := by rfl) : FAS X W (e :: es) (mConsR m ms) := by
  refine PA.imp (pa_cons h hs he) fun σ H Q ⟨I, Γ, r0, q⟩ => ⟨I, Γ, r0, q.bind.imp fun r Γ1 I1 H1 e1 ⟨_, q⟩ v ok => ?_⟩
  refine ⟨I1, Γ1, e1.rep, q.bind.imp fun rs Γ2 I2 H2 e2 ⟨_, q⟩ vs oks => ?_⟩
  exact (q.pure e2.rep).2.2 (v :: vs) (.cons (ok.later (e1.owned r0) e1.rep e2) (oks.base e1.stp.dom))
def starD : PyData → Option (List PyData)
  | .list ds => some ds
  | .tuple ds => some ds
  | _ => none
def mStarR (m : M RV) (ms : M (List RV)) : M (List RV) := fun Γ => (m Γ).bind fun r Γ1 => match (peek Γ1 r).bind starD with
  | some ds => (ms Γ1).bind fun rs Γ2 => .ok (ds.map RV.fz ++ rs) Γ2
  | none => .no
theorem rvs_fz {mg : Str → Option Value} {K : PySem.W.Frag} {I H Hb : Hp} {σ : St} : ∀ {xs : List V} {ds : List PyData}, RpAll I xs ds → RVs mg K I H Hb σ xs (ds.map RV.fz)
  | _, _, .nil => .nil
  | _, _, .cons h r => .cons h (rvs_fz r)
theorem rvs_app {mg : Str → Option Value} {K : PySem.W.Frag} {I H Hb : Hp} {σ : St} : ∀ {xs ys : List V} {rs ss : List RV}, RVs mg K I H Hb σ xs rs → RVs mg K I H Hb σ ys ss → RVs mg K I H Hb σ (xs ++ ys) (rs ++ ss)
  | _, _, _, _, .nil, h => h
  | _, _, _, _, .cons h t, q => .cons h (rvs_app t q)
theorem fas_star (h : FE X W e m) (hs : FAS X W es ms) (he : starEach (.Starred e p :: es) X.env = (true, eval e X.env) :: starEach es X.env := by rfl) : FAS X W (.Starred e p :: es) (mStarR m ms) := by
  refine PA.imp (StX.pa_star h hs he) fun σ H Q ⟨I, Γ, r0, q⟩ => ⟨I, Γ, r0, q.bind.imp fun r Γ1 I1 H1 e1 ⟨_, q⟩ v ok => ?_⟩
  split at q
  · rename_i ds ep
    obtain ⟨d, p1, p2⟩ := Option.bind_eq_some_iff.mp ep
    have l := ok.lk e1.rep p1
    obtain ⟨a, xs, rfl, hq, rp⟩ : ∃ a xs, v = .ref a ∧ (SqT X.K H1 a xs ∨ SqL X.K H1 a xs) ∧ RpAll I1 xs ds := by
      cases d with
      | list es => cases p2; obtain ⟨a, xs, e, q1, q2⟩ := l; exact ⟨a, xs, e, .inr q1, q2⟩
      | tuple es => cases p2; obtain ⟨a, xs, e, q1, q2⟩ := l; exact ⟨a, xs, e, .inl q1, q2⟩
      | _ => cases p2
    refine ⟨a, xs, rfl, hq, I1, Γ1, e1.rep, q.bind.imp fun rs Γ2 I2 H2 e2 ⟨_, q⟩ vs oks => ?_⟩
    exact (q.pure e2.rep).2.2 (xs ++ vs) (rvs_app (rvs_fz (rp.mono e2.stp.inc)) (oks.base e1.stp.dom))
  · exact q.elim
def mTupS (ms : M (List RV)) : M RV := fun Γ => (ms Γ).bind fun rs Γ1 => (frzs rs Γ1).bind fun ds Γ2 => if ds.length ≤ sizeLine then .ok (.fz (.tuple ds)) Γ2 else .no
def mLstS (ms : M (List RV)) : M RV := fun Γ => (ms Γ).bind fun rs Γ1 => (frzs rs Γ1).bind fun ds Γ2 => if ds.length ≤ sizeLine then .ok (.ow (.list ds)) Γ2 else .no
theorem fe_tupS {k} (h : FAS X W es ms) : FE X W (.Tuple es k pos) (mTupS ms) := by
  refine PE.imp (pe_tup h) fun σ H Q ⟨I, Γ, r, q⟩ => ⟨I, Γ, r, ?_⟩
  refine (q.frzs (K := X.K) r).imp fun rs Γ1 I1 H1 e1 q vs oks => ?_
  obtain ⟨ds, Γ2, I2, el, e2, rps, z⟩ := q vs oks
  split at z
  · rename_i hz
    refine ⟨by rw [rps.length]; exact hz, fun p np => ?_⟩
    exact resT (Hb := H) (σ := σ) (mg := X.mg) (K := X.K) (Q := Q) e2.rep.same (fun x I' H' s sm ok => z I' H' (e2.trans (Ep.step e2.rep s sm)) x ok) np rps
  · exact z.elim
theorem fe_lstS (h : FAS X W es ms) : FE X W (.List es pos) (mLstS ms) := by
  refine PE.imp (pe_lst h) fun σ H Q ⟨I, Γ, r, q⟩ => ⟨I, Γ, r, ?_⟩
  refine (q.frzs (K := X.K) r).imp fun rs Γ1 I1 H1 e1 q vs oks => ?_
  obtain ⟨ds, Γ2, I2, el, e2, rps, z⟩ := q vs oks
  split at z
  · rename_i hz
    refine ⟨by rw [rps.length]; exact hz, fun p np => ?_⟩
    exact resL (Hb := H) (σ := σ) (mg := X.mg) (K := X.K) (Q := Q) e2.rep.same (fun x y => e2.stp.dom x y) (fun x I' H' s sm ok => z I' H' (e2.trans (Ep.step e2.rep s sm)) x ok) np rps
  · exact z.elim

/-! ### for i, x in enumerate(xs) -/
def enumD : Nat → List PyData → List PyData
  | _, [] => []
  | n, d :: ds => .tuple [.int n, d] :: enumD (n + 1) ds
theorem enum_get : ∀ (ds : List PyData) (n i : Nat) (t : PyData), (enumD n ds)[i]? = some t → ∃ d, ds[i]? = some d ∧ t = .tuple [.int ((n + i : Nat) : Int), d]
  | [], n, i, t, h => by simp [enumD] at h
  | d :: ds, n, 0, t, h => by simp [enumD] at h; subst h; exact ⟨d, rfl, by simp⟩
  | d :: ds, n, i + 1, t, h => by
    obtain ⟨d', e1, e2⟩ := enum_get ds (n + 1) i t (by simpa [enumD] using h)
    exact ⟨d', by simpa using e1, by rw [e2, show n + 1 + i = n + (i + 1) by omega]⟩
theorem enum_len : ∀ (ds : List PyData) (n : Nat), (enumD n ds).length = ds.length
  | [], _ => rfl
  | d :: ds, n => congrArg (· + 1) (enum_len ds (n + 1))
theorem itok_enum {K : PySem.W.Frag} {I0 : Hp} {a : Addr} {xs : List V} {ds : List PyData} (h : SqL K I0 a xs) (r : RpAll I0 xs ds) : ItOk (Ite K a) I0 (enumD 0 ds) where
  go := fun i t I H s1 s2 e => by
    obtain ⟨d, e1, rfl⟩ := enum_get ds 0 i t e
    obtain ⟨v, e2, rp⟩ := r.get e1
    have hq : SqL K H a xs := SqL.mono (s1.trans s2) h
    refine ⟨⟨xs, v, hq, e2⟩, fun x H' ⟨T, y, ex, nT, eH, q⟩ => ?_⟩
    subst ex eH
    have := (q xs hq).symm.trans e2
    cases this
    refine ⟨upd I T (.tup [.int ((0 + i : Nat) : Int), v]), ?_, ?_, .tup upd_same (.cons (.int _) (.cons (rp.mono (s1.trans (same_new (same_none s2 nT)))) .nil))⟩
    · rw [Nat.zero_add]; exact Stp.newF s2 nT
    · rw [Nat.zero_add]; exact same_upd2 s2
  stop := fun I H s1 s2 => ⟨xs, SqL.mono (s1.trans s2) h, by rw [r.length, enum_len]; exact Nat.le_refl _⟩
def mEnum (ms : M (List RV)) : M (List PyData) := fun Γ => (ms Γ).bind fun rs Γ1 => match rs with
  | [r] => (frz r Γ1).bind fun d Γ2 => (match d with
    | .list ds => .ok (enumD 0 ds) Γ2
    | _ => .no)
  | _ => .no
theorem fi_enum {elts : List Expr} {kk : Nat} {tpos : Pos} (hg : Gl X "enumerate") (hm : X.mg "enumerate" = none) (ha : FA X W [e] 1 ms) (hs : starEach [e] X.env = [(false, eval e X.env)] := by rfl) :
    FI X W (.Tuple elts kk tpos) (.Call (.Name "enumerate" p) [e] [] pos) (mEnum ms) := by
  refine PI.imp (pi_enum hg hm ha.pa hs) fun σ H R ⟨I, Γ, r, q⟩ => ⟨I, Γ, r, q.bind0.imp fun rs Γ1 I1 H1 e1 ⟨_, q⟩ vs oks => ?_⟩
  split at q
  · rename_i rv _
    cases oks with
    | cons ok t =>
      cases t
      cases z : frz rv Γ1 with
      | no => rw [z] at q; exact q.elim
      | ex x Γ2 => exact (frz_noex z).elim
      | ok d Γ2 =>
        rw [z] at q
        obtain ⟨I2, e2, rp, _, _⟩ := e1.frz r ok.w z
        simp only [Out.bind] at q
        cases rp with
        | lst h1 h2 => exact ⟨_, _, rfl, .inl (.inl (e2.rep.same _ _ h1)), q I2 H1 e2 _ (itok_enum (.inl (.inl h1)) h2)⟩
        | _ => exact q.elim
  · exact q.elim
end
end DZ

set_option maxRecDepth 100000
set_option maxHeartbeats 4000000
namespace HZ
open PySem PySem.Spec L2 HotX
open L2H hiding St
open PyProof.Rows hiding St

section
variable {prog : Program} {w : World} {A : Around} {E : Value → Shared → Prop} {s : Shared} {x1 : Addr}
/-- StopIteration, raised while something is handled, taken -/
theorem stop_hot {R : Fin → Shared → Prop} {Q : Option Value → Shared → Prop} (hot : HotAt A x1 s.heap) (q : ∀ h2, (∀ b o, s.heap.get? b = some o → h2.get? b = some o) → Q none { s with heap := h2 }) :
    wpAny (model prog w) A.in1 Builtin.SmallTypes.stopIteration R (fun e s' => wpAny (model prog w) A (do
      let b ← isInstance e (.type "StopIteration")
      if b = true then pure none else throw e) Q E s') s := by
  obtain ⟨hh, o1, vs1, h1, d1, c1⟩ := hot
  show wpAny _ _ (newExc (Value.type "StopIteration") [] >>= _) _ _ _
  refine wpAny_bind ?_
  simp only [newExc, newTuple]
  refine wpAny_bind <| wpAny_newObj_type ?_ (by size_fits)
  refine wpAny_bind (m := firstArgMember _ _) <| wpAny_of_eq (a := Value.none) (by first | rfl | (simp only [firstArgMember]; rfl)) ?_
  refine wpAny_newObj_type ?_ (by size_fits)
  have g1 : ∀ {b : Addr} {o : Obj} {u1 u2 : Obj}, s.heap.get? b = some o → ((s.heap.push u1).push u2).get? b = some o := fun e => Heap.get?_push_of_some _ (Heap.get?_push_of_some _ e)
  refine raiseNew_hot (A := A.in1) ⟨hh, o1, vs1, g1 h1, d1, c1⟩ (Nat.ne_of_lt (Heap.lt_size (Heap.get?_push_of_some _ h1))) (Heap.get?_push_size _ rfl) rfl (by first | (simp; done) | (simp; omega) | (simp only [Array.size_append]; simp; omega)) ?_
  refine wpAny_bind (wpAny_isInstance (T := "StopIteration") (b := true) ⟨_, Heap.get?_update_self _ (Heap.get?_push_size _ rfl) rfl, rfl⟩ isSubtype_stop ?_)
  refine wpAny_pure (q _ fun b o e => ?_)
  rw [Heap.get?_update_other _ _ (Nat.ne_of_gt (Heap.lt_size (Heap.get?_push_of_some _ e)))]
  exact g1 e
theorem hotAt_upd {h : Heap} {it : Addr} {f : Obj → Obj} (hot : HotAt A x1 h) (hn : it ≠ x1) : HotAt A x1 (h.update it f) := by
  obtain ⟨hh, o1, vs1, h1, d1, c1⟩ := hot
  exact ⟨hh, o1, vs1, by rw [Heap.get?_update_other _ _ hn]; exact h1, d1, c1⟩
theorem hot_tuple_end {it t : Addr} {i : Nat} {items : Array Value} {Q : Option Value → Shared → Prop} (hot : HotAt A x1 s.heap) (hn : it ≠ x1)
    (st : s.heap.IsTupleIter it t i) (tp : s.heap.IsTuple t items) (out : items[i]? = none)
    (q : ∀ h2, Heap.ExtBut it s.heap h2 → Q none { s with heap := h2 }) : wpAny (model prog w) A (pyNext (.ref it)) Q E s := by
  obtain ⟨o, ho, _, hd⟩ := id st
  obtain ⟨ol, hol, _, _, hdl⟩ := tp
  unfold pyNext
  refine wpAny_bind <| wpAny_attempt <| wpAny_callSpecial?_slot (name := Str.ofString "__next__") st.typeIs F.slot_tuple_iterator_next <|
    wpAny_call_entry F.slot_tuple_iterator_next st.typeIs F.entry_tuple_iterator_next ?_ (F.args_tuple_iterator_next_1 _)
  show wpAny _ _ (field (Value.ref it) 0 >>= _) _ _ s
  refine wpAny_bind (wpAny_field ho hd (x := Value.ref t) rfl ?_)
  show wpAny _ _ (ite ((Value.ref t == Value.none) = true) _ _) _ _ s
  rw [if_neg (by exact Bool.false_ne_true : ¬ ((Value.ref t == Value.none) = true))]
  show wpAny _ _ (field (Value.ref it) 1 >>= _) _ _ s
  refine wpAny_bind (wpAny_field ho hd (x := Value.int i 0) rfl ?_)
  show wpAny _ _ (seqItems? (Value.ref t) >>= _) _ _ s
  refine wpAny_bind (wpAny_seqItems hol hdl ?_)
  simp only [Int.toNat_natCast, out]
  refine wpAny_bind (wpAny_rule (wpAny_bind (wpAny_setField ho hd (by simp) ?_)))
  exact stop_hot (hotAt_upd hot hn) fun h2 k => q h2 fun b o nb e => k b o (by rw [Heap.get?_update_other _ _ (Ne.symm nb)]; exact e)
theorem hot_list_end {it t : Addr} {i : Nat} {items : Array Value} {Q : Option Value → Shared → Prop} (hot : HotAt A x1 s.heap) (hn : it ≠ x1)
    (st : s.heap.IsListIter it t i) (tp : s.heap.IsList t items) (out : items[i]? = none)
    (q : ∀ h2, Heap.ExtBut it s.heap h2 → Q none { s with heap := h2 }) : wpAny (model prog w) A (pyNext (.ref it)) Q E s := by
  obtain ⟨o, ho, _, hd⟩ := id st
  obtain ⟨ol, hol, _, _, hdl⟩ := tp
  unfold pyNext
  refine wpAny_bind <| wpAny_attempt <| wpAny_callSpecial?_slot (name := Str.ofString "__next__") st.typeIs slot_listiter_next <|
    wpAny_call_entry slot_listiter_next st.typeIs entry_listiter_next ?_ (args_listiter_next _)
  show wpAny _ _ (field (Value.ref it) 0 >>= _) _ _ s
  refine wpAny_bind (wpAny_field ho hd (x := Value.ref t) rfl ?_)
  show wpAny _ _ (ite ((Value.ref t == Value.none) = true) _ _) _ _ s
  rw [if_neg (by exact Bool.false_ne_true : ¬ ((Value.ref t == Value.none) = true))]
  show wpAny _ _ (field (Value.ref it) 1 >>= _) _ _ s
  refine wpAny_bind (wpAny_field ho hd (x := Value.int i 0) rfl ?_)
  show wpAny _ _ (seqItems? (Value.ref t) >>= _) _ _ s
  refine wpAny_bind (wpAny_seqItems hol hdl ?_)
  simp only [Int.toNat_natCast, out]
  refine wpAny_bind (wpAny_rule (wpAny_bind (wpAny_setField ho hd (by simp) ?_)))
  exact stop_hot (hotAt_upd hot hn) fun h2 k => q h2 fun b o nb e => k b o (by rw [Heap.get?_update_other _ _ (Ne.symm nb)]; exact e)
theorem hot_str_end {it : Addr} {x : Str} {t : Tok} {ty : String} {i : Nat} {Q : Option Value → Shared → Prop} (hty : ty = "str_ascii_iterator" ∨ ty = "str_iterator") (hot : HotAt A x1 s.heap) (hn : it ≠ x1)
    (st : s.heap.IsStrIter it ty x t i) (out : x.cps[i]? = none)
    (q : ∀ h2, Heap.ExtBut it s.heap h2 → Q none { s with heap := h2 }) : wpAny (model prog w) A (pyNext (.ref it)) Q E s := by
  obtain ⟨o, ho, _, hd⟩ := id st
  unfold pyNext
  rcases hty with rfl | rfl
  · refine wpAny_bind <| wpAny_attempt <| wpAny_callSpecial?_slot (name := Str.ofString "__next__") st.typeIs F.slot_str_ascii_iterator_next <|
      wpAny_call_entry F.slot_str_ascii_iterator_next st.typeIs F.entry_str_ascii_iterator_next ?_ (F.args_str_ascii_iterator_next_1 _)
    show wpAny _ _ (field (Value.ref it) 0 >>= _) _ _ s
    refine wpAny_bind (wpAny_field ho hd (x := Value.str x t) rfl ?_)
    show wpAny _ _ (field (Value.ref it) 1 >>= _) _ _ s
    refine wpAny_bind (wpAny_field ho hd (x := Value.int i 0) rfl ?_)
    simp only [Int.toNat_natCast, out]
    refine wpAny_bind (wpAny_rule (wpAny_bind (wpAny_setField ho hd (by simp) (wpAny_bind (wpAny_letGo ?_)))))
    exact stop_hot (hotAt_upd hot hn) fun h2 k => q h2 fun b o nb e => k b o (by rw [Heap.get?_update_other _ _ (Ne.symm nb)]; exact e)
  · refine wpAny_bind <| wpAny_attempt <| wpAny_callSpecial?_slot (name := Str.ofString "__next__") st.typeIs F.slot_str_iterator_next <|
      wpAny_call_entry F.slot_str_iterator_next st.typeIs F.entry_str_iterator_next ?_ (F.args_str_iterator_next_1 _)
    show wpAny _ _ (field (Value.ref it) 0 >>= _) _ _ s
    refine wpAny_bind (wpAny_field ho hd (x := Value.str x t) rfl ?_)
    show wpAny _ _ (field (Value.ref it) 1 >>= _) _ _ s
    refine wpAny_bind (wpAny_field ho hd (x := Value.int i 0) rfl ?_)
    simp only [Int.toNat_natCast, out]
    refine wpAny_bind (wpAny_rule (wpAny_bind (wpAny_setField ho hd (by simp) (wpAny_bind (wpAny_letGo ?_)))))
    exact stop_hot (hotAt_upd hot hn) fun h2 k => q h2 fun b o nb e => k b o (by rw [Heap.get?_update_other _ _ (Ne.symm nb)]; exact e)
end

/-! ### what is walked where an exception is handled -/
section
variable {P : Program} {w : World} {K : PySem.W.Frag} {tg : Expr}
/-- the handled exception stands apart from an iterator's object -/
theorem hot_at {X : Cx} {pins : List (Addr × Obj)} {σ : St} {H : Hp} {s : Shared} {it : Addr} (c : HotC X) (I : Inv X pins σ H s) (f : FpOk X pins H it) : ∃ x1, HotAt X.A x1 s.heap ∧ it ≠ x1 := by
  obtain ⟨p, ⟨hh, v1, e1, c1⟩, hp⟩ := c
  exact ⟨p.1, ⟨hh, p.2, v1, (I.pin p (List.mem_append_left _ hp)).1, e1, c1⟩, (f.2.2.2.2.2 p (List.mem_append_left _ hp)).symm⟩
theorem turnH_tuple (a it : Addr) : TurnH P w K tg (Itt K a) [it] it (fun i h => h.IsTupleIter it a i) where
  mem := List.mem_singleton.mpr rfl
  obj := fun i h st b hb => by
    cases List.mem_singleton.mp hb
    obtain ⟨o, e, _, d⟩ := st
    exact ⟨o, e, fun v z => by rw [d] at z; cases z⟩
  keep := fun i h h' st k => st.at fun o e => k it (List.mem_singleton.mpr rfl) o e
  item := by
    intro X hP hw hK _ i pins s σ H E I hf st ⟨xs, x, hq, hx⟩
    subst hP hw hK
    obtain ⟨its, rv, tp, _⟩ := I.tuple hq
    obtain ⟨u, hu, ru⟩ := rv.get hx
    obtain ⟨f0, f1, f2, f3, f4, f5⟩ := hf it (List.mem_singleton.mpr rfl)
    refine wpAny_pyNext_tuple_item st (items := its.toArray) tp (x := u) (by simpa using hu) fun h2 st2 sb => ?_
    have J : Inv X pins σ H { s with heap := h2 } := I.turned (t' := s.toks) (fun b o hb e => (sb.2 b hb).trans e) f0 f1 f3 f4 f5
    obtain ⟨o, e, c, d⟩ := id st2
    exact ⟨u, rfl, go_of (s := { s with heap := h2 }) e c d (by decide) ⟨x, H, J, ru, ⟨rfl, fun ys hy => by rw [I.tuple_inj hy hq]; exact hx⟩, st2, fun b hb => (hf b hb).1⟩⟩
  done := by
    intro X hP hw hK hc i pins s σ H E I hf st ⟨xs, hq, hx⟩
    subst hP hw hK
    obtain ⟨its, rv, tp, _⟩ := I.tuple hq
    obtain ⟨f0, f1, f2, f3, f4, f5⟩ := hf it (List.mem_singleton.mpr rfl)
    obtain ⟨x1, hot, nx⟩ := hot_at hc I (hf it (List.mem_singleton.mpr rfl))
    have hl := rv.length
    exact hot_tuple_end hot nx st (items := its.toArray) tp (by simp; omega) fun h2 eb => ⟨rfl, I.turned (t' := s.toks) (fun b o hb e => eb b o hb e) f0 f1 f3 f4 f5⟩
  self := fun _ _ _ _ _ st h => wpAny_pyIter_tupleiter st h
theorem turnH_list (a it : Addr) : TurnH P w K tg (Itl K a) [it] it (fun i h => h.IsListIter it a i) where
  mem := List.mem_singleton.mpr rfl
  obj := fun i h st b hb => by
    cases List.mem_singleton.mp hb
    obtain ⟨o, e, _, d⟩ := st
    exact ⟨o, e, fun v z => by rw [d] at z; cases z⟩
  keep := fun i h h' st k => st.at fun o e => k it (List.mem_singleton.mpr rfl) o e
  item := by
    intro X hP hw hK _ i pins s σ H E I hf st ⟨xs, x, hq, hx⟩
    subst hP hw hK
    obtain ⟨its, rv, tp, _⟩ := I.list hq
    obtain ⟨u, hu, ru⟩ := rv.get hx
    obtain ⟨f0, f1, f2, f3, f4, f5⟩ := hf it (List.mem_singleton.mpr rfl)
    refine wpAny_pyNext_list_item st (items := its.toArray) tp.isList (x := u) (by simpa using hu) fun h2 st2 sb => ?_
    have J : Inv X pins σ H { s with heap := h2 } := I.turned (t' := s.toks) (fun b o hb e => (sb.2 b hb).trans e) f0 f1 f3 f4 f5
    obtain ⟨o, e, c, d⟩ := id st2
    exact ⟨u, rfl, go_of (s := { s with heap := h2 }) e c d (by decide) ⟨x, H, J, ru, ⟨rfl, fun ys hy => by rw [I.list_inj hy hq]; exact hx⟩, st2, fun b hb => (hf b hb).1⟩⟩
  done := by
    intro X hP hw hK hc i pins s σ H E I hf st ⟨xs, hq, hx⟩
    subst hP hw hK
    obtain ⟨its, rv, tp, _⟩ := I.list hq
    obtain ⟨f0, f1, f2, f3, f4, f5⟩ := hf it (List.mem_singleton.mpr rfl)
    obtain ⟨x1, hot, nx⟩ := hot_at hc I (hf it (List.mem_singleton.mpr rfl))
    have hl := rv.length
    exact hot_list_end hot nx st (items := its.toArray) tp.isList (by simp; omega) fun h2 eb => ⟨rfl, I.turned (t' := s.toks) (fun b o hb e => eb b o hb e) f0 f1 f3 f4 f5⟩
  self := fun _ _ _ _ _ st h => wpAny_pyIter_listiter st h
theorem turnH_str (it : Addr) (x : Str) (t : Tok) (ty : String) (hty : ty = "str_ascii_iterator" ∨ ty = "str_iterator") : TurnH P w K tg (Its x) [it] it (fun i h => h.IsStrIter it ty x t i) where
  mem := List.mem_singleton.mpr rfl
  obj := fun i h st b hb => by
    cases List.mem_singleton.mp hb
    obtain ⟨o, e, _, d⟩ := st
    exact ⟨o, e, fun v z => by rw [d] at z; cases z⟩
  keep := fun i h h' st k => let ⟨o, ho, r⟩ := st; ⟨o, k it (List.mem_singleton.mpr rfl) o ho, r⟩
  item := by
    intro X hP hw hK _ i pins s σ H E I hf st hg
    subst hP hw hK
    have hi : i < x.cps.size := hg
    obtain ⟨f0, f1, f2, f3, f4, f5⟩ := hf it (List.mem_singleton.mpr rfl)
    have main : ∀ h2, h2.IsStrIter it ty x t (i + 1) → Heap.SameBut it s.heap h2 → ∃ u, some (Value.str ⟨#[x.cps[i]]⟩ s.toks) = some u ∧ wpAny (model X.prog X.w) X.A (letOwnedTupleGo tg (.ref it) u) (fun _ s2 => ∃ z H', Inv X pins σ H' s2 ∧ RelV z u ∧ (Its x).yld i H z H' ∧ s2.heap.IsStrIter it ty x t (i + 1) ∧ ∀ b ∈ [it], H' b = none) E { s with heap := h2, toks := s.toks + 1 } := fun h2 st2 sb => by
      have J : Inv X pins σ H { s with heap := h2, toks := s.toks + 1 } := I.turned (fun b o hb e => (sb.2 b hb).trans e) f0 f1 f3 f4 f5
      obtain ⟨o, e, c, d⟩ := id st2
      have no : ["enumerate", "zip", "dict_itemiterator", "dict_reverseitemiterator", "odict_iterator", "itertools.zip_longest", "itertools.pairwise"].contains ty = false := by rcases hty with q | q <;> (rw [q]; decide)
      exact ⟨_, rfl, go_of (s := { s with heap := h2, toks := s.toks + 1 }) e c d no ⟨.str ⟨#[x.cps[i]]⟩, H, J, ⟨_, rfl⟩, ⟨rfl, _, Array.getElem?_eq_getElem hi, rfl⟩, st2, fun b hb => (hf b hb).1⟩⟩
    rcases hty with q | q
    · subst q
      exact wpAny_pyNext_ascii_item st (Array.getElem?_eq_getElem hi) main
    · subst q
      exact wpAny_pyNext_wide_item st (Array.getElem?_eq_getElem hi) main
  done := by
    intro X hP hw hK hc i pins s σ H E I hf st hg
    subst hP hw hK
    obtain ⟨f0, f1, f2, f3, f4, f5⟩ := hf it (List.mem_singleton.mpr rfl)
    obtain ⟨x1, hot, nx⟩ := hot_at hc I (hf it (List.mem_singleton.mpr rfl))
    exact hot_str_end hty hot nx st (Array.getElem?_eq_none hg) fun h2 eb => ⟨rfl, I.turned (t' := s.toks) (fun b o hb e => eb b o hb e) f0 f1 f3 f4 f5⟩
  self := fun A i s Q E st h => by
    rcases hty with q | q
    · rw [q] at st; exact wpAny_pyIter_striter_ascii st h
    · rw [q] at st; exact wpAny_pyIter_striter_wide st h
end
end HZ

set_option maxRecDepth 100000
set_option maxHeartbeats 4000000
namespace HZ
open PySem PySem.Spec L2 HotX
open L2H hiding St
open PyProof.Rows hiding St

/-! ### a list comprehension where an exception is handled -/
/-- its block's context: the handled exception stays pinned -/
abbrev blkH (X : Cx) (s : Shared) (H : Hp) (scope : Scope) (cenv : Env) (fp : List Addr) : Cx := { X.blk s H scope cenv fp with pn := X.pn }
theorem hot_blk {X : Cx} {s : Shared} {H : Hp} {scope : Scope} {cenv : Env} {fp : List Addr} (c : HotC X) : HotC (blkH X s H scope cenv fp) := c
section
variable {X : Cx} {pins : List (Addr × Obj)} {σ : St} {H : Hp} {s : Shared}
theorem blockH {scope : Scope} {own : List (Str × Nat)} {fp : List Addr} (I : Inv X pins σ H s) (ok : BlkOk X.N X.env.scope scope own) (nd : X.N.Nodup) (ff : ∀ b ∈ fp, FpOk X pins H b ∧ b < s.heap.objs.size) :
    Inv (blkH X s H scope (compEnvC scope (cellsFrom (s.heap.objs.size + 1) scope.names (cloFrom X.env.cells scope.names [])) s.heap.objs.size X.env) fp) [] (wipe σ (own.map (·.2))) H { s with heap := pushCells (s.heap.push { cls := .type "dict", data := .dict #[] }) scope.names } := by
  have B := block_start I ok nd ff
  have k := B.ok
  refine ⟨⟨k.mod, k.kind, k.glob, k.blt, k.above, k.inj, k.has, k.cab, k.hd, k.frames, k.stk, k.exf, k.bs, k.bsz, k.noex, k.exfs, k.funs, k.frf⟩, B.os, B.bare, B.base, B.loc, B.cell, B.free, B.freeC, fun p hp => ?_, B.hok, B.len⟩
  have hp : p ∈ X.pn := by
    have hp : p ∈ X.pn ++ [] := hp
    rwa [List.append_nil] at hp
  obtain ⟨p1, p2, p3, p4, p5⟩ := I.pin p (List.mem_append_left _ hp)
  refine ⟨pushCells_keeps _ _ _ _ (Heap.get?_push_of_some _ p1), p2, Nat.ne_of_lt (Heap.lt_size p1), fun m => ?_, p5⟩
  exact (List.mem_cons.mp (I.stkSub _ m)).elim p3 p4
end
variable {X : Cx}
theorem pe_lcH {elt tg iter : Expr} {ifs : List Expr} {scope : Scope} {own : List (Str × Nat)} {pos : Pos} {wi : TI} {g : TG} {tt : TT} {te : TE} (hot : HotC X) (nd : X.N.Nodup) (wk : PIH X tg iter wi) (ok : BlkOk X.N X.env.scope scope own)
    (pg : ∀ (s : Shared) (H : Hp) (C : Addr) (cl : List (Str × Addr)) (fp : List Addr), PG (blkH X s H scope (compEnvC scope cl C X.env) fp) tg g) (pt : ∀ (s : Shared) (H : Hp) (C : Addr) (cl : List (Str × Addr)) (fp : List Addr), PTs (blkH X s H scope (compEnvC scope cl C X.env) fp) ifs tt)
    (pe : ∀ (s : Shared) (H : Hp) (C : Addr) (cl : List (Str × Addr)) (fp : List Addr), PE (blkH X s H scope (compEnvC scope cl C X.env) fp) elt te) (hs : ∀ x, foldedSetIterable iter X.env x = pure x := by intro _; rfl) :
    PE X (.ListComp elt [⟨tg, iter, ifs, 0⟩] scope pos) (tLc wi g tt te (own.map (·.2))) := by
  refine ⟨fun pins s σ H Q I h => ?_⟩
  rw [eval_ListComp]
  have cap : ∀ y ∈ scope.names, y.2 = .free → ∃ c, X.env.cells.lookup y.1 = some c := fun y hy e => I.ok.has _ (ok.free y hy e)
  refine wpAny_comprehension_free rfl hs (closure_ok cap) ok.kind (fun y hy e => by rw [ok.uniq y hy, e]) (thn (wk.run pins s σ H _ I h) fun _ _ z => thn z ?_)
  rintro _ s2 ⟨it, fp, tn, J, H2, rfl, I2, T, t2, f2, q⟩
  refine wpAny_newObj_type (newEnv_comp ?_) (Nat.zero_le _)
  obtain ⟨D, eD⟩ : ∃ D, D = s2.heap.objs.size := ⟨_, rfl⟩
  obtain ⟨W, ⟨m0, w0⟩, turn⟩ := q D (I2.hok.fresh (Nat.le_of_eq eD.symm))
  obtain ⟨s3, e3⟩ : ∃ s3 : Shared, s3 = { s2 with heap := s2.heap.push { cls := .type "list", data := .seq ([] : List Value).toArray } } := ⟨_, rfl⟩
  have old : ∀ b o, s2.heap.get? b = some o → s3.heap.get? b = some o := fun b o e => by rw [e3]; exact Heap.get?_push_of_some _ e
  have sz3 : s3.heap.objs.size = s2.heap.objs.size + 1 := by rw [e3]; exact Heap.size_push ..
  have I3 : Inv X pins σ (upd H2 D (.lst [])) s3 := by
    rw [e3, eD]
    exact I2.laid (t' := s2.toks) (fun b o e => Heap.get?_push_of_some _ e) (Nat.le_refl _) ⟨Nat.zero_le _, [], 0, .nil, Heap.get?_push_size _ rfl⟩
  have young : ∀ b ∈ fp, b < s2.heap.objs.size := fun b hb => let ⟨_, e, _⟩ := T.obj _ _ t2 b hb; Heap.lt_size e
  have f3 : ∀ b ∈ fp, FpOk X pins (upd H2 D (.lst [])) b ∧ b < s3.heap.objs.size := fun b hb => by
    refine ⟨⟨?_, (f2 b hb).2⟩, by rw [sz3]; exact Nat.lt_succ_of_lt (young b hb)⟩
    rw [upd_ne (by rw [eD]; exact Nat.ne_of_lt (young b hb))]
    exact (f2 b hb).1
  have t3 : tn 0 s3.heap := T.keep _ _ _ t2 fun b _ o e => old b o e
  have B4 := blockH I3 ok nd f3
  have eS : ({ s2 with heap := s2.heap.push { cls := .type "list", data := .seq ([] : List Value).toArray } } : Shared) = s3 := e3.symm
  show codeAny _ _ (.compStart (.ListComp elt [⟨tg, iter, ifs, 0⟩] scope pos) 0 (.ref it) (.ref s2.heap.objs.size) (compEnvC scope (cellsFrom (({ s2 with heap := s2.heap.push { cls := .type "list", data := .seq ([] : List Value).toArray } } : Shared).heap.objs.size + 1) scope.names (cloFrom X.env.cells scope.names [])) ({ s2 with heap := s2.heap.push { cls := .type "list", data := .seq ([] : List Value).toArray } } : Shared).heap.objs.size X.env)) (compPost (model X.prog X.w) X.A X.xe _ _ (.ref s2.heap.objs.size) ({ s2 with heap := s2.heap.push { cls := .type "list", data := .seq ([] : List Value).toArray } } : Shared).heap.objs.size)
    { ({ s2 with heap := s2.heap.push { cls := .type "list", data := .seq ([] : List Value).toArray } } : Shared) with heap := pushCells (({ s2 with heap := s2.heap.push { cls := .type "list", data := .seq ([] : List Value).toArray } } : Shared).heap.push { cls := .type "dict", data := .dict #[] }) scope.names }
  rw [eS, ← eD]
  clear eS
  have nf3 : ∀ b ∈ fp, (upd H2 D (.lst [])) b = none := fun b hb => (f3 b hb).1.1
  obtain ⟨ce, ece⟩ : ∃ ce, ce = compEnvC scope (cellsFrom (s3.heap.objs.size + 1) scope.names (cloFrom X.env.cells scope.names [])) s3.heap.objs.size X.env := ⟨_, rfl⟩
  have pg := pg s3 (upd H2 D (.lst [])) s3.heap.objs.size (cellsFrom (s3.heap.objs.size + 1) scope.names (cloFrom X.env.cells scope.names [])) fp
  have pt := pt s3 (upd H2 D (.lst [])) s3.heap.objs.size (cellsFrom (s3.heap.objs.size + 1) scope.names (cloFrom X.env.cells scope.names [])) fp
  have pe := pe s3 (upd H2 D (.lst [])) s3.heap.objs.size (cellsFrom (s3.heap.objs.size + 1) scope.names (cloFrom X.env.cells scope.names [])) fp
  rw [← ece] at B4 pg pt pe ⊢
  have eL : ce.locals = s3.heap.objs.size := by rw [ece]; rfl
  generalize upd H2 D (.lst []) = H3 at I3 B4 pg pt pe w0 nf3 f3
  obtain ⟨s4, e4⟩ : ∃ s4 : Shared, s4 = { s3 with heap := pushCells (s3.heap.push { cls := .type "dict", data := .dict #[] }) scope.names } := ⟨_, rfl⟩
  rw [← e4] at B4 ⊢
  have t4 : tn 0 s4.heap := T.keep _ _ _ t3 fun b _ o e => by rw [e4]; exact pushCells_keeps _ _ _ _ (Heap.get?_push_of_some _ e)
  have hotB : HotC (blkH X s3 H3 scope ce fp) := hot
  have apart : ∀ {σ' : St} {H' : Hp} {s' : Shared}, Inv (blkH X s3 H3 scope ce fp) [] σ' H' s' → (∀ b ∈ fp, H' b = none) → ∀ b ∈ fp, FpOk (blkH X s3 H3 scope ce fp) [] H' b := fun {σ' H' s'} J hn b hb =>
    ⟨hn b hb, (J.ok.exf b hb).1, J.ok.exfs b hb, .inl hb, fun x c e => (J.ok.exf b hb).2 x c e, fun p hp => (f3 b hb).1.2.2.2.2.2 p (List.mem_append_left _ (by
      have hp : p ∈ X.pn ++ [] := hp
      rwa [List.append_nil] at hp))⟩
  have loop : codeAny (model X.prog X.w) X.A (.compLoop (.ListComp elt [⟨tg, iter, ifs, 0⟩] scope pos) 0 (.ref it) (.ref D) ce) (compPost (model X.prog X.w) X.A X.xe none (EP X pins σ Q) (.ref D) s3.heap.objs.size) s4 := by
    refine compLoop_any (fun n s' => ∃ i H', Inv (blkH X s3 H3 scope ce fp) [] (wipe σ (own.map (·.2))) H' s' ∧ tn i s'.heap ∧ (∀ b ∈ fp, H' b = none) ∧ W i n H') ?_ m0 ⟨0, H3, B4, t4, nf3, w0⟩
    rintro n s5 ⟨i, H5, I5, t5, n5, w5⟩
    rcases turn i n H5 w5 with ⟨stop, done⟩ | ⟨go, Nx, nxt, step⟩
    · refine thnF (T.done (blkH X s3 H3 scope ce fp) rfl rfl rfl hotB i [] s5 _ H5 (fun _ _ => False) I5 (apart I5 n5) t5 stop) ?_
      rintro _ s6 ⟨rfl, I6⟩
      have I7 : Inv X pins σ H5 s6 := I3.call' (ch := fp) I6.os I6.base I6.hok I6.bare fun b hb => let z := (f3 b hb).1.2; ⟨z.2.2.1, z.1, z.2.2.2.1, z.2.2.2.2⟩
      have nL : H5 s3.heap.objs.size = none := eL ▸ (show H5 ce.locals = none from I6.free)
      obtain ⟨m, hn, _⟩ := I6.loc
      have hn : s6.heap.Ns s3.heap.objs.size m := eL ▸ (show s6.heap.Ns ce.locals m from hn)
      obtain ⟨f0, f1, f2', f3', f4, f5⟩ := I3.fpOk (H' := H5) (Nat.le_refl _) nL
      exact ⟨m, hn, fun h2 sb => ⟨.ref D, H5, I7.turned (t' := s6.toks) (fun b o hb e => (sb.2 b hb).trans e) f0 f1 f3' f4 f5, rfl, done⟩⟩
    · refine thnF (T.item (blkH X s3 H3 scope ce fp) rfl rfl rfl hotB i [] s5 _ H5 (fun _ _ => False) I5 (apart I5 n5) t5 go) ?_
      rintro _ s6 ⟨u, rfl, h6⟩
      refine thnF h6 ?_
      rintro _ s7 ⟨x, H7, I7, r7, y7, t7, n7⟩
      refine thnF (pg.run _ s7 _ H7 x u _ (I7.pinned (apart I7 n7) (T.obj _ _ t7)) r7 (step x H7 y7)) ?_
      rintro _ s8 ⟨σ8, H8, I8, w8, q8⟩
      refine thnF (pt.run _ s8 σ8 H8 _ I8 q8) ?_
      rintro b s9 ⟨H9, I9, q9⟩
      have again : ∀ {s' : Shared} {H' : Hp}, Inv (blkH X s3 H3 scope ce fp) ([] ++ pinsAt fp s7.heap) σ8 H' s' → Nx H' → ∃ m, m < n ∧ ∃ i H', Inv (blkH X s3 H3 scope ce fp) [] (wipe σ (own.map (·.2))) H' s' ∧ tn i s'.heap ∧ (∀ b ∈ fp, H' b = none) ∧ W i m H' := fun {s' H'} J nx => by
        obtain ⟨m', lt, w'⟩ := nxt H' nx
        have stays : ∀ b ∈ fp, ∀ o, s7.heap.get? b = some o → s'.heap.get? b = some o ∧ H' b = none := fun b hb o e =>
          let z := J.pin (b, o) (List.mem_append_right _ (List.mem_append_right _ (mem_pinsAt hb e)))
          ⟨z.1, z.2.1⟩
        refine ⟨m', lt, i + 1, H', (J.unpinned (pins := [])).weak (by rw [← w8, wipe_length]) (fun j v e => (wipe_some (by rw [w8]; exact e)).1), T.keep _ _ _ t7 fun b hb o e => (stays b hb o e).1, fun b hb => ?_, w'⟩
        obtain ⟨o, e, _⟩ := T.obj _ _ t7 b hb
        exact (stays b hb o e).2
      cases b with
      | false => exact again I9 q9
      | true =>
        refine thnF (pe.run _ s9 σ8 H9 _ I9 q9) ?_
        rintro z s10 ⟨yv, H10, I10, r10, acc, a1, a2, nx⟩
        exact app_ok (X := blkH X s3 H3 scope ce fp) I10 a1 a2 r10 fun s11 I11 => again I11 nx
  exact codeAny_compStart_list loop (T.self X.A 0 _ _ _ t4 loop)
end HZ

set_option maxRecDepth 100000
set_option maxHeartbeats 4000000
namespace DZ
open PySem PySem.Spec L2
open PyProof.Rows hiding St
open L2H (HotC Hot1 FnH RoomH roomH_of PIH PIEH TurnH PinOk turn_rangeH range_itH ps_forH)
open HZ (blkH pe_lcH turnH_tuple turnH_list turnH_str)

/-! ### the same rules where nothing is handled, and where something is -/
def Cm (X : Cx) : Prop := X.calm = true ∨ (X.calm = false ∧ HotC X)
theorem PIH.imp {X : Cx} {tg e : Expr} {t t' : TI} (h : PIH X tg e t) (i : ∀ σ H Q, t' σ H Q → t σ H Q) : PIH X tg e t' := ⟨fun pins s σ H Q I q => h.run pins s σ H Q I (i σ H Q q)⟩
structure FIB (X : Cx) (W : WX) (tg iter : Expr) (m : M (List PyData)) : Prop where
  cold : FI X W tg iter m
  hot : PIH X tg iter (Tit X.mg W m)
section
variable {X : Cx} {W : WX} {tg e : Expr} {m : M RV} {pos p : Pos}
theorem one_H {pins : List (Addr × Obj)} {σ : St} {H : Hp} {s : Shared} {R : It → Hp → Prop} {J : It} {tn : Nat → Heap → Prop} {tk : Nat} (I : Inv X pins σ H s) (o : Obj)
    (T : TurnH X.prog X.w X.K tg J [s.heap.objs.size] s.heap.objs.size tn) (st : tn 0 (s.heap.push o)) (q : R J H) : PIEH X pins σ tg R (.ref s.heap.objs.size) { s with heap := s.heap.push o, toks := tk } :=
  ⟨s.heap.objs.size, [s.heap.objs.size], tn, J, H, rfl, I.kept fun b ob e => Heap.get?_push_of_some _ e, T, st, fun b hb => by
    cases List.mem_singleton.mp hb
    exact I.fpOk (Nat.le_refl _) (I.hok.fresh (Nat.le_refl _)), q⟩
theorem pih_seq {te : TE} (he : PE X e te) : PIH X tg e (tiSeq X.K te) := by
  refine ⟨fun pins s σ H R I h => thn (he.run pins s σ H _ I h) ?_⟩
  rintro v s1 ⟨x, H1, J, r1, q⟩
  rcases q with ⟨a, rfl, ⟨xs, hq⟩, q⟩ | ⟨a, rfl, ⟨xs, hq⟩, q⟩ | ⟨z, rfl, q⟩
  · cases r1
    obtain ⟨its, rv, lp, _⟩ := J.list hq
    exact wpAny_pyIter_list lp.isList (one_H (tk := s1.toks) J _ (turnH_list a _) ⟨_, Heap.get?_push_size _ rfl, rfl, rfl⟩ q)
  · cases r1
    obtain ⟨its, rv, lp, _⟩ := J.tuple hq
    exact wpAny_pyIter_tuple (items := its.toArray) lp (one_H (tk := s1.toks) J _ (turnH_tuple a _) ⟨_, Heap.get?_push_size _ rfl, rfl, rfl⟩ q)
  · obtain ⟨t, rfl⟩ := r1
    cases ha : z.cps.all (· < 128)
    · exact wpAny_pyIter_wide ha (one_H (tk := s1.toks) J _ (turnH_str _ z t "str_iterator" (.inr rfl)) ⟨_, Heap.get?_push_size _ rfl, rfl, rfl⟩ q)
    · exact wpAny_pyIter_ascii ha (one_H (tk := s1.toks) J _ (turnH_str _ z t "str_ascii_iterator" (.inl rfl)) ⟨_, Heap.get?_push_size _ rfl, rfl, rfl⟩ q)
theorem fib_seq (h : FE X W e m) : FIB X W tg e (mSeqI m) := ⟨fi_seq h, PIH.imp (pih_seq h) seq_imp⟩
theorem pih_range2 {a b : Expr} {ta : TA} (hg : Gl X "range") (hm : X.mg "range" = none) (ha : PA X [a, b] ta) (hs : starEach [a, b] X.env = [(false, eval a X.env), (false, eval b X.env)] := by rfl) (hs2 : starEach [b] X.env = [(false, eval b X.env)] := by rfl) :
    PIH X tg (.Call (.Name "range" p) [a, b] [] pos) (iRng2 ta) := by
  refine ⟨fun pins s σ H R I h => Call_ (ld_blt I hg hm boot_range (PyProof.Rows.callWith_type1 (thn (ha.run pos pins s σ H _ I h) ?_) (by rw [hs, hs2]) (by rw [hs2]; rfl)))⟩
  rintro us s1 ⟨vs, H1, J, r1, i, j, rfl, ⟨q1, q2, q3, q4⟩, q⟩
  match us, r1 with
  | [_, _], .cons ⟨_, rfl⟩ (.cons ⟨_, rfl⟩ .nil) => exact call_range_2 (range_itH J q1 q2 q3 q4 q)
theorem fib_range2 {a b : Expr} {ms : M (List RV)} (hg : Gl X "range") (hm : X.mg "range" = none) (ha : FA X W [a, b] 2 ms) (hs : starEach [a, b] X.env = [(false, eval a X.env), (false, eval b X.env)] := by rfl) (hs2 : starEach [b] X.env = [(false, eval b X.env)] := by rfl) :
    FIB X W tg (.Call (.Name "range" p) [a, b] [] pos) (mRng ms) := ⟨fi_range2 hg hm ha hs hs2, PIH.imp (pih_range2 hg hm ha.pa hs hs2) (rng2_imp ha.len)⟩
end
section
variable {X : Cx} {W : WX} {P : List Nat} {pos : Pos} {tg iter : Expr} {body : List Stmt} {t : Tgt} {mi : M (List PyData)} {mb : Env → Fl}
theorem fs_forB (cm : Cm X) (hp : PassesOwn (model X.prog X.w) X.A X.env X.xe) (hi : FIB X W tg iter mi) (hg : FG X P tg t) (hb : FSs X W P body mb) (hs : ∀ x, foldedSetIterable iter X.env x = pure x := by intro _; rfl) :
    FS X W P (.For tg iter body [] pos) (mFor mi t mb) := by
  rcases cm with c | ⟨_, c⟩
  · exact fs_for hp c hi.cold hg hb hs
  · exact PS.imp (ps_forH hp c hi.hot hg hb hs) for_imp
end

/-! ### comprehensions -/
abbrev bk (X : Cx) (s : Shared) (H : Hp) (scope : Scope) (cenv : PySem.Env) (fp : List Addr) : Cx := { X.blk s H scope cenv fp with pn := cond X.calm [] X.pn }
section
variable {X : Cx} {W : WX} {elt tg iter : Expr} {ifs : List Expr} {scope : Scope} {own : List (Str × Nat)} {pos : Pos} {mi : M (List PyData)} {t : Tgt} {tt : M Bool} {te : M RV} {N : Nat}
theorem bk_cold {s : Shared} {H : Hp} {cenv : PySem.Env} {fp : List Addr} (c : X.calm = true) : bk X s H scope cenv fp = X.blk s H scope cenv fp := by
  unfold bk
  rw [c]
  rfl
theorem bk_hot {s : Shared} {H : Hp} {cenv : PySem.Env} {fp : List Addr} (c : X.calm = false) : bk X s H scope cenv fp = blkH X s H scope cenv fp := by
  unfold bk
  rw [c]
  rfl
theorem Cm.bk {s : Shared} {H : Hp} {cenv : PySem.Env} {fp : List Addr} (cm : Cm X) : Cm (DZ.bk X s H scope cenv fp) := by
  rcases cm with c | ⟨c, h⟩
  · exact .inl c
  · refine .inr ⟨c, ?_⟩
    rw [bk_hot c]
    exact h
theorem fe_lcB (cm : Cm X) (hN : X.N.Nodup) (hl : X.N.length = N) (hi : FIB X W tg iter mi) (ok : BlkOk X.N X.env.scope scope own)
    (hg : ∀ (s : Shared) (H : Hp) (C : Addr) (cl : List (Str × Addr)) (fp : List Addr), FG (bk X s H scope (compEnvC scope cl C X.env) fp) (outP N (own.map (·.2))) tg t) (ht : ∀ (s : Shared) (H : Hp) (C : Addr) (cl : List (Str × Addr)) (fp : List Addr), FPs (bk X s H scope (compEnvC scope cl C X.env) fp) WF ifs tt)
    (he : ∀ (s : Shared) (H : Hp) (C : Addr) (cl : List (Str × Addr)) (fp : List Addr), FE (bk X s H scope (compEnvC scope cl C X.env) fp) WF elt te) (hs : ∀ x, foldedSetIterable iter X.env x = pure x := by intro _; rfl) :
    FE X W (.ListComp elt [⟨tg, iter, ifs, 0⟩] scope pos) (mLc (own.map (·.2)) mi t tt te) := by
  rcases cm with c | ⟨c, h⟩
  · exact fe_lc c hN hl hi.cold ok (fun s H C cl fp => bk_cold (X := X) c ▸ hg s H C cl fp) (fun s H C cl fp => bk_cold (X := X) c ▸ ht s H C cl fp) (fun s H C cl fp => bk_cold (X := X) c ▸ he s H C cl fp) hs
  · refine PE.impL (pe_lcH h hN hi.hot ok (fun s H C cl fp => bk_hot (X := X) c ▸ hg s H C cl fp) (fun s H C cl fp => bk_hot (X := X) c ▸ ht s H C cl fp) (fun s H C cl fp => bk_hot (X := X) c ▸ he s H C cl fp) hs) fun σ H Q hσ z => tm_lc (N := N) (fun _ _ _ _ z => z) σ H Q (by rw [hσ, hl]) z
end

/-! ### calls of defs that let nothing out -/
def mCallP (C : List SV → Fo) (ms : M (List RV)) : M RV := fun Γ => (ms Γ).bind fun rs Γ1 => (givs rs Γ1).bind fun ds Γ2 => match C ds with
  | .ret r _ => .ok (rvOf r) Γ2
  | _ => .no
section
variable {X : Cx} {W : WX} {n : Nat} {ms : M (List RV)} {C : List SV → Fo}
theorem ta_callP (hl : ∀ Γ rvs Γ', ms Γ = .ok rvs Γ' → rvs.length = n) : ∀ σ H Q, Tm X.mg X.K W (mCallP C ms) σ H Q → tCallS (spF X.mg false n C) (fun _ _ _ _ => False) (Ta X.mg X.K W ms) σ H Q := by
  intro σ H Q ⟨I, Γ, r, q⟩
  refine ⟨I, Γ, r, ?_⟩
  have q := q.bind0
  cases eq : ms Γ with
  | no => rw [eq] at q; exact q
  | ex e Γ1 => rw [eq] at q; exact q
  | ok rs Γ1 =>
    rw [eq] at q
    intro I1 H1 e1 vs oks
    obtain ⟨_, q⟩ := q I1 H1 e1
    cases p : givs rs Γ1 with
    | no => rw [p] at q; exact q.elim
    | ex e Γ2 => exact (givs_noex p).elim
    | ok svs Γ2 =>
      rw [p] at q
      obtain ⟨I2, e2, rps, ows, s2⟩ := e1.givs r (Paired.mapP oks fun _ _ z => z.g) p
      have hsl : svs.length = n := by rw [← Paired.length rps, Paired.length oks]; exact hl _ _ _ eq
      refine ⟨I2, svs, hsl, ⟨e2.rep.same, rps, fun i sv h => by rw [ows i sv h]; rfl⟩, ?_⟩
      have no : ∀ a, ¬ ioA false vs a := fun a h => by cases h.1
      have z : Rs X.mg W σ I H Γ (match C svs with | .ret r _ => .ok (rvOf r) Γ2 | _ => .no) _ := q
      cases y : C svs with
      | no => rw [y] at z; exact z.elim
      | ex x out => rw [y] at z; exact z.elim
      | ret r' out =>
        rw [y] at z
        intro v I' H' st sm ok fr _
        exact z I' H' (e2.trans (Ep.step e2.rep (st.mono fun a h => no a h) sm)) v (rv_ret ok fr e2.stp.dom)
end
/-- Y is as X but for its names and what it started with -/
structure Sib (X Y : Cx) : Prop where
  prog : Y.prog = X.prog
  w : Y.w = X.w
  K : Y.K = X.K
  mg : Y.mg = X.mg
  base : Y.base = X.base
  A : Y.A = X.A
  pn : X.calm = false → ∀ p ∈ X.pn, p ∈ Y.pn
theorem Sib.refl {X : Cx} : Sib X X := ⟨rfl, rfl, rfl, rfl, rfl, rfl, fun _ _ h => h⟩
theorem Sib.bk {X : Cx} {s : Shared} {H : Hp} {scope : Scope} {cenv : PySem.Env} {fp : List Addr} : Sib X (DZ.bk X s H scope cenv fp) := ⟨rfl, rfl, rfl, rfl, rfl, rfl, fun c p hp => by
  show p ∈ cond X.calm [] X.pn
  rw [c]
  exact hp⟩
/-- a def that may be called here: its name, how many arguments, what it does -/
def Cal (X : Cx) (x : Str) (n : Nat) (C : List SV → Fo) : Prop :=
  ∀ (Y : Cx), Sib X Y → Gl Y x → ∀ (W : WX) (p pos : Pos) (e : Expr) (es : List Expr) (ms : M (List RV)), FA Y W (e :: es) n ms → (x == ("__debug__" : Str)) = false → starEach (e :: es) Y.env = (false, eval e Y.env) :: starEach es Y.env → (backTo pos (starEach es Y.env)).any (·.1) = false →
    FE Y W (.Call (.Name x p) (e :: es) [] pos) (mCallP C ms)
theorem pass_no {Y : Cx} {E : XK} (h : ∀ c d H, ¬ E c d H) : PassesAt (L2.CX Y.prog Y.w) Y σ E := by
  rintro pins H s e s' _ ⟨_, _, _, _, _, _, _, _, _, _, _, _, no⟩
  exact (h _ _ _ no).elim
theorem pass_noN {Y : Cx} {E : XK} (h : ∀ c d H, ¬ E c d H) : PassesAt (L2N.CX Y.prog Y.w) Y σ E := by
  rintro pins H s e s' _ ⟨_, _, _, _, _, _, _, _, _, _, _, _, no⟩
  exact (h _ _ _ no).elim
section
variable {X : Cx} {x : Str} {n k : Nat} {C : List SV → Fo} {f : Addr} {fd : FuncData} {ps : List Str}
theorem Cal.of (F : FnOk X.prog X.w X.K X.mg X.base (L2.CX X.prog X.w) k f fd ps (spF X.mg false n C)) (hr : Room k X.A) (hm : X.mg x = some (.ref f)) (hk : PySem.W.keepIn X.K (.ref f) = true) (hb : L2.Binds X.K fd ps []) : Cal X x n C := by
  rintro Y ⟨e1, e2, e3, e4, e5, e6, e7⟩ hg W p pos e es ms ha hd he hpl
  rw [← e1, ← e2, ← e3, ← e4, ← e5] at F
  rw [← e6] at hr
  rw [← e4] at hm
  rw [← e3] at hk hb
  exact PE.imp (pe_callS F hr hg hm hk hb (fun σ => pass_no fun _ _ _ z => z) ha.pa hd he hpl) (ta_callP ha.len)
theorem Cal.ofN (F : FnOk X.prog X.w X.K X.mg X.base (L2N.CX X.prog X.w) k f fd ps (spF X.mg false n C)) (hr : Room k X.A) (hm : X.mg x = some (.ref f)) (hk : PySem.W.keepIn X.K (.ref f) = true) (hb : L2.Binds X.K fd ps []) : Cal X x n C := by
  rintro Y ⟨e1, e2, e3, e4, e5, e6, e7⟩ hg W p pos e es ms ha hd he hpl
  rw [← e1, ← e2, ← e3, ← e4, ← e5] at F
  rw [← e6] at hr
  rw [← e4] at hm
  rw [← e3] at hk hb
  exact PE.imp (pe_callS F hr hg hm hk hb (fun σ => pass_noN fun _ _ _ z => z) ha.pa hd he hpl) (ta_callP ha.len)
theorem Cal.ofG (F : FnG X.prog X.w X.K X.mg X.base k f fd ps (spF X.mg false n C)) (gd : X.A.guards = some []) (hr : Room k X.A) (hm : X.mg x = some (.ref f)) (hk : PySem.W.keepIn X.K (.ref f) = true) (hb : L2.Binds X.K fd ps []) : Cal X x n C := by
  rintro Y ⟨e1, e2, e3, e4, e5, e6, e7⟩ hg W p pos e es ms ha hd he hpl
  rw [← e1, ← e2, ← e3, ← e4, ← e5] at F
  rw [← e6] at hr gd
  rw [← e4] at hm
  rw [← e3] at hk hb
  exact PE.imp (pe_callG' F gd hr hg hm hk hb (fun σ => pass_no fun _ _ _ z => z) ha.pa hd he hpl) (ta_callP ha.len)
theorem Cal.ofH (F : FnH X.prog X.w X.K X.mg X.base (L2.CX X.prog X.w) k f fd ps (spF X.mg false n C)) (hr : RoomH k X.A) (c0 : X.calm = false) (hc : HotC X) (hm : X.mg x = some (.ref f)) (hk : PySem.W.keepIn X.K (.ref f) = true) (hb : L2.Binds X.K fd ps []) : Cal X x n C := by
  rintro Y ⟨e1, e2, e3, e4, e5, e6, e7⟩ hg W p pos e es ms ha hd he hpl
  rw [← e1, ← e2, ← e3, ← e4, ← e5] at F
  rw [← e6] at hr
  rw [← e4] at hm
  rw [← e3] at hk hb
  have hc2 : HotC Y := by
    obtain ⟨p, h1, h2⟩ := hc
    exact ⟨p, e6 ▸ h1, e7 c0 p h2⟩
  exact PE.imp (L2H.pe_callH F hr hc2 hg hm hk hb (fun σ => pass_no fun _ _ _ z => z) ha.pa hd he hpl) (ta_callP ha.len)
end
section
variable {X : Cx} {W : WX} {x : Str} {n : Nat} {C : List SV → Fo} {p pos : Pos} {e : Expr} {es : List Expr} {ms : M (List RV)}
theorem fe_cal (c : Cal X x n C) (hg : Gl X x) (ha : FA X W (e :: es) n ms) (hd : (x == ("__debug__" : Str)) = false := by decide) (he : starEach (e :: es) X.env = (false, eval e X.env) :: starEach es X.env := by rfl) (hpl : (backTo pos (starEach es X.env)).any (·.1) = false := by rfl) :
    FE X W (.Call (.Name x p) (e :: es) [] pos) (mCallP C ms) := c X Sib.refl hg W p pos e es ms ha hd he hpl
theorem Cal.bk {s : Shared} {H : Hp} {scope : Scope} {cenv : PySem.Env} {fp : List Addr} (c : Cal X x n C) : Cal (DZ.bk X s H scope cenv fp) x n C := fun Y h => c Y ⟨h.prog, h.w, h.K, h.mg, h.base, h.A, fun z q hq => h.pn z q (by
  show q ∈ cond X.calm [] X.pn
  rw [z]
  exact hq)⟩
end

/-! ### a def where an exception is handled -/
section
variable {P : Program} {w : World} {K : PySem.W.Frag} {mg : Str → Option Value} {base : Heap} {CX : CXT}
theorem fn_okH {x qual : Str} {st : Stmt} {f : Addr} {fd : FuncData} {N ps : List Str} {k n : Nat} {body : Env → Fl} (F : Fun K x qual st f fd) (S : FnScope N ps (defScope st)) (hn : ps.length = n) (hN : n ≤ N.length)
    (hbody : ∀ (X : Cx) (W : WX), X.prog = P → X.w = w → X.K = K → X.mg = mg → X.base = base → X.N = N → X.env.scope = defScope st → X.calm = false → HotC X → RoomH k X.A → PassesOwn (model X.prog X.w) X.A X.env X.xe →
      (∀ y, X.fn y = true) → FSs X W [] (defBody st) body) :
    FnH P w K mg base CX (k + 1) f fd ps (spF mg false n (fnOf false N.length body)) := by
  obtain ⟨oc, od, kV, doc, pm, an, cdv, ct, osl, rfl, lk, hcd⟩ := F.ex
  refine L2H.fn_ofH lk hcd S (fun vs H Q E h => ?_) (fun A outer s H vs Q E p hot hr h => ?_)
  · obtain ⟨I, svs, hl, a, _⟩ := h
    rw [Paired.length a.ok, hl, hn]
  · obtain ⟨I, svs, hl, a, h⟩ := h
    have hb := hbody (L2H.cxH CX P w K mg base N qual (defScope st) f cdv A outer s H E p) (fun cls d _ H => E cls d H) rfl rfl rfl rfl rfl rfl rfl rfl ⟨p, hot, List.mem_singleton.mpr rfl⟩ hr (passes_of rfl) (fun _ => rfl)
    exact fn_core (io := false) hb a hl hN h
end
end DZ

set_option maxRecDepth 100000
set_option maxHeartbeats 4000000
namespace DZ
open PySem PySem.Spec L2
open PyProof.Rows hiding St
open L2H (HotC Hot1 FnH RoomH roomH_of)

/-! ### defs whose exceptions' context is None -/
section
variable {P : Program} {w : World} {K : PySem.W.Frag} {mg : Str → Option Value} {base : Heap} {CX : CXT}
theorem def_runC {x qual : Str} {st : Stmt} {f : Addr} {fd : FuncData} {N ps : List Str} {k : Nat} {A : Around} {fr : List PySem.Env} {s : Shared} {H : Hp} {args : Args} {us : List Value} {vs : List V} {Q : VK} {E : XK}
    (F : Fun K x qual st f fd) (S : FnScope N ps (defScope st)) (room : Room (k + 1) A) (e0 : Env0 P w K mg base A fr s H) (bd : BindsTo s fd args (ps.zip us)) (rv : Vals vs us) (hl : vs.length = ps.length)
    (body : ∀ cdv : Value, Room k (A.deeper (envOfC qual (defScope st) s.heap.objs.size f cdv)) →
      ∃ t, PSs (cxOf CX P w K mg base N qual (defScope st) f cdv A fr s H E) (defBody st) t ∧ t { nx := fun _ H' => Q .non H', rt := Q } (start N vs) H) :
    codeAny (model P w) A (.call (.ref f) args) (CR CX fr P w H s Q E) s := by
  obtain ⟨oc, od, kV, doc, pm, an, cdv, ct, osl, rfl, lk, hcd⟩ := F.ex
  have old : ∀ b o, base.get? b = some o → s.heap.get? b = some o := fun b o z => (e0.bs b o z).1
  have inK : K.In s.heap := e0.mod.kin.keeps old
  have named : ∀ y ∈ ps.zip us, (defScope st).names.lookup y.1 = some .local ∨ ((defScope st).names.lookup y.1 = some .cell ∧ ((cellsFrom (s.heap.objs.size + 1) (defScope st).names []).lookup y.1).isSome = true) := by
    rintro ⟨a, b⟩ m
    exact (S.par a (List.of_mem_zip m).1).imp id fun z => ⟨z, PySem.W.cellsFrom_some _ _ _ (.inl z)⟩
  refine codeAny_call_function room.depth (inK _ _ lk) rfl S.co S.gen rfl (PySem.W.codeRec_of inK hcd) (bd _ _ _ _ ?_)
  refine wpAny_newFunctionEnv_cells S.kind named fun env ee s1 ic => ?_
  subst ee
  refine ⟨e0.mod.nolimit.keeps fun b o z => ic.toInCall.keep b o (old b o z), codeAny_func ?_⟩
  obtain ⟨t, pt, ht⟩ := body cdv (room.deeper _)
  have at0 := inv_start (CX := CX) (E := E) S room.hd e0 hl rv ic
  refine wpAny_mono (pt.run [] s1 _ H _ at0 ht) (fun fl s2 h2 => ?_) fun _ _ z => z
  cases fl with
  | next =>
    obtain ⟨_, H2, J, q⟩ := h2
    exact ⟨.non, H2, J.os, J.bare, J.base, J.hok, rfl, q⟩
  | ret u =>
    obtain ⟨v, _, H2, J, r2, q⟩ := h2
    exact ⟨v, H2, J.os, J.bare, J.base, J.hok, r2, q⟩
  | brk => obtain ⟨_, _, _, q⟩ := h2; exact q.elim
  | cont => obtain ⟨_, _, _, q⟩ := h2; exact q.elim
theorem fn_okN {x qual : Str} {st : Stmt} {f : Addr} {fd : FuncData} {N ps : List Str} {k n : Nat} {body : Env → Fl} (F : Fun K x qual st f fd) (S : FnScope N ps (defScope st)) (hn : ps.length = n) (hN : n ≤ N.length)
    (hbody : ∀ (X : Cx) (W : WX), X.prog = P → X.w = w → X.K = K → X.mg = mg → X.base = base → X.N = N → X.env.scope = defScope st → X.calm = true → Room k X.A → L2N.Takes X W → PassesOwn (model X.prog X.w) X.A X.env X.xe →
      X.stack = X.env :: X.outer → X.env.frame = some X.env.locals → (∀ y, X.fn y = true) → FSs X W [] (defBody st) body) :
    FnOk P w K mg base (L2N.CX P w) (k + 1) f fd ps (spF mg false n (fnOf false N.length body)) := by
  have hlen : ∀ (vs : List V) (H : Hp) (Q : VK) (E : XK), spF mg false n (fnOf false N.length body) vs H Q E → vs.length = ps.length := fun vs H Q E h => by
    obtain ⟨I, svs, hl, a, _⟩ := h
    rw [Paired.length a.ok, hl, hn]
  refine ⟨hlen, fun A fr s H args us vs Q E room e0 bd rv h => def_runC F S room e0 bd rv (hlen _ _ _ _ h) fun cdv r2 => ?_⟩
  obtain ⟨I, svs, hl, a, h⟩ := h
  have tk : L2N.Takes (cxOf (L2N.CX P w) P w K mg base N qual (defScope st) f cdv A fr s H E) (fun cls d _ H => E cls d H) := L2N.takes_of rfl rfl rfl rfl
  have hb := hbody (cxOf (L2N.CX P w) P w K mg base N qual (defScope st) f cdv A fr s H E) (fun cls d _ H => E cls d H) rfl rfl rfl rfl rfl rfl rfl rfl r2 tk (passes_of rfl) rfl rfl (fun _ => rfl)
  exact fn_core (io := false) hb a hl hN h
end
section
variable {X : Cx} {W : WX} {pos p : Pos} {e : Expr} {es : List Expr} {n k : Nat} {ms : M (List RV)} {x : Str} {f : Addr} {fd : FuncData} {ps : List Str} {C : List SV → Fo}
/-- a call that may let an exception out -/
theorem fe_callN (F : FnOk X.prog X.w X.K X.mg X.base (L2N.CX X.prog X.w) k f fd ps (spF X.mg false n C)) (hr : Room k X.A) (hg : Gl X x) (hm : X.mg x = some (.ref f)) (hk : PySem.W.keepIn X.K (.ref f) = true) (hb : L2.Binds X.K fd ps []) (tk : L2N.Takes X W)
    (ha : FA X W (e :: es) n ms) (hdb : (x == ("__debug__" : Str)) = false := by decide) (he : starEach (e :: es) X.env = (false, eval e X.env) :: starEach es X.env := by rfl) (hpl : (backTo pos (starEach es X.env)).any (·.1) = false := by rfl) :
    FE X W (.Call (.Name x p) (e :: es) [] pos) (mCall C ms) :=
  PE.imp (pe_callS F hr hg hm hk hb (fun σ => L2N.passAt tk σ) ha.pa hdb he hpl) (ta_call (t := rfl) ha.len)
end

/-! ### raise E(line, column), so -/
section
variable {X : Cx} {W : WX} {P : List Nat} {p pos pos2 : Pos} {C fI : Addr} {k : Nat} {e1 e2 : Expr} {ms : M (List RV)}
theorem pmk_btN {fd : FuncData} {ps : List Str} {sp : Sp} {x : Str} {e : Expr} {es : List Expr} {ta : TA} (T : OexC X.K C) (iC : PySem.W.findIn X.K (.ref C) "__init__" = some (some (.ref fI))) (tI : PySem.W.typeIn X.K (.ref fI) = some (.type "function"))
    (F1 : FnOk X.prog X.w X.K X.mg X.base (L2.CX X.prog X.w) k fI fd ps sp) (hr : Room (k + 1) X.A) (hb : L2.Binds X.K fd ps []) (hg : Gl X x) (hm : X.mg x = some (.ref C)) (ha : PA X (e :: es) ta)
    (hdb : (x == ("__debug__" : Str)) = false) (he : starEach (e :: es) X.env = (false, eval e X.env) :: starEach es X.env) (hpl : (backTo pos (starEach es X.env)).any (·.1) = false) :
    L2N.PMk X (.Call (.Name x p) (e :: es) [] pos) (tMkO C sp [] ta) := by
  intro pins s σ H Q I h
  obtain ⟨nm, q, N, bs, bm, sn, sub, ab, col, dd, k0, k1, k2, k3, k5, hC, hbm⟩ := T.cls
  refine wpAny_Call_Name_kw (ld_glob I hg hm (PySem.W.callWith_K (h₀ := X.base) I.ok.mod.kin T.kC (thn (ha.run pos pins s σ H _ I h) ?_) he hpl) hdb)
  rintro us ⟨hp, g, dr, tk, os⟩ ⟨vs, H1, J, r1, hz, q1⟩
  refine ⟨J.kIn, ?_⟩
  show wpAny _ _ (call (.ref C) us) _ _ _
  have young : hp.objs.size ≤ hp.objs.size + 1 := Nat.le_succ _
  have want := q1 (hp.objs.size + 1) (J.hok.fresh young)
  have old : ∀ b o, hp.get? b = some o → ((hp.push (PySem.W.kdv_tup us)).push (PySem.HandSPX.excO C hp.objs.size)).get? b = some o := fun b o z => Heap.get?_push_of_some _ (Heap.get?_push_of_some _ z)
  have there : ((hp.push (PySem.W.kdv_tup us)).push (PySem.HandSPX.excO C hp.objs.size)).get? (hp.objs.size + 1) = some (PySem.HandSPX.excO C hp.objs.size) := by heap_get
  have J2 : Inv X pins σ (upd H1 (hp.objs.size + 1) (exo (hp.objs.size + 1) C none)) ⟨(hp.push (PySem.W.kdv_tup us)).push (PySem.HandSPX.excO C hp.objs.size), g, dr, tk, os⟩ :=
    J.laid (t' := tk) (a := hp.objs.size + 1) (o := exo (hp.objs.size + 1) C none) old young (exo_ok there)
  have rv : Vals (V.ref (hp.objs.size + 1) :: (vs ++ [])) (Value.ref (hp.objs.size + 1) :: (us ++ [])) := .cons rfl (r1.append .nil)
  have fit : (Value.ref (hp.objs.size + 1) :: us ++ []).length = ps.length := (F1.len _ _ _ _ want) ▸ rv.length.symm
  have small : us.length ≤ sizeLine := by
    rw [← Paired.length r1, sizeLine_eq]
    omega
  refine wpAny_call (PySem.HandSPX.call_own F.excBase_ValueError (fun Y => PySem.HandSPX.refsVE_contains Y bm hbm) (J.kIn _ _ hC) (PySem.W.looks_findIn J.kIn iC) (fun self => PySem.W.bind_fn J.kIn self tI) small
    (codeAny_mono (F1.run _ X.stack _ _ ⟨Value.ref (hp.objs.size + 1) :: us, []⟩ (Value.ref (hp.objs.size + 1) :: (us ++ [])) _ _ (fun _ _ _ => False) (hr.make C us []) (J2.env0.make C us []) (by
      have z := hb ⟨(hp.push (PySem.W.kdv_tup us)).push (PySem.HandSPX.excO C hp.objs.size), g, dr, tk, os⟩ (Value.ref (hp.objs.size + 1) :: us) J2.kIn fit
      rwa [List.cons_append] at z) rv want) fun r s' z => ?_))
  match r, s', z with
  | .error _, _, ⟨_, _, _, _, _, _, _, _, _, _, _, _, no⟩ => exact no.elim
  | .ok (.ret u), ⟨h2, g2, d2, t2, os'⟩, ⟨v, H2, os2, bare2, un2, hok2, rv2, ev, d, fs, ea, ed, hd1, q2⟩ =>
    subst ev
    obtain ⟨t0, G, J3, kG, ge, hoe, na⟩ := mk_end0 (d2 := d2) (t2 := t2) J young old un2 hok2 os2 bare2 ea ed hd1
    exact ⟨rv2, _, _, _, ⟨G, g2, d2, t2, os'⟩, _, .ref C, some d, rfl, J3, kG, ge, hoe, ⟨rfl, rfl, fun vs hv => by cases hv; rfl⟩, rfl, rfl, na, rfl, bare2, raises_own T.exC T.tyC, q2⟩
theorem fs_raise2N (T : DX.BtC X.prog X.K X.mg C fI) (hc : X.calm = true) (tk : L2N.Takes X W) (hr : Room (k + 1) X.A) (ha : FA X W [e1, e2] 2 ms) (gC : X.mg "BadText" = some (.ref C)) (hg : Gl X "BadText")
    (he : starEach [e1, e2] X.env = (false, eval e1 X.env) :: starEach [e2] X.env := by rfl) (hpl : (backTo pos (starEach [e2] X.env)).any (·.1) = false := by rfl) :
    FS X W P (.Raise (some (.Call (.Name "BadText" p) [e1, e2] [] pos)) none pos2) (mRaise2 "BadText" ms) := by
  obtain ⟨fd, F, bs⟩ := bt_fn (w := X.w) (k := k) T
  refine PS.imp (L2N.ps_raise hc tk (pmk_btN (x := "BadText") T.ox T.ini T.tI (F X.base) hr bs hg gC ha.pa (by decide) he hpl)) fun D σ H ⟨I, Γ, r, q⟩ => ?_
  have q := q.out.frzs (K := X.K) r
  refine ⟨I, Γ, r, ?_⟩
  cases eq : ms Γ with
  | no => rw [eq] at q; exact q
  | ex e Γ1 => rw [eq] at q; exact q
  | ok rs Γ1 =>
    rw [eq] at q
    intro I1 H1 e1 vs oks
    obtain ⟨ds, Γ2, I2, el, e2, rps, z⟩ := q I1 H1 e1 vs oks
    have dl : ds.length = 2 := el.trans (ha.len _ _ _ eq)
    match ds, dl, rps, z with
    | [l, m], _, .cons rl (.cons rm .nil), z =>
      rename_i v1 v2
      refine ⟨(by decide : 2 ≤ 1000), fun a na => ⟨a, v1, v2, rfl, upd_same, fun dx nd ne => ⟨rfl, dx, _, upd_same, by rw [upd_ne ne, upd_same], by rw [upd_ne ne] at nd; exact nd, ?_⟩⟩⟩
      have nd1 : H1 dx = none := by rw [upd_ne ne] at nd; exact nd
      have eH : upd (del (upd (upd (upd H1 a (exo a C none)) dx (exd dx [("column", v2), ("line", v1)])) a (exo a C (some dx))) a) dx (.xd [("column", v2), ("line", v1)]) = upd H1 dx (.xd [("column", v2), ("line", v1)]) := by
        funext b
        by_cases h1 : b = dx
        · rw [h1, upd_same, upd_same]
        · rw [upd_ne h1, upd_ne h1]
          by_cases h2 : b = a
          · rw [h2, del_same, na]
          · rw [del_ne h2, upd_ne h2, upd_ne h1, upd_ne h2]
      rw [eH]
      obtain ⟨_, z⟩ := z I2 H1 e2
      have e3 := e2.trans (Ep.newO (o := .xd [("column", v2), ("line", v1)]) e2.rep nd1)
      exact z (.ref C) (some dx) σ I2 _ e3.sq ⟨gC, .inr ⟨dx, _, rfl, upd_same, .cons ⟨rfl, rm⟩ (.cons ⟨rfl, rl⟩ .nil)⟩⟩
end
end DZ

set_option maxRecDepth 100000
set_option maxHeartbeats 4000000
namespace DZ
open PySem PySem.Spec L2
open PyProof.Rows hiding St

/-! ### list(x) of a text, -x -/
section
variable {X : Cx} {W : WX}
def rLstX (K : PySem.W.Frag) : List V → Hp → VK → Prop := fun xs H Q => rLstO K xs H Q ∨ (∃ z : Str, xs = [.str z] ∧ z.cps.size ≤ sizeLine ∧ ∀ q, H q = none → Q (.ref q) (upd H q (.lst (z.cps.toList.map fun c => V.str ⟨#[c]⟩))))
theorem cr_lstX (hc : X.calm = true) : CallR X (.type "list") (rLstX X.K) := by
  refine cr_lstO.or ?_
  intro pins s σ H xs us Q I r h
  obtain ⟨z, rfl, hz, q⟩ := h
  match us, r with
  | [_], .cons ⟨t, rfl⟩ .nil =>
    refine call_list_str (I.ok.hd hc) z t (fun h' tk acc c' hk e hi => ?_) hz
    refine ⟨.ref s.heap.objs.size, upd H s.heap.objs.size (.lst (z.cps.toList.map fun c => V.str ⟨#[c]⟩)), I.laid hk (Nat.le_refl _) ⟨by rw [List.length_map, Array.length_toList]; exact hz, acc.toList, c', ?_, by rw [Array.toArray_toList]; exact e⟩, rfl, q _ (I.hok.fresh (Nat.le_refl _))⟩
    refine vals_of_idx _ _ (by rw [List.length_map, Array.length_toList, Array.length_toList]; exact hi.1) fun j u hj => ?_
    obtain ⟨c, t', hc, rfl⟩ := hi.2 j u (by rw [← Array.getElem?_toList]; exact hj)
    exact ⟨.str ⟨#[c]⟩, by simp [hc], ⟨_, rfl⟩⟩
def fLstX : FN := fun rs ds => match ds with
  | [.str z] => if z.cps.size ≤ sizeLine then some (.ow (.list (signs z))) else none
  | ds => fLstO rs ds
theorem rp_signs {I : Hp} {z : Str} : RpAll I (z.cps.toList.map fun c => V.str ⟨#[c]⟩) (signs z) := by
  unfold signs
  induction z.cps.toList with
  | nil => exact .nil
  | cons c cs ih => exact .cons (.str _) ih
theorem ok_lstX : CallOk X (rLstX X.K) fLstX := by
  intro I H Hb σ Γ vs rs rv ds Q r0 hb oks lks p hf h
  unfold fLstX at hf
  split at hf
  · obtain ⟨hz, rfl⟩ := Out.some_of hf
    obtain ⟨v, rfl, e⟩ := lks1 lks
    cases (show v = .str _ from e)
    exact .inr ⟨_, rfl, hz, fun l nl => resL r0.same hb h nl rp_signs⟩
  · exact .inl (ok_lstO I H Hb σ Γ vs rs rv _ Q r0 hb oks lks p hf h)
def mNeg (m : M RV) : M RV := fun Γ => (m Γ).bind fun r Γ1 => match peek Γ1 r with
  | some (.int i) => .ok (.fz (.int (-i))) Γ1
  | _ => .no
theorem fe_neg {e : Expr} {m : M RV} {pos : Pos} (h : FE X W e m) : FE X W (.UnaryOp .USub e pos) (mNeg m) := by
  refine PE.imp (pe_un un_neg h) fun σ H Q ⟨I, Γ, r, q⟩ => ⟨I, Γ, r, q.bind.imp fun rv Γ1 I1 H1 e1 ⟨_, q⟩ v ok => ?_⟩
  split at q
  · rename_i i p
    exact ⟨i, ok.lk e1.rep p, (q.pure e1.rep).2 _ (.int _)⟩
  · exact q.elim
end

/-! ### a, b = e1, e2 -/
section
variable {mg : Str → Option Value} {K : PySem.W.Frag} {W : WX} {P : List Nat} {σ σ1 : St} {I H I1 H1 : Hp} {Γ Γ1 : Env} {i : Nat} {v : V} {sv : SV}
theorem Sq.put (s : Sq mg P σ I H Γ σ1 I1 H1 Γ1) (hp : i ∉ P) (ok : SVok mg I1 H1 v sv) (f : sv.own = true → ∀ a, v = .ref a → H a = none ∧ ∀ k, isOwn Γ1 k → σ1[k]? ≠ some (some (.ref a))) : Sq mg P σ I H Γ (σ1.set i (some v)) I1 H1 (Γ1.set i (some sv)) where
  stp := s.stp
  rep := s.rep.store ok fun o a ea j hj z => (f o a ea).2 j hj z
  np := fun a ⟨j, hj, ⟨x, h1, o1⟩, z⟩ => by
    rcases get_set h1 with ⟨rfl, e1, _⟩ | ⟨hne, e1⟩
    · cases e1
      rcases get_set z with ⟨_, ev, _⟩ | ⟨c, _⟩
      · exact .inr (f o1 a (Option.some.inj ev)).1
      · exact absurd rfl c
    · rcases get_set z with ⟨c, _, _⟩ | ⟨_, q⟩
      · exact absurd c hne
      · exact s.np a ⟨j, hj, ⟨x, e1, o1⟩, q⟩
  pin := fun j hj => (List.getElem?_set_ne fun z => hp (by rw [z]; exact hj)).trans (s.pin j hj)
  pown := fun j hj ⟨x, h1, o1⟩ => by
    rcases get_set h1 with ⟨rfl, _, _⟩ | ⟨_, e1⟩
    · exact absurd hj hp
    · exact s.pown j hj ⟨x, e1, o1⟩
theorem Sq.fzs (s : Sq mg P σ I H Γ σ1 I1 H1 Γ1) {d : PyData} (hp : i ∉ P) (rp : Rp I1 v d) : Sq mg P σ I H Γ (σ1.set i (some v)) I1 H1 (Γ1.set i (some (.fz d))) := s.put hp rp fun o => by cases o
/-- a slot of which nothing is known -/
theorem Sq.blank (s : Sq mg P σ I H Γ σ1 I1 H1 Γ1) (hp : i ∉ P) (x : Option V) : Sq mg P σ I H Γ (σ1.set i x) I1 H1 (Γ1.set i none) := by
  have key : ∀ {j : Nat} {y : SV}, (Γ1.set i none)[j]? = some (some y) → j ≠ i ∧ Γ1[j]? = some (some y) := fun {j y} h => by
    rcases get_set h with ⟨rfl, e, _⟩ | ⟨hne, e⟩
    · cases e
    · exact ⟨Ne.symm hne, e⟩
  have same : ∀ {j : Nat}, j ≠ i → (σ1.set i x)[j]? = σ1[j]? := fun {j} h => List.getElem?_set_ne (Ne.symm h)
  refine ⟨s.stp, ⟨s.rep.same, fun j y h => ?_, fun j k a hjk ⟨y1, h1, o1⟩ ⟨y2, h2, o2⟩ z1 z2 => ?_, by rw [List.length_set, List.length_set]; exact s.rep.len⟩, fun a ⟨j, hj, ⟨y, h1, o1⟩, z⟩ => ?_, fun j hj => ?_, fun j hj ⟨y, h1, o1⟩ => ?_⟩
  · obtain ⟨n, e⟩ := key h
    obtain ⟨w, e1, ok⟩ := s.rep.slot j y e
    exact ⟨w, by rw [same n]; exact e1, ok⟩
  · obtain ⟨n1, e1⟩ := key h1
    obtain ⟨n2, e2⟩ := key h2
    rw [same n1] at z1
    rw [same n2] at z2
    exact s.rep.inj j k a hjk ⟨y1, e1, o1⟩ ⟨y2, e2, o2⟩ z1 z2
  · obtain ⟨n, e⟩ := key h1
    rw [same n] at z
    exact s.np a ⟨j, hj, ⟨y, e, o1⟩, z⟩
  · rw [same fun z => hp (by rw [← z]; exact hj)]
    exact s.pin j hj
  · exact s.pown j hj ⟨y, (key h1).2, o1⟩
end
def mPar2 (i j : Nat) (ma mb : M RV) : Env → Fl := fun Γ => (ma Γ).fl fun r1 Γ1 => (frz r1 Γ1).fl fun d1 Γ2 => (mb Γ2).fl fun r2 Γ3 => match r2 with
  | .ow d2 => .nx ((Γ3.set i (some (.fz d1))).set j (some (.ow d2)))
  | r2 => (frz r2 Γ3).fl fun d2 Γ4 => .nx ((Γ4.set i (some (.fz d1))).set j (some (.fz d2)))
def mPar3 (i j l : Nat) (ma mb mc : M RV) : Env → Fl := fun Γ => (ma Γ).fl fun r1 Γ1 => (frz r1 Γ1).fl fun d1 Γ2 => (mb Γ2).fl fun r2 Γ3 => (frz r2 Γ3).fl fun d2 Γ4 => (mc Γ4).fl fun r3 Γ5 => (frz r3 Γ5).fl fun d3 Γ6 =>
  .nx (((Γ6.set i (some (.fz d1))).set j (some (.fz d2))).set l (some (.fz d3)))
section
variable {X : Cx} {W : WX} {P : List Nat} {i j l : Nat} {x y z : Str} {a b c : Expr} {ma mb mc : M RV} {n : Nat} {px py pz pt pos : Pos} {kt k2 : Nat} {pt2 : Pos}
theorem frz_fl {mg : Str → Option Value} {r : RV} {Γ : Env} {k : PyData → Env → Fl} {σ : St} {I H : Hp} {Γ0 : Env} {D : Ends} (h : Rf mg W P σ I H Γ0 ((frz r Γ).fl k) D) : ∃ d Γ1, frz r Γ = .ok d Γ1 ∧ Rf mg W P σ I H Γ0 (k d Γ1) D := by
  cases q : frz r Γ with
  | no => rw [q] at h; exact h.elim
  | ex e Γ1 => exact (frz_noex q).elim
  | ok d Γ1 => rw [q] at h; exact ⟨d, Γ1, rfl, h⟩
/-- the first of some values, frozen as it comes -/
theorem step_fz {σ : St} {H : Hp} {Q : VK} {D : Ends} {I : Hp} {Γ : Env} {k : PyData → Env → Fl} (r : Rep X.mg I H σ Γ) (q : Rf X.mg W P σ I H Γ ((ma Γ).fl fun r1 Γ1 => (frz r1 Γ1).fl k) D)
    (h : ∀ v d Γ2 I2 H2, Ep X.mg σ I H Γ I2 H2 Γ2 → Rp I2 v d → Rf X.mg W P σ I2 H2 Γ2 (k d Γ2) D → Q v H2) : Tm X.mg X.K W ma σ H Q := by
  refine ⟨I, Γ, r, q.out.imp fun r1 Γ1 I1 H1 e1 ⟨_, q⟩ v ok => ?_⟩
  obtain ⟨d, Γ2, q1, q⟩ := frz_fl q
  obtain ⟨I2, e2, rp, _, _⟩ := e1.frz r ok.w q1
  exact h v d Γ2 I2 H1 e2 rp (q.re e2.sq)
theorem fs_par2 (hc : X.calm = true) (hN : X.N.Nodup) (hi : X.N[i]? = some x) (hj : X.N[j]? = some y) (hij : i ≠ j) (hx : X.env.scope.names.lookup x = some .local) (hy : X.env.scope.names.lookup y = some .local) (ha : FE X W a ma) (hb : FE X W b mb)
    (hw : swappedStores [.Tuple [.Name x px, .Name y py] kt pt] (.Tuple [a, b] k2 pt2) X.env = pure (some [x, y])) (hs : swapsWithSole [.Tuple [.Name x px, .Name y py] kt pt] (.Tuple [a, b] k2 pt2) pos.line X.env = pure false := by rfl)
    (s1 : starEach [a, b] X.env = (false, eval a X.env) :: starEach [b] X.env := by rfl) (s2 : starEach [b] X.env = (false, eval b X.env) :: starEach [] X.env := by rfl)
    (pi : i ∉ P := by decide) (pj : j ∉ P := by decide) : FS X W P (.Assign [.Tuple [.Name x px, .Name y py] kt pt] (.Tuple [a, b] k2 pt2) pos) (mPar2 i j ma mb) := by
  refine PS.imp (ps_par hc hN hi hj hij hx hy (pa_cons ha (pa_cons hb pa_nil s2) s1) hw hs) fun D σ H ⟨I, Γ, r, q⟩ => ?_
  refine step_fz (k := fun d1 Γ2 => (mb Γ2).fl fun r2 Γ3 => match r2 with
    | .ow d2 => .nx ((Γ3.set i (some (.fz d1))).set j (some (.ow d2)))
    | r2 => (frz r2 Γ3).fl fun d2 Γ4 => .nx ((Γ4.set i (some (.fz d1))).set j (some (.fz d2)))) r q fun v d1 Γ2 I2 H2 e2 rp1 q => ?_
  refine ⟨I2, Γ2, e2.rep, q.out.imp fun r2 Γ3 I3 H3 e3 ⟨_, q⟩ w ok => ?_⟩
  refine ⟨v, w, rfl, ?_⟩
  have rp1 := rp1.mono e3.stp.inc
  have fin : Rf X.mg W P σ I2 H2 Γ2 ((frz r2 Γ3).fl fun d2 Γ4 => .nx ((Γ4.set i (some (.fz d1))).set j (some (.fz d2)))) D → D.nx ((σ.set i (some v)).set j (some w)) H3 := fun q => by
    obtain ⟨d2, Γ4, q2, q⟩ := frz_fl q
    obtain ⟨I4, e4, rp2, s4, _⟩ := e3.frz e2.rep ok.w q2
    exact q _ I4 H3 ((e4.sq.fzs pi (rp1.mono s4)).fzs pj rp2)
  cases r2 with
  | ow d2 =>
    obtain ⟨ad, rfl, o2, nw⟩ := ok
    refine q _ I3 H3 ((e3.sq.fzs pi rp1).put (sv := .ow d2) pj ⟨ad, rfl, o2⟩ fun _ ad' ea => ?_)
    cases ea
    refine ⟨nw, fun k ⟨sv, hk, ho⟩ z => ?_⟩
    rcases get_set hk with ⟨rfl, e, _⟩ | ⟨hne, e⟩
    · cases e; cases ho
    · rw [List.getElem?_set_ne hne] at z
      exact e3.owned e2.rep ad ⟨k, ⟨sv, e, ho⟩, z⟩ nw
  | fz d2 => exact fin q
  | ob c fs => exact fin q
  | br k => exact fin q
  | gl d2 => exact fin q
theorem fs_par3 (hc : X.calm = true) (hN : X.N.Nodup) (hi : X.N[i]? = some x) (hj : X.N[j]? = some y) (hl : X.N[l]? = some z) (hij : i ≠ j) (hil : i ≠ l) (hjl : j ≠ l) (hx : X.env.scope.names.lookup x = some .local) (hy : X.env.scope.names.lookup y = some .local) (hz : X.env.scope.names.lookup z = some .local)
    (ha : FE X W a ma) (hb : FE X W b mb) (hcc : FE X W c mc)
    (hw : swappedStores [.Tuple [.Name x px, .Name y py, .Name z pz] kt pt] (.Tuple [a, b, c] k2 pt2) X.env = pure (some [x, y, z])) (hs : swapsWithSole [.Tuple [.Name x px, .Name y py, .Name z pz] kt pt] (.Tuple [a, b, c] k2 pt2) pos.line X.env = pure false := by rfl)
    (s1 : starEach [a, b, c] X.env = (false, eval a X.env) :: starEach [b, c] X.env := by rfl) (s2 : starEach [b, c] X.env = (false, eval b X.env) :: starEach [c] X.env := by rfl) (s3 : starEach [c] X.env = (false, eval c X.env) :: starEach [] X.env := by rfl)
    (pi : i ∉ P := by decide) (pj : j ∉ P := by decide) (pl : l ∉ P := by decide) : FS X W P (.Assign [.Tuple [.Name x px, .Name y py, .Name z pz] kt pt] (.Tuple [a, b, c] k2 pt2) pos) (mPar3 i j l ma mb mc) := by
  refine PS.imp (ps_par3 hc hN hi hj hl hij hil hjl hx hy hz (pa_cons ha (pa_cons hb (pa_cons hcc pa_nil s3) s2) s1) hw hs) fun D σ H ⟨I, Γ, r, q⟩ => ?_
  refine step_fz (k := fun d1 Γ2 => (mb Γ2).fl fun r2 Γ3 => (frz r2 Γ3).fl fun d2 Γ4 => (mc Γ4).fl fun r3 Γ5 => (frz r3 Γ5).fl fun d3 Γ6 => .nx (((Γ6.set i (some (.fz d1))).set j (some (.fz d2))).set l (some (.fz d3)))) r q fun v d1 Γ2 I2 H2 e2 rp1 q => ?_
  refine step_fz (k := fun d2 Γ4 => (mc Γ4).fl fun r3 Γ5 => (frz r3 Γ5).fl fun d3 Γ6 => .nx (((Γ6.set i (some (.fz d1))).set j (some (.fz d2))).set l (some (.fz d3)))) e2.rep q fun u d2 Γ4 I4 H4 e4 rp2 q => ?_
  refine step_fz (k := fun d3 Γ6 => .nx (((Γ6.set i (some (.fz d1))).set j (some (.fz d2))).set l (some (.fz d3)))) e4.rep q fun w d3 Γ6 I6 H6 e6 rp3 q => ?_
  refine ⟨v, u, w, rfl, ?_⟩
  exact q _ I6 H6 (((Sq.refl e6.rep).fzs pi (rp1.mono (e4.stp.inc.trans e6.stp.inc))).fzs pj (rp2.mono e6.stp.inc) |>.fzs pl rp3)
end

/-! ### try: .. except E as error: if (error.line, error.column) != e: .. -/
def unset (i : Nat) : Fl → Fl
  | .nx Γ => .nx (Γ.set i none)
  | .bk Γ => .bk (Γ.set i none)
  | .ct Γ => .ct (Γ.set i none)
  | .rt rv Γ => .rt rv Γ
  | .ex _ _ => .no
  | .no => .no
def eqOr (d : PyData) (rv : RV) (m : Env → Fl) (Γ : Env) : Fl := match peek Γ rv with
  | some e => if SeqAt.shaped e = true then (if PyData.eqv d e = true then .nx Γ else m Γ) else .no
  | none => .no
def mTryX (i : Nat) (c : Str) (mb : Env → Fl) (mE : M RV) (mS : Env → Fl) : Env → Fl := fun Γ => match mb Γ with
  | .ex e Γ1 => if e.c = c ∧ i < Γ1.length then (match e.fs.lookup ("line" : Str), e.fs.lookup ("column" : Str) with
      | some (.int l), some (.int m) => unset i ((mE (Γ1.set i none)).fl fun rv Γ2 => eqOr (.tuple [.int l, .int m]) rv mS Γ2)
      | _, _ => .no) else .no
  | .nx Γ1 => .nx Γ1
  | .rt rv Γ1 => .rt rv Γ1
  | .bk Γ1 => .bk Γ1
  | .ct Γ1 => .ct Γ1
  | .no => .no
theorem fs_lookup {I : Hp} {f : Str} {d : PyData} : ∀ {fv : List (Str × V)} {fs : List (Str × PyData)}, Fs I fv fs → fs.lookup f = some d → ∃ v, fv.lookup f = some v ∧ Rp I v d
  | _, _, .nil, h => by cases h
  | (a, v) :: fv, (b, e) :: fs, .cons h t, q => by
    obtain ⟨h1, h2⟩ := h
    have h1 : a = b := h1
    subst h1
    rw [List.lookup_cons] at q ⊢
    cases z : f == a with
    | true => rw [z] at q; cases q; exact ⟨v, rfl, h2⟩
    | false => rw [z] at q; exact fs_lookup t q
section
variable {mg : Str → Option Value} {W W' : WX} {P : List Nat} {σ σ1 : St} {I H I1 H1 : Hp} {Γ Γ1 : Env} {D : Ends} {i : Nat}
theorem Rf.enter {o : Fl} (hp : i ∉ P) (s : Sq mg P σ I H Γ σ1 I1 H1 Γ1) (h : Rf mg W P σ I H Γ (unset i o) D) : Rf mg W' P σ1 I1 H1 Γ1 o { nx := fun σ' H' => D.nx (σ'.set i none) H', rt := D.rt, bk := fun σ' H' => D.bk (σ'.set i none) H', ct := fun σ' H' => D.ct (σ'.set i none) H' } := by
  cases o with
  | nx Γ' => exact fun σ' I' H' t => h _ I' H' ((s.trans t).blank hp none)
  | bk Γ' => exact fun σ' I' H' t => h _ I' H' ((s.trans t).blank hp none)
  | ct Γ' => exact fun σ' I' H' t => h _ I' H' ((s.trans t).blank hp none)
  | rt rv Γ' => exact fun v σ' I' H' t r => h v σ' I' H' (s.trans t) (r.re s)
  | ex e Γ' => exact h.elim
  | no => exact h.elim
end
section
variable {X : Cx} {W : WX} {P : List Nat} {i : Nat} {n x : Str} {C : Addr} {E2 : Expr} {body S2 : List Stmt} {mb mS : Env → Fl} {mE : M RV} {np q1 q2 q3 q4 q5 q6 q7 pos' pos : Pos} {kk : Nat}
theorem fs_tryX (T : XfC X.K C) (nl : PySem.W.findIn X.K (.ref C) "line" = some none) (nc : PySem.W.findIn X.K (.ref C) "column" = some none) (hs : X.stack = X.env :: X.outer) (hf : X.env.frame = some X.env.locals) (hN : X.N.Nodup) (hi : X.N[i]? = some n) (hln : X.env.kindOf n = some .local)
    (gC : X.mg x = some (.ref C)) (hc : Gl X x) (hdb : (x == ("__debug__" : Str)) = false) (tk : L2N.Takes X W) (te : PySem.W.exmOne X.K (.ref C) (.ref C) = some true) (hu : X.A.units + 64 < cLine) (hip : i ∉ P)
    (nd : (n == ("__debug__" : Str)) = false) (ncd : (n == ("__classdict__" : Str)) = false)
    (hb : ∀ (W' : WX) (pn : List (Addr × Obj)) (xe : Value → Shared → Prop), L2N.Takes (X.tr pn xe) W' → PassesOwn (model X.prog X.w) X.A X.env xe → FSs (X.tr pn xe) W' P body mb)
    (hE : ∀ (a : Addr) (oe : Obj) (cls : Value) (d : Option Addr) (pn : List (Addr × Obj)), L2N.Zn cls d oe → (∃ vs, oe.data = .fields vs) → FE (X.suite a ((a, oe) :: pn)) (fun _ _ _ _ => False) E2 mE)
    (hS : ∀ (a : Addr) (oe : Obj) (cls : Value) (d : Option Addr) (pn : List (Addr × Obj)), L2N.Zn cls d oe → (∃ vs, oe.data = .fields vs) → FSs (X.suite a ((a, oe) :: pn)) (fun _ _ _ _ => False) P S2 mS)
    (hm : behindInMarks .NotEq E2 = false := by rfl) (e1 : attributeBase (.Name n q1) "line" X.env (eval (.Name n q1) X.env) = eval (.Name n q1) X.env := by rfl) (e2 : attributeBase (.Name n q3) "column" X.env (eval (.Name n q3) X.env) = eval (.Name n q3) X.env := by rfl) :
    FS X W P (.Try body [.ExceptHandler (some (.Name x np)) (some n) [.If (.Compare (.Tuple [.Attribute (.Name n q1) "line" q2, .Attribute (.Name n q3) "column" q4] kk q5) [.NotEq] [E2] q6) S2 [] q7] pos'] [] [] pos) (mTryX i x mb mE mS) := by
  refine PS.imp (L2N.ps_try_as (i := i) hs hf hN hi hln ⟨hc, hdb, .inl gC⟩ tk (tb := fun W' => Ts X.mg W' P mb) hb
    (ts := fun a cls d => tIfS (tTest (tOp (rNeD X.K) (tTup (tCons (tXf a cls d C "line" (tVar i)) (tCons (tXf a cls d C "column" (tVar i)) tNil))) (Tm X.mg X.K (fun _ _ _ _ => False) mE))) (Ts X.mg (fun _ _ _ _ => False) P mS) tNext)
    fun a oe cls d pn hz hv => pss_one (ps_if (pt_cmpR (op_neD hu) (pe_tup (pa_cons (pe_xf T nl hz.zc hv (pe_var hi (.inl hln) nd ncd) e1) (pa_cons (pe_xf T nc hz.zc hv (pe_var hi (.inl hln) nd ncd) e2) pa_nil))) (hE a oe cls d pn hz hv) hm) (hS a oe cls d pn hz hv) pss_nil))
    fun D σ H ⟨I, Γ, r, q⟩ => ⟨I, Γ, r, ?_⟩
  unfold mTryX at q
  cases z : mb Γ with
  | nx Γ1 => rw [z] at q; exact q
  | rt rv Γ1 => rw [z] at q; exact q
  | bk Γ1 => rw [z] at q; exact q
  | ct Γ1 => rw [z] at q; exact q
  | no => rw [z] at q; exact q
  | ex e Γ1 =>
    rw [z] at q
    intro cls d σ' I' H' s xo
    simp only at q
    split at q
    · rename_i ec
      obtain ⟨ec, il⟩ := ec
      split at q
      · rename_i l m l1 l2
        obtain ⟨xo1, xo2⟩ := xo
        rw [ec, gC] at xo1
        cases xo1
        refine ⟨true, te, fun _ a na => ?_, fun c => by cases c⟩
        rcases xo2 with ⟨_, e0⟩ | ⟨dd, fv, rfl, hd, fs⟩
        · rw [e0] at l1; cases l1
        obtain ⟨v1, k1, rp1⟩ := fs_lookup fs l1
        obtain ⟨v2, k2, rp2⟩ := fs_lookup fs l2
        cases rp1
        cases rp2
        have hil : i < σ'.length := by rw [← s.rep.len]; exact il
        have gi : (σ'.set i (some (.ref a)))[i]? = some (some (.ref a)) := List.getElem?_set_self hil
        have S1 := s.blank hip (some (.ref a))
        refine ⟨.ref a, gi, rfl, rfl, dd, fv, _, rfl, hd, k1, .ref a, gi, rfl, rfl, dd, fv, _, rfl, hd, k2, (by rw [sizeLine_eq]; exact (by decide : 2 ≤ 16777216)), fun p npp => ?_⟩
        have e3 := Ep.newF S1.rep (o := .tup [V.int l, V.int m]) npp
        have S2 := S1.trans e3.sq
        have rpt : Rp (upd I' p (.tup [V.int l, V.int m])) (.ref p) (.tuple [.int l, .int m]) := .tup upd_same (.cons (.int l) (.cons (.int m) .nil))
        refine ⟨_, _, e3.rep, ?_⟩
        cases y : mE (Γ1.set i none) with
        | no => rw [y] at q; exact q.elim
        | ex e4 Γ4 => rw [y] at q; exact q.elim
        | ok rv Γ4 =>
          rw [y] at q
          have q : Rf X.mg W P σ I H Γ (unset i (eqOr (.tuple [.int l, .int m]) rv mS Γ4)) D := q
          intro I4 H4 e4 v okv
          unfold eqOr at q
          split at q
          · rename_i ed pk
            split at q
            · rename_i sh
              have lk := okv.lk e4.rep pk
              refine ⟨.tuple [.int l, .int m], ed, Rp.dp e4.rep.same (rpt.mono e4.stp.inc) (by rfl), lk.dp e4.rep.same (SeqAt.canLay_of_shaped sh), by rfl, sh, _, rfl, ?_⟩
              have S4 := S2.trans e4.sq
              split at q
              · rename_i t
                rw [t]
                exact Rf.enter (W' := fun _ _ _ _ => False) hip S4 q _ I4 H4 (Sq.refl e4.rep)
              · rename_i t
                have t : PyData.eqv (.tuple [.int l, .int m]) ed = false := by simpa using t
                rw [t]
                exact ⟨I4, Γ4, e4.rep, Rf.enter hip S4 q⟩
            · exact q.elim
          · exact q.elim
      · exact q.elim
    · exact q.elim
end
end DZ

set_option maxRecDepth 100000
set_option maxHeartbeats 4000000
namespace DZ
open PySem PySem.Spec L2
open PyProof.Rows hiding St

/-! ### x += e, ints -/
def mAug (i : Nat) (m : M RV) : Env → Fl := fun Γ => match Γ[i]? with
  | some (some (.fz (.int a))) => (m Γ).fl fun r Γ1 => (match peek Γ1 r with
    | some (.int b) => .nx (Γ1.set i (some (.fz (.int (a + b)))))
    | _ => .no)
  | _ => .no
section
variable {X : Cx} {W : WX} {P : List Nat} {e : Expr} {m : M RV} {pos pos' : Pos} {i : Nat} {x : Str}
theorem fs_aug (hN : X.N.Nodup) (hi : X.N[i]? = some x) (hx : Loc X.env.scope x) (he : FE X W e m) (hf : X.fn x = true ∨ X.env.scope.names.lookup x = some .local := by first | exact .inl rfl | exact .inr rfl | assumption) (hp : i ∉ P := by decide) : FS X W P (.AugAssign (.Name x pos') .Add e pos) (mAug i m) := by
  refine PS.imp (ps_aug hN hi hx he ip_add hf) fun D σ H ⟨I, Γ, r, q⟩ => ?_
  unfold mAug at q
  split at q
  · rename_i a eG
    obtain ⟨v, ev, rp⟩ := r.slot i _ eG
    cases rp
    refine ⟨_, ev, I, Γ, r, q.out.imp fun rv Γ1 I1 H1 e1 ⟨_, q⟩ v ok => ?_⟩
    split at q
    · rename_i b p
      exact ⟨a, b, rfl, ok.lk e1.rep p, q _ I1 H1 (e1.sq.fzs hp (.int _))⟩
    · exact q.elim
  · exact q.elim
end
theorem takesF {X : Cx} : L2.Takes X (fun _ _ _ _ => False) := by
  rintro u s' ⟨_, _, _, _, _, _, _, _, _, _, _, _, _, _, _, _, no⟩
  exact no.elim
theorem takesFN {X : Cx} : L2N.Takes X (fun _ _ _ _ => False) := by
  rintro u s' ⟨_, _, _, _, _, _, _, _, _, _, _, _, _, _, _, _, no⟩
  exact no.elim

/-! ### a def that lets nothing out, where no repr is under way -/
section
variable {P : Program} {w : World} {K : PySem.W.Frag} {mg : Str → Option Value} {base : Heap}
def spL (mg : Str → Option Value) (io : Bool) (n : Nat) (C : List SV → Fo) : Sp := fun vs H Q _ => spF mg io n C vs H Q fun _ _ _ => False
theorem fn_okL {x qual : Str} {st : Stmt} {f : Addr} {fd : FuncData} {N ps : List Str} {k n : Nat} {io : Bool} {body : Env → Fl} (F : Fun K x qual st f fd) (S : FnScope N ps (defScope st)) (hn : ps.length = n) (hN : n ≤ N.length)
    (hbody : ∀ (X : Cx), X.prog = P → X.w = w → X.K = K → X.mg = mg → X.base = base → X.N = N → X.env.scope = defScope st → X.calm = true → Room k X.A → PassesOwn (model X.prog X.w) X.A X.env X.xe →
      X.stack = X.env :: X.outer → X.env.frame = some X.env.locals → (∀ y, X.fn y = true) → X.A.guards = some [] → FSs X (fun _ _ _ _ => False) (if io = true then [0] else []) (defBody st) body) :
    FnG P w K mg base (k + 1) f fd ps (spL mg io n (fnOf io N.length body)) := by
  have hlen : ∀ (vs : List V) (H : Hp) (Q : VK) (E : XK), spL mg io n (fnOf io N.length body) vs H Q E → vs.length = ps.length := fun vs H Q E h => by
    obtain ⟨I, svs, hl, a, _⟩ := h
    rw [Paired.length a.ok, hl, hn]
  refine ⟨hlen, fun A fr s H args us vs Q E gd room e0 bd rv h => ?_⟩
  refine codeAny_mono (def_run (Q := Q) (E := fun _ _ _ => False) F S room e0 bd rv (hlen _ _ _ E h) fun cdv r2 => ?_) fun r s' z => ?_
  · obtain ⟨I, svs, hl, a, h⟩ := h
    have hb := hbody (cxOf (L2.CX P w) P w K mg base N qual (defScope st) f cdv A fr s H fun _ _ _ => False) rfl rfl rfl rfl rfl rfl rfl rfl r2 (passes_of rfl) rfl rfl (fun _ => rfl) gd
    exact fn_core hb a hl hN h
  · match r, z with
    | .error _, ⟨_, _, _, _, _, _, _, _, _, _, _, _, no⟩ => exact no.elim
    | .ok (.ret u), z => exact z
end
end DZ

set_option maxRecDepth 100000
set_option maxHeartbeats 4000000
namespace KW
open PySem PySem.Spec L2 DZ
open PyProof.Rows hiding St
def top (i : Nat) : Stmt := PySem.Challenge.pw_wordhomes_k75_logs_read.main.body.getD i (.Pass ⟨0, 0, 0, 0⟩)
abbrev fLt : F2 := fOrd (fun i j => decide (i < j)) ltS
abbrev fLe : F2 := fOrd (fun i j => decide (i ≤ j)) fun a b => !ltS b a
abbrev fGt : F2 := fOrd (fun i j => decide (j < i)) fun a b => ltS b a
abbrev fGe : F2 := fOrd (fun i j => decide (j ≤ i)) fun a b => !ltS a b
/-- what stands at the top -/
structure Gm (K : PySem.W.Frag) (mg : Str → Option Value) : Prop where
  g_isinstance : mg "isinstance" = none
  g_int : mg "int" = none
  g_bool : mg "bool" = none
  g_str : mg "str" = none
  g_tuple : mg "tuple" = none
  g_list : mg "list" = none
  g_len : mg "len" = none
  g_all : mg "all" = none
  g_max : mg "max" = none
  g_abs : mg "abs" = none
  g_repr : mg "repr" = none
  g_range : mg "range" = none
  g_enumerate : mg "enumerate" = none
  k_int : KitT K "int"
  k_bool : KitT K "bool"
  k_str : KitT K "str"
  k_tuple : KitT K "tuple"
  SIGNS : ∃ t, mg "SIGNS" = some (.str "abcdefghijklmnopqrstuvwxyz" t)
  SIGN : ∃ t, mg "SIGN" = some (.str "sign" t)
  OVER : ∃ t, mg "OVER" = some (.str "over" t)
  END : ∃ t, mg "END" = some (.str "end" t)
  MOST_LINES : ∃ t, mg "MOST_LINES" = some (.int 2000 t)
  MOST_NUMBER : ∃ t, mg "MOST_NUMBER" = some (.int 400 t)
  PLAIN : ∃ a, mg "PLAIN" = some (.ref a) ∧ SqT K (fun _ => none) a [V.str "cut", V.str "go"]
section
variable {X : Cx} {W : WX} {x : Str} {pos : Pos}
theorem fe_gi {i : Int} (hg : Gl X x) (h : ∃ t, X.mg x = some (.int i t)) (hd : (x == ("__debug__" : Str)) = false := by decide) : FE X W (.Name x pos) (mK (.int i)) := let ⟨_, h⟩ := h; fe_gint hg h hd
theorem fe_gs {i : Str} (hg : Gl X x) (h : ∃ t, X.mg x = some (.str i t)) (hd : (x == ("__debug__" : Str)) = false := by decide) : FE X W (.Name x pos) (mK (.str i)) := let ⟨_, h⟩ := h; fe_gstr hg h hd
theorem fe_gt {y z : Str} (hg : Gl X x) (h : ∃ a, X.mg x = some (.ref a) ∧ SqT X.K (fun _ => none) a [V.str y, V.str z]) (hd : (x == ("__debug__" : Str)) = false := by decide) : FE X W (.Name x pos) (mG (.tuple [.str y, .str z])) :=
  let ⟨_, h1, h2⟩ := h; fe_gtup hg h1 h2 (fun _ => .cons (.str _) (.cons (.str _) .nil)) hd
end
/-- the exception Nothing -/
structure NoC (K : PySem.W.Frag) (mg : Str → Option Value) (C : Addr) : Prop where
  q : PySem.W.excIn K C [.type "ValueError", .type "Exception", .type "BaseException", .type "object"] "ValueError.__new__" = true
  g : mg "Nothing" = some (.ref C)
  k : PySem.W.keepIn K (.ref C) = true
  h1 : PySem.W.subIn K (.ref C) (.type "BaseException") = some true
  h2 : PySem.W.typeIn K (.ref C) = some (.type "type")
  te : PySem.W.exmOne K (.ref C) (.ref C) = some true
/-- try: body / except C: suite, the body lets out C's own alone -/
def mTryN (c : Str) (body suite : DZ.Env → Fl) : DZ.Env → Fl := fun Γ => match body Γ with
  | .ex e Γ1 => if e.c = c then noEx (suite Γ1) else .no
  | .nx Γ1 => .nx Γ1
  | .rt rv Γ1 => .rt rv Γ1
  | .bk Γ1 => .bk Γ1
  | .ct Γ1 => .ct Γ1
  | .no => .no
section
variable {X : Cx} {W : WX} {P : List Nat}
theorem fs_tryN {x : Str} {C : Addr} {body suite : List Stmt} {b₀ : Stmt} {np pos pos' : Pos} {mb ms : DZ.Env → Fl} (hs : X.stack = X.env :: X.outer) (hf : X.env.frame = some X.env.locals) (gC : X.mg x = some (.ref C)) (te : PySem.W.exmOne X.K (.ref C) (.ref C) = some true) (hg : Gl X x) (hdb : (x == ("__debug__" : Str)) = false) (tk : L2.Takes X W)
    (hb : ∀ (W' : WX) (pn : List (Addr × Obj)) (xe : Value → Shared → Prop), L2.Takes (X.tr pn xe) W' → PassesOwn (model X.prog X.w) X.A X.env xe → FSs (X.tr pn xe) W' P body mb)
    (hsu : ∀ (a : Addr) (oe : Obj) (cls : Value) (d : Option Addr) (pn : List (Addr × Obj)), Zc cls d oe → (∃ vs, oe.data = .fields vs) → FSs (X.suite a ((a, oe) :: pn)) (fun _ _ _ _ => False) P (b₀ :: suite) ms) :
    FS X W P (.Try body [.ExceptHandler (some (.Name x np)) none (b₀ :: suite) pos'] [] [] pos) (mTryN x mb ms) := by
  refine PS.imp (ps_try_only hs hf ⟨hg, hdb, .inl gC⟩ tk (tb := fun W' => Ts X.mg W' P mb) hb (ts := fun _ _ _ => Ts X.mg (fun _ _ _ _ => False) P ms) hsu) fun D σ H ⟨I, Γ, r, q⟩ => ⟨I, Γ, r, ?_⟩
  unfold mTryN at q
  cases z : mb Γ with
  | nx Γ1 => rw [z] at q; exact q
  | rt rv Γ1 => rw [z] at q; exact q
  | bk Γ1 => rw [z] at q; exact q
  | ct Γ1 => rw [z] at q; exact q
  | no => rw [z] at q; exact q
  | ex e Γ1 =>
    rw [z] at q
    intro cls d σ' I' H' s xo
    simp only at q
    split at q
    · rename_i ec
      have e1 := xo.1
      rw [ec, gC] at e1
      cases e1
      refine ⟨true, te, fun _ a na => ⟨I', Γ1, s.rep, ?_⟩, fun c => by cases c⟩
      have q := Rf.re s q
      cases y : ms Γ1 with
      | ex e2 Γ2 => rw [y] at q; exact q.elim
      | _ => rw [y] at q; exact q
    · exact q.elim
end
/-- a def that changes its first argument and may be called here -/
def CalIo (X : Cx) (x : Str) (n : Nat) (C : List SV → Fo) : Prop :=
  ∀ (Y : Cx), Sib X Y → Gl Y x → ∀ (W : WX), L2.Takes Y W → ∀ (p pos : Pos) (e : Expr) (es : List Expr) (ms : M (List RV)), FA Y W (e :: es) n ms → (x == ("__debug__" : Str)) = false → starEach (e :: es) Y.env = (false, eval e Y.env) :: starEach es Y.env → (backTo pos (starEach es Y.env)).any (·.1) = false →
    FE Y W (.Call (.Name x p) (e :: es) [] pos) (mCallIo C ms)
theorem CalIo.of {X : Cx} {x : Str} {n k : Nat} {C : List SV → Fo} {f : Addr} {fd : FuncData} {ps : List Str} (F : FnOk X.prog X.w X.K X.mg X.base (L2.CX X.prog X.w) k f fd ps (spF X.mg true n C)) (hr : Room k X.A) (hm : X.mg x = some (.ref f)) (hk : PySem.W.keepIn X.K (.ref f) = true) (hb : L2.Binds X.K fd ps []) : CalIo X x n C := by
  rintro Y ⟨e1, e2, e3, e4, e5, e6, e7⟩ hg W tk p pos e es ms ha hd he hpl
  rw [← e1, ← e2, ← e3, ← e4, ← e5] at F
  rw [← e6] at hr
  rw [← e4] at hm
  rw [← e3] at hk hb
  exact fe_callIo F hr hg hm hk hb tk ha hd he hpl
theorem fe_calIo {X : Cx} {W : WX} {x : Str} {n : Nat} {C : List SV → Fo} {p pos : Pos} {e : Expr} {es : List Expr} {ms : M (List RV)} (c : CalIo X x n C) (tk : L2.Takes X W) (hg : Gl X x) (ha : FA X W (e :: es) n ms) (hd : (x == ("__debug__" : Str)) = false := by decide) (he : starEach (e :: es) X.env = (false, eval e X.env) :: starEach es X.env := by rfl) (hpl : (backTo pos (starEach es X.env)).any (·.1) = false := by rfl) :
    FE X W (.Call (.Name x p) (e :: es) [] pos) (mCallIo C ms) := c X Sib.refl hg W tk p pos e es ms ha hd he hpl
end KW

set_option maxRecDepth 100000
set_option maxHeartbeats 4000000
namespace KW
open PySem PySem.Spec L2 DZ
open PyProof.Rows hiding St
/-! ### is_integer -/
abbrev s_is_integer : Stmt := top 6
def N_is_integer : List Str := ["thing"]
theorem S_is_integer : FnScope N_is_integer ["thing"] (defScope s_is_integer) := ⟨rfl, rfl, rfl, by decide +kernel, rfl, by decide +kernel, by decide +kernel⟩
def b_is_integer : DZ.Env → Fl := (mRet [] (mAndV (mIsi "int" (mVar 0)) (mNotV (mIsi "bool" (mVar 0)))))
def f_is_integer : List SV → Fo := fnOf false 1 b_is_integer
theorem d_is_integer {X : Cx} {W : WX} (hN : X.N = N_is_integer) (hsc : X.env.scope = defScope s_is_integer) (G : Gm X.K X.mg)  : FSs X W [] (defBody s_is_integer) b_is_integer := by
  obtain ⟨prog, w, K, mg, base, A, N, s0, H0, ⟨sc, e2, e3, e4, e5, e6, e7, e8, e9⟩, outer, stack, ex, fn, calm, pn, xe⟩ := X
  dsimp only at *
  subst hN hsc
  exact (fs_one (fs_ret (fe_and (fe_isi G.k_int (by rfl) G.g_isinstance (by rfl) G.g_int (by rfl) (fe_var (by rfl) (.inl (by rfl)))) (fe_one (fe_not (fe_isi G.k_bool (by rfl) G.g_isinstance (by rfl) G.g_bool (by rfl) (fe_var (by rfl) (.inl (by rfl)))))))))
/-! ### is_count -/
abbrev s_is_count : Stmt := top 7
def N_is_count : List Str := ["thing"]
theorem S_is_count : FnScope N_is_count ["thing"] (defScope s_is_count) := ⟨rfl, rfl, rfl, by decide +kernel, rfl, by decide +kernel, by decide +kernel⟩
def b_is_count : DZ.Env → Fl := (mRet [] (mAndV (mCallP f_is_integer (mCons (mVar 0) mNil)) (mOp2 fGe (mVar 0) (mK (.int 0)))))
def f_is_count : List SV → Fo := fnOf false 1 b_is_count
theorem d_is_count {X : Cx} {W : WX} (hN : X.N = N_is_count) (hsc : X.env.scope = defScope s_is_count) (G : Gm X.K X.mg) (c_is_integer : Cal X "is_integer" 1 f_is_integer) : FSs X W [] (defBody s_is_count) b_is_count := by
  obtain ⟨prog, w, K, mg, base, A, N, s0, H0, ⟨sc, e2, e3, e4, e5, e6, e7, e8, e9⟩, outer, stack, ex, fn, calm, pn, xe⟩ := X
  dsimp only at *
  subst hN hsc
  exact (fs_one (fs_ret (fe_and (fe_cal c_is_integer (by rfl) (fa_cons (fe_var (by rfl) (.inl (by rfl))) fa_nil)) (fe_one (fe_cmp op_geX ok_ord (fe_var (by rfl) (.inl (by rfl))) fe_int (by rfl))))))
/-! ### is_sign -/
abbrev s_is_sign : Stmt := top 10
def N_is_sign : List Str := ["thing"]
theorem S_is_sign : FnScope N_is_sign ["thing"] (defScope s_is_sign) := ⟨rfl, rfl, rfl, by decide +kernel, rfl, by decide +kernel, by decide +kernel⟩
def b_is_sign : DZ.Env → Fl := (mRet [] (mAndV (mIsi "str" (mVar 0)) (mAndV (mOp2 fEq (mBlt fLen (mCons (mVar 0) mNil)) (mK (.int 1))) (mOp2 (fIn false) (mVar 0) (mK (.str "abcdefghijklmnopqrstuvwxyz"))))))
def f_is_sign : List SV → Fo := fnOf false 1 b_is_sign
theorem d_is_sign {X : Cx} {W : WX} (hN : X.N = N_is_sign) (hsc : X.env.scope = defScope s_is_sign) (G : Gm X.K X.mg) (hu : X.A.units + 64 < cLine) : FSs X W [] (defBody s_is_sign) b_is_sign := by
  obtain ⟨prog, w, K, mg, base, A, N, s0, H0, ⟨sc, e2, e3, e4, e5, e6, e7, e8, e9⟩, outer, stack, ex, fn, calm, pn, xe⟩ := X
  dsimp only at *
  subst hN hsc
  exact (fs_one (fs_ret (fe_and (fe_isi G.k_str (by rfl) G.g_isinstance (by rfl) G.g_str (by rfl) (fe_var (by rfl) (.inl (by rfl)))) (fe_and (fe_cmp (op_eqD hu) ok_eq (fe_callB cr_lenX ok_len (by rfl) G.g_len (by rfl) (fa_cons (fe_var (by rfl) (.inl (by rfl))) fa_nil)) fe_int (by rfl)) (fe_one (fe_cmp op_inX ok_in (fe_var (by rfl) (.inl (by rfl))) (fe_gs (by rfl) G.SIGNS) (by rfl)))))))
/-! ### is_small -/
abbrev s_is_small : Stmt := top 18
def N_is_small : List Str := ["thing"]
theorem S_is_small : FnScope N_is_small ["thing"] (defScope s_is_small) := ⟨rfl, rfl, rfl, by decide +kernel, rfl, by decide +kernel, by decide +kernel⟩
def b_is_small : DZ.Env → Fl := (mRet [] (mAndV (mCallP f_is_count (mCons (mVar 0) mNil)) (mOp2 fLt (mVar 0) (mK (.int 400)))))
def f_is_small : List SV → Fo := fnOf false 1 b_is_small
theorem d_is_small {X : Cx} {W : WX} (hN : X.N = N_is_small) (hsc : X.env.scope = defScope s_is_small) (G : Gm X.K X.mg) (c_is_count : Cal X "is_count" 1 f_is_count) : FSs X W [] (defBody s_is_small) b_is_small := by
  obtain ⟨prog, w, K, mg, base, A, N, s0, H0, ⟨sc, e2, e3, e4, e5, e6, e7, e8, e9⟩, outer, stack, ex, fn, calm, pn, xe⟩ := X
  dsimp only at *
  subst hN hsc
  exact (fs_one (fs_ret (fe_and (fe_cal c_is_count (by rfl) (fa_cons (fe_var (by rfl) (.inl (by rfl))) fa_nil)) (fe_one (fe_cmp op_ltX ok_ord (fe_var (by rfl) (.inl (by rfl))) (fe_gi (by rfl) G.MOST_NUMBER) (by rfl))))))
/-! ### is_logged -/
abbrev s_is_logged : Stmt := top 19
def N_is_logged : List Str := ["thing"]
theorem S_is_logged : FnScope N_is_logged ["thing"] (defScope s_is_logged) := ⟨rfl, rfl, rfl, by decide +kernel, rfl, by decide +kernel, by decide +kernel⟩
def b_is_logged : DZ.Env → Fl := (mSeq (mIf (mOr (mNot (mTruth (mIsi "tuple" (mVar 0)))) (mOr (mTest (mOp2 fEq (mVar 0) (mTup mNil))) (mNot (mTruth (mIsi "str" (mOp2 fIx (mVar 0) (mK (.int 0)))))))) (mRet [] (mK (.bool false))) mSkip) (mSeq (mIf (mTest (mOp2 (fIn false) (mOp2 fIx (mVar 0) (mK (.int 0))) (mG (.tuple [.str "cut", .str "go"])))) (mRet [] (mOp2 fEq (mBlt fLen (mCons (mVar 0) mNil)) (mK (.int 1)))) mSkip) (mSeq (mIf (mTest (mOp2 fEq (mOp2 fIx (mVar 0) (mK (.int 0))) (mK (.str "over")))) (mRet [] (mAndV (mOp2 fEq (mBlt fLen (mCons (mVar 0) mNil)) (mK (.int 2))) (mCallP f_is_small (mCons (mOp2 fIx (mVar 0) (mK (.int 1))) mNil)))) mSkip) (mRet [] (mAndV (mOp2 fEq (mOp2 fIx (mVar 0) (mK (.int 0))) (mK (.str "sign"))) (mAndV (mOp2 fEq (mBlt fLen (mCons (mVar 0) mNil)) (mK (.int 3))) (mAndV (mCallP f_is_small (mCons (mOp2 fIx (mVar 0) (mK (.int 1))) mNil)) (mCallP f_is_sign (mCons (mOp2 fIx (mVar 0) (mK (.int 2))) mNil)))))))))
def f_is_logged : List SV → Fo := fnOf false 1 b_is_logged
theorem d_is_logged {X : Cx} {W : WX} (hN : X.N = N_is_logged) (hsc : X.env.scope = defScope s_is_logged) (G : Gm X.K X.mg) (hu : X.A.units + 64 < cLine) (c_is_small : Cal X "is_small" 1 f_is_small) (c_is_sign : Cal X "is_sign" 1 f_is_sign) : FSs X W [] (defBody s_is_logged) b_is_logged := by
  obtain ⟨prog, w, K, mg, base, A, N, s0, H0, ⟨sc, e2, e3, e4, e5, e6, e7, e8, e9⟩, outer, stack, ex, fn, calm, pn, xe⟩ := X
  dsimp only at *
  subst hN hsc
  exact (fs_cons (fs_if (FW.ft (fw_or (ft_not (ft_truth (fe_isi G.k_tuple (by rfl) G.g_isinstance (by rfl) G.g_tuple (by rfl) (fe_var (by rfl) (.inl (by rfl)))) (fun _ => rfl))) (fw_or (ft_cmp (op_eqD hu) ok_eq (fe_var (by rfl) (.inl (by rfl))) (fe_tup fa_nil) (by rfl)) (fw_or1 (ft_not (ft_truth (fe_isi G.k_str (by rfl) G.g_isinstance (by rfl) G.g_str (by rfl) (fe_ix ix_seq ok_ix (fe_var (by rfl) (.inl (by rfl))) fe_int (by intro o i; rfl))) (fun _ => rfl))))))) (fs_one (fs_ret fe_bl)) fs_nil) (fs_cons (fs_if (ft_cmp op_inX ok_in (fe_ix ix_seq ok_ix (fe_var (by rfl) (.inl (by rfl))) fe_int (by intro o i; rfl)) (fe_gt (by rfl) G.PLAIN) (by rfl)) (fs_one (fs_ret (fe_cmp (op_eqD hu) ok_eq (fe_callB cr_lenX ok_len (by rfl) G.g_len (by rfl) (fa_cons (fe_var (by rfl) (.inl (by rfl))) fa_nil)) fe_int (by rfl)))) fs_nil) (fs_cons (fs_if (ft_cmp (op_eqD hu) ok_eq (fe_ix ix_seq ok_ix (fe_var (by rfl) (.inl (by rfl))) fe_int (by intro o i; rfl)) (fe_gs (by rfl) G.OVER) (by rfl)) (fs_one (fs_ret (fe_and (fe_cmp (op_eqD hu) ok_eq (fe_callB cr_lenX ok_len (by rfl) G.g_len (by rfl) (fa_cons (fe_var (by rfl) (.inl (by rfl))) fa_nil)) fe_int (by rfl)) (fe_one (fe_cal c_is_small (by rfl) (fa_cons (fe_ix ix_seq ok_ix (fe_var (by rfl) (.inl (by rfl))) fe_int (by intro o i; rfl)) fa_nil)))))) fs_nil) (fs_one (fs_ret (fe_and (fe_cmp (op_eqD hu) ok_eq (fe_ix ix_seq ok_ix (fe_var (by rfl) (.inl (by rfl))) fe_int (by intro o i; rfl)) (fe_gs (by rfl) G.SIGN) (by rfl)) (fe_and (fe_cmp (op_eqD hu) ok_eq (fe_callB cr_lenX ok_len (by rfl) G.g_len (by rfl) (fa_cons (fe_var (by rfl) (.inl (by rfl))) fa_nil)) fe_int (by rfl)) (fe_and (fe_cal c_is_small (by rfl) (fa_cons (fe_ix ix_seq ok_ix (fe_var (by rfl) (.inl (by rfl))) fe_int (by intro o i; rfl)) fa_nil)) (fe_one (fe_cal c_is_sign (by rfl) (fa_cons (fe_ix ix_seq ok_ix (fe_var (by rfl) (.inl (by rfl))) fe_int (by intro o i; rfl)) fa_nil)))))))))))
/-! ### is_log -/
abbrev s_is_log : Stmt := top 20
def N_is_log : List Str := ["thing", "one"]
theorem S_is_log : FnScope N_is_log ["thing"] (defScope s_is_log) := ⟨rfl, rfl, rfl, by decide +kernel, rfl, by decide +kernel, by decide +kernel⟩
def b_is_log : DZ.Env → Fl := (mRet [] (mAndV (mIsi "tuple" (mVar 0)) (mAndV (mOp2 fLe (mBlt fLen (mCons (mVar 0) mNil)) (mK (.int 2000))) (mBlt fAll (mCons (mLc [1] (mSeqI (mVar 0)) (gN 1) mYes (mCallP f_is_logged (mCons (mVar 1) mNil))) mNil)))))
def f_is_log : List SV → Fo := fnOf false 2 b_is_log
theorem d_is_log {X : Cx} {W : WX} (hN : X.N = N_is_log) (hsc : X.env.scope = defScope s_is_log) (G : Gm X.K X.mg) (hc : X.calm = true) (cm : Cm X) (c_is_logged : Cal X "is_logged" 1 f_is_logged) : FSs X W [] (defBody s_is_log) b_is_log := by
  obtain ⟨prog, w, K, mg, base, A, N, s0, H0, ⟨sc, e2, e3, e4, e5, e6, e7, e8, e9⟩, outer, stack, ex, fn, calm, pn, xe⟩ := X
  dsimp only at *
  subst hN hsc
  exact (fs_one (fs_ret (fe_and (fe_isi G.k_tuple (by rfl) G.g_isinstance (by rfl) G.g_tuple (by rfl) (fe_var (by rfl) (.inl (by rfl)))) (fe_and (fe_cmp op_leX ok_ord (fe_callB cr_lenX ok_len (by rfl) G.g_len (by rfl) (fa_cons (fe_var (by rfl) (.inl (by rfl))) fa_nil)) (fe_gi (by rfl) G.MOST_LINES) (by rfl)) (fe_one (fe_callB (cr_all hc) ok_all (by rfl) G.g_all (by rfl) (fa_cons (fe_lcB (N := 2) cm S_is_log.nd (by rfl) (fib_seq (fe_var (by rfl) (.inl (by rfl)))) (own := [("one", 1)]) (by show BlkOk N_is_log (defScope s_is_log) _ _; exact ⟨rfl, by decide +kernel, by decide +kernel, by decide +kernel, by decide +kernel⟩) (fun _ _ _ _ _ => fg_name S_is_log.nd (by rfl) (.inl (by rfl))) (fun _ _ _ _ _ => fps_nil) (fun _ _ _ _ _ => (fe_cal c_is_logged.bk (by rfl) (fa_cons (fe_var (by rfl) (.inl (by rfl))) fa_nil)))) fa_nil)))))))
/-! ### line_of -/
abbrev s_line_of : Stmt := top 21
def N_line_of : List Str := ["event", "part"]
theorem S_line_of : FnScope N_line_of ["event"] (defScope s_line_of) := ⟨rfl, rfl, rfl, by decide +kernel, rfl, by decide +kernel, by decide +kernel⟩
def b_line_of : DZ.Env → Fl := (mRet [] (mBmS fJoin (mK (.str " ")) (mCons (mLc [1] (mSeqI (mVar 0)) (gN 1) mYes (mBlt fStr (mCons (mVar 1) mNil))) mNil)))
def f_line_of : List SV → Fo := fnOf false 2 b_line_of
theorem d_line_of {X : Cx} {W : WX} (hN : X.N = N_line_of) (hsc : X.env.scope = defScope s_line_of) (G : Gm X.K X.mg) (cm : Cm X) : FSs X W [] (defBody s_line_of) b_line_of := by
  obtain ⟨prog, w, K, mg, base, A, N, s0, H0, ⟨sc, e2, e3, e4, e5, e6, e7, e8, e9⟩, outer, stack, ex, fn, calm, pn, xe⟩ := X
  dsimp only at *
  subst hN hsc
  exact (fs_one (fs_ret (fe_bmS PySem.F.slot_str_join PySem.F.type_str_join mt_joinX ok_join fe_str (fa_cons (fe_lcB (N := 2) cm S_line_of.nd (by rfl) (fib_seq (fe_var (by rfl) (.inl (by rfl)))) (own := [("part", 1)]) (by show BlkOk N_line_of (defScope s_line_of) _ _; exact ⟨rfl, by decide +kernel, by decide +kernel, by decide +kernel, by decide +kernel⟩) (fun _ _ _ _ _ => fg_name S_line_of.nd (by rfl) (.inl (by rfl))) (fun _ _ _ _ _ => fps_nil) (fun _ _ _ _ _ => (fe_callTy cr_strX ok_str (by rfl) G.g_str (by rfl) (fa_cons (fe_var (by rfl) (.inl (by rfl))) fa_nil)))) fa_nil))))
/-! ### log_text -/
abbrev s_log_text : Stmt := top 22
def N_log_text : List Str := ["log", "event"]
theorem S_log_text : FnScope N_log_text ["log"] (defScope s_log_text) := ⟨rfl, rfl, rfl, by decide +kernel, rfl, by decide +kernel, by decide +kernel⟩
def b_log_text : DZ.Env → Fl := (mSeq (mIf (mNot (mTruth (mCallP f_is_log (mCons (mVar 0) mNil)))) (fun Γ => .ex ⟨"Nothing", []⟩ Γ) mSkip) (mRet [] (mBmS fJoin (mK (.str "\n")) (mCons (mLstS (mStarR (mLc [1] (mSeqI (mVar 0)) (gN 1) mYes (mCallP f_line_of (mCons (mVar 1) mNil))) (mConsR (mK (.str "end")) (fun Γ => .ok [] Γ)))) mNil))))
def f_log_text : List SV → Fo := fnOf false 2 b_log_text
theorem d_log_text {X : Cx} {W : WX} (hN : X.N = N_log_text) (hsc : X.env.scope = defScope s_log_text) (G : Gm X.K X.mg) (hc : X.calm = true) (cm : Cm X) (c_line_of : Cal X "line_of" 1 f_line_of) (c_is_log : Cal X "is_log" 1 f_is_log) (tk : L2.Takes X W) {CN : Addr} (nC : NoC X.K X.mg CN) : FSs X W [] (defBody s_log_text) b_log_text := by
  obtain ⟨prog, w, K, mg, base, A, N, s0, H0, ⟨sc, e2, e3, e4, e5, e6, e7, e8, e9⟩, outer, stack, ex, fn, calm, pn, xe⟩ := X
  dsimp only at *
  subst hN hsc
  exact (fs_cons (fs_if (ft_not (ft_truth (fe_cal c_is_log (by rfl) (fa_cons (fe_var (by rfl) (.inl (by rfl))) fa_nil)) (fun _ => rfl))) (fs_one (fs_raise0 hc tk nC.q nC.g nC.k nC.h1 nC.h2 (by rfl))) fs_nil) (fs_one (fs_ret (fe_bmS PySem.F.slot_str_join PySem.F.type_str_join mt_joinX ok_join fe_str (fa_cons (fe_lstS (fas_star (fe_lcB (N := 2) cm S_log_text.nd (by rfl) (fib_seq (fe_var (by rfl) (.inl (by rfl)))) (own := [("event", 1)]) (by show BlkOk N_log_text (defScope s_log_text) _ _; exact ⟨rfl, by decide +kernel, by decide +kernel, by decide +kernel, by decide +kernel⟩) (fun _ _ _ _ _ => fg_name S_log_text.nd (by rfl) (.inl (by rfl))) (fun _ _ _ _ _ => fps_nil) (fun _ _ _ _ _ => (fe_cal c_line_of.bk (by rfl) (fa_cons (fe_var (by rfl) (.inl (by rfl))) fa_nil)))) (fas_cons (fe_gs (by rfl) G.END) fas_nil))) fa_nil)))))
/-! ### number_gone -/
abbrev s_number_gone : Stmt := top 23
def N_number_gone : List Str := ["text", "at", "many", "signs"]
theorem S_number_gone : FnScope N_number_gone ["text", "at"] (defScope s_number_gone) := ⟨rfl, rfl, rfl, by decide +kernel, rfl, by decide +kernel, by decide +kernel⟩
def b_number_gone : DZ.Env → Fl := (mSeq (mSet 2 (mK (.int 0))) (mSeq (loopW (mAnd (mTest (mOp2 fLt (mOp2 fAdd (mVar 1) (mVar 2)) (mBlt fLen (mCons (mVar 0) mNil)))) (mTest (mOp2 (fIn false) (mOp2 fIx (mVar 0) (mOp2 fAdd (mVar 1) (mVar 2))) (mK (.str "0123456789"))))) (mSeq (mSet 3 (mSl (mVar 0) (mPart (mVar 1)) (mPart (mOp2 fAdd (mOp2 fAdd (mVar 1) (mVar 2)) (mK (.int 1)))))) (mSeq (mIf (mOr (mAnd (mTest (mOp2 fGt (mBlt fLen (mCons (mVar 3) mNil)) (mK (.int 1)))) (mTest (mOp2 fEq (mOp2 fIx (mVar 3) (mK (.int 0))) (mK (.str "0"))))) (mTest (mOp2 fGe (mBlt fInt (mCons (mVar 3) mNil)) (mK (.int 400))))) (mRet [] (mVar 2)) mSkip) (mAug 2 (mK (.int 1))))) 30) (mRet [] (mVar 2))))
def f_number_gone : List SV → Fo := fnOf false 4 b_number_gone
theorem d_number_gone {X : Cx} {W : WX} (hN : X.N = N_number_gone) (hsc : X.env.scope = defScope s_number_gone) (G : Gm X.K X.mg) (hu : X.A.units + 64 < cLine) (hp : PassesOwn (model X.prog X.w) X.A X.env X.xe) : FSs X W [] (defBody s_number_gone) b_number_gone := by
  obtain ⟨prog, w, K, mg, base, A, N, s0, H0, ⟨sc, e2, e3, e4, e5, e6, e7, e8, e9⟩, outer, stack, ex, fn, calm, pn, xe⟩ := X
  dsimp only at *
  subst hN hsc
  exact (fs_cons (fs_set S_number_gone.nd (by rfl) (.inl (by rfl)) fe_int) (fs_cons (fs_while 30 hp (FW.ft (fw_and (ft_cmp op_ltX ok_ord (fe_op op_addX ok_add (fe_var (by rfl) (.inl (by rfl))) (fe_var (by rfl) (.inl (by rfl)))) (fe_callB cr_lenX ok_len (by rfl) G.g_len (by rfl) (fa_cons (fe_var (by rfl) (.inl (by rfl))) fa_nil)) (by rfl)) (fw_and1 (ft_cmp op_inX ok_in (fe_ix ix_seq ok_ix (fe_var (by rfl) (.inl (by rfl))) (fe_op op_addX ok_add (fe_var (by rfl) (.inl (by rfl))) (fe_var (by rfl) (.inl (by rfl)))) (by intro o i; rfl)) fe_str (by rfl))))) (fs_cons (fs_set S_number_gone.nd (by rfl) (.inl (by rfl)) (fe_sl (fe_var (by rfl) (.inl (by rfl))) (fo_some (fe_var (by rfl) (.inl (by rfl)))) (fo_some (fe_op op_addX ok_add (fe_op op_addX ok_add (fe_var (by rfl) (.inl (by rfl))) (fe_var (by rfl) (.inl (by rfl)))) fe_int)))) (fs_cons (fs_if (FW.ft (fw_or (FW.ft (fw_and (ft_cmp op_gtX ok_ord (fe_callB cr_lenX ok_len (by rfl) G.g_len (by rfl) (fa_cons (fe_var (by rfl) (.inl (by rfl))) fa_nil)) fe_int (by rfl)) (fw_and1 (ft_cmp (op_eqD hu) ok_eq (fe_ix ix_seq ok_ix (fe_var (by rfl) (.inl (by rfl))) fe_int (by intro o i; rfl)) fe_str (by rfl))))) (fw_or1 (ft_cmp op_geX ok_ord (fe_callTy cr_intX ok_int (by rfl) G.g_int (by rfl) (fa_cons (fe_var (by rfl) (.inl (by rfl))) fa_nil)) (fe_gi (by rfl) G.MOST_NUMBER) (by rfl))))) (fs_one (fs_ret (fe_var (by rfl) (.inl (by rfl))))) fs_nil) (fs_one (fs_aug S_number_gone.nd (by rfl) (.inl (by rfl)) fe_int))))) (fs_one (fs_ret (fe_var (by rfl) (.inl (by rfl)))))))
/-! ### word_gone -/
abbrev s_word_gone : Stmt := top 24
def N_word_gone : List Str := ["text", "words", "best", "word", "many"]
theorem S_word_gone : FnScope N_word_gone ["text", "words"] (defScope s_word_gone) := ⟨rfl, rfl, rfl, by decide +kernel, rfl, by decide +kernel, by decide +kernel⟩
def b_word_gone : DZ.Env → Fl := (mSeq (mSet 2 (mK (.int 0))) (mSeq (mFor (mSeqI (mVar 1)) (gN 3) (mSeq (mSet 4 (mK (.int 0))) (mSeq (loopW (mAnd (mTest (mOp2 fLt (mVar 4) (mBlt fLen (mCons (mVar 0) mNil)))) (mAnd (mTest (mOp2 fLt (mVar 4) (mBlt fLen (mCons (mVar 3) mNil)))) (mTest (mOp2 fEq (mOp2 fIx (mVar 0) (mVar 4)) (mOp2 fIx (mVar 3) (mVar 4)))))) (mAug 4 (mK (.int 1))) 30) (mSet 2 (mBlt fMax2 (mCons (mVar 2) (mCons (mVar 4) mNil))))))) (mRet [] (mVar 2))))
def f_word_gone : List SV → Fo := fnOf false 5 b_word_gone
theorem d_word_gone {X : Cx} {W : WX} (hN : X.N = N_word_gone) (hsc : X.env.scope = defScope s_word_gone) (G : Gm X.K X.mg) (hu : X.A.units + 64 < cLine) (hp : PassesOwn (model X.prog X.w) X.A X.env X.xe) (hc : X.calm = true) : FSs X W [] (defBody s_word_gone) b_word_gone := by
  obtain ⟨prog, w, K, mg, base, A, N, s0, H0, ⟨sc, e2, e3, e4, e5, e6, e7, e8, e9⟩, outer, stack, ex, fn, calm, pn, xe⟩ := X
  dsimp only at *
  subst hN hsc
  exact (fs_cons (fs_set S_word_gone.nd (by rfl) (.inl (by rfl)) fe_int) (fs_cons (fs_for hp hc (fi_seq (fe_var (by rfl) (.inl (by rfl)))) (fg_name S_word_gone.nd (by rfl) (.inl (by rfl))) (fs_cons (fs_set S_word_gone.nd (by rfl) (.inl (by rfl)) fe_int) (fs_cons (fs_while 30 hp (FW.ft (fw_and (ft_cmp op_ltX ok_ord (fe_var (by rfl) (.inl (by rfl))) (fe_callB cr_lenX ok_len (by rfl) G.g_len (by rfl) (fa_cons (fe_var (by rfl) (.inl (by rfl))) fa_nil)) (by rfl)) (fw_and (ft_cmp op_ltX ok_ord (fe_var (by rfl) (.inl (by rfl))) (fe_callB cr_lenX ok_len (by rfl) G.g_len (by rfl) (fa_cons (fe_var (by rfl) (.inl (by rfl))) fa_nil)) (by rfl)) (fw_and1 (ft_cmp (op_eqD hu) ok_eq (fe_ix ix_seq ok_ix (fe_var (by rfl) (.inl (by rfl))) (fe_var (by rfl) (.inl (by rfl))) (by intro o i; rfl)) (fe_ix ix_seq ok_ix (fe_var (by rfl) (.inl (by rfl))) (fe_var (by rfl) (.inl (by rfl))) (by intro o i; rfl)) (by rfl)))))) (fs_one (fs_aug S_word_gone.nd (by rfl) (.inl (by rfl)) fe_int))) (fs_one (fs_set S_word_gone.nd (by rfl) (.inl (by rfl)) (fe_callB (cr_max2 hc) ok_max2 (by rfl) G.g_max (by rfl) (fa_cons (fe_var (by rfl) (.inl (by rfl))) (fa_cons (fe_var (by rfl) (.inl (by rfl))) fa_nil)))))))) (fs_one (fs_ret (fe_var (by rfl) (.inl (by rfl)))))))
/-! ### over_line -/
abbrev s_over_line : Stmt := top 25
def N_over_line : List Str := ["text", "at", "many"]
theorem S_over_line : FnScope N_over_line ["text"] (defScope s_over_line) := ⟨rfl, rfl, rfl, by decide +kernel, rfl, by decide +kernel, by decide +kernel⟩
def b_over_line : DZ.Env → Fl := (mSeq (mSet 1 (mOp2 fAdd (mBlt fLen (mCons (mK (.str "over")) mNil)) (mK (.int 1)))) (mSeq (mSet 2 (mCallP f_number_gone (mCons (mVar 0) (mCons (mVar 1) mNil)))) (mSeq (mIf (mOr (mTest (mOp2 fEq (mVar 2) (mK (.int 0)))) (mTest (mOp2 fLt (mOp2 fAdd (mVar 1) (mVar 2)) (mBlt fLen (mCons (mVar 0) mNil))))) (mRet [] (mTup (mCons (mK .none) (mCons (mOp2 fAdd (mVar 1) (mVar 2)) mNil)))) mSkip) (mRet [] (mTup (mCons (mTup (mCons (mK (.str "over")) (mCons (mBlt fInt (mCons (mSl (mVar 0) (mPart (mVar 1)) mNoP) mNil)) mNil))) (mCons (mBlt fLen (mCons (mVar 0) mNil)) mNil)))))))
def f_over_line : List SV → Fo := fnOf false 3 b_over_line
theorem d_over_line {X : Cx} {W : WX} (hN : X.N = N_over_line) (hsc : X.env.scope = defScope s_over_line) (G : Gm X.K X.mg) (hu : X.A.units + 64 < cLine) (c_number_gone : Cal X "number_gone" 2 f_number_gone) : FSs X W [] (defBody s_over_line) b_over_line := by
  obtain ⟨prog, w, K, mg, base, A, N, s0, H0, ⟨sc, e2, e3, e4, e5, e6, e7, e8, e9⟩, outer, stack, ex, fn, calm, pn, xe⟩ := X
  dsimp only at *
  subst hN hsc
  exact (fs_cons (fs_set S_over_line.nd (by rfl) (.inl (by rfl)) (fe_op op_addX ok_add (fe_callB cr_lenX ok_len (by rfl) G.g_len (by rfl) (fa_cons (fe_gs (by rfl) G.OVER) fa_nil)) fe_int)) (fs_cons (fs_set S_over_line.nd (by rfl) (.inl (by rfl)) (fe_cal c_number_gone (by rfl) (fa_cons (fe_var (by rfl) (.inl (by rfl))) (fa_cons (fe_var (by rfl) (.inl (by rfl))) fa_nil)))) (fs_cons (fs_if (FW.ft (fw_or (ft_cmp (op_eqD hu) ok_eq (fe_var (by rfl) (.inl (by rfl))) fe_int (by rfl)) (fw_or1 (ft_cmp op_ltX ok_ord (fe_op op_addX ok_add (fe_var (by rfl) (.inl (by rfl))) (fe_var (by rfl) (.inl (by rfl)))) (fe_callB cr_lenX ok_len (by rfl) G.g_len (by rfl) (fa_cons (fe_var (by rfl) (.inl (by rfl))) fa_nil)) (by rfl))))) (fs_one (fs_ret (fe_tup (fa_cons fe_non (fa_cons (fe_op op_addX ok_add (fe_var (by rfl) (.inl (by rfl))) (fe_var (by rfl) (.inl (by rfl)))) fa_nil))))) fs_nil) (fs_one (fs_ret (fe_tup (fa_cons (fe_tup (fa_cons (fe_gs (by rfl) G.OVER) (fa_cons (fe_callTy cr_intX ok_int (by rfl) G.g_int (by rfl) (fa_cons (fe_sl (fe_var (by rfl) (.inl (by rfl))) (fo_some (fe_var (by rfl) (.inl (by rfl)))) fo_none) fa_nil)) fa_nil))) (fa_cons (fe_callB cr_lenX ok_len (by rfl) G.g_len (by rfl) (fa_cons (fe_var (by rfl) (.inl (by rfl))) fa_nil)) fa_nil))))))))
/-! ### sign_line -/
abbrev s_sign_line : Stmt := top 26
def N_sign_line : List Str := ["text", "at", "many", "last"]
theorem S_sign_line : FnScope N_sign_line ["text"] (defScope s_sign_line) := ⟨rfl, rfl, rfl, by decide +kernel, rfl, by decide +kernel, by decide +kernel⟩
def b_sign_line : DZ.Env → Fl := (mSeq (mSet 1 (mOp2 fAdd (mBlt fLen (mCons (mK (.str "sign")) mNil)) (mK (.int 1)))) (mSeq (mSet 2 (mCallP f_number_gone (mCons (mVar 0) (mCons (mVar 1) mNil)))) (mSeq (mIf (mOr (mTest (mOp2 fEq (mVar 2) (mK (.int 0)))) (mTest (mOp2 fNe (mSl (mVar 0) (mPart (mOp2 fAdd (mVar 1) (mVar 2))) (mPart (mOp2 fAdd (mOp2 fAdd (mVar 1) (mVar 2)) (mK (.int 1))))) (mK (.str " "))))) (mRet [] (mTup (mCons (mK .none) (mCons (mOp2 fAdd (mVar 1) (mVar 2)) mNil)))) mSkip) (mSeq (mSet 3 (mOp2 fAdd (mOp2 fAdd (mVar 1) (mVar 2)) (mK (.int 1)))) (mSeq (mIf (mNot (mTruth (mCallP f_is_sign (mCons (mSl (mVar 0) (mPart (mVar 3)) (mPart (mOp2 fAdd (mVar 3) (mK (.int 1))))) mNil)))) (mRet [] (mTup (mCons (mK .none) (mCons (mVar 3) mNil)))) mSkip) (mSeq (mIf (mTest (mOp2 fLt (mOp2 fAdd (mVar 3) (mK (.int 1))) (mBlt fLen (mCons (mVar 0) mNil)))) (mRet [] (mTup (mCons (mK .none) (mCons (mOp2 fAdd (mVar 3) (mK (.int 1))) mNil)))) mSkip) (mRet [] (mTup (mCons (mTup (mCons (mK (.str "sign")) (mCons (mBlt fInt (mCons (mSl (mVar 0) (mPart (mVar 1)) (mPart (mOp2 fAdd (mVar 1) (mVar 2)))) mNil)) (mCons (mOp2 fIx (mVar 0) (mVar 3)) mNil)))) (mCons (mBlt fLen (mCons (mVar 0) mNil)) mNil))))))))))
def f_sign_line : List SV → Fo := fnOf false 4 b_sign_line
theorem d_sign_line {X : Cx} {W : WX} (hN : X.N = N_sign_line) (hsc : X.env.scope = defScope s_sign_line) (G : Gm X.K X.mg) (hu : X.A.units + 64 < cLine) (c_is_sign : Cal X "is_sign" 1 f_is_sign) (c_number_gone : Cal X "number_gone" 2 f_number_gone) : FSs X W [] (defBody s_sign_line) b_sign_line := by
  obtain ⟨prog, w, K, mg, base, A, N, s0, H0, ⟨sc, e2, e3, e4, e5, e6, e7, e8, e9⟩, outer, stack, ex, fn, calm, pn, xe⟩ := X
  dsimp only at *
  subst hN hsc
  exact (fs_cons (fs_set S_sign_line.nd (by rfl) (.inl (by rfl)) (fe_op op_addX ok_add (fe_callB cr_lenX ok_len (by rfl) G.g_len (by rfl) (fa_cons (fe_gs (by rfl) G.SIGN) fa_nil)) fe_int)) (fs_cons (fs_set S_sign_line.nd (by rfl) (.inl (by rfl)) (fe_cal c_number_gone (by rfl) (fa_cons (fe_var (by rfl) (.inl (by rfl))) (fa_cons (fe_var (by rfl) (.inl (by rfl))) fa_nil)))) (fs_cons (fs_if (FW.ft (fw_or (ft_cmp (op_eqD hu) ok_eq (fe_var (by rfl) (.inl (by rfl))) fe_int (by rfl)) (fw_or1 (ft_cmp (op_neD hu) ok_ne (fe_sl (fe_var (by rfl) (.inl (by rfl))) (fo_some (fe_op op_addX ok_add (fe_var (by rfl) (.inl (by rfl))) (fe_var (by rfl) (.inl (by rfl))))) (fo_some (fe_op op_addX ok_add (fe_op op_addX ok_add (fe_var (by rfl) (.inl (by rfl))) (fe_var (by rfl) (.inl (by rfl)))) fe_int))) fe_str (by rfl))))) (fs_one (fs_ret (fe_tup (fa_cons fe_non (fa_cons (fe_op op_addX ok_add (fe_var (by rfl) (.inl (by rfl))) (fe_var (by rfl) (.inl (by rfl)))) fa_nil))))) fs_nil) (fs_cons (fs_set S_sign_line.nd (by rfl) (.inl (by rfl)) (fe_op op_addX ok_add (fe_op op_addX ok_add (fe_var (by rfl) (.inl (by rfl))) (fe_var (by rfl) (.inl (by rfl)))) fe_int)) (fs_cons (fs_if (ft_not (ft_truth (fe_cal c_is_sign (by rfl) (fa_cons (fe_sl (fe_var (by rfl) (.inl (by rfl))) (fo_some (fe_var (by rfl) (.inl (by rfl)))) (fo_some (fe_op op_addX ok_add (fe_var (by rfl) (.inl (by rfl))) fe_int))) fa_nil)) (fun _ => rfl))) (fs_one (fs_ret (fe_tup (fa_cons fe_non (fa_cons (fe_var (by rfl) (.inl (by rfl))) fa_nil))))) fs_nil) (fs_cons (fs_if (ft_cmp op_ltX ok_ord (fe_op op_addX ok_add (fe_var (by rfl) (.inl (by rfl))) fe_int) (fe_callB cr_lenX ok_len (by rfl) G.g_len (by rfl) (fa_cons (fe_var (by rfl) (.inl (by rfl))) fa_nil)) (by rfl)) (fs_one (fs_ret (fe_tup (fa_cons fe_non (fa_cons (fe_op op_addX ok_add (fe_var (by rfl) (.inl (by rfl))) fe_int) fa_nil))))) fs_nil) (fs_one (fs_ret (fe_tup (fa_cons (fe_tup (fa_cons (fe_gs (by rfl) G.SIGN) (fa_cons (fe_callTy cr_intX ok_int (by rfl) G.g_int (by rfl) (fa_cons (fe_sl (fe_var (by rfl) (.inl (by rfl))) (fo_some (fe_var (by rfl) (.inl (by rfl)))) (fo_some (fe_op op_addX ok_add (fe_var (by rfl) (.inl (by rfl))) (fe_var (by rfl) (.inl (by rfl)))))) fa_nil)) (fa_cons (fe_ix ix_seq ok_ix (fe_var (by rfl) (.inl (by rfl))) (fe_var (by rfl) (.inl (by rfl))) (by intro o i; rfl)) fa_nil)))) (fa_cons (fe_callB cr_lenX ok_len (by rfl) G.g_len (by rfl) (fa_cons (fe_var (by rfl) (.inl (by rfl))) fa_nil)) fa_nil)))))))))))
/-! ### gone_of_line -/
abbrev s_gone_of_line : Stmt := top 27
def N_gone_of_line : List Str := ["text", "words"]
theorem S_gone_of_line : FnScope N_gone_of_line ["text", "words"] (defScope s_gone_of_line) := ⟨rfl, rfl, rfl, by decide +kernel, rfl, by decide +kernel, by decide +kernel⟩
def b_gone_of_line : DZ.Env → Fl := (mSeq (mIf (mTest (mOp2 (fIn false) (mVar 0) (mVar 1))) (mRet [] (mTup (mCons (mIte (mTest (mOp2 fEq (mVar 0) (mK (.str "end")))) (mK (.str "end")) (mTup (mCons (mVar 0) mNil))) (mCons (mBlt fLen (mCons (mVar 0) mNil)) mNil)))) mSkip) (mSeq (mIf (mTest (mOp2 fEq (mSl (mVar 0) mNoP (mPart (mOp2 fAdd (mBlt fLen (mCons (mK (.str "over")) mNil)) (mK (.int 1))))) (mOp2 fAdd (mK (.str "over")) (mK (.str " "))))) (mRet [] (mCallP f_over_line (mCons (mVar 0) mNil))) mSkip) (mSeq (mIf (mTest (mOp2 fEq (mSl (mVar 0) mNoP (mPart (mOp2 fAdd (mBlt fLen (mCons (mK (.str "sign")) mNil)) (mK (.int 1))))) (mOp2 fAdd (mK (.str "sign")) (mK (.str " "))))) (mRet [] (mCallP f_sign_line (mCons (mVar 0) mNil))) mSkip) (mRet [] (mTup (mCons (mK .none) (mCons (mCallP f_word_gone (mCons (mVar 0) (mCons (mLstS (mStarR (mVar 1) (mConsR (mOp2 fAdd (mK (.str "over")) (mK (.str " "))) (mConsR (mOp2 fAdd (mK (.str "sign")) (mK (.str " "))) (fun Γ => .ok [] Γ))))) mNil))) mNil)))))))
def f_gone_of_line : List SV → Fo := fnOf false 2 b_gone_of_line
theorem d_gone_of_line {X : Cx} {W : WX} (hN : X.N = N_gone_of_line) (hsc : X.env.scope = defScope s_gone_of_line) (G : Gm X.K X.mg) (hu : X.A.units + 64 < cLine) (c_word_gone : Cal X "word_gone" 2 f_word_gone) (c_sign_line : Cal X "sign_line" 1 f_sign_line) (c_over_line : Cal X "over_line" 1 f_over_line) : FSs X W [] (defBody s_gone_of_line) b_gone_of_line := by
  obtain ⟨prog, w, K, mg, base, A, N, s0, H0, ⟨sc, e2, e3, e4, e5, e6, e7, e8, e9⟩, outer, stack, ex, fn, calm, pn, xe⟩ := X
  dsimp only at *
  subst hN hsc
  exact (fs_cons (fs_if (ft_cmp op_inX ok_in (fe_var (by rfl) (.inl (by rfl))) (fe_var (by rfl) (.inl (by rfl))) (by rfl)) (fs_one (fs_ret (fe_tup (fa_cons (fe_ite (ft_cmp (op_eqD hu) ok_eq (fe_var (by rfl) (.inl (by rfl))) (fe_gs (by rfl) G.END) (by rfl)) (fe_gs (by rfl) G.END) (fe_tup (fa_cons (fe_var (by rfl) (.inl (by rfl))) fa_nil))) (fa_cons (fe_callB cr_lenX ok_len (by rfl) G.g_len (by rfl) (fa_cons (fe_var (by rfl) (.inl (by rfl))) fa_nil)) fa_nil))))) fs_nil) (fs_cons (fs_if (ft_cmp (op_eqD hu) ok_eq (fe_sl (fe_var (by rfl) (.inl (by rfl))) fo_none (fo_some (fe_op op_addX ok_add (fe_callB cr_lenX ok_len (by rfl) G.g_len (by rfl) (fa_cons (fe_gs (by rfl) G.OVER) fa_nil)) fe_int))) (fe_op op_addX ok_add (fe_gs (by rfl) G.OVER) fe_str) (by rfl)) (fs_one (fs_ret (fe_cal c_over_line (by rfl) (fa_cons (fe_var (by rfl) (.inl (by rfl))) fa_nil)))) fs_nil) (fs_cons (fs_if (ft_cmp (op_eqD hu) ok_eq (fe_sl (fe_var (by rfl) (.inl (by rfl))) fo_none (fo_some (fe_op op_addX ok_add (fe_callB cr_lenX ok_len (by rfl) G.g_len (by rfl) (fa_cons (fe_gs (by rfl) G.SIGN) fa_nil)) fe_int))) (fe_op op_addX ok_add (fe_gs (by rfl) G.SIGN) fe_str) (by rfl)) (fs_one (fs_ret (fe_cal c_sign_line (by rfl) (fa_cons (fe_var (by rfl) (.inl (by rfl))) fa_nil)))) fs_nil) (fs_one (fs_ret (fe_tup (fa_cons fe_non (fa_cons (fe_cal c_word_gone (by rfl) (fa_cons (fe_var (by rfl) (.inl (by rfl))) (fa_cons (fe_lstS (fas_star (fe_var (by rfl) (.inl (by rfl))) (fas_cons (fe_op op_addX ok_add (fe_gs (by rfl) G.OVER) fe_str) (fas_cons (fe_op op_addX ok_add (fe_gs (by rfl) G.SIGN) fe_str) fas_nil)))) fa_nil))) fa_nil))))))))
/-! ### end_line -/
abbrev s_end_line : Stmt := top 29
def N_end_line : List Str := ["text"]
theorem S_end_line : FnScope N_end_line ["text"] (defScope s_end_line) := ⟨rfl, rfl, rfl, by decide +kernel, rfl, by decide +kernel, by decide +kernel⟩
def b_end_line : DZ.Env → Fl := (mRet [] (mTup (mCons (mIte (mTest (mOp2 fEq (mVar 0) (mK (.str "end")))) (mK (.str "end")) (mK .none)) (mCons (mCallP f_word_gone (mCons (mVar 0) (mCons (mTup (mCons (mK (.str "end")) mNil)) mNil))) mNil))))
def f_end_line : List SV → Fo := fnOf false 1 b_end_line
theorem d_end_line {X : Cx} {W : WX} (hN : X.N = N_end_line) (hsc : X.env.scope = defScope s_end_line) (G : Gm X.K X.mg) (hu : X.A.units + 64 < cLine) (c_word_gone : Cal X "word_gone" 2 f_word_gone) : FSs X W [] (defBody s_end_line) b_end_line := by
  obtain ⟨prog, w, K, mg, base, A, N, s0, H0, ⟨sc, e2, e3, e4, e5, e6, e7, e8, e9⟩, outer, stack, ex, fn, calm, pn, xe⟩ := X
  dsimp only at *
  subst hN hsc
  exact (fs_one (fs_ret (fe_tup (fa_cons (fe_ite (ft_cmp (op_eqD hu) ok_eq (fe_var (by rfl) (.inl (by rfl))) (fe_gs (by rfl) G.END) (by rfl)) (fe_gs (by rfl) G.END) fe_non) (fa_cons (fe_cal c_word_gone (by rfl) (fa_cons (fe_var (by rfl) (.inl (by rfl))) (fa_cons (fe_tup (fa_cons (fe_gs (by rfl) G.END) fa_nil)) fa_nil))) fa_nil)))))
/-! ### read_log -/
abbrev s_read_log : Stmt := top 28
def N_read_log : List Str := ["text", "rows", "found", "number", "row", "event", "many"]
theorem S_read_log : FnScope N_read_log ["text"] (defScope s_read_log) := ⟨rfl, rfl, rfl, by decide +kernel, rfl, by decide +kernel, by decide +kernel⟩
def b_read_log : DZ.Env → Fl := (mSeq (mPar2 1 2 (mBmS fSplit (mVar 0) (mCons (mK (.str "\n")) mNil)) (mLst mNil)) (mSeq (mFor (mEnum (mCons (mVar 1) mNil)) (gT 2 (gsC (gN 3) (gsC (gN 4) gs0))) (mSeq (mAsg (gT 2 (gsC (gN 5) (gsC (gN 6) gs0))) (mIte (mTest (mOp2 fLt (mVar 3) (mK (.int 2000)))) (mCallP f_gone_of_line (mCons (mVar 4) (mCons (mTupS (mStarR (mG (.tuple [.str "cut", .str "go"])) (mConsR (mK (.str "end")) (fun Γ => .ok [] Γ)))) mNil))) (mCallP f_end_line (mCons (mVar 4) mNil)))) (mSeq (mIf (mTest (mOp2 (fIs false) (mVar 5) (mK .none))) (mRaise2 "BadText" (mCons (mOp2 fAdd (mVar 3) (mK (.int 1))) (mCons (mOp2 fAdd (mVar 6) (mK (.int 1))) mNil))) mSkip) (mSeq (mIf (mTest (mOp2 fEq (mVar 5) (mK (.str "end")))) (mSeq (mIf (mTest (mOp2 fLt (mOp2 fAdd (mVar 3) (mK (.int 1))) (mBlt fLen (mCons (mVar 1) mNil)))) (mRaise2 "BadText" (mCons (mOp2 fAdd (mVar 3) (mK (.int 1))) (mCons (mOp2 fAdd (mBlt fLen (mCons (mVar 4) mNil)) (mK (.int 1))) mNil))) mSkip) (mRet [] (mBlt fTupO (mCons (mVar 2) mNil)))) mSkip) (mEx (mBmL 2 cAppend (mCons (mVar 5) mNil))))))) (mRaise2 "BadText" (mCons (mBlt fLen (mCons (mVar 1) mNil)) (mCons (mOp2 fAdd (mBlt fLen (mCons (mOp2 fIx (mVar 1) (mNeg (mK (.int 1)))) mNil)) (mK (.int 1))) mNil)))))
def f_read_log : List SV → Fo := fnOf false 7 b_read_log
theorem d_read_log {X : Cx} {W : WX} (hN : X.N = N_read_log) (hsc : X.env.scope = defScope s_read_log) (G : Gm X.K X.mg) (hu : X.A.units + 64 < cLine) (hp : PassesOwn (model X.prog X.w) X.A X.env X.xe) (hc : X.calm = true) (c_gone_of_line : Cal X "gone_of_line" 2 f_gone_of_line) (c_end_line : Cal X "end_line" 1 f_end_line) {fI C : Addr} {k : Nat} (tBt : DX.BtC X.prog X.K X.mg C fI) (gBt : X.mg "BadText" = some (.ref C)) (tkN : L2N.Takes X W) (hr : Room (k + 1) X.A) : FSs X W [] (defBody s_read_log) b_read_log := by
  obtain ⟨prog, w, K, mg, base, A, N, s0, H0, ⟨sc, e2, e3, e4, e5, e6, e7, e8, e9⟩, outer, stack, ex, fn, calm, pn, xe⟩ := X
  dsimp only at *
  subst hN hsc
  exact (fs_cons (fs_par2 hc S_read_log.nd (by rfl) (by rfl) (by decide) (by rfl) (by rfl) (fe_bmS PySem.F.slot_str_split PySem.F.type_str_split mt_splitX ok_split (fe_var (by rfl) (.inl (by rfl))) (fa_cons fe_str fa_nil)) (fe_lst fa_nil) (by rfl)) (fs_cons (fs_for hp hc (fi_enum (by rfl) G.g_enumerate (fa_cons (fe_var (by rfl) (.inl (by rfl))) fa_nil)) (fg_tup hc (fgs_cons (fg_name S_read_log.nd (by rfl) (.inl (by rfl))) (fgs_cons (fg_name S_read_log.nd (by rfl) (.inl (by rfl))) fgs_nil))) (fs_cons (fs_asg (fe_ite (ft_cmp op_ltX ok_ord (fe_var (by rfl) (.inl (by rfl))) (fe_gi (by rfl) G.MOST_LINES) (by rfl)) (fe_cal c_gone_of_line (by rfl) (fa_cons (fe_var (by rfl) (.inl (by rfl))) (fa_cons (fe_tupS (fas_star (fe_gt (by rfl) G.PLAIN) (fas_cons (fe_gs (by rfl) G.END) fas_nil))) fa_nil))) (fe_cal c_end_line (by rfl) (fa_cons (fe_var (by rfl) (.inl (by rfl))) fa_nil))) (fg_tup hc (fgs_cons (fg_name S_read_log.nd (by rfl) (.inl (by rfl))) (fgs_cons (fg_name S_read_log.nd (by rfl) (.inl (by rfl))) fgs_nil)))) (fs_cons (fs_if (ft_cmp op_isX ok_is (fe_var (by rfl) (.inl (by rfl))) fe_non (by rfl)) (fs_one (fs_raise2N tBt hc tkN hr (fa_cons (fe_op op_addX ok_add (fe_var (by rfl) (.inl (by rfl))) fe_int) (fa_cons (fe_op op_addX ok_add (fe_var (by rfl) (.inl (by rfl))) fe_int) fa_nil)) gBt (by rfl))) fs_nil) (fs_cons (fs_if (ft_cmp (op_eqD hu) ok_eq (fe_var (by rfl) (.inl (by rfl))) (fe_gs (by rfl) G.END) (by rfl)) (fs_cons (fs_if (ft_cmp op_ltX ok_ord (fe_op op_addX ok_add (fe_var (by rfl) (.inl (by rfl))) fe_int) (fe_callB cr_lenX ok_len (by rfl) G.g_len (by rfl) (fa_cons (fe_var (by rfl) (.inl (by rfl))) fa_nil)) (by rfl)) (fs_one (fs_raise2N tBt hc tkN hr (fa_cons (fe_op op_addX ok_add (fe_var (by rfl) (.inl (by rfl))) fe_int) (fa_cons (fe_op op_addX ok_add (fe_callB cr_lenX ok_len (by rfl) G.g_len (by rfl) (fa_cons (fe_var (by rfl) (.inl (by rfl))) fa_nil)) fe_int) fa_nil)) gBt (by rfl))) fs_nil) (fs_one (fs_ret (fe_callTy cr_tupO ok_tupO (by rfl) G.g_tuple (by rfl) (fa_cons (fe_var (by rfl) (.inl (by rfl))) fa_nil))))) fs_nil) (fs_one (fs_expr (fe_bmL PySem.F.slot_list_append PySem.F.type_list_append mt_append ap_append (by rfl) (.inl (by rfl)) (fa_cons (fe_var (by rfl) (.inl (by rfl))) fa_nil)))))))) (fs_one (fs_raise2N tBt hc tkN hr (fa_cons (fe_callB cr_lenX ok_len (by rfl) G.g_len (by rfl) (fa_cons (fe_var (by rfl) (.inl (by rfl))) fa_nil)) (fa_cons (fe_op op_addX ok_add (fe_callB cr_lenX ok_len (by rfl) G.g_len (by rfl) (fa_cons (fe_ix ix_seq ok_ix (fe_var (by rfl) (.inl (by rfl))) (fe_neg fe_int) (by intro o i; rfl)) fa_nil)) fe_int) fa_nil)) gBt (by rfl)))))
/-! ### _law_bag -/
abbrev s__law_bag : Stmt := top 31
def N__law_bag : List Str := ["script", "cell"]
theorem S__law_bag : FnScope N__law_bag ["script"] (defScope s__law_bag) := ⟨rfl, rfl, rfl, by decide +kernel, rfl, by decide +kernel, by decide +kernel⟩
def b__law_bag : DZ.Env → Fl := (mRet [] (mLst (mCons (mK (.int 0)) (mCons (mK (.int 1234567891)) (mCons (mK (.int 0)) (mCons (mLc [1] (mSeqI (mSl (mVar 0) mNoP (mPart (mK (.int 63))))) (gN 1) mYes (mBlt fAbs (mCons (mVar 1) mNil))) mNil))))))
def f__law_bag : List SV → Fo := fnOf false 2 b__law_bag
theorem d__law_bag {X : Cx} {W : WX} (hN : X.N = N__law_bag) (hsc : X.env.scope = defScope s__law_bag) (G : Gm X.K X.mg) (cm : Cm X) : FSs X W [] (defBody s__law_bag) b__law_bag := by
  obtain ⟨prog, w, K, mg, base, A, N, s0, H0, ⟨sc, e2, e3, e4, e5, e6, e7, e8, e9⟩, outer, stack, ex, fn, calm, pn, xe⟩ := X
  dsimp only at *
  subst hN hsc
  exact (fs_one (fs_ret (fe_lst (fa_cons fe_int (fa_cons fe_int (fa_cons fe_int (fa_cons (fe_lcB (N := 2) cm S__law_bag.nd (by rfl) (fib_seq (fe_sl (fe_var (by rfl) (.inl (by rfl))) fo_none (fo_some fe_int))) (own := [("cell", 1)]) (by show BlkOk N__law_bag (defScope s__law_bag) _ _; exact ⟨rfl, by decide +kernel, by decide +kernel, by decide +kernel, by decide +kernel⟩) (fun _ _ _ _ _ => fg_name S__law_bag.nd (by rfl) (.inl (by rfl))) (fun _ _ _ _ _ => fps_nil) (fun _ _ _ _ _ => (fe_callB cr_abs ok_abs (by rfl) G.g_abs (by rfl) (fa_cons (fe_var (by rfl) (.inl (by rfl))) fa_nil)))) fa_nil)))))))
/-! ### _law_take -/
abbrev s__law_take : Stmt := top 32
def N__law_take : List Str := ["bag", "many", "first", "second", "cell", "stirred", "value"]
theorem S__law_take : FnScope N__law_take ["bag", "many"] (defScope s__law_take) := ⟨rfl, rfl, rfl, by decide +kernel, rfl, by decide +kernel, by decide +kernel⟩
def b__law_take : DZ.Env → Fl := (mSeq (mIf (mTest (mOp2 fEq (mOp2 fIx (mVar 0) (mK (.int 0))) (mK (.int 0)))) (mSeq (mSet 4 (mOp2 fIx (mOp2 fAdd (mSl (mOp2 fIx (mVar 0) (mK (.int 3))) (mPart (mOp2 fIx (mVar 0) (mK (.int 2)))) mNoP) (mLst (mCons (mK (.int 0)) mNil))) (mK (.int 0)))) (mSeq (mAugIx 0 (mK (.int 2)) (mK (.int 1))) (mSeq (mIf (mTest (mOp2 fGe (mVar 4) (mOp2 fPow (mK (.int 10)) (mK (.int 18))))) (mPutIx 0 (mK (.int 0)) (mVar 4)) mSkip) (mSeq (mSet 5 (mOp2 fAdd (mOp2 fAdd (mOp2 fMul (mOp2 fIx (mVar 0) (mK (.int 1))) (mK (.int 48271))) (mOp2 fMod (mBlt fInt (mCons (mVar 4) mNil)) (mK (.int 2147483647)))) (mOp2 fMul (mK (.int 7919)) (mOp2 fIx (mVar 0) (mK (.int 2)))))) (mPutIx 0 (mK (.int 1)) (mOp2 fMod (mBlt fInt (mCons (mVar 5) mNil)) (mK (.int 2147483647)))))))) mSkip) (mSeq (mIf (mTest (mOp2 fGt (mOp2 fIx (mVar 0) (mK (.int 0))) (mK (.int 0)))) (mSeq (mSet 6 (mOp2 fMod (mBlt fInt (mCons (mOp2 fIx (mVar 0) (mK (.int 0))) mNil)) (mVar 1))) (mSeq (mPutIx 0 (mK (.int 0)) (mOp2 fDiv (mBlt fInt (mCons (mOp2 fIx (mVar 0) (mK (.int 0))) mNil)) (mVar 1))) (mRet [0] (mVar 6)))) mSkip) (mSeq (mSet 2 (mOp2 fMod (mBlt fInt (mCons (mOp2 fMul (mOp2 fAdd (mOp2 fIx (mVar 0) (mK (.int 1))) (mK (.int 1))) (mK (.int 39373))) mNil)) (mK (.int 1000000007)))) (mSeq (mSet 3 (mOp2 fMod (mBlt fInt (mCons (mOp2 fMul (mOp2 fMod (mBlt fInt (mCons (mOp2 fMul (mVar 2) (mVar 2)) mNil)) (mK (.int 998244353))) (mK (.int 30011))) mNil)) (mK (.int 998244353)))) (mRet [0] (mOp2 fMod (mBlt fInt (mCons (mOp2 fDiv (mVar 3) (mK (.int 7))) mNil)) (mVar 1)))))))
def f__law_take : List SV → Fo := fnOf true 7 b__law_take
theorem d__law_take {X : Cx} {W : WX} (hN : X.N = N__law_take) (hsc : X.env.scope = defScope s__law_take) (G : Gm X.K X.mg) (hu : X.A.units + 64 < cLine) : FSs X W [0] (defBody s__law_take) b__law_take := by
  obtain ⟨prog, w, K, mg, base, A, N, s0, H0, ⟨sc, e2, e3, e4, e5, e6, e7, e8, e9⟩, outer, stack, ex, fn, calm, pn, xe⟩ := X
  dsimp only at *
  subst hN hsc
  exact (fs_cons (fs_if (ft_cmp (op_eqD hu) ok_eq (fe_ix ix_seq ok_ix (fe_var (by rfl) (.inl (by rfl))) fe_int (by intro o i; rfl)) fe_int (by rfl)) (fs_cons (fs_set S__law_take.nd (by rfl) (.inl (by rfl)) (fe_ix ix_seq ok_ix (fe_op op_addX ok_add (fe_sl (fe_ix ix_seq ok_ix (fe_var (by rfl) (.inl (by rfl))) fe_int (by intro o i; rfl)) (fo_some (fe_ix ix_seq ok_ix (fe_var (by rfl) (.inl (by rfl))) fe_int (by intro o i; rfl))) fo_none) (fe_lst (fa_cons fe_int fa_nil))) fe_int (by intro o i; rfl))) (fs_cons (fs_augIx (by rfl) (.inl (by rfl)) fe_int fe_int) (fs_cons (fs_if (ft_cmp op_geX ok_ord (fe_var (by rfl) (.inl (by rfl))) (fe_op op_pow ok_pow fe_int fe_int) (by rfl)) (fs_one (fs_putIx (by rfl) (.inl (by rfl)) fe_int (fe_var (by rfl) (.inl (by rfl))))) fs_nil) (fs_cons (fs_set S__law_take.nd (by rfl) (.inl (by rfl)) (fe_op op_addX ok_add (fe_op op_addX ok_add (fe_op op_mulX ok_mul (fe_ix ix_seq ok_ix (fe_var (by rfl) (.inl (by rfl))) fe_int (by intro o i; rfl)) fe_int) (fe_op op_mod ok_mod (fe_callTy cr_intX ok_int (by rfl) G.g_int (by rfl) (fa_cons (fe_var (by rfl) (.inl (by rfl))) fa_nil)) fe_int)) (fe_op op_mulX ok_mul fe_int (fe_ix ix_seq ok_ix (fe_var (by rfl) (.inl (by rfl))) fe_int (by intro o i; rfl))))) (fs_one (fs_putIx (by rfl) (.inl (by rfl)) fe_int (fe_op op_mod ok_mod (fe_callTy cr_intX ok_int (by rfl) G.g_int (by rfl) (fa_cons (fe_var (by rfl) (.inl (by rfl))) fa_nil)) fe_int))))))) fs_nil) (fs_cons (fs_if (ft_cmp op_gtX ok_ord (fe_ix ix_seq ok_ix (fe_var (by rfl) (.inl (by rfl))) fe_int (by intro o i; rfl)) fe_int (by rfl)) (fs_cons (fs_set S__law_take.nd (by rfl) (.inl (by rfl)) (fe_op op_mod ok_mod (fe_callTy cr_intX ok_int (by rfl) G.g_int (by rfl) (fa_cons (fe_ix ix_seq ok_ix (fe_var (by rfl) (.inl (by rfl))) fe_int (by intro o i; rfl)) fa_nil)) (fe_var (by rfl) (.inl (by rfl))))) (fs_cons (fs_putIx (by rfl) (.inl (by rfl)) fe_int (fe_op op_fdiv ok_div (fe_callTy cr_intX ok_int (by rfl) G.g_int (by rfl) (fa_cons (fe_ix ix_seq ok_ix (fe_var (by rfl) (.inl (by rfl))) fe_int (by intro o i; rfl)) fa_nil)) (fe_var (by rfl) (.inl (by rfl))))) (fs_one (fs_ret (fe_var (by rfl) (.inl (by rfl))))))) fs_nil) (fs_cons (fs_set S__law_take.nd (by rfl) (.inl (by rfl)) (fe_op op_mod ok_mod (fe_callTy cr_intX ok_int (by rfl) G.g_int (by rfl) (fa_cons (fe_op op_mulX ok_mul (fe_op op_addX ok_add (fe_ix ix_seq ok_ix (fe_var (by rfl) (.inl (by rfl))) fe_int (by intro o i; rfl)) fe_int) fe_int) fa_nil)) fe_int)) (fs_cons (fs_set S__law_take.nd (by rfl) (.inl (by rfl)) (fe_op op_mod ok_mod (fe_callTy cr_intX ok_int (by rfl) G.g_int (by rfl) (fa_cons (fe_op op_mulX ok_mul (fe_op op_mod ok_mod (fe_callTy cr_intX ok_int (by rfl) G.g_int (by rfl) (fa_cons (fe_op op_mulX ok_mul (fe_var (by rfl) (.inl (by rfl))) (fe_var (by rfl) (.inl (by rfl)))) fa_nil)) fe_int) fe_int) fa_nil)) fe_int)) (fs_one (fs_ret (fe_op op_mod ok_mod (fe_callTy cr_intX ok_int (by rfl) G.g_int (by rfl) (fa_cons (fe_op op_fdiv ok_div (fe_var (by rfl) (.inl (by rfl))) fe_int) fa_nil)) (fe_var (by rfl) (.inl (by rfl))))))))))
/-! ### _law_some -/
abbrev s__law_some : Stmt := top 33
def N__law_some : List Str := ["bag", "things"]
theorem S__law_some : FnScope N__law_some ["bag", "things"] (defScope s__law_some) := ⟨rfl, rfl, rfl, by decide +kernel, rfl, by decide +kernel, by decide +kernel⟩
def b__law_some : DZ.Env → Fl := (mRet [0] (mOp2 fIx (mVar 1) (mCallIo f__law_take (mCons (mVar 0) (mCons (mBlt fLen (mCons (mVar 1) mNil)) mNil)))))
def f__law_some : List SV → Fo := fnOf true 2 b__law_some
theorem d__law_some {X : Cx} {W : WX} (hN : X.N = N__law_some) (hsc : X.env.scope = defScope s__law_some) (G : Gm X.K X.mg) (i__law_take : CalIo X "_law_take" 2 f__law_take) (tk : L2.Takes X W) : FSs X W [0] (defBody s__law_some) b__law_some := by
  obtain ⟨prog, w, K, mg, base, A, N, s0, H0, ⟨sc, e2, e3, e4, e5, e6, e7, e8, e9⟩, outer, stack, ex, fn, calm, pn, xe⟩ := X
  dsimp only at *
  subst hN hsc
  exact (fs_one (fs_ret (fe_ix ix_seq ok_ix (fe_var (by rfl) (.inl (by rfl))) (fe_calIo i__law_take tk (by rfl) (fa_cons (fe_var (by rfl) (.inl (by rfl))) (fa_cons (fe_callB cr_lenX ok_len (by rfl) G.g_len (by rfl) (fa_cons (fe_var (by rfl) (.inl (by rfl))) fa_nil)) fa_nil))) (by intro o i; rfl))))
/-! ### _law_alike -/
abbrev s__law_alike : Stmt := top 34
def N__law_alike : List Str := ["found", "due"]
theorem S__law_alike : FnScope N__law_alike ["found", "due"] (defScope s__law_alike) := ⟨rfl, rfl, rfl, by decide +kernel, rfl, by decide +kernel, by decide +kernel⟩
def b__law_alike : DZ.Env → Fl := (mRet [] (mAndV (mOp2 fEq (mBlt fRepr (mCons (mVar 0) mNil)) (mBlt fRepr (mCons (mVar 1) mNil))) (mOp2 fEq (mVar 0) (mVar 1))))
def f__law_alike : List SV → Fo := fnOf false 2 b__law_alike
theorem d__law_alike {X : Cx} {W : WX} (hN : X.N = N__law_alike) (hsc : X.env.scope = defScope s__law_alike) (G : Gm X.K X.mg) (hu : X.A.units + 64 < cLine) (gd : X.A.guards = some []) : FSs X W [] (defBody s__law_alike) b__law_alike := by
  obtain ⟨prog, w, K, mg, base, A, N, s0, H0, ⟨sc, e2, e3, e4, e5, e6, e7, e8, e9⟩, outer, stack, ex, fn, calm, pn, xe⟩ := X
  dsimp only at *
  subst hN hsc
  exact (fs_one (fs_ret (fe_and (fe_cmp (op_eqD hu) ok_eq (fe_callB (call_reprD gd hu) ok_repr (by rfl) G.g_repr (by rfl) (fa_cons (fe_var (by rfl) (.inl (by rfl))) fa_nil)) (fe_callB (call_reprD gd hu) ok_repr (by rfl) G.g_repr (by rfl) (fa_cons (fe_var (by rfl) (.inl (by rfl))) fa_nil)) (by rfl)) (fe_one (fe_cmp (op_eqD hu) ok_eq (fe_var (by rfl) (.inl (by rfl))) (fe_var (by rfl) (.inl (by rfl))) (by rfl))))))
/-! ### _law_is_figures -/
abbrev s__law_is_figures : Stmt := top 35
def N__law_is_figures : List Str := ["signs", "sign"]
theorem S__law_is_figures : FnScope N__law_is_figures ["signs"] (defScope s__law_is_figures) := ⟨rfl, rfl, rfl, by decide +kernel, rfl, by decide +kernel, by decide +kernel⟩
def b__law_is_figures : DZ.Env → Fl := (mRet [] (mOrV (mOp2 fEq (mVar 0) (mK (.str ""))) (mAndV (mOp2 fEq (mLc [1] (mSeqI (mVar 0)) (gN 1) (mTest (mOp2 (fIn true) (mVar 1) (mK (.str "0123456789")))) (mVar 1)) (mLst mNil)) (mAndV (mOrV (mOp2 fEq (mVar 0) (mK (.str "0"))) (mOp2 fNe (mSl (mVar 0) mNoP (mPart (mK (.int 1)))) (mK (.str "0")))) (mAndV (mOp2 fLe (mBlt fLen (mCons (mVar 0) mNil)) (mK (.int 3))) (mOp2 fLt (mBlt fInt (mCons (mVar 0) mNil)) (mK (.int 400))))))))
def f__law_is_figures : List SV → Fo := fnOf false 2 b__law_is_figures
theorem d__law_is_figures {X : Cx} {W : WX} (hN : X.N = N__law_is_figures) (hsc : X.env.scope = defScope s__law_is_figures) (G : Gm X.K X.mg) (hu : X.A.units + 64 < cLine) (cm : Cm X) : FSs X W [] (defBody s__law_is_figures) b__law_is_figures := by
  obtain ⟨prog, w, K, mg, base, A, N, s0, H0, ⟨sc, e2, e3, e4, e5, e6, e7, e8, e9⟩, outer, stack, ex, fn, calm, pn, xe⟩ := X
  dsimp only at *
  subst hN hsc
  exact (fs_one (fs_ret (fe_or (fe_cmp (op_eqD hu) ok_eq (fe_var (by rfl) (.inl (by rfl))) fe_str (by rfl)) (fe_one (fe_and (fe_cmp (op_eqD hu) ok_eq (fe_lcB (N := 2) cm S__law_is_figures.nd (by rfl) (fib_seq (fe_var (by rfl) (.inl (by rfl)))) (own := [("sign", 1)]) (by show BlkOk N__law_is_figures (defScope s__law_is_figures) _ _; exact ⟨rfl, by decide +kernel, by decide +kernel, by decide +kernel, by decide +kernel⟩) (fun _ _ _ _ _ => fg_name S__law_is_figures.nd (by rfl) (.inl (by rfl))) (fun _ _ _ _ _ => (fps_one (ft_cmp op_notInX ok_in (fe_var (by rfl) (.inl (by rfl))) fe_str (by rfl)))) (fun _ _ _ _ _ => (fe_var (by rfl) (.inl (by rfl))))) (fe_lst fa_nil) (by rfl)) (fe_and (fe_or (fe_cmp (op_eqD hu) ok_eq (fe_var (by rfl) (.inl (by rfl))) fe_str (by rfl)) (fe_one (fe_cmp (op_neD hu) ok_ne (fe_sl (fe_var (by rfl) (.inl (by rfl))) fo_none (fo_some fe_int)) fe_str (by rfl)))) (fe_and (fe_cmp op_leX ok_ord (fe_callB cr_lenX ok_len (by rfl) G.g_len (by rfl) (fa_cons (fe_var (by rfl) (.inl (by rfl))) fa_nil)) fe_int (by rfl)) (fe_one (fe_cmp op_ltX ok_ord (fe_callTy cr_intX ok_int (by rfl) G.g_int (by rfl) (fa_cons (fe_var (by rfl) (.inl (by rfl))) fa_nil)) fe_int (by rfl))))))))))
/-! ### _law_line_goes_on -/
abbrev s__law_line_goes_on : Stmt := top 36
def N__law_line_goes_on : List Str := ["line", "word", "parts"]
theorem S__law_line_goes_on : FnScope N__law_line_goes_on ["line"] (defScope s__law_line_goes_on) := ⟨rfl, rfl, rfl, by decide +kernel, rfl, by decide +kernel, by decide +kernel⟩
def b__law_line_goes_on : DZ.Env → Fl := (mSeq (mFor (mSeqI (mTup (mCons (mK (.str "go")) (mCons (mK (.str "cut")) (mCons (mK (.str "end")) (mCons (mK (.str "sign ")) (mCons (mK (.str "over ")) mNil))))))) (gN 1) (mIf (mTruth (mBmS fStarts (mVar 1) (mCons (mVar 0) mNil))) (mRet [] (mK (.bool true))) mSkip)) (mSeq (mIf (mTest (mOp2 (fIn true) (mSl (mVar 0) mNoP (mPart (mK (.int 5)))) (mTup (mCons (mK (.str "sign ")) (mCons (mK (.str "over ")) mNil))))) (mRet [] (mK (.bool false))) mSkip) (mSeq (mSet 2 (mBmS fSplit (mSl (mVar 0) (mPart (mK (.int 5))) mNoP) (mCons (mK (.str " ")) mNil))) (mSeq (mIf (mOr (mTest (mOp2 fGt (mBlt fLen (mCons (mVar 2) mNil)) (mIte (mTest (mOp2 fEq (mSl (mVar 0) mNoP (mPart (mK (.int 5)))) (mK (.str "over ")))) (mK (.int 1)) (mK (.int 2))))) (mNot (mTruth (mCallP f__law_is_figures (mCons (mOp2 fIx (mVar 2) (mK (.int 0))) mNil))))) (mRet [] (mK (.bool false))) mSkip) (mRet [] (mOrV (mOp2 fEq (mBlt fLen (mCons (mVar 2) mNil)) (mK (.int 1))) (mAndV (mOp2 fNe (mOp2 fIx (mVar 2) (mK (.int 0))) (mK (.str ""))) (mOrV (mOp2 fEq (mOp2 fIx (mVar 2) (mK (.int 1))) (mK (.str ""))) (mAndV (mOp2 fEq (mBlt fLen (mCons (mOp2 fIx (mVar 2) (mK (.int 1))) mNil)) (mK (.int 1))) (mChain fLe fLe (mK (.str "a")) (mOp2 fIx (mVar 2) (mK (.int 1))) (mK (.str "z"))))))))))))
def f__law_line_goes_on : List SV → Fo := fnOf false 3 b__law_line_goes_on
theorem d__law_line_goes_on {X : Cx} {W : WX} (hN : X.N = N__law_line_goes_on) (hsc : X.env.scope = defScope s__law_line_goes_on) (G : Gm X.K X.mg) (hu : X.A.units + 64 < cLine) (hp : PassesOwn (model X.prog X.w) X.A X.env X.xe) (cm : Cm X) (c__law_is_figures : Cal X "_law_is_figures" 1 f__law_is_figures) : FSs X W [] (defBody s__law_line_goes_on) b__law_line_goes_on := by
  obtain ⟨prog, w, K, mg, base, A, N, s0, H0, ⟨sc, e2, e3, e4, e5, e6, e7, e8, e9⟩, outer, stack, ex, fn, calm, pn, xe⟩ := X
  dsimp only at *
  subst hN hsc
  exact (fs_cons (fs_forB cm hp (fib_seq (fe_tup (fa_cons fe_str (fa_cons fe_str (fa_cons fe_str (fa_cons fe_str (fa_cons fe_str fa_nil))))))) (fg_name S__law_line_goes_on.nd (by rfl) (.inl (by rfl))) (fs_one (fs_if (ft_truth (fe_bmS PySem.F.slot_str_startswith PySem.F.type_str_startswith mt_startsX ok_starts (fe_var (by rfl) (.inl (by rfl))) (fa_cons (fe_var (by rfl) (.inl (by rfl))) fa_nil)) (fun _ => rfl)) (fs_one (fs_ret fe_bl)) fs_nil))) (fs_cons (fs_if (ft_cmp op_notInX ok_in (fe_sl (fe_var (by rfl) (.inl (by rfl))) fo_none (fo_some fe_int)) (fe_tup (fa_cons fe_str (fa_cons fe_str fa_nil))) (by rfl)) (fs_one (fs_ret fe_bl)) fs_nil) (fs_cons (fs_set S__law_line_goes_on.nd (by rfl) (.inl (by rfl)) (fe_bmS PySem.F.slot_str_split PySem.F.type_str_split mt_splitX ok_split (fe_sl (fe_var (by rfl) (.inl (by rfl))) (fo_some fe_int) fo_none) (fa_cons fe_str fa_nil))) (fs_cons (fs_if (FW.ft (fw_or (ft_cmp op_gtX ok_ord (fe_callB cr_lenX ok_len (by rfl) G.g_len (by rfl) (fa_cons (fe_var (by rfl) (.inl (by rfl))) fa_nil)) (fe_ite (ft_cmp (op_eqD hu) ok_eq (fe_sl (fe_var (by rfl) (.inl (by rfl))) fo_none (fo_some fe_int)) fe_str (by rfl)) fe_int fe_int) (by rfl)) (fw_or1 (ft_not (ft_truth (fe_cal c__law_is_figures (by rfl) (fa_cons (fe_ix ix_seq ok_ix (fe_var (by rfl) (.inl (by rfl))) fe_int (by intro o i; rfl)) fa_nil)) (fun _ => rfl)))))) (fs_one (fs_ret fe_bl)) fs_nil) (fs_one (fs_ret (fe_or (fe_cmp (op_eqD hu) ok_eq (fe_callB cr_lenX ok_len (by rfl) G.g_len (by rfl) (fa_cons (fe_var (by rfl) (.inl (by rfl))) fa_nil)) fe_int (by rfl)) (fe_one (fe_and (fe_cmp (op_neD hu) ok_ne (fe_ix ix_seq ok_ix (fe_var (by rfl) (.inl (by rfl))) fe_int (by intro o i; rfl)) fe_str (by rfl)) (fe_one (fe_or (fe_cmp (op_eqD hu) ok_eq (fe_ix ix_seq ok_ix (fe_var (by rfl) (.inl (by rfl))) fe_int (by intro o i; rfl)) fe_str (by rfl)) (fe_one (fe_and (fe_cmp (op_eqD hu) ok_eq (fe_callB cr_lenX ok_len (by rfl) G.g_len (by rfl) (fa_cons (fe_ix ix_seq ok_ix (fe_var (by rfl) (.inl (by rfl))) fe_int (by intro o i; rfl)) fa_nil)) fe_int (by rfl)) (fe_one (fe_chain op_leX op_leX ok_ord ok_ord fe_str (fe_ix ix_seq ok_ix (fe_var (by rfl) (.inl (by rfl))) fe_int (by intro o i; rfl)) fe_str)))))))))))))))
/-! ### _law_is_line -/
abbrev s__law_is_line : Stmt := top 37
def N__law_is_line : List Str := ["line", "parts"]
theorem S__law_is_line : FnScope N__law_is_line ["line"] (defScope s__law_is_line) := ⟨rfl, rfl, rfl, by decide +kernel, rfl, by decide +kernel, by decide +kernel⟩
def b__law_is_line : DZ.Env → Fl := (mSeq (mIf (mTest (mOp2 (fIn false) (mVar 0) (mTup (mCons (mK (.str "go")) (mCons (mK (.str "cut")) mNil))))) (mRet [] (mK (.bool true))) mSkip) (mSeq (mSet 1 (mBmS fSplit (mVar 0) (mCons (mK (.str " ")) mNil))) (mSeq (mIf (mTest (mOp2 fEq (mOp2 fIx (mVar 1) (mK (.int 0))) (mK (.str "over")))) (mRet [] (mAndV (mOp2 fEq (mBlt fLen (mCons (mVar 1) mNil)) (mK (.int 2))) (mAndV (mOp2 fNe (mOp2 fIx (mVar 1) (mK (.int 1))) (mK (.str ""))) (mCallP f__law_is_figures (mCons (mOp2 fIx (mVar 1) (mK (.int 1))) mNil))))) mSkip) (mRet [] (mAndV (mOp2 fEq (mBlt fLen (mCons (mVar 1) mNil)) (mK (.int 3))) (mAndV (mOp2 fEq (mOp2 fIx (mVar 1) (mK (.int 0))) (mK (.str "sign"))) (mAndV (mOp2 fNe (mOp2 fIx (mVar 1) (mK (.int 1))) (mK (.str ""))) (mAndV (mCallP f__law_is_figures (mCons (mOp2 fIx (mVar 1) (mK (.int 1))) mNil)) (mAndV (mOp2 fEq (mBlt fLen (mCons (mOp2 fIx (mVar 1) (mK (.int 2))) mNil)) (mK (.int 1))) (mChain fLe fLe (mK (.str "a")) (mOp2 fIx (mVar 1) (mK (.int 2))) (mK (.str "z"))))))))))))
def f__law_is_line : List SV → Fo := fnOf false 2 b__law_is_line
theorem d__law_is_line {X : Cx} {W : WX} (hN : X.N = N__law_is_line) (hsc : X.env.scope = defScope s__law_is_line) (G : Gm X.K X.mg) (hu : X.A.units + 64 < cLine) (c__law_is_figures : Cal X "_law_is_figures" 1 f__law_is_figures) : FSs X W [] (defBody s__law_is_line) b__law_is_line := by
  obtain ⟨prog, w, K, mg, base, A, N, s0, H0, ⟨sc, e2, e3, e4, e5, e6, e7, e8, e9⟩, outer, stack, ex, fn, calm, pn, xe⟩ := X
  dsimp only at *
  subst hN hsc
  exact (fs_cons (fs_if (ft_cmp op_inX ok_in (fe_var (by rfl) (.inl (by rfl))) (fe_tup (fa_cons fe_str (fa_cons fe_str fa_nil))) (by rfl)) (fs_one (fs_ret fe_bl)) fs_nil) (fs_cons (fs_set S__law_is_line.nd (by rfl) (.inl (by rfl)) (fe_bmS PySem.F.slot_str_split PySem.F.type_str_split mt_splitX ok_split (fe_var (by rfl) (.inl (by rfl))) (fa_cons fe_str fa_nil))) (fs_cons (fs_if (ft_cmp (op_eqD hu) ok_eq (fe_ix ix_seq ok_ix (fe_var (by rfl) (.inl (by rfl))) fe_int (by intro o i; rfl)) fe_str (by rfl)) (fs_one (fs_ret (fe_and (fe_cmp (op_eqD hu) ok_eq (fe_callB cr_lenX ok_len (by rfl) G.g_len (by rfl) (fa_cons (fe_var (by rfl) (.inl (by rfl))) fa_nil)) fe_int (by rfl)) (fe_and (fe_cmp (op_neD hu) ok_ne (fe_ix ix_seq ok_ix (fe_var (by rfl) (.inl (by rfl))) fe_int (by intro o i; rfl)) fe_str (by rfl)) (fe_one (fe_cal c__law_is_figures (by rfl) (fa_cons (fe_ix ix_seq ok_ix (fe_var (by rfl) (.inl (by rfl))) fe_int (by intro o i; rfl)) fa_nil))))))) fs_nil) (fs_one (fs_ret (fe_and (fe_cmp (op_eqD hu) ok_eq (fe_callB cr_lenX ok_len (by rfl) G.g_len (by rfl) (fa_cons (fe_var (by rfl) (.inl (by rfl))) fa_nil)) fe_int (by rfl)) (fe_and (fe_cmp (op_eqD hu) ok_eq (fe_ix ix_seq ok_ix (fe_var (by rfl) (.inl (by rfl))) fe_int (by intro o i; rfl)) fe_str (by rfl)) (fe_and (fe_cmp (op_neD hu) ok_ne (fe_ix ix_seq ok_ix (fe_var (by rfl) (.inl (by rfl))) fe_int (by intro o i; rfl)) fe_str (by rfl)) (fe_and (fe_cal c__law_is_figures (by rfl) (fa_cons (fe_ix ix_seq ok_ix (fe_var (by rfl) (.inl (by rfl))) fe_int (by intro o i; rfl)) fa_nil)) (fe_and (fe_cmp (op_eqD hu) ok_eq (fe_callB cr_lenX ok_len (by rfl) G.g_len (by rfl) (fa_cons (fe_ix ix_seq ok_ix (fe_var (by rfl) (.inl (by rfl))) fe_int (by intro o i; rfl)) fa_nil)) fe_int (by rfl)) (fe_one (fe_chain op_leX op_leX ok_ord ok_ord fe_str (fe_ix ix_seq ok_ix (fe_var (by rfl) (.inl (by rfl))) fe_int (by intro o i; rfl)) fe_str))))))))))))
/-! ### _law_goes_on -/
abbrev s__law_goes_on : Stmt := top 38
def N__law_goes_on : List Str := ["text", "rows", "row"]
theorem S__law_goes_on : FnScope N__law_goes_on ["text"] (defScope s__law_goes_on) := ⟨rfl, rfl, rfl, by decide +kernel, rfl, by decide +kernel, by decide +kernel⟩
def b__law_goes_on : DZ.Env → Fl := (mSeq (mSet 1 (mBmS fSplit (mVar 0) (mCons (mK (.str "\n")) mNil))) (mRet [] (mAndV (mOp2 fEq (mLc [2] (mSeqI (mSl (mVar 1) mNoP (mPart (mNeg (mK (.int 1)))))) (gN 2) (mNot (mTruth (mCallP f__law_is_line (mCons (mVar 2) mNil)))) (mVar 2)) (mLst mNil)) (mCallP f__law_line_goes_on (mCons (mOp2 fIx (mVar 1) (mNeg (mK (.int 1)))) mNil)))))
def f__law_goes_on : List SV → Fo := fnOf false 3 b__law_goes_on
theorem d__law_goes_on {X : Cx} {W : WX} (hN : X.N = N__law_goes_on) (hsc : X.env.scope = defScope s__law_goes_on) (G : Gm X.K X.mg) (hu : X.A.units + 64 < cLine) (cm : Cm X) (c__law_is_line : Cal X "_law_is_line" 1 f__law_is_line) (c__law_line_goes_on : Cal X "_law_line_goes_on" 1 f__law_line_goes_on) : FSs X W [] (defBody s__law_goes_on) b__law_goes_on := by
  obtain ⟨prog, w, K, mg, base, A, N, s0, H0, ⟨sc, e2, e3, e4, e5, e6, e7, e8, e9⟩, outer, stack, ex, fn, calm, pn, xe⟩ := X
  dsimp only at *
  subst hN hsc
  exact (fs_cons (fs_set S__law_goes_on.nd (by rfl) (.inl (by rfl)) (fe_bmS PySem.F.slot_str_split PySem.F.type_str_split mt_splitX ok_split (fe_var (by rfl) (.inl (by rfl))) (fa_cons fe_str fa_nil))) (fs_one (fs_ret (fe_and (fe_cmp (op_eqD hu) ok_eq (fe_lcB (N := 3) cm S__law_goes_on.nd (by rfl) (fib_seq (fe_sl (fe_var (by rfl) (.inl (by rfl))) fo_none (fo_some (fe_neg fe_int)))) (own := [("row", 2)]) (by show BlkOk N__law_goes_on (defScope s__law_goes_on) _ _; exact ⟨rfl, by decide +kernel, by decide +kernel, by decide +kernel, by decide +kernel⟩) (fun _ _ _ _ _ => fg_name S__law_goes_on.nd (by rfl) (.inl (by rfl))) (fun _ _ _ _ _ => (fps_one (ft_not (ft_truth (fe_cal c__law_is_line.bk (by rfl) (fa_cons (fe_var (by rfl) (.inl (by rfl))) fa_nil)) (fun _ => rfl))))) (fun _ _ _ _ _ => (fe_var (by rfl) (.inl (by rfl))))) (fe_lst fa_nil) (by rfl)) (fe_one (fe_cal c__law_line_goes_on (by rfl) (fa_cons (fe_ix ix_seq ok_ix (fe_var (by rfl) (.inl (by rfl))) (fe_neg fe_int) (by intro o i; rfl)) fa_nil)))))))
/-! ### _law_place -/
abbrev s__law_place : Stmt := top 39
def N__law_place : List Str := ["text", "many", "rows"]
theorem S__law_place : FnScope N__law_place ["text"] (defScope s__law_place) := ⟨rfl, rfl, rfl, by decide +kernel, rfl, by decide +kernel, by decide +kernel⟩
def b__law_place : DZ.Env → Fl := (mSeq (mFor (mRng (mCons (mK (.int 1)) (mCons (mOp2 fAdd (mBlt fLen (mCons (mVar 0) mNil)) (mK (.int 1))) mNil))) (gN 1) (mIf (mNot (mTruth (mCallP f__law_goes_on (mCons (mSl (mVar 0) mNoP (mPart (mVar 1))) mNil)))) (mSeq (mSet 2 (mBmS fSplit (mSl (mVar 0) mNoP (mPart (mOp2 fSub (mVar 1) (mK (.int 1))))) (mCons (mK (.str "\n")) mNil))) (mRet [] (mTup (mCons (mBlt fLen (mCons (mVar 2) mNil)) (mCons (mOp2 fAdd (mBlt fLen (mCons (mOp2 fIx (mVar 2) (mNeg (mK (.int 1)))) mNil)) (mK (.int 1))) mNil))))) mSkip)) (mSeq (mSet 2 (mBmS fSplit (mVar 0) (mCons (mK (.str "\n")) mNil))) (mRet [] (mTup (mCons (mBlt fLen (mCons (mVar 2) mNil)) (mCons (mOp2 fAdd (mBlt fLen (mCons (mOp2 fIx (mVar 2) (mNeg (mK (.int 1)))) mNil)) (mK (.int 1))) mNil))))))
def f__law_place : List SV → Fo := fnOf false 3 b__law_place
theorem d__law_place {X : Cx} {W : WX} (hN : X.N = N__law_place) (hsc : X.env.scope = defScope s__law_place) (G : Gm X.K X.mg) (hp : PassesOwn (model X.prog X.w) X.A X.env X.xe) (cm : Cm X) (c__law_goes_on : Cal X "_law_goes_on" 1 f__law_goes_on) : FSs X W [] (defBody s__law_place) b__law_place := by
  obtain ⟨prog, w, K, mg, base, A, N, s0, H0, ⟨sc, e2, e3, e4, e5, e6, e7, e8, e9⟩, outer, stack, ex, fn, calm, pn, xe⟩ := X
  dsimp only at *
  subst hN hsc
  exact (fs_cons (fs_forB cm hp (fib_range2 (by rfl) G.g_range (fa_cons fe_int (fa_cons (fe_op op_addX ok_add (fe_callB cr_lenX ok_len (by rfl) G.g_len (by rfl) (fa_cons (fe_var (by rfl) (.inl (by rfl))) fa_nil)) fe_int) fa_nil))) (fg_name S__law_place.nd (by rfl) (.inl (by rfl))) (fs_one (fs_if (ft_not (ft_truth (fe_cal c__law_goes_on (by rfl) (fa_cons (fe_sl (fe_var (by rfl) (.inl (by rfl))) fo_none (fo_some (fe_var (by rfl) (.inl (by rfl))))) fa_nil)) (fun _ => rfl))) (fs_cons (fs_set S__law_place.nd (by rfl) (.inl (by rfl)) (fe_bmS PySem.F.slot_str_split PySem.F.type_str_split mt_splitX ok_split (fe_sl (fe_var (by rfl) (.inl (by rfl))) fo_none (fo_some (fe_op op_sub ok_sub (fe_var (by rfl) (.inl (by rfl))) fe_int))) (fa_cons fe_str fa_nil))) (fs_one (fs_ret (fe_tup (fa_cons (fe_callB cr_lenX ok_len (by rfl) G.g_len (by rfl) (fa_cons (fe_var (by rfl) (.inl (by rfl))) fa_nil)) (fa_cons (fe_op op_addX ok_add (fe_callB cr_lenX ok_len (by rfl) G.g_len (by rfl) (fa_cons (fe_ix ix_seq ok_ix (fe_var (by rfl) (.inl (by rfl))) (fe_neg fe_int) (by intro o i; rfl)) fa_nil)) fe_int) fa_nil)))))) fs_nil))) (fs_cons (fs_set S__law_place.nd (by rfl) (.inl (by rfl)) (fe_bmS PySem.F.slot_str_split PySem.F.type_str_split mt_splitX ok_split (fe_var (by rfl) (.inl (by rfl))) (fa_cons fe_str fa_nil))) (fs_one (fs_ret (fe_tup (fa_cons (fe_callB cr_lenX ok_len (by rfl) G.g_len (by rfl) (fa_cons (fe_var (by rfl) (.inl (by rfl))) fa_nil)) (fa_cons (fe_op op_addX ok_add (fe_callB cr_lenX ok_len (by rfl) G.g_len (by rfl) (fa_cons (fe_ix ix_seq ok_ix (fe_var (by rfl) (.inl (by rfl))) (fe_neg fe_int) (by intro o i; rfl)) fa_nil)) fe_int) fa_nil)))))))
/-! ### law -/
abbrev s_law : Stmt := top 40
def N_law : List Str := ["script", "bag", "log", "k", "event", "text", "lap", "odd", "number", "rows", "sign", "bent", "parts", "error", "at", "way", "part", "row"]
theorem S_law : FnScope N_law ["script"] (defScope s_law) := ⟨rfl, rfl, rfl, by decide +kernel, rfl, by decide +kernel, by decide +kernel⟩
def b_law : DZ.Env → Fl := (mSeq (mSet 1 (mCallP f__law_bag (mCons (mVar 0) mNil))) (mSeq (mSet 2 (mLst mNil)) (mSeq (mFor (mRng (mCons (mCallIo f__law_take (mCons (mVar 1) (mCons (mK (.int 6)) mNil))) mNil)) (gN 3) (mSeq (mSet 8 (mCallIo f__law_some (mCons (mVar 1) (mCons (mLst (mCons (mK (.int 0)) (mCons (mK (.int 1)) (mCons (mK (.int 7)) (mCons (mK (.int 12)) (mCons (mK (.int 40)) (mCons (mK (.int 399)) mNil))))))) mNil)))) (mEx (mBmL 2 cAppend (mCons (mOp2 fIx (mLst (mCons (mTup (mCons (mK (.str "go")) mNil)) (mCons (mTup (mCons (mK (.str "cut")) mNil)) (mCons (mTup (mCons (mK (.str "over")) (mCons (mVar 8) mNil))) (mCons (mTup (mCons (mK (.str "sign")) (mCons (mVar 8) (mCons (mCallIo f__law_some (mCons (mVar 1) (mCons (mLst (mCons (mK (.str "a")) (mCons (mK (.str "e")) (mCons (mK (.str "z")) mNil)))) mNil))) mNil)))) mNil))))) (mCallIo f__law_take (mCons (mVar 1) (mCons (mK (.int 4)) mNil)))) mNil))))) (mSeq (mPar2 2 9 (mBlt fTupO (mCons (mVar 2) mNil)) (mLst mNil)) (mSeq (mFor (mSeqI (mVar 2)) (gN 4) (mEx (mBmL 9 cAppend (mCons (mBmS fJoin (mK (.str " ")) (mCons (mLc [16] (mSeqI (mVar 4)) (gN 16) mYes (mBlt fStr (mCons (mVar 16) mNil))) mNil)) mNil)))) (mSeq (mSet 5 (mBmS fJoin (mK (.str "\n")) (mCons (mOp2 fAdd (mVar 9) (mLst (mCons (mK (.str "end")) mNil))) mNil))) (mSeq (mIf (mOr (mTest (mOp2 (fIs true) (mCallP f_is_log (mCons (mVar 2) mNil)) (mK (.bool true)))) (mOr (mTest (mOp2 fNe (mCallP f_log_text (mCons (mVar 2) mNil)) (mVar 5))) (mNot (mTruth (mCallP f__law_alike (mCons (mCallP f_read_log (mCons (mVar 5) mNil)) (mCons (mVar 2) mNil))))))) (mRet [] (mK (.bool false))) mSkip) (mSeq (mFor (mRng (mCons (mK (.int 6)) mNil)) (gN 6) (mSeq (mPar3 14 15 11 (mCallIo f__law_take (mCons (mVar 1) (mCons (mOp2 fAdd (mBlt fLen (mCons (mVar 5) mNil)) (mK (.int 1))) mNil))) (mCallIo f__law_take (mCons (mVar 1) (mCons (mK (.int 4)) mNil))) (mVar 5)) (mSeq (mSet 10 (mCallIo f__law_some (mCons (mVar 1) (mCons (mBlt fLstX (mCons (mK (.str "acdeginorstuvz 0149\n")) mNil)) mNil)))) (mSeq (mSet 11 (mIte (mTest (mOp2 fEq (mVar 15) (mK (.int 0)))) (mOp2 fAdd (mOp2 fAdd (mSl (mVar 5) mNoP (mPart (mVar 14))) (mVar 10)) (mSl (mVar 5) (mPart (mOp2 fAdd (mVar 14) (mK (.int 1)))) mNoP)) (mIte (mTest (mOp2 fEq (mVar 15) (mK (.int 1)))) (mOp2 fAdd (mOp2 fAdd (mSl (mVar 5) mNoP (mPart (mVar 14))) (mVar 10)) (mSl (mVar 5) (mPart (mVar 14)) mNoP)) (mIte (mTest (mOp2 fEq (mVar 15) (mK (.int 2)))) (mOp2 fAdd (mSl (mVar 5) mNoP (mPart (mVar 14))) (mSl (mVar 5) (mPart (mOp2 fAdd (mVar 14) (mK (.int 1)))) mNoP)) (mSl (mVar 5) mNoP (mPart (mVar 14))))))) (mSeq (mSet 12 (mBmS fSplit (mVar 11) (mCons (mK (.str "\n")) mNil))) (mSeq (mIf (mAnd (mTest (mOp2 fEq (mOp2 fIx (mVar 12) (mNeg (mK (.int 1)))) (mK (.str "end")))) (mTest (mOp2 fEq (mLc [17] (mSeqI (mSl (mVar 12) mNoP (mPart (mNeg (mK (.int 1)))))) (gN 17) (mNot (mTruth (mCallP f__law_is_line (mCons (mVar 17) mNil)))) (mVar 17)) (mLst mNil)))) (mSeq (mIf (mNot (mTruth (mCallP f__law_alike (mCons (mCallP f_log_text (mCons (mCallP f_read_log (mCons (mVar 11) mNil)) mNil)) (mCons (mVar 11) mNil))))) (mRet [] (mK (.bool false))) mSkip) (fun Γ => .ct Γ)) mSkip) (mTryX 13 "BadText" (mSeq (mEx (mCall f_read_log (mCons (mVar 11) mNil))) (mRet [] (mK (.bool false)))) (mCallP f__law_place (mCons (mVar 11) mNil)) (mRet [] (mK (.bool false)))))))))) (mSeq (mFor (mSeqI (mTup (mCons (mK .none) (mCons (mK (.int 5)) (mCons (mTup (mCons (mTup (mCons (mK (.str "sign")) (mCons (mK (.int 0)) mNil))) mNil)) (mCons (mTup (mCons (mTup (mCons (mK (.str "sign")) (mCons (mK (.int 0)) (mCons (mK (.str "A")) mNil)))) mNil)) (mCons (mTup (mCons (mTup (mCons (mK (.str "over")) (mCons (mK (.int 400)) mNil))) mNil)) (mCons (mTup (mCons (mK (.str "go")) mNil)) (mCons (mTup (mCons (mTup (mCons (mK (.str "end")) mNil)) mNil)) (mCons (mTup (mCons (mTup (mCons (mK (.str "over")) (mCons (mK (.bool true)) mNil))) mNil)) (mCons (mTup (mCons (mTup (mCons (mK (.str "sign")) (mCons (mNeg (mK (.int 1))) (mCons (mK (.str "a")) mNil)))) mNil)) mNil))))))))))) (gN 7) (mSeq (mIf (mTest (mOp2 (fIs true) (mCallP f_is_log (mCons (mVar 7) mNil)) (mK (.bool false)))) (mRet [] (mK (.bool false))) mSkip) (mTryN "Nothing" (mSeq (mEx (mCall f_log_text (mCons (mVar 7) mNil))) (mRet [] (mK (.bool false)))) (fun Γ => .ct Γ)))) (mRet [] (mK (.bool true))))))))))))
def f_law : List SV → Fo := fnOf false 18 b_law
theorem d_law {X : Cx}  (hN : X.N = N_law) (hsc : X.env.scope = defScope s_law) (G : Gm X.K X.mg) (hu : X.A.units + 64 < cLine) (hp : PassesOwn (model X.prog X.w) X.A X.env X.xe) (hc : X.calm = true) (cm : Cm X) (c_is_log : Cal X "is_log" 1 f_is_log) (c__law_is_line : Cal X "_law_is_line" 1 f__law_is_line) (c_read_log : Cal X "read_log" 1 f_read_log) (c_log_text : Cal X "log_text" 1 f_log_text) (c__law_alike : Cal X "_law_alike" 2 f__law_alike) (c__law_bag : Cal X "_law_bag" 1 f__law_bag) (i__law_some : CalIo X "_law_some" 2 f__law_some) (i__law_take : CalIo X "_law_take" 2 f__law_take) (hs : X.stack = X.env :: X.outer) (hf : X.env.frame = some X.env.locals) (tk : L2.Takes X fun _ _ _ _ => False) (tkN : L2N.Takes X fun _ _ _ _ => False) {CN CB : Addr} (nC : NoC X.K X.mg CN) (xf : XfC X.K CB) (xl : PySem.W.findIn X.K (.ref CB) "line" = some none) (xc : PySem.W.findIn X.K (.ref CB) "column" = some none) (gBt : X.mg "BadText" = some (.ref CB)) (teB : PySem.W.exmOne X.K (.ref CB) (.ref CB) = some true) {kt_log_text : Nat} (hrt_log_text : Room kt_log_text X.A) {a_log_text : Addr} {fd_log_text : FuncData} {ps_log_text : List Str} (F_log_text : FnOk X.prog X.w X.K X.mg X.base (L2.CX X.prog X.w) kt_log_text a_log_text fd_log_text ps_log_text (spF X.mg false 1 f_log_text)) (m_log_text : X.mg "log_text" = some (.ref a_log_text)) (k_log_text : PySem.W.keepIn X.K (.ref a_log_text) = true) (bn_log_text : L2.Binds X.K fd_log_text ps_log_text []) {kt_read_log : Nat} (hrt_read_log : Room kt_read_log X.A) {a_read_log : Addr} {fd_read_log : FuncData} {ps_read_log : List Str} (F_read_log : FnOk X.prog X.w X.K X.mg X.base (L2N.CX X.prog X.w) kt_read_log a_read_log fd_read_log ps_read_log (spF X.mg false 1 f_read_log)) (m_read_log : X.mg "read_log" = some (.ref a_read_log)) (k_read_log : PySem.W.keepIn X.K (.ref a_read_log) = true) (bn_read_log : L2.Binds X.K fd_read_log ps_read_log []) (h__law_place : ∀ (a : Addr) (oe : Obj) (cls : Value) (d : Option Addr) (pn : List (Addr × Obj)), L2N.Zn cls d oe → (∃ vs, oe.data = .fields vs) → Cal (X.suite a ((a, oe) :: pn)) "_law_place" 1 f__law_place) : FSs X (fun _ _ _ _ => False) [] (defBody s_law) b_law := by
  obtain ⟨prog, w, K, mg, base, A, N, s0, H0, ⟨sc, e2, e3, e4, e5, e6, e7, e8, e9⟩, outer, stack, ex, fn, calm, pn, xe⟩ := X
  dsimp only at *
  subst hN hsc
  exact (fs_cons (fs_set S_law.nd (by rfl) (.inl (by rfl)) (fe_cal c__law_bag (by rfl) (fa_cons (fe_var (by rfl) (.inl (by rfl))) fa_nil))) (fs_cons (fs_set S_law.nd (by rfl) (.inl (by rfl)) (fe_lst fa_nil)) (fs_cons (fs_for hp hc (fi_range1 (by rfl) G.g_range (fa_cons (fe_calIo i__law_take tk (by rfl) (fa_cons (fe_var (by rfl) (.inl (by rfl))) (fa_cons fe_int fa_nil))) fa_nil)) (fg_name S_law.nd (by rfl) (.inl (by rfl))) (fs_cons (fs_set S_law.nd (by rfl) (.inl (by rfl)) (fe_calIo i__law_some tk (by rfl) (fa_cons (fe_var (by rfl) (.inl (by rfl))) (fa_cons (fe_lst (fa_cons fe_int (fa_cons fe_int (fa_cons fe_int (fa_cons fe_int (fa_cons fe_int (fa_cons fe_int fa_nil))))))) fa_nil)))) (fs_one (fs_expr (fe_bmL PySem.F.slot_list_append PySem.F.type_list_append mt_append ap_append (by rfl) (.inl (by rfl)) (fa_cons (fe_ix ix_seq ok_ix (fe_lst (fa_cons (fe_tup (fa_cons fe_str fa_nil)) (fa_cons (fe_tup (fa_cons fe_str fa_nil)) (fa_cons (fe_tup (fa_cons fe_str (fa_cons (fe_var (by rfl) (.inl (by rfl))) fa_nil))) (fa_cons (fe_tup (fa_cons fe_str (fa_cons (fe_var (by rfl) (.inl (by rfl))) (fa_cons (fe_calIo i__law_some tk (by rfl) (fa_cons (fe_var (by rfl) (.inl (by rfl))) (fa_cons (fe_lst (fa_cons fe_str (fa_cons fe_str (fa_cons fe_str fa_nil)))) fa_nil))) fa_nil)))) fa_nil))))) (fe_calIo i__law_take tk (by rfl) (fa_cons (fe_var (by rfl) (.inl (by rfl))) (fa_cons fe_int fa_nil))) (by intro o i; rfl)) fa_nil)))))) (fs_cons (fs_par2 hc S_law.nd (by rfl) (by rfl) (by decide) (by rfl) (by rfl) (fe_callTy cr_tupO ok_tupO (by rfl) G.g_tuple (by rfl) (fa_cons (fe_var (by rfl) (.inl (by rfl))) fa_nil)) (fe_lst fa_nil) (by rfl)) (fs_cons (fs_for hp hc (fi_seq (fe_var (by rfl) (.inl (by rfl)))) (fg_name S_law.nd (by rfl) (.inl (by rfl))) (fs_one (fs_expr (fe_bmL PySem.F.slot_list_append PySem.F.type_list_append mt_append ap_append (by rfl) (.inl (by rfl)) (fa_cons (fe_bmS PySem.F.slot_str_join PySem.F.type_str_join mt_joinX ok_join fe_str (fa_cons (fe_lcB (N := 18) cm S_law.nd (by rfl) (fib_seq (fe_var (by rfl) (.inl (by rfl)))) (own := [("part", 16)]) (by show BlkOk N_law (defScope s_law) _ _; exact ⟨rfl, by decide +kernel, by decide +kernel, by decide +kernel, by decide +kernel⟩) (fun _ _ _ _ _ => fg_name S_law.nd (by rfl) (.inl (by rfl))) (fun _ _ _ _ _ => fps_nil) (fun _ _ _ _ _ => (fe_callTy cr_strX ok_str (by rfl) G.g_str (by rfl) (fa_cons (fe_var (by rfl) (.inl (by rfl))) fa_nil)))) fa_nil)) fa_nil))))) (fs_cons (fs_set S_law.nd (by rfl) (.inl (by rfl)) (fe_bmS PySem.F.slot_str_join PySem.F.type_str_join mt_joinX ok_join fe_str (fa_cons (fe_op op_addX ok_add (fe_var (by rfl) (.inl (by rfl))) (fe_lst (fa_cons fe_str fa_nil))) fa_nil))) (fs_cons (fs_if (FW.ft (fw_or (ft_cmp op_isnotX ok_is (fe_cal c_is_log (by rfl) (fa_cons (fe_var (by rfl) (.inl (by rfl))) fa_nil)) fe_bl (by rfl)) (fw_or (ft_cmp (op_neD hu) ok_ne (fe_cal c_log_text (by rfl) (fa_cons (fe_var (by rfl) (.inl (by rfl))) fa_nil)) (fe_var (by rfl) (.inl (by rfl))) (by rfl)) (fw_or1 (ft_not (ft_truth (fe_cal c__law_alike (by rfl) (fa_cons (fe_cal c_read_log (by rfl) (fa_cons (fe_var (by rfl) (.inl (by rfl))) fa_nil)) (fa_cons (fe_var (by rfl) (.inl (by rfl))) fa_nil))) (fun _ => rfl))))))) (fs_one (fs_ret fe_bl)) fs_nil) (fs_cons (fs_for hp hc (fi_range1 (by rfl) G.g_range (fa_cons fe_int fa_nil)) (fg_name S_law.nd (by rfl) (.inl (by rfl))) (fs_cons (fs_par3 hc S_law.nd (by rfl) (by rfl) (by rfl) (by decide) (by decide) (by decide) (by rfl) (by rfl) (by rfl) (fe_calIo i__law_take tk (by rfl) (fa_cons (fe_var (by rfl) (.inl (by rfl))) (fa_cons (fe_op op_addX ok_add (fe_callB cr_lenX ok_len (by rfl) G.g_len (by rfl) (fa_cons (fe_var (by rfl) (.inl (by rfl))) fa_nil)) fe_int) fa_nil))) (fe_calIo i__law_take tk (by rfl) (fa_cons (fe_var (by rfl) (.inl (by rfl))) (fa_cons fe_int fa_nil))) (fe_var (by rfl) (.inl (by rfl))) (by rfl)) (fs_cons (fs_set S_law.nd (by rfl) (.inl (by rfl)) (fe_calIo i__law_some tk (by rfl) (fa_cons (fe_var (by rfl) (.inl (by rfl))) (fa_cons (fe_callTy (cr_lstX hc) ok_lstX (by rfl) G.g_list (by rfl) (fa_cons fe_str fa_nil)) fa_nil)))) (fs_cons (fs_set S_law.nd (by rfl) (.inl (by rfl)) (fe_ite (ft_cmp (op_eqD hu) ok_eq (fe_var (by rfl) (.inl (by rfl))) fe_int (by rfl)) (fe_op op_addX ok_add (fe_op op_addX ok_add (fe_sl (fe_var (by rfl) (.inl (by rfl))) fo_none (fo_some (fe_var (by rfl) (.inl (by rfl))))) (fe_var (by rfl) (.inl (by rfl)))) (fe_sl (fe_var (by rfl) (.inl (by rfl))) (fo_some (fe_op op_addX ok_add (fe_var (by rfl) (.inl (by rfl))) fe_int)) fo_none)) (fe_ite (ft_cmp (op_eqD hu) ok_eq (fe_var (by rfl) (.inl (by rfl))) fe_int (by rfl)) (fe_op op_addX ok_add (fe_op op_addX ok_add (fe_sl (fe_var (by rfl) (.inl (by rfl))) fo_none (fo_some (fe_var (by rfl) (.inl (by rfl))))) (fe_var (by rfl) (.inl (by rfl)))) (fe_sl (fe_var (by rfl) (.inl (by rfl))) (fo_some (fe_var (by rfl) (.inl (by rfl)))) fo_none)) (fe_ite (ft_cmp (op_eqD hu) ok_eq (fe_var (by rfl) (.inl (by rfl))) fe_int (by rfl)) (fe_op op_addX ok_add (fe_sl (fe_var (by rfl) (.inl (by rfl))) fo_none (fo_some (fe_var (by rfl) (.inl (by rfl))))) (fe_sl (fe_var (by rfl) (.inl (by rfl))) (fo_some (fe_op op_addX ok_add (fe_var (by rfl) (.inl (by rfl))) fe_int)) fo_none)) (fe_sl (fe_var (by rfl) (.inl (by rfl))) fo_none (fo_some (fe_var (by rfl) (.inl (by rfl))))))))) (fs_cons (fs_set S_law.nd (by rfl) (.inl (by rfl)) (fe_bmS PySem.F.slot_str_split PySem.F.type_str_split mt_splitX ok_split (fe_var (by rfl) (.inl (by rfl))) (fa_cons fe_str fa_nil))) (fs_cons (fs_if (FW.ft (fw_and (ft_cmp (op_eqD hu) ok_eq (fe_ix ix_seq ok_ix (fe_var (by rfl) (.inl (by rfl))) (fe_neg fe_int) (by intro o i; rfl)) fe_str (by rfl)) (fw_and1 (ft_cmp (op_eqD hu) ok_eq (fe_lcB (N := 18) cm S_law.nd (by rfl) (fib_seq (fe_sl (fe_var (by rfl) (.inl (by rfl))) fo_none (fo_some (fe_neg fe_int)))) (own := [("row", 17)]) (by show BlkOk N_law (defScope s_law) _ _; exact ⟨rfl, by decide +kernel, by decide +kernel, by decide +kernel, by decide +kernel⟩) (fun _ _ _ _ _ => fg_name S_law.nd (by rfl) (.inl (by rfl))) (fun _ _ _ _ _ => (fps_one (ft_not (ft_truth (fe_cal c__law_is_line.bk (by rfl) (fa_cons (fe_var (by rfl) (.inl (by rfl))) fa_nil)) (fun _ => rfl))))) (fun _ _ _ _ _ => (fe_var (by rfl) (.inl (by rfl))))) (fe_lst fa_nil) (by rfl))))) (fs_cons (fs_if (ft_not (ft_truth (fe_cal c__law_alike (by rfl) (fa_cons (fe_cal c_log_text (by rfl) (fa_cons (fe_cal c_read_log (by rfl) (fa_cons (fe_var (by rfl) (.inl (by rfl))) fa_nil)) fa_nil)) (fa_cons (fe_var (by rfl) (.inl (by rfl))) fa_nil))) (fun _ => rfl))) (fs_one (fs_ret fe_bl)) fs_nil) (fs_one fs_continue)) fs_nil) (fs_one (fs_tryX xf xl xc hs hf S_law.nd (by rfl) (by rfl) gBt (by rfl) (by decide) tkN teB hu (by decide) (by decide) (by decide) (fun W' pn xe tk' hp' => fs_cons (fs_expr (fe_callN F_read_log hrt_read_log (by rfl) m_read_log k_read_log bn_read_log tk' (fa_cons (fe_var (by rfl) (.inl (by rfl))) fa_nil))) (fs_one (fs_ret fe_bl))) (fun a oe cls d pn hz hv => fe_cal (h__law_place a oe cls d pn hz hv) (by rfl) (fa_cons (fe_var (by rfl) (.inl (by rfl))) fa_nil)) (fun _ _ _ _ _ _ _ => (fs_one (fs_ret fe_bl))))))))))) (fs_cons (fs_for hp hc (fi_seq (fe_tup (fa_cons fe_non (fa_cons fe_int (fa_cons (fe_tup (fa_cons (fe_tup (fa_cons fe_str (fa_cons fe_int fa_nil))) fa_nil)) (fa_cons (fe_tup (fa_cons (fe_tup (fa_cons fe_str (fa_cons fe_int (fa_cons fe_str fa_nil)))) fa_nil)) (fa_cons (fe_tup (fa_cons (fe_tup (fa_cons fe_str (fa_cons fe_int fa_nil))) fa_nil)) (fa_cons (fe_tup (fa_cons fe_str fa_nil)) (fa_cons (fe_tup (fa_cons (fe_tup (fa_cons fe_str fa_nil)) fa_nil)) (fa_cons (fe_tup (fa_cons (fe_tup (fa_cons fe_str (fa_cons fe_bl fa_nil))) fa_nil)) (fa_cons (fe_tup (fa_cons (fe_tup (fa_cons fe_str (fa_cons (fe_neg fe_int) (fa_cons fe_str fa_nil)))) fa_nil)) fa_nil))))))))))) (fg_name S_law.nd (by rfl) (.inl (by rfl))) (fs_cons (fs_if (ft_cmp op_isnotX ok_is (fe_cal c_is_log (by rfl) (fa_cons (fe_var (by rfl) (.inl (by rfl))) fa_nil)) fe_bl (by rfl)) (fs_one (fs_ret fe_bl)) fs_nil) (fs_one (fs_tryN hs hf nC.g nC.te (by rfl) (by decide) tk (fun W' pn xe tk' hp' => fs_cons (fs_expr (fe_call F_log_text hrt_log_text (by rfl) m_log_text k_log_text bn_log_text tk' (fa_cons (fe_var (by rfl) (.inl (by rfl))) fa_nil))) (fs_one (fs_ret fe_bl))) (fun _ _ _ _ _ _ _ => (fs_one fs_continue)))))) (fs_one (fs_ret fe_bl)))))))))))
end KW

set_option maxRecDepth 100000
set_option maxHeartbeats 4000000
namespace KW
open PySem PySem.Spec L2 DZ
open PyProof.Rows hiding St
open L2H (HotC Hot1 FnH RoomH roomH_of roomH_mark)
/-- a def of the text, written at the top -/
def Dn (K : PySem.W.Frag) (mg : Str → Option Value) (x : Str) (st : Stmt) : Prop := ∃ p fd, Fun K x x st p fd ∧ mg x = some (.ref p)
theorem dn_mk {K : PySem.W.Frag} {h : Heap} {mg : Str → Option Value} {x : Str} {st : Stmt} (X : K.In h) (G : h.Ns mainGlobals mg) {f : Addr} {oc : Value} {od an : Option Addr} {osl : Array (Option Value)} {kV doc pm cdv ct : Value} (a : PySem.W.nsIn K mainGlobals x = some (some (.ref f)))
    (l : K.lookup f = some ⟨oc, od, .func (PySem.W.fnOf x x (defArgs st) (defBody st) (defScope st) .none kV doc pm an cdv ct), osl⟩) (c : PySem.W.codeIn K cdv x = true) (k : PySem.W.keepIn K (.ref f) = true) : Dn K mg x st := ⟨f, _, fun_mk l c k, PySem.W.mg_of X G a⟩
section
variable (P : Program) (w : World) (K : PySem.W.Frag) (mg : Str → Option Value) (base : Heap)
def Ok (CX : CXT) (k : Nat) (x : Str) (ps : List Str) (io : Bool) (n : Nat) (C : List SV → Fo) : Prop := ∃ p fd, mg x = some (.ref p) ∧ PySem.W.keepIn K (.ref p) = true ∧ L2.Binds K fd ps [] ∧ FnOk P w K mg base CX k p fd ps (spF mg io n C)
def OkG (k : Nat) (x : Str) (ps : List Str) (io : Bool) (n : Nat) (C : List SV → Fo) : Prop := ∃ p fd, mg x = some (.ref p) ∧ PySem.W.keepIn K (.ref p) = true ∧ L2.Binds K fd ps [] ∧ FnG P w K mg base k p fd ps (spF mg io n C)
def OkH (k : Nat) (x : Str) (ps : List Str) (n : Nat) (C : List SV → Fo) : Prop := ∃ p fd, mg x = some (.ref p) ∧ PySem.W.keepIn K (.ref p) = true ∧ L2.Binds K fd ps [] ∧ FnH P w K mg base (L2.CX P w) k p fd ps (spF mg false n C)
end
section
variable {X : Cx} {k : Nat} {x : Str} {ps : List Str} {n : Nat} {C : List SV → Fo}
theorem Ok.cal (o : Ok X.prog X.w X.K X.mg X.base (L2.CX X.prog X.w) k x ps false n C) (hr : Room k X.A) : Cal X x n C := let ⟨_, _, m, kp, b, F⟩ := o; Cal.of F hr m kp b
theorem Ok.calN (o : Ok X.prog X.w X.K X.mg X.base (L2N.CX X.prog X.w) k x ps false n C) (hr : Room k X.A) : Cal X x n C := let ⟨_, _, m, kp, b, F⟩ := o; Cal.ofN F hr m kp b
theorem Ok.calIo (o : Ok X.prog X.w X.K X.mg X.base (L2.CX X.prog X.w) k x ps true n C) (hr : Room k X.A) : CalIo X x n C := let ⟨_, _, m, kp, b, F⟩ := o; CalIo.of F hr m kp b
theorem OkG.cal (o : OkG X.prog X.w X.K X.mg X.base k x ps false n C) (gd : X.A.guards = some []) (hr : Room k X.A) : Cal X x n C := let ⟨_, _, m, kp, b, F⟩ := o; Cal.ofG F gd hr m kp b
theorem OkH.cal (o : OkH X.prog X.w X.K X.mg X.base k x ps n C) (hr : RoomH k X.A) (c0 : X.calm = false) (hc : HotC X) : Cal X x n C := let ⟨_, _, m, kp, b, F⟩ := o; Cal.ofH F hr c0 hc m kp b
theorem roomH_mono {j k : Nat} {A : Around} (r : RoomH k A) (h : j ≤ k) : RoomH j A := L2H.RoomH.mono r h
theorem roomH_u {k : Nat} {A : Around} (r : RoomH k A) : A.units + 64 < cLine := by have := r.un; omega
end
section
variable {P : Program} {w : World} {K : PySem.W.Frag} {mg : Str → Option Value} {base : Heap}

theorem ok_is_integer (G : Gm K mg) (D : Dn K mg "is_integer" s_is_integer)  : Ok P w K mg base (L2.CX P w) 1 "is_integer" ["thing"] false 1 f_is_integer := by
  obtain ⟨p, fd, F, m⟩ := D
  refine ⟨p, fd, m, F.kp, F.binds fun _ _ _ _ _ _ us hl => match us, hl with | [_], _ => rfl, fn_ok (io := false) F S_is_integer rfl (by decide) fun X W => ?_⟩
  rintro rfl rfl rfl rfl rfl hN hsc hc hr tk hp hs hf hfn
  exact d_is_integer hN hsc G 
theorem ok_is_count (G : Gm K mg) (D : Dn K mg "is_count" s_is_count) (o_is_integer : Ok P w K mg base (L2.CX P w) 1 "is_integer" ["thing"] false 1 f_is_integer) : Ok P w K mg base (L2.CX P w) 2 "is_count" ["thing"] false 1 f_is_count := by
  obtain ⟨p, fd, F, m⟩ := D
  refine ⟨p, fd, m, F.kp, F.binds fun _ _ _ _ _ _ us hl => match us, hl with | [_], _ => rfl, fn_ok (io := false) F S_is_count rfl (by decide) fun X W => ?_⟩
  rintro rfl rfl rfl rfl rfl hN hsc hc hr tk hp hs hf hfn
  exact d_is_count hN hsc G ((o_is_integer).cal (hr.mono (by decide)))
theorem ok_is_sign (G : Gm K mg) (D : Dn K mg "is_sign" s_is_sign)  : Ok P w K mg base (L2.CX P w) 1 "is_sign" ["thing"] false 1 f_is_sign := by
  obtain ⟨p, fd, F, m⟩ := D
  refine ⟨p, fd, m, F.kp, F.binds fun _ _ _ _ _ _ us hl => match us, hl with | [_], _ => rfl, fn_ok (io := false) F S_is_sign rfl (by decide) fun X W => ?_⟩
  rintro rfl rfl rfl rfl rfl hN hsc hc hr tk hp hs hf hfn
  exact d_is_sign hN hsc G hr.units
theorem ok_is_small (G : Gm K mg) (D : Dn K mg "is_small" s_is_small) (o_is_count : Ok P w K mg base (L2.CX P w) 2 "is_count" ["thing"] false 1 f_is_count) : Ok P w K mg base (L2.CX P w) 3 "is_small" ["thing"] false 1 f_is_small := by
  obtain ⟨p, fd, F, m⟩ := D
  refine ⟨p, fd, m, F.kp, F.binds fun _ _ _ _ _ _ us hl => match us, hl with | [_], _ => rfl, fn_ok (io := false) F S_is_small rfl (by decide) fun X W => ?_⟩
  rintro rfl rfl rfl rfl rfl hN hsc hc hr tk hp hs hf hfn
  exact d_is_small hN hsc G ((o_is_count).cal (hr.mono (by decide)))
theorem ok_is_logged (G : Gm K mg) (D : Dn K mg "is_logged" s_is_logged) (o_is_small : Ok P w K mg base (L2.CX P w) 3 "is_small" ["thing"] false 1 f_is_small) (o_is_sign : Ok P w K mg base (L2.CX P w) 1 "is_sign" ["thing"] false 1 f_is_sign) : Ok P w K mg base (L2.CX P w) 4 "is_logged" ["thing"] false 1 f_is_logged := by
  obtain ⟨p, fd, F, m⟩ := D
  refine ⟨p, fd, m, F.kp, F.binds fun _ _ _ _ _ _ us hl => match us, hl with | [_], _ => rfl, fn_ok (io := false) F S_is_logged rfl (by decide) fun X W => ?_⟩
  rintro rfl rfl rfl rfl rfl hN hsc hc hr tk hp hs hf hfn
  exact d_is_logged hN hsc G hr.units ((o_is_small).cal (hr.mono (by decide))) ((o_is_sign).cal (hr.mono (by decide)))
theorem ok_is_log (G : Gm K mg) (D : Dn K mg "is_log" s_is_log) (o_is_logged : Ok P w K mg base (L2.CX P w) 4 "is_logged" ["thing"] false 1 f_is_logged) : Ok P w K mg base (L2.CX P w) 5 "is_log" ["thing"] false 1 f_is_log := by
  obtain ⟨p, fd, F, m⟩ := D
  refine ⟨p, fd, m, F.kp, F.binds fun _ _ _ _ _ _ us hl => match us, hl with | [_], _ => rfl, fn_ok (io := false) F S_is_log rfl (by decide) fun X W => ?_⟩
  rintro rfl rfl rfl rfl rfl hN hsc hc hr tk hp hs hf hfn
  exact d_is_log hN hsc G hc (.inl hc) ((o_is_logged).cal (hr.mono (by decide)))
theorem ok_line_of (G : Gm K mg) (D : Dn K mg "line_of" s_line_of)  : Ok P w K mg base (L2.CX P w) 1 "line_of" ["event"] false 1 f_line_of := by
  obtain ⟨p, fd, F, m⟩ := D
  refine ⟨p, fd, m, F.kp, F.binds fun _ _ _ _ _ _ us hl => match us, hl with | [_], _ => rfl, fn_ok (io := false) F S_line_of rfl (by decide) fun X W => ?_⟩
  rintro rfl rfl rfl rfl rfl hN hsc hc hr tk hp hs hf hfn
  exact d_line_of hN hsc G (.inl hc)
theorem ok_log_text (G : Gm K mg) (D : Dn K mg "log_text" s_log_text) (o_line_of : Ok P w K mg base (L2.CX P w) 1 "line_of" ["event"] false 1 f_line_of) (o_is_log : Ok P w K mg base (L2.CX P w) 5 "is_log" ["thing"] false 1 f_is_log) {CN : Addr} (nC : NoC K mg CN) : Ok P w K mg base (L2.CX P w) 6 "log_text" ["log"] false 1 f_log_text := by
  obtain ⟨p, fd, F, m⟩ := D
  refine ⟨p, fd, m, F.kp, F.binds fun _ _ _ _ _ _ us hl => match us, hl with | [_], _ => rfl, fn_ok (io := false) F S_log_text rfl (by decide) fun X W => ?_⟩
  rintro rfl rfl rfl rfl rfl hN hsc hc hr tk hp hs hf hfn
  exact d_log_text hN hsc G hc (.inl hc) ((o_line_of).cal (hr.mono (by decide))) ((o_is_log).cal (hr.mono (by decide))) tk nC
theorem ok_number_gone (G : Gm K mg) (D : Dn K mg "number_gone" s_number_gone)  : Ok P w K mg base (L2.CX P w) 1 "number_gone" ["text", "at"] false 2 f_number_gone := by
  obtain ⟨p, fd, F, m⟩ := D
  refine ⟨p, fd, m, F.kp, F.binds fun _ _ _ _ _ _ us hl => match us, hl with | [_, _], _ => rfl, fn_ok (io := false) F S_number_gone rfl (by decide) fun X W => ?_⟩
  rintro rfl rfl rfl rfl rfl hN hsc hc hr tk hp hs hf hfn
  exact d_number_gone hN hsc G hr.units hp
theorem ok_word_gone (G : Gm K mg) (D : Dn K mg "word_gone" s_word_gone)  : Ok P w K mg base (L2.CX P w) 1 "word_gone" ["text", "words"] false 2 f_word_gone := by
  obtain ⟨p, fd, F, m⟩ := D
  refine ⟨p, fd, m, F.kp, F.binds fun _ _ _ _ _ _ us hl => match us, hl with | [_, _], _ => rfl, fn_ok (io := false) F S_word_gone rfl (by decide) fun X W => ?_⟩
  rintro rfl rfl rfl rfl rfl hN hsc hc hr tk hp hs hf hfn
  exact d_word_gone hN hsc G hr.units hp hc
theorem ok_over_line (G : Gm K mg) (D : Dn K mg "over_line" s_over_line) (o_number_gone : Ok P w K mg base (L2.CX P w) 1 "number_gone" ["text", "at"] false 2 f_number_gone) : Ok P w K mg base (L2.CX P w) 2 "over_line" ["text"] false 1 f_over_line := by
  obtain ⟨p, fd, F, m⟩ := D
  refine ⟨p, fd, m, F.kp, F.binds fun _ _ _ _ _ _ us hl => match us, hl with | [_], _ => rfl, fn_ok (io := false) F S_over_line rfl (by decide) fun X W => ?_⟩
  rintro rfl rfl rfl rfl rfl hN hsc hc hr tk hp hs hf hfn
  exact d_over_line hN hsc G hr.units ((o_number_gone).cal (hr.mono (by decide)))
theorem ok_sign_line (G : Gm K mg) (D : Dn K mg "sign_line" s_sign_line) (o_is_sign : Ok P w K mg base (L2.CX P w) 1 "is_sign" ["thing"] false 1 f_is_sign) (o_number_gone : Ok P w K mg base (L2.CX P w) 1 "number_gone" ["text", "at"] false 2 f_number_gone) : Ok P w K mg base (L2.CX P w) 2 "sign_line" ["text"] false 1 f_sign_line := by
  obtain ⟨p, fd, F, m⟩ := D
  refine ⟨p, fd, m, F.kp, F.binds fun _ _ _ _ _ _ us hl => match us, hl with | [_], _ => rfl, fn_ok (io := false) F S_sign_line rfl (by decide) fun X W => ?_⟩
  rintro rfl rfl rfl rfl rfl hN hsc hc hr tk hp hs hf hfn
  exact d_sign_line hN hsc G hr.units ((o_is_sign).cal (hr.mono (by decide))) ((o_number_gone).cal (hr.mono (by decide)))
theorem ok_gone_of_line (G : Gm K mg) (D : Dn K mg "gone_of_line" s_gone_of_line) (o_word_gone : Ok P w K mg base (L2.CX P w) 1 "word_gone" ["text", "words"] false 2 f_word_gone) (o_sign_line : Ok P w K mg base (L2.CX P w) 2 "sign_line" ["text"] false 1 f_sign_line) (o_over_line : Ok P w K mg base (L2.CX P w) 2 "over_line" ["text"] false 1 f_over_line) : Ok P w K mg base (L2.CX P w) 3 "gone_of_line" ["text", "words"] false 2 f_gone_of_line := by
  obtain ⟨p, fd, F, m⟩ := D
  refine ⟨p, fd, m, F.kp, F.binds fun _ _ _ _ _ _ us hl => match us, hl with | [_, _], _ => rfl, fn_ok (io := false) F S_gone_of_line rfl (by decide) fun X W => ?_⟩
  rintro rfl rfl rfl rfl rfl hN hsc hc hr tk hp hs hf hfn
  exact d_gone_of_line hN hsc G hr.units ((o_word_gone).cal (hr.mono (by decide))) ((o_sign_line).cal (hr.mono (by decide))) ((o_over_line).cal (hr.mono (by decide)))
theorem ok_end_line (G : Gm K mg) (D : Dn K mg "end_line" s_end_line) (o_word_gone : Ok P w K mg base (L2.CX P w) 1 "word_gone" ["text", "words"] false 2 f_word_gone) : Ok P w K mg base (L2.CX P w) 2 "end_line" ["text"] false 1 f_end_line := by
  obtain ⟨p, fd, F, m⟩ := D
  refine ⟨p, fd, m, F.kp, F.binds fun _ _ _ _ _ _ us hl => match us, hl with | [_], _ => rfl, fn_ok (io := false) F S_end_line rfl (by decide) fun X W => ?_⟩
  rintro rfl rfl rfl rfl rfl hN hsc hc hr tk hp hs hf hfn
  exact d_end_line hN hsc G hr.units ((o_word_gone).cal (hr.mono (by decide)))
theorem ok_read_log (G : Gm K mg) (D : Dn K mg "read_log" s_read_log) (o_gone_of_line : Ok P w K mg base (L2.CX P w) 3 "gone_of_line" ["text", "words"] false 2 f_gone_of_line) (o_end_line : Ok P w K mg base (L2.CX P w) 2 "end_line" ["text"] false 1 f_end_line) {CB fI : Addr} (tBt : DX.BtC P K mg CB fI) (gBt : mg "BadText" = some (.ref CB)) : Ok P w K mg base (L2N.CX P w) 4 "read_log" ["text"] false 1 f_read_log := by
  obtain ⟨p, fd, F, m⟩ := D
  refine ⟨p, fd, m, F.kp, F.binds fun _ _ _ _ _ _ us hl => match us, hl with | [_], _ => rfl, fn_okN F S_read_log rfl (by decide) fun X W => ?_⟩
  rintro rfl rfl rfl rfl rfl hN hsc hc hr tkN hp hs hf hfn
  exact d_read_log hN hsc G hr.units hp hc ((o_gone_of_line).cal (hr.mono (by decide))) ((o_end_line).cal (hr.mono (by decide))) tBt gBt tkN (k := 1) (hr.mono (by decide))
theorem ok__law_bag (G : Gm K mg) (D : Dn K mg "_law_bag" s__law_bag)  : Ok P w K mg base (L2.CX P w) 1 "_law_bag" ["script"] false 1 f__law_bag := by
  obtain ⟨p, fd, F, m⟩ := D
  refine ⟨p, fd, m, F.kp, F.binds fun _ _ _ _ _ _ us hl => match us, hl with | [_], _ => rfl, fn_ok (io := false) F S__law_bag rfl (by decide) fun X W => ?_⟩
  rintro rfl rfl rfl rfl rfl hN hsc hc hr tk hp hs hf hfn
  exact d__law_bag hN hsc G (.inl hc)
theorem ok__law_take (G : Gm K mg) (D : Dn K mg "_law_take" s__law_take)  : Ok P w K mg base (L2.CX P w) 1 "_law_take" ["bag", "many"] true 2 f__law_take := by
  obtain ⟨p, fd, F, m⟩ := D
  refine ⟨p, fd, m, F.kp, F.binds fun _ _ _ _ _ _ us hl => match us, hl with | [_, _], _ => rfl, fn_ok (io := true) F S__law_take rfl (by decide) fun X W => ?_⟩
  rintro rfl rfl rfl rfl rfl hN hsc hc hr tk hp hs hf hfn
  exact d__law_take hN hsc G hr.units
theorem ok__law_some (G : Gm K mg) (D : Dn K mg "_law_some" s__law_some) (o__law_take : Ok P w K mg base (L2.CX P w) 1 "_law_take" ["bag", "many"] true 2 f__law_take) : Ok P w K mg base (L2.CX P w) 2 "_law_some" ["bag", "things"] true 2 f__law_some := by
  obtain ⟨p, fd, F, m⟩ := D
  refine ⟨p, fd, m, F.kp, F.binds fun _ _ _ _ _ _ us hl => match us, hl with | [_, _], _ => rfl, fn_ok (io := true) F S__law_some rfl (by decide) fun X W => ?_⟩
  rintro rfl rfl rfl rfl rfl hN hsc hc hr tk hp hs hf hfn
  exact d__law_some hN hsc G ((o__law_take).calIo (hr.mono (by decide))) tk
theorem ok__law_alike (G : Gm K mg) (D : Dn K mg "_law_alike" s__law_alike)  : OkG P w K mg base 1 "_law_alike" ["found", "due"] false 2 f__law_alike := by
  obtain ⟨p, fd, F, m⟩ := D
  refine ⟨p, fd, m, F.kp, F.binds fun _ _ _ _ _ _ us hl => match us, hl with | [_, _], _ => rfl, fn_okG (io := false) F S__law_alike rfl (by decide) fun X W => ?_⟩
  rintro rfl rfl rfl rfl rfl hN hsc hc hr tk hp hs hf hfn gd
  exact d__law_alike hN hsc G hr.units gd
theorem ok__law_is_figures (G : Gm K mg) (D : Dn K mg "_law_is_figures" s__law_is_figures)  : Ok P w K mg base (L2.CX P w) 1 "_law_is_figures" ["signs"] false 1 f__law_is_figures := by
  obtain ⟨p, fd, F, m⟩ := D
  refine ⟨p, fd, m, F.kp, F.binds fun _ _ _ _ _ _ us hl => match us, hl with | [_], _ => rfl, fn_ok (io := false) F S__law_is_figures rfl (by decide) fun X W => ?_⟩
  rintro rfl rfl rfl rfl rfl hN hsc hc hr tk hp hs hf hfn
  exact d__law_is_figures hN hsc G hr.units (.inl hc)
theorem oh__law_is_figures (G : Gm K mg) (D : Dn K mg "_law_is_figures" s__law_is_figures)  : OkH P w K mg base 1 "_law_is_figures" ["signs"] 1 f__law_is_figures := by
  obtain ⟨p, fd, F, m⟩ := D
  refine ⟨p, fd, m, F.kp, F.binds fun _ _ _ _ _ _ us hl => match us, hl with | [_], _ => rfl, fn_okH F S__law_is_figures rfl (by decide) fun X W => ?_⟩
  rintro rfl rfl rfl rfl rfl hN hsc hc hot hr hp hfn
  exact d__law_is_figures hN hsc G (roomH_u hr) (.inr ⟨hc, hot⟩)
theorem ok__law_line_goes_on (G : Gm K mg) (D : Dn K mg "_law_line_goes_on" s__law_line_goes_on) (o__law_is_figures : Ok P w K mg base (L2.CX P w) 1 "_law_is_figures" ["signs"] false 1 f__law_is_figures) : Ok P w K mg base (L2.CX P w) 2 "_law_line_goes_on" ["line"] false 1 f__law_line_goes_on := by
  obtain ⟨p, fd, F, m⟩ := D
  refine ⟨p, fd, m, F.kp, F.binds fun _ _ _ _ _ _ us hl => match us, hl with | [_], _ => rfl, fn_ok (io := false) F S__law_line_goes_on rfl (by decide) fun X W => ?_⟩
  rintro rfl rfl rfl rfl rfl hN hsc hc hr tk hp hs hf hfn
  exact d__law_line_goes_on hN hsc G hr.units hp (.inl hc) ((o__law_is_figures).cal (hr.mono (by decide)))
theorem oh__law_line_goes_on (G : Gm K mg) (D : Dn K mg "_law_line_goes_on" s__law_line_goes_on) (h__law_is_figures : OkH P w K mg base 1 "_law_is_figures" ["signs"] 1 f__law_is_figures) : OkH P w K mg base 2 "_law_line_goes_on" ["line"] 1 f__law_line_goes_on := by
  obtain ⟨p, fd, F, m⟩ := D
  refine ⟨p, fd, m, F.kp, F.binds fun _ _ _ _ _ _ us hl => match us, hl with | [_], _ => rfl, fn_okH F S__law_line_goes_on rfl (by decide) fun X W => ?_⟩
  rintro rfl rfl rfl rfl rfl hN hsc hc hot hr hp hfn
  exact d__law_line_goes_on hN hsc G (roomH_u hr) hp (.inr ⟨hc, hot⟩) ((h__law_is_figures).cal (roomH_mono hr (by decide)) hc hot)
theorem ok__law_is_line (G : Gm K mg) (D : Dn K mg "_law_is_line" s__law_is_line) (o__law_is_figures : Ok P w K mg base (L2.CX P w) 1 "_law_is_figures" ["signs"] false 1 f__law_is_figures) : Ok P w K mg base (L2.CX P w) 2 "_law_is_line" ["line"] false 1 f__law_is_line := by
  obtain ⟨p, fd, F, m⟩ := D
  refine ⟨p, fd, m, F.kp, F.binds fun _ _ _ _ _ _ us hl => match us, hl with | [_], _ => rfl, fn_ok (io := false) F S__law_is_line rfl (by decide) fun X W => ?_⟩
  rintro rfl rfl rfl rfl rfl hN hsc hc hr tk hp hs hf hfn
  exact d__law_is_line hN hsc G hr.units ((o__law_is_figures).cal (hr.mono (by decide)))
theorem oh__law_is_line (G : Gm K mg) (D : Dn K mg "_law_is_line" s__law_is_line) (h__law_is_figures : OkH P w K mg base 1 "_law_is_figures" ["signs"] 1 f__law_is_figures) : OkH P w K mg base 2 "_law_is_line" ["line"] 1 f__law_is_line := by
  obtain ⟨p, fd, F, m⟩ := D
  refine ⟨p, fd, m, F.kp, F.binds fun _ _ _ _ _ _ us hl => match us, hl with | [_], _ => rfl, fn_okH F S__law_is_line rfl (by decide) fun X W => ?_⟩
  rintro rfl rfl rfl rfl rfl hN hsc hc hot hr hp hfn
  exact d__law_is_line hN hsc G (roomH_u hr) ((h__law_is_figures).cal (roomH_mono hr (by decide)) hc hot)
theorem ok__law_goes_on (G : Gm K mg) (D : Dn K mg "_law_goes_on" s__law_goes_on) (o__law_is_line : Ok P w K mg base (L2.CX P w) 2 "_law_is_line" ["line"] false 1 f__law_is_line) (o__law_line_goes_on : Ok P w K mg base (L2.CX P w) 2 "_law_line_goes_on" ["line"] false 1 f__law_line_goes_on) : Ok P w K mg base (L2.CX P w) 3 "_law_goes_on" ["text"] false 1 f__law_goes_on := by
  obtain ⟨p, fd, F, m⟩ := D
  refine ⟨p, fd, m, F.kp, F.binds fun _ _ _ _ _ _ us hl => match us, hl with | [_], _ => rfl, fn_ok (io := false) F S__law_goes_on rfl (by decide) fun X W => ?_⟩
  rintro rfl rfl rfl rfl rfl hN hsc hc hr tk hp hs hf hfn
  exact d__law_goes_on hN hsc G hr.units (.inl hc) ((o__law_is_line).cal (hr.mono (by decide))) ((o__law_line_goes_on).cal (hr.mono (by decide)))
theorem oh__law_goes_on (G : Gm K mg) (D : Dn K mg "_law_goes_on" s__law_goes_on) (h__law_is_line : OkH P w K mg base 2 "_law_is_line" ["line"] 1 f__law_is_line) (h__law_line_goes_on : OkH P w K mg base 2 "_law_line_goes_on" ["line"] 1 f__law_line_goes_on) : OkH P w K mg base 3 "_law_goes_on" ["text"] 1 f__law_goes_on := by
  obtain ⟨p, fd, F, m⟩ := D
  refine ⟨p, fd, m, F.kp, F.binds fun _ _ _ _ _ _ us hl => match us, hl with | [_], _ => rfl, fn_okH F S__law_goes_on rfl (by decide) fun X W => ?_⟩
  rintro rfl rfl rfl rfl rfl hN hsc hc hot hr hp hfn
  exact d__law_goes_on hN hsc G (roomH_u hr) (.inr ⟨hc, hot⟩) ((h__law_is_line).cal (roomH_mono hr (by decide)) hc hot) ((h__law_line_goes_on).cal (roomH_mono hr (by decide)) hc hot)
theorem ok__law_place (G : Gm K mg) (D : Dn K mg "_law_place" s__law_place) (o__law_goes_on : Ok P w K mg base (L2.CX P w) 3 "_law_goes_on" ["text"] false 1 f__law_goes_on) : Ok P w K mg base (L2.CX P w) 4 "_law_place" ["text"] false 1 f__law_place := by
  obtain ⟨p, fd, F, m⟩ := D
  refine ⟨p, fd, m, F.kp, F.binds fun _ _ _ _ _ _ us hl => match us, hl with | [_], _ => rfl, fn_ok (io := false) F S__law_place rfl (by decide) fun X W => ?_⟩
  rintro rfl rfl rfl rfl rfl hN hsc hc hr tk hp hs hf hfn
  exact d__law_place hN hsc G hp (.inl hc) ((o__law_goes_on).cal (hr.mono (by decide)))
theorem oh__law_place (G : Gm K mg) (D : Dn K mg "_law_place" s__law_place) (h__law_goes_on : OkH P w K mg base 3 "_law_goes_on" ["text"] 1 f__law_goes_on) : OkH P w K mg base 4 "_law_place" ["text"] 1 f__law_place := by
  obtain ⟨p, fd, F, m⟩ := D
  refine ⟨p, fd, m, F.kp, F.binds fun _ _ _ _ _ _ us hl => match us, hl with | [_], _ => rfl, fn_okH F S__law_place rfl (by decide) fun X W => ?_⟩
  rintro rfl rfl rfl rfl rfl hN hsc hc hot hr hp hfn
  exact d__law_place hN hsc G hp (.inr ⟨hc, hot⟩) ((h__law_goes_on).cal (roomH_mono hr (by decide)) hc hot)
end
end KW

set_option maxRecDepth 100000
set_option maxHeartbeats 4000000
namespace KW
open PySem PySem.Spec L2 DZ
open PyProof.Rows hiding St
open L2H (HotC Hot1 FnH RoomH roomH_of roomH_mark)
section
variable {P : Program} {w : World} {K : PySem.W.Frag} {mg : Str → Option Value} {base : Heap}
theorem g_law {p : Addr} {fd : FuncData} (G : Gm K mg) (F : Fun K "law" "law" s_law p fd) (o_is_log : Ok P w K mg base (L2.CX P w) 5 "is_log" ["thing"] false 1 f_is_log) (o_line : Ok P w K mg base (L2.CX P w) 2 "_law_is_line" ["line"] false 1 f__law_is_line)
    (o_read : Ok P w K mg base (L2N.CX P w) 4 "read_log" ["text"] false 1 f_read_log) (o_text : Ok P w K mg base (L2.CX P w) 6 "log_text" ["log"] false 1 f_log_text) (o_alike : OkG P w K mg base 1 "_law_alike" ["found", "due"] false 2 f__law_alike)
    (o_bag : Ok P w K mg base (L2.CX P w) 1 "_law_bag" ["script"] false 1 f__law_bag) (o_some : Ok P w K mg base (L2.CX P w) 2 "_law_some" ["bag", "things"] true 2 f__law_some) (o_take : Ok P w K mg base (L2.CX P w) 1 "_law_take" ["bag", "many"] true 2 f__law_take)
    (h_place : OkH P w K mg base 4 "_law_place" ["text"] 1 f__law_place) {CN CB : Addr} (nC : NoC K mg CN) (xf : XfC K CB) (xl : PySem.W.findIn K (.ref CB) "line" = some none) (xc : PySem.W.findIn K (.ref CB) "column" = some none) (gBt : mg "BadText" = some (.ref CB))
    (teB : PySem.W.exmOne K (.ref CB) (.ref CB) = some true) :
    FnG P w K mg base 8 p fd ["script"] (spL mg false 1 f_law) := by
  obtain ⟨pt, fdt, mt, kt, bt, Ft⟩ := o_text
  obtain ⟨pr, fdr, mr, kr, br, Fr⟩ := o_read
  refine fn_okL (io := false) F S_law rfl (by decide) fun X => ?_
  rintro rfl rfl rfl rfl rfl hN hsc hc hr hp hs hf hfn gd
  exact d_law hN hsc G hr.units hp hc (.inl hc) (o_is_log.cal (hr.mono (by decide))) (o_line.cal (hr.mono (by decide))) (Cal.ofN Fr (hr.mono (by decide)) mr kr br) (Cal.of Ft (hr.mono (by decide)) mt kt bt) (o_alike.cal gd (hr.mono (by decide))) (o_bag.cal (hr.mono (by decide))) (o_some.calIo (hr.mono (by decide))) (o_take.calIo (hr.mono (by decide)))
    hs hf takesF takesFN nC xf xl xc gBt teB (hr.mono (by decide)) Ft mt kt bt (hr.mono (by decide)) Fr mr kr br
    fun a oe cls d pn hz ⟨vs, hv⟩ => OkH.cal (X := X.suite a ((a, oe) :: pn)) h_place (roomH_mark (hr.mono (by decide)) _) rfl ⟨(a, oe), ⟨rfl, vs, hv, hz.2.2 vs hv⟩, List.mem_cons_self⟩
end

/-! ### the law's own call: the script's list is none of the text's objects -/
/-- the script's list, its items ints -/
def spEnd : Sp := fun vs H Q _ => ∃ (a : Addr) (ns : List Int), vs = [.ref a] ∧ ns.length ≤ 63 ∧ Rd H a (.lst (ns.map V.int)) ∧ ∀ H', Q (.bl true) H'
theorem flat_ints {J : Hp} : ∀ ns : List Int, RpAll J (ns.map V.int) (ns.map PyData.int)
  | [] => .nil
  | n :: ns => .cons (.int n) (flat_ints ns)
theorem end_of {mg : Str → Option Value} (pl : ∀ ns : List Int, ns.length ≤ 63 → f_law [.sc (.list (ns.map PyData.int))] = .ret (.fz (.bool true)) none) {vs : List V} {H : Hp} {Q : VK} {E : XK} (h : spEnd vs H Q E) : spL mg false 1 f_law vs H Q E := by
  obtain ⟨a, ns, rfl, hl, ha, q⟩ := h
  refine ⟨H, [.sc (.list (ns.map PyData.int))], rfl, ⟨Same.refl H, .cons ⟨a, _, _, rfl, rfl, ha, fun J => flat_ints ns⟩ .nil, fun i sv e => ?_⟩, ?_⟩
  · cases i with
    | zero => cases e; rfl
    | succ i => cases e
  · rw [pl ns hl]
    intro v I' H' _ _ ok _ _
    cases (show Rp I' v (.bool true) from ok)
    exact q H'
def noL (K : PySem.W.Frag) : Bool := K.all fun p => p.2.cls != .type "list"
theorem noL_of {K : PySem.W.Frag} (h : noL K = true) {a : Addr} {o : Obj} (e : K.lookup a = some o) : o.cls ≠ .type "list" := fun c => by
  have m : (a, o) ∈ K := by
    clear h c
    induction K with
    | nil => cases e
    | cons p r ih =>
      obtain ⟨b, u⟩ := p
      rw [List.lookup_cons] at e
      cases z : a == b with
      | true =>
        rw [z] at e
        cases e
        rw [beq_iff_eq.mp z]
        exact List.mem_cons_self
      | false =>
        rw [z] at e
        exact List.mem_cons_of_mem _ (ih e)
  have := List.all_eq_true.mp h _ m
  rw [c] at this
  simp at this
theorem walk_75 {l : PySem.W.OpenLaw} {k : Nat} {q : Program} {loose : List Str} {XP : (Str → Option Value) → Heap → Prop} {YP : World → Heap → Prop} {d : DefRec} {K : Params → PySem.W.Frag} {x : Str}
    (hn : l.most = some 63) (nodef : d.params.defaults = []) (room : Room k callerA) (hY : ∀ (w : World) (h : Heap), YP w h → (K w.params).In h) (nl : ∀ w : World, noL (K w.params) = true)
    (F : ∀ (w : World) (mg : Str → Option Value) (fa : Addr) (h : Heap), (K w.params).In h → h.Ns mainGlobals mg → mg d.name = some (.ref fa) →
      ∃ fd : FuncData, (∀ (s : Shared) (u : Value), BindsTo s fd ⟨[u], []⟩ [(x, u)]) ∧ ∀ base : Heap, (K w.params).In base → base.Ns mainGlobals mg → FnG l.prog w (K w.params) mg base k fa fd [x] spEnd) :
    PySem.W.WalkO q loose XP YP l.row.toRowW d [] (fun f vs => PySem.call f vs) := by
  refine Att.attach_call hn nodef fun w s0 s mg mb fa o pm cd doc a vs ns G Y ho hd hcd hmg hobj hints hlen hg => ?_
  obtain ⟨fd, bd, hF⟩ := F w mg fa _ (hY w _ Y) G.T.g hmg
  have inK := hY w _ Y
  have items := vals_ints hints
  have new : (K w.params).lookup a = none := by
    cases e : (K w.params).lookup a with
    | none => rfl
    | some u =>
      have z := inK a u e
      rw [hobj] at z
      cases z
      exact (noL_of (nl w) e rfl).elim
  have one : ∀ b u, (if b = a then some (cellOf a vs ns) else none) = some u → b = a ∧ u = cellOf a vs ns ∧ (K w.params).lookup a = none := fun b u z => by
    split at z
    · rename_i h; cases z; exact ⟨h, rfl, new⟩
    · cases z
  have hl : ns.length ≤ 63 := hlen
  refine law_at inK G.T.g G.T.b G.T.builtins G.T.nolimit hg hobj room hF bd one (fun b u z => ?_) ⟨a, ns, rfl, hl, .inr ⟨_, if_pos rfl⟩, fun _ => rfl⟩
  obtain ⟨rfl, rfl, _⟩ := one b u z
  exact ⟨hobj, by rw [List.length_map]; exact Nat.le_trans hl (by rw [sizeLine_eq]; decide), vs, _, items, hobj⟩
end KW

set_option maxRecDepth 100000
set_option maxHeartbeats 4000000
namespace KW
open PySem PySem.Spec L2 DZ
open PyProof.Rows hiding St
theorem kit_of {K : PySem.W.Frag} {T : String} (h : (["NoneType", "bool", "int", "str", "list", "tuple"].all fun t => kitB t T == some (isiAns T t)) = true) : KitT K T := fun t ht => kit_ty (beq_iff_eq.mp (List.all_eq_true.mp h t ht))
/-- an exception of the class at S is what «except S» takes -/
theorem exm_own {K : PySem.W.Frag} {S : Addr} (h1 : PySem.W.subIn K (.ref S) (.type "BaseException") = some true) (h2 : PySem.W.isClsIn K S = true) (h3 : PySem.W.typeIn K (.ref S) = some (.type "type")) (h4 : PySem.W.subIn K (.ref S) (.ref S) = some true) :
    PySem.W.exmOne K (.ref S) (.ref S) = some true := by
  have a : (PySem.W.subIn K (.ref S) (.type "BaseException") == some true) = true := by rw [h1]; rfl
  have b : ((PySem.W.clsIn K S).isSome && PySem.W.typeIn K (.ref S) == some (.type "type")) = true := by
    rw [show (PySem.W.clsIn K S).isSome = true from h2, h3]
    rfl
  show (if (PySem.W.subIn K (.ref S) (.type "BaseException") == some true) = true then (if ((PySem.W.clsIn K S).isSome && PySem.W.typeIn K (.ref S) == some (.type "type")) = true then PySem.W.subIn K (.ref S) (.ref S) else none) else none) = some true
  rw [if_pos a, if_pos b, h4]
set_option maxHeartbeats 0 in
theorem all_mk {P : Program} {w : World} {K : PySem.W.Frag} {h : Heap} {mg : Str → Option Value} {fa : Addr} (pl : ∀ ns : List Int, ns.length ≤ 63 → f_law [.sc (.list (ns.map PyData.int))] = .ret (.fz (.bool true)) none) (X : K.In h) (G : h.Ns mainGlobals mg) (hfa : mg "law" = some (.ref fa))
    {t_SIGNS : Tok} {t_SIGN : Tok} {t_OVER : Tok} {t_END : Tok} {t_MOST_LINES : Tok} {t_MOST_NUMBER : Tok} {aP nP : Addr} {dP : Option Addr} {sP : Array (Option Value)} {tP1 tP2 : Tok} {p_is_integer : Addr} {oc_is_integer : Value} {od_is_integer an_is_integer : Option Addr} {sl_is_integer : Array (Option Value)} {kV_is_integer dc_is_integer pm_is_integer cd_is_integer ct_is_integer : Value} {p_is_count : Addr} {oc_is_count : Value} {od_is_count an_is_count : Option Addr} {sl_is_count : Array (Option Value)} {kV_is_count dc_is_count pm_is_count cd_is_count ct_is_count : Value} {p_is_sign : Addr} {oc_is_sign : Value} {od_is_sign an_is_sign : Option Addr} {sl_is_sign : Array (Option Value)} {kV_is_sign dc_is_sign pm_is_sign cd_is_sign ct_is_sign : Value} {p_is_small : Addr} {oc_is_small : Value} {od_is_small an_is_small : Option Addr} {sl_is_small : Array (Option Value)} {kV_is_small dc_is_small pm_is_small cd_is_small ct_is_small : Value} {p_is_logged : Addr} {oc_is_logged : Value} {od_is_logged an_is_logged : Option Addr} {sl_is_logged : Array (Option Value)} {kV_is_logged dc_is_logged pm_is_logged cd_is_logged ct_is_logged : Value} {p_is_log : Addr} {oc_is_log : Value} {od_is_log an_is_log : Option Addr} {sl_is_log : Array (Option Value)} {kV_is_log dc_is_log pm_is_log cd_is_log ct_is_log : Value} {p_line_of : Addr} {oc_line_of : Value} {od_line_of an_line_of : Option Addr} {sl_line_of : Array (Option Value)} {kV_line_of dc_line_of pm_line_of cd_line_of ct_line_of : Value} {p_log_text : Addr} {oc_log_text : Value} {od_log_text an_log_text : Option Addr} {sl_log_text : Array (Option Value)} {kV_log_text dc_log_text pm_log_text cd_log_text ct_log_text : Value} {p_number_gone : Addr} {oc_number_gone : Value} {od_number_gone an_number_gone : Option Addr} {sl_number_gone : Array (Option Value)} {kV_number_gone dc_number_gone pm_number_gone cd_number_gone ct_number_gone : Value} {p_word_gone : Addr} {oc_word_gone : Value} {od_word_gone an_word_gone : Option Addr} {sl_word_gone : Array (Option Value)} {kV_word_gone dc_word_gone pm_word_gone cd_word_gone ct_word_gone : Value} {p_over_line : Addr} {oc_over_line : Value} {od_over_line an_over_line : Option Addr} {sl_over_line : Array (Option Value)} {kV_over_line dc_over_line pm_over_line cd_over_line ct_over_line : Value} {p_sign_line : Addr} {oc_sign_line : Value} {od_sign_line an_sign_line : Option Addr} {sl_sign_line : Array (Option Value)} {kV_sign_line dc_sign_line pm_sign_line cd_sign_line ct_sign_line : Value} {p_gone_of_line : Addr} {oc_gone_of_line : Value} {od_gone_of_line an_gone_of_line : Option Addr} {sl_gone_of_line : Array (Option Value)} {kV_gone_of_line dc_gone_of_line pm_gone_of_line cd_gone_of_line ct_gone_of_line : Value} {p_end_line : Addr} {oc_end_line : Value} {od_end_line an_end_line : Option Addr} {sl_end_line : Array (Option Value)} {kV_end_line dc_end_line pm_end_line cd_end_line ct_end_line : Value} {p_read_log : Addr} {oc_read_log : Value} {od_read_log an_read_log : Option Addr} {sl_read_log : Array (Option Value)} {kV_read_log dc_read_log pm_read_log cd_read_log ct_read_log : Value} {p__law_bag : Addr} {oc__law_bag : Value} {od__law_bag an__law_bag : Option Addr} {sl__law_bag : Array (Option Value)} {kV__law_bag dc__law_bag pm__law_bag cd__law_bag ct__law_bag : Value} {p__law_take : Addr} {oc__law_take : Value} {od__law_take an__law_take : Option Addr} {sl__law_take : Array (Option Value)} {kV__law_take dc__law_take pm__law_take cd__law_take ct__law_take : Value} {p__law_some : Addr} {oc__law_some : Value} {od__law_some an__law_some : Option Addr} {sl__law_some : Array (Option Value)} {kV__law_some dc__law_some pm__law_some cd__law_some ct__law_some : Value} {p__law_alike : Addr} {oc__law_alike : Value} {od__law_alike an__law_alike : Option Addr} {sl__law_alike : Array (Option Value)} {kV__law_alike dc__law_alike pm__law_alike cd__law_alike ct__law_alike : Value} {p__law_is_figures : Addr} {oc__law_is_figures : Value} {od__law_is_figures an__law_is_figures : Option Addr} {sl__law_is_figures : Array (Option Value)} {kV__law_is_figures dc__law_is_figures pm__law_is_figures cd__law_is_figures ct__law_is_figures : Value} {p__law_line_goes_on : Addr} {oc__law_line_goes_on : Value} {od__law_line_goes_on an__law_line_goes_on : Option Addr} {sl__law_line_goes_on : Array (Option Value)} {kV__law_line_goes_on dc__law_line_goes_on pm__law_line_goes_on cd__law_line_goes_on ct__law_line_goes_on : Value} {p__law_is_line : Addr} {oc__law_is_line : Value} {od__law_is_line an__law_is_line : Option Addr} {sl__law_is_line : Array (Option Value)} {kV__law_is_line dc__law_is_line pm__law_is_line cd__law_is_line ct__law_is_line : Value} {p__law_goes_on : Addr} {oc__law_goes_on : Value} {od__law_goes_on an__law_goes_on : Option Addr} {sl__law_goes_on : Array (Option Value)} {kV__law_goes_on dc__law_goes_on pm__law_goes_on cd__law_goes_on ct__law_goes_on : Value} {p__law_place : Addr} {oc__law_place : Value} {od__law_place an__law_place : Option Addr} {sl__law_place : Array (Option Value)} {kV__law_place dc__law_place pm__law_place cd__law_place ct__law_place : Value} {p_law : Addr} {oc_law : Value} {od_law an_law : Option Addr} {sl_law : Array (Option Value)} {kV_law dc_law pm_law cd_law ct_law : Value} {CN CB fI cda cc : Addr} {nm q : Str} {Nb : Addr} {bs : List Value} {sn : List Str} {sub : List Value} {ab : Bool} {col : Option Bool} {dd : Option Addr} {k0 k1 k2 k3 k5 : Option Value} {bm : List Value} {oc kV doc pm ct cl ccl : Value} {an od cld cdd : Option Addr} {osl csl ccs : Array (Option Value)} {vs : Array Value} {file : Str} {tf : Tok}
    (z_isinstance : PySem.W.nsIn K mainGlobals "isinstance" = some none)
    (z_int : PySem.W.nsIn K mainGlobals "int" = some none)
    (z_bool : PySem.W.nsIn K mainGlobals "bool" = some none)
    (z_str : PySem.W.nsIn K mainGlobals "str" = some none)
    (z_tuple : PySem.W.nsIn K mainGlobals "tuple" = some none)
    (z_list : PySem.W.nsIn K mainGlobals "list" = some none)
    (z_len : PySem.W.nsIn K mainGlobals "len" = some none)
    (z_all : PySem.W.nsIn K mainGlobals "all" = some none)
    (z_max : PySem.W.nsIn K mainGlobals "max" = some none)
    (z_abs : PySem.W.nsIn K mainGlobals "abs" = some none)
    (z_repr : PySem.W.nsIn K mainGlobals "repr" = some none)
    (z_range : PySem.W.nsIn K mainGlobals "range" = some none)
    (z_enumerate : PySem.W.nsIn K mainGlobals "enumerate" = some none)
    (v_SIGNS : PySem.W.nsIn K mainGlobals "SIGNS" = some (some (.str "abcdefghijklmnopqrstuvwxyz" t_SIGNS)))
    (v_SIGN : PySem.W.nsIn K mainGlobals "SIGN" = some (some (.str "sign" t_SIGN)))
    (v_OVER : PySem.W.nsIn K mainGlobals "OVER" = some (some (.str "over" t_OVER)))
    (v_END : PySem.W.nsIn K mainGlobals "END" = some (some (.str "end" t_END)))
    (v_MOST_LINES : PySem.W.nsIn K mainGlobals "MOST_LINES" = some (some (.int 2000 t_MOST_LINES)))
    (v_MOST_NUMBER : PySem.W.nsIn K mainGlobals "MOST_NUMBER" = some (some (.int 400 t_MOST_NUMBER)))
    (v_PLAIN : PySem.W.nsIn K mainGlobals "PLAIN" = some (some (.ref aP)))
    (l_PLAIN : K.lookup aP = some ⟨.type "tuple", dP, .seq #[.str "cut" tP1, .str "go" tP2] nP, sP⟩)
    (a_is_integer : PySem.W.nsIn K mainGlobals "is_integer" = some (some (.ref p_is_integer)))
    (l_is_integer : K.lookup p_is_integer = some ⟨oc_is_integer, od_is_integer, .func (PySem.W.fnOf "is_integer" "is_integer" (defArgs s_is_integer) (defBody s_is_integer) (defScope s_is_integer) .none kV_is_integer dc_is_integer pm_is_integer an_is_integer cd_is_integer ct_is_integer), sl_is_integer⟩)
    (c_is_integer : PySem.W.codeIn K cd_is_integer "is_integer" = true)
    (k_is_integer : PySem.W.keepIn K (.ref p_is_integer) = true)
    (a_is_count : PySem.W.nsIn K mainGlobals "is_count" = some (some (.ref p_is_count)))
    (l_is_count : K.lookup p_is_count = some ⟨oc_is_count, od_is_count, .func (PySem.W.fnOf "is_count" "is_count" (defArgs s_is_count) (defBody s_is_count) (defScope s_is_count) .none kV_is_count dc_is_count pm_is_count an_is_count cd_is_count ct_is_count), sl_is_count⟩)
    (c_is_count : PySem.W.codeIn K cd_is_count "is_count" = true)
    (k_is_count : PySem.W.keepIn K (.ref p_is_count) = true)
    (a_is_sign : PySem.W.nsIn K mainGlobals "is_sign" = some (some (.ref p_is_sign)))
    (l_is_sign : K.lookup p_is_sign = some ⟨oc_is_sign, od_is_sign, .func (PySem.W.fnOf "is_sign" "is_sign" (defArgs s_is_sign) (defBody s_is_sign) (defScope s_is_sign) .none kV_is_sign dc_is_sign pm_is_sign an_is_sign cd_is_sign ct_is_sign), sl_is_sign⟩)
    (c_is_sign : PySem.W.codeIn K cd_is_sign "is_sign" = true)
    (k_is_sign : PySem.W.keepIn K (.ref p_is_sign) = true)
    (a_is_small : PySem.W.nsIn K mainGlobals "is_small" = some (some (.ref p_is_small)))
    (l_is_small : K.lookup p_is_small = some ⟨oc_is_small, od_is_small, .func (PySem.W.fnOf "is_small" "is_small" (defArgs s_is_small) (defBody s_is_small) (defScope s_is_small) .none kV_is_small dc_is_small pm_is_small an_is_small cd_is_small ct_is_small), sl_is_small⟩)
    (c_is_small : PySem.W.codeIn K cd_is_small "is_small" = true)
    (k_is_small : PySem.W.keepIn K (.ref p_is_small) = true)
    (a_is_logged : PySem.W.nsIn K mainGlobals "is_logged" = some (some (.ref p_is_logged)))
    (l_is_logged : K.lookup p_is_logged = some ⟨oc_is_logged, od_is_logged, .func (PySem.W.fnOf "is_logged" "is_logged" (defArgs s_is_logged) (defBody s_is_logged) (defScope s_is_logged) .none kV_is_logged dc_is_logged pm_is_logged an_is_logged cd_is_logged ct_is_logged), sl_is_logged⟩)
    (c_is_logged : PySem.W.codeIn K cd_is_logged "is_logged" = true)
    (k_is_logged : PySem.W.keepIn K (.ref p_is_logged) = true)
    (a_is_log : PySem.W.nsIn K mainGlobals "is_log" = some (some (.ref p_is_log)))
    (l_is_log : K.lookup p_is_log = some ⟨oc_is_log, od_is_log, .func (PySem.W.fnOf "is_log" "is_log" (defArgs s_is_log) (defBody s_is_log) (defScope s_is_log) .none kV_is_log dc_is_log pm_is_log an_is_log cd_is_log ct_is_log), sl_is_log⟩)
    (c_is_log : PySem.W.codeIn K cd_is_log "is_log" = true)
    (k_is_log : PySem.W.keepIn K (.ref p_is_log) = true)
    (a_line_of : PySem.W.nsIn K mainGlobals "line_of" = some (some (.ref p_line_of)))
    (l_line_of : K.lookup p_line_of = some ⟨oc_line_of, od_line_of, .func (PySem.W.fnOf "line_of" "line_of" (defArgs s_line_of) (defBody s_line_of) (defScope s_line_of) .none kV_line_of dc_line_of pm_line_of an_line_of cd_line_of ct_line_of), sl_line_of⟩)
    (c_line_of : PySem.W.codeIn K cd_line_of "line_of" = true)
    (k_line_of : PySem.W.keepIn K (.ref p_line_of) = true)
    (a_log_text : PySem.W.nsIn K mainGlobals "log_text" = some (some (.ref p_log_text)))
    (l_log_text : K.lookup p_log_text = some ⟨oc_log_text, od_log_text, .func (PySem.W.fnOf "log_text" "log_text" (defArgs s_log_text) (defBody s_log_text) (defScope s_log_text) .none kV_log_text dc_log_text pm_log_text an_log_text cd_log_text ct_log_text), sl_log_text⟩)
    (c_log_text : PySem.W.codeIn K cd_log_text "log_text" = true)
    (k_log_text : PySem.W.keepIn K (.ref p_log_text) = true)
    (a_number_gone : PySem.W.nsIn K mainGlobals "number_gone" = some (some (.ref p_number_gone)))
    (l_number_gone : K.lookup p_number_gone = some ⟨oc_number_gone, od_number_gone, .func (PySem.W.fnOf "number_gone" "number_gone" (defArgs s_number_gone) (defBody s_number_gone) (defScope s_number_gone) .none kV_number_gone dc_number_gone pm_number_gone an_number_gone cd_number_gone ct_number_gone), sl_number_gone⟩)
    (c_number_gone : PySem.W.codeIn K cd_number_gone "number_gone" = true)
    (k_number_gone : PySem.W.keepIn K (.ref p_number_gone) = true)
    (a_word_gone : PySem.W.nsIn K mainGlobals "word_gone" = some (some (.ref p_word_gone)))
    (l_word_gone : K.lookup p_word_gone = some ⟨oc_word_gone, od_word_gone, .func (PySem.W.fnOf "word_gone" "word_gone" (defArgs s_word_gone) (defBody s_word_gone) (defScope s_word_gone) .none kV_word_gone dc_word_gone pm_word_gone an_word_gone cd_word_gone ct_word_gone), sl_word_gone⟩)
    (c_word_gone : PySem.W.codeIn K cd_word_gone "word_gone" = true)
    (k_word_gone : PySem.W.keepIn K (.ref p_word_gone) = true)
    (a_over_line : PySem.W.nsIn K mainGlobals "over_line" = some (some (.ref p_over_line)))
    (l_over_line : K.lookup p_over_line = some ⟨oc_over_line, od_over_line, .func (PySem.W.fnOf "over_line" "over_line" (defArgs s_over_line) (defBody s_over_line) (defScope s_over_line) .none kV_over_line dc_over_line pm_over_line an_over_line cd_over_line ct_over_line), sl_over_line⟩)
    (c_over_line : PySem.W.codeIn K cd_over_line "over_line" = true)
    (k_over_line : PySem.W.keepIn K (.ref p_over_line) = true)
    (a_sign_line : PySem.W.nsIn K mainGlobals "sign_line" = some (some (.ref p_sign_line)))
    (l_sign_line : K.lookup p_sign_line = some ⟨oc_sign_line, od_sign_line, .func (PySem.W.fnOf "sign_line" "sign_line" (defArgs s_sign_line) (defBody s_sign_line) (defScope s_sign_line) .none kV_sign_line dc_sign_line pm_sign_line an_sign_line cd_sign_line ct_sign_line), sl_sign_line⟩)
    (c_sign_line : PySem.W.codeIn K cd_sign_line "sign_line" = true)
    (k_sign_line : PySem.W.keepIn K (.ref p_sign_line) = true)
    (a_gone_of_line : PySem.W.nsIn K mainGlobals "gone_of_line" = some (some (.ref p_gone_of_line)))
    (l_gone_of_line : K.lookup p_gone_of_line = some ⟨oc_gone_of_line, od_gone_of_line, .func (PySem.W.fnOf "gone_of_line" "gone_of_line" (defArgs s_gone_of_line) (defBody s_gone_of_line) (defScope s_gone_of_line) .none kV_gone_of_line dc_gone_of_line pm_gone_of_line an_gone_of_line cd_gone_of_line ct_gone_of_line), sl_gone_of_line⟩)
    (c_gone_of_line : PySem.W.codeIn K cd_gone_of_line "gone_of_line" = true)
    (k_gone_of_line : PySem.W.keepIn K (.ref p_gone_of_line) = true)
    (a_end_line : PySem.W.nsIn K mainGlobals "end_line" = some (some (.ref p_end_line)))
    (l_end_line : K.lookup p_end_line = some ⟨oc_end_line, od_end_line, .func (PySem.W.fnOf "end_line" "end_line" (defArgs s_end_line) (defBody s_end_line) (defScope s_end_line) .none kV_end_line dc_end_line pm_end_line an_end_line cd_end_line ct_end_line), sl_end_line⟩)
    (c_end_line : PySem.W.codeIn K cd_end_line "end_line" = true)
    (k_end_line : PySem.W.keepIn K (.ref p_end_line) = true)
    (a_read_log : PySem.W.nsIn K mainGlobals "read_log" = some (some (.ref p_read_log)))
    (l_read_log : K.lookup p_read_log = some ⟨oc_read_log, od_read_log, .func (PySem.W.fnOf "read_log" "read_log" (defArgs s_read_log) (defBody s_read_log) (defScope s_read_log) .none kV_read_log dc_read_log pm_read_log an_read_log cd_read_log ct_read_log), sl_read_log⟩)
    (c_read_log : PySem.W.codeIn K cd_read_log "read_log" = true)
    (k_read_log : PySem.W.keepIn K (.ref p_read_log) = true)
    (a__law_bag : PySem.W.nsIn K mainGlobals "_law_bag" = some (some (.ref p__law_bag)))
    (l__law_bag : K.lookup p__law_bag = some ⟨oc__law_bag, od__law_bag, .func (PySem.W.fnOf "_law_bag" "_law_bag" (defArgs s__law_bag) (defBody s__law_bag) (defScope s__law_bag) .none kV__law_bag dc__law_bag pm__law_bag an__law_bag cd__law_bag ct__law_bag), sl__law_bag⟩)
    (c__law_bag : PySem.W.codeIn K cd__law_bag "_law_bag" = true)
    (k__law_bag : PySem.W.keepIn K (.ref p__law_bag) = true)
    (a__law_take : PySem.W.nsIn K mainGlobals "_law_take" = some (some (.ref p__law_take)))
    (l__law_take : K.lookup p__law_take = some ⟨oc__law_take, od__law_take, .func (PySem.W.fnOf "_law_take" "_law_take" (defArgs s__law_take) (defBody s__law_take) (defScope s__law_take) .none kV__law_take dc__law_take pm__law_take an__law_take cd__law_take ct__law_take), sl__law_take⟩)
    (c__law_take : PySem.W.codeIn K cd__law_take "_law_take" = true)
    (k__law_take : PySem.W.keepIn K (.ref p__law_take) = true)
    (a__law_some : PySem.W.nsIn K mainGlobals "_law_some" = some (some (.ref p__law_some)))
    (l__law_some : K.lookup p__law_some = some ⟨oc__law_some, od__law_some, .func (PySem.W.fnOf "_law_some" "_law_some" (defArgs s__law_some) (defBody s__law_some) (defScope s__law_some) .none kV__law_some dc__law_some pm__law_some an__law_some cd__law_some ct__law_some), sl__law_some⟩)
    (c__law_some : PySem.W.codeIn K cd__law_some "_law_some" = true)
    (k__law_some : PySem.W.keepIn K (.ref p__law_some) = true)
    (a__law_alike : PySem.W.nsIn K mainGlobals "_law_alike" = some (some (.ref p__law_alike)))
    (l__law_alike : K.lookup p__law_alike = some ⟨oc__law_alike, od__law_alike, .func (PySem.W.fnOf "_law_alike" "_law_alike" (defArgs s__law_alike) (defBody s__law_alike) (defScope s__law_alike) .none kV__law_alike dc__law_alike pm__law_alike an__law_alike cd__law_alike ct__law_alike), sl__law_alike⟩)
    (c__law_alike : PySem.W.codeIn K cd__law_alike "_law_alike" = true)
    (k__law_alike : PySem.W.keepIn K (.ref p__law_alike) = true)
    (a__law_is_figures : PySem.W.nsIn K mainGlobals "_law_is_figures" = some (some (.ref p__law_is_figures)))
    (l__law_is_figures : K.lookup p__law_is_figures = some ⟨oc__law_is_figures, od__law_is_figures, .func (PySem.W.fnOf "_law_is_figures" "_law_is_figures" (defArgs s__law_is_figures) (defBody s__law_is_figures) (defScope s__law_is_figures) .none kV__law_is_figures dc__law_is_figures pm__law_is_figures an__law_is_figures cd__law_is_figures ct__law_is_figures), sl__law_is_figures⟩)
    (c__law_is_figures : PySem.W.codeIn K cd__law_is_figures "_law_is_figures" = true)
    (k__law_is_figures : PySem.W.keepIn K (.ref p__law_is_figures) = true)
    (a__law_line_goes_on : PySem.W.nsIn K mainGlobals "_law_line_goes_on" = some (some (.ref p__law_line_goes_on)))
    (l__law_line_goes_on : K.lookup p__law_line_goes_on = some ⟨oc__law_line_goes_on, od__law_line_goes_on, .func (PySem.W.fnOf "_law_line_goes_on" "_law_line_goes_on" (defArgs s__law_line_goes_on) (defBody s__law_line_goes_on) (defScope s__law_line_goes_on) .none kV__law_line_goes_on dc__law_line_goes_on pm__law_line_goes_on an__law_line_goes_on cd__law_line_goes_on ct__law_line_goes_on), sl__law_line_goes_on⟩)
    (c__law_line_goes_on : PySem.W.codeIn K cd__law_line_goes_on "_law_line_goes_on" = true)
    (k__law_line_goes_on : PySem.W.keepIn K (.ref p__law_line_goes_on) = true)
    (a__law_is_line : PySem.W.nsIn K mainGlobals "_law_is_line" = some (some (.ref p__law_is_line)))
    (l__law_is_line : K.lookup p__law_is_line = some ⟨oc__law_is_line, od__law_is_line, .func (PySem.W.fnOf "_law_is_line" "_law_is_line" (defArgs s__law_is_line) (defBody s__law_is_line) (defScope s__law_is_line) .none kV__law_is_line dc__law_is_line pm__law_is_line an__law_is_line cd__law_is_line ct__law_is_line), sl__law_is_line⟩)
    (c__law_is_line : PySem.W.codeIn K cd__law_is_line "_law_is_line" = true)
    (k__law_is_line : PySem.W.keepIn K (.ref p__law_is_line) = true)
    (a__law_goes_on : PySem.W.nsIn K mainGlobals "_law_goes_on" = some (some (.ref p__law_goes_on)))
    (l__law_goes_on : K.lookup p__law_goes_on = some ⟨oc__law_goes_on, od__law_goes_on, .func (PySem.W.fnOf "_law_goes_on" "_law_goes_on" (defArgs s__law_goes_on) (defBody s__law_goes_on) (defScope s__law_goes_on) .none kV__law_goes_on dc__law_goes_on pm__law_goes_on an__law_goes_on cd__law_goes_on ct__law_goes_on), sl__law_goes_on⟩)
    (c__law_goes_on : PySem.W.codeIn K cd__law_goes_on "_law_goes_on" = true)
    (k__law_goes_on : PySem.W.keepIn K (.ref p__law_goes_on) = true)
    (a__law_place : PySem.W.nsIn K mainGlobals "_law_place" = some (some (.ref p__law_place)))
    (l__law_place : K.lookup p__law_place = some ⟨oc__law_place, od__law_place, .func (PySem.W.fnOf "_law_place" "_law_place" (defArgs s__law_place) (defBody s__law_place) (defScope s__law_place) .none kV__law_place dc__law_place pm__law_place an__law_place cd__law_place ct__law_place), sl__law_place⟩)
    (c__law_place : PySem.W.codeIn K cd__law_place "_law_place" = true)
    (k__law_place : PySem.W.keepIn K (.ref p__law_place) = true)
    (a_law : PySem.W.nsIn K mainGlobals "law" = some (some (.ref p_law)))
    (l_law : K.lookup p_law = some ⟨oc_law, od_law, .func (PySem.W.fnOf "law" "law" (defArgs s_law) (defBody s_law) (defScope s_law) .none kV_law dc_law pm_law an_law cd_law ct_law), sl_law⟩)
    (c_law : PySem.W.codeIn K cd_law "law" = true)
    (k_law : PySem.W.keepIn K (.ref p_law) = true)
    (n_a : PySem.W.nsIn K mainGlobals "Nothing" = some (some (.ref CN)))
    (n_k : PySem.W.keepIn K (.ref CN) = true)
    (n_h1 : PySem.W.subIn K (.ref CN) (.type "BaseException") = some true)
    (n_h2 : PySem.W.typeIn K (.ref CN) = some (.type "type"))
    (n_h3 : PySem.W.isClsIn K CN = true)
    (n_h4 : PySem.W.subIn K (.ref CN) (.ref CN) = some true)
    (n_q : PySem.W.excIn K CN [.type "ValueError", .type "Exception", .type "BaseException", .type "object"] "ValueError.__new__" = true)
    (b_a : PySem.W.nsIn K mainGlobals "BadText" = some (some (.ref CB)))
    (b_l : K.lookup CB = some (excClassObj nm q CB Nb bs bm true sn sub ab col dd k0 k1 k2 k3 k5 "ValueError.__new__"))
    (b_bm : PySem.HandSPX.refsVE bm = true)
    (b_sa : PySem.W.findIn K (.ref CB) "__setattr__" = some (some (.builtin "object.__setattr__")))
    (b_ga : PySem.W.findIn K (.ref CB) "__getattribute__" = some (some (.builtin "BaseException.__getattribute__")))
    (b_gg : PySem.W.findIn K (.ref CB) "__getattr__" = some none)
    (b_ex : PySem.W.subIn K (.ref CB) (.type "BaseException") = some true)
    (b_ty : PySem.W.typeIn K (.ref CB) = some (.type "type"))
    (b_k : PySem.W.keepIn K (.ref CB) = true)
    (b_hd : PySem.W.hasDictIn K CB = true)
    (b_cl : PySem.W.isClsIn K CB = true)
    (b_ss : PySem.W.subIn K (.ref CB) (.ref CB) = some true)
    (b_ini : PySem.W.findIn K (.ref CB) "__init__" = some (some (.ref fI)))
    (b_tI : PySem.W.typeIn K (.ref fI) = some (.type "function"))
    (b_lI : K.lookup fI = some ⟨oc, od, .func (PySem.W.ksFn "__init__" "BadText.__init__" DX.btArgs DX.btBody DX.btScope .none kV doc pm an (.ref cda) ct cc), osl⟩)
    (b_cI : PySem.W.codeIn K (.ref cda) "BadText.__init__" = true)
    (b_lc : K.lookup cc = some ⟨cl, cld, .cell (some (.ref CB)), csl⟩)
    (b_ld : K.lookup cda = some ⟨ccl, cdd, .fields vs, ccs⟩)
    (b_vs : vs[2]? = some (.str file tf))
    (b_file : ((P.main.file : Str) == file) = true)
    (b_top : (P.main.scope.names.lookup ("super" : Str)).isSome = false)
    (b_sup : PySem.W.ks_superIn K CB CB "__init__" = some (some (.builtin "ValueError.__init__")))
    (b_isV : PySem.W.subIn K (.ref CB) (.type "ValueError") = some true)
    (b_own : PySem.W.mroIn K CB (.ref CB) = some true)
    (b_op : PySem.W.nsIn K cStatics "thirdparty.any" = some none)
    (b_ns : PySem.W.nsIn K mainGlobals "super" = some none)
    (b_nl : PySem.W.findIn K (.ref CB) "line" = some none)
    (b_nc : PySem.W.findIn K (.ref CB) "column" = some none)
    : ∃ fd : FuncData, (∀ (s : Shared) (u : Value), BindsTo s fd ⟨[u], []⟩ [("script", u)]) ∧ ∀ base : Heap, K.In base → base.Ns mainGlobals mg → FnG P w K mg base 8 fa fd ["script"] spEnd := by
  have Gm0 : Gm K mg := { g_isinstance := PySem.W.mg_none_of X G z_isinstance, g_int := PySem.W.mg_none_of X G z_int, g_bool := PySem.W.mg_none_of X G z_bool, g_str := PySem.W.mg_none_of X G z_str, g_tuple := PySem.W.mg_none_of X G z_tuple, g_list := PySem.W.mg_none_of X G z_list, g_len := PySem.W.mg_none_of X G z_len, g_all := PySem.W.mg_none_of X G z_all, g_max := PySem.W.mg_none_of X G z_max, g_abs := PySem.W.mg_none_of X G z_abs, g_repr := PySem.W.mg_none_of X G z_repr, g_range := PySem.W.mg_none_of X G z_range, g_enumerate := PySem.W.mg_none_of X G z_enumerate, k_int := kit_of (by decide +kernel), k_bool := kit_of (by decide +kernel), k_str := kit_of (by decide +kernel), k_tuple := kit_of (by decide +kernel), SIGNS := ⟨_, PySem.W.mg_of X G v_SIGNS⟩, SIGN := ⟨_, PySem.W.mg_of X G v_SIGN⟩, OVER := ⟨_, PySem.W.mg_of X G v_OVER⟩, END := ⟨_, PySem.W.mg_of X G v_END⟩, MOST_LINES := ⟨_, PySem.W.mg_of X G v_MOST_LINES⟩, MOST_NUMBER := ⟨_, PySem.W.mg_of X G v_MOST_NUMBER⟩, PLAIN := ⟨aP, PySem.W.mg_of X G v_PLAIN, .inr ⟨_, _, _, l_PLAIN, rfl, rfl, (by show 2 ≤ sizeLine; rw [sizeLine_eq]; decide), .cons ⟨_, rfl⟩ (.cons ⟨_, rfl⟩ .nil)⟩⟩ }
  have D_is_integer : Dn K mg "is_integer" s_is_integer := dn_mk X G a_is_integer l_is_integer c_is_integer k_is_integer
  have D_is_count : Dn K mg "is_count" s_is_count := dn_mk X G a_is_count l_is_count c_is_count k_is_count
  have D_is_sign : Dn K mg "is_sign" s_is_sign := dn_mk X G a_is_sign l_is_sign c_is_sign k_is_sign
  have D_is_small : Dn K mg "is_small" s_is_small := dn_mk X G a_is_small l_is_small c_is_small k_is_small
  have D_is_logged : Dn K mg "is_logged" s_is_logged := dn_mk X G a_is_logged l_is_logged c_is_logged k_is_logged
  have D_is_log : Dn K mg "is_log" s_is_log := dn_mk X G a_is_log l_is_log c_is_log k_is_log
  have D_line_of : Dn K mg "line_of" s_line_of := dn_mk X G a_line_of l_line_of c_line_of k_line_of
  have D_log_text : Dn K mg "log_text" s_log_text := dn_mk X G a_log_text l_log_text c_log_text k_log_text
  have D_number_gone : Dn K mg "number_gone" s_number_gone := dn_mk X G a_number_gone l_number_gone c_number_gone k_number_gone
  have D_word_gone : Dn K mg "word_gone" s_word_gone := dn_mk X G a_word_gone l_word_gone c_word_gone k_word_gone
  have D_over_line : Dn K mg "over_line" s_over_line := dn_mk X G a_over_line l_over_line c_over_line k_over_line
  have D_sign_line : Dn K mg "sign_line" s_sign_line := dn_mk X G a_sign_line l_sign_line c_sign_line k_sign_line
  have D_gone_of_line : Dn K mg "gone_of_line" s_gone_of_line := dn_mk X G a_gone_of_line l_gone_of_line c_gone_of_line k_gone_of_line
  have D_end_line : Dn K mg "end_line" s_end_line := dn_mk X G a_end_line l_end_line c_end_line k_end_line
  have D_read_log : Dn K mg "read_log" s_read_log := dn_mk X G a_read_log l_read_log c_read_log k_read_log
  have D__law_bag : Dn K mg "_law_bag" s__law_bag := dn_mk X G a__law_bag l__law_bag c__law_bag k__law_bag
  have D__law_take : Dn K mg "_law_take" s__law_take := dn_mk X G a__law_take l__law_take c__law_take k__law_take
  have D__law_some : Dn K mg "_law_some" s__law_some := dn_mk X G a__law_some l__law_some c__law_some k__law_some
  have D__law_alike : Dn K mg "_law_alike" s__law_alike := dn_mk X G a__law_alike l__law_alike c__law_alike k__law_alike
  have D__law_is_figures : Dn K mg "_law_is_figures" s__law_is_figures := dn_mk X G a__law_is_figures l__law_is_figures c__law_is_figures k__law_is_figures
  have D__law_line_goes_on : Dn K mg "_law_line_goes_on" s__law_line_goes_on := dn_mk X G a__law_line_goes_on l__law_line_goes_on c__law_line_goes_on k__law_line_goes_on
  have D__law_is_line : Dn K mg "_law_is_line" s__law_is_line := dn_mk X G a__law_is_line l__law_is_line c__law_is_line k__law_is_line
  have D__law_goes_on : Dn K mg "_law_goes_on" s__law_goes_on := dn_mk X G a__law_goes_on l__law_goes_on c__law_goes_on k__law_goes_on
  have D__law_place : Dn K mg "_law_place" s__law_place := dn_mk X G a__law_place l__law_place c__law_place k__law_place
  have nC : NoC K mg CN := ⟨n_q, PySem.W.mg_of X G n_a, n_k, n_h1, n_h2, exm_own n_h1 n_h3 n_h2 n_h4⟩
  have gB : mg "BadText" = some (.ref CB) := PySem.W.mg_of X G b_a
  have tB : DX.BtC P K mg CB fI := ⟨⟨⟨nm, q, Nb, bs, bm, sn, sub, ab, col, dd, k0, k1, k2, k3, k5, b_l, b_bm⟩, b_sa, b_ex, b_ty, b_k⟩, b_ini, b_tI, ⟨oc, kV, doc, pm, ct, an, od, osl, cda, cc, b_lI, b_cI, ⟨cl, cld, csl, b_lc⟩, ccl, cdd, vs, ccs, file, tf, b_ld, b_vs, b_file⟩, b_top, b_sup, b_isV, b_own, b_op, PySem.W.mg_none_of X G b_ns, b_nl, b_nc⟩
  have F0 := fun_mk (st := s_law) l_law c_law k_law
  have main : ∀ base : Heap, FnG P w K mg base 8 p_law (PySem.W.fnOf "law" "law" (defArgs s_law) (defBody s_law) (defScope s_law) .none kV_law dc_law pm_law an_law cd_law ct_law) ["script"] (spL mg false 1 f_law) := fun base => by
    have o_is_integer := ok_is_integer (P := P) (w := w) (base := base) Gm0 D_is_integer 
    have o_is_count := ok_is_count (P := P) (w := w) (base := base) Gm0 D_is_count o_is_integer
    have o_is_sign := ok_is_sign (P := P) (w := w) (base := base) Gm0 D_is_sign 
    have o_is_small := ok_is_small (P := P) (w := w) (base := base) Gm0 D_is_small o_is_count
    have o_is_logged := ok_is_logged (P := P) (w := w) (base := base) Gm0 D_is_logged o_is_small o_is_sign
    have o_is_log := ok_is_log (P := P) (w := w) (base := base) Gm0 D_is_log o_is_logged
    have o_line_of := ok_line_of (P := P) (w := w) (base := base) Gm0 D_line_of 
    have o_log_text := ok_log_text (P := P) (w := w) (base := base) Gm0 D_log_text o_line_of o_is_log nC
    have o_number_gone := ok_number_gone (P := P) (w := w) (base := base) Gm0 D_number_gone 
    have o_word_gone := ok_word_gone (P := P) (w := w) (base := base) Gm0 D_word_gone 
    have o_over_line := ok_over_line (P := P) (w := w) (base := base) Gm0 D_over_line o_number_gone
    have o_sign_line := ok_sign_line (P := P) (w := w) (base := base) Gm0 D_sign_line o_is_sign o_number_gone
    have o_gone_of_line := ok_gone_of_line (P := P) (w := w) (base := base) Gm0 D_gone_of_line o_word_gone o_sign_line o_over_line
    have o_end_line := ok_end_line (P := P) (w := w) (base := base) Gm0 D_end_line o_word_gone
    have o_read_log := ok_read_log (P := P) (w := w) (base := base) Gm0 D_read_log o_gone_of_line o_end_line tB gB
    have o__law_bag := ok__law_bag (P := P) (w := w) (base := base) Gm0 D__law_bag 
    have o__law_take := ok__law_take (P := P) (w := w) (base := base) Gm0 D__law_take 
    have o__law_some := ok__law_some (P := P) (w := w) (base := base) Gm0 D__law_some o__law_take
    have o__law_alike := ok__law_alike (P := P) (w := w) (base := base) Gm0 D__law_alike 
    have o__law_is_figures := ok__law_is_figures (P := P) (w := w) (base := base) Gm0 D__law_is_figures 
    have h__law_is_figures := oh__law_is_figures (P := P) (w := w) (base := base) Gm0 D__law_is_figures 
    have o__law_line_goes_on := ok__law_line_goes_on (P := P) (w := w) (base := base) Gm0 D__law_line_goes_on o__law_is_figures
    have h__law_line_goes_on := oh__law_line_goes_on (P := P) (w := w) (base := base) Gm0 D__law_line_goes_on h__law_is_figures
    have o__law_is_line := ok__law_is_line (P := P) (w := w) (base := base) Gm0 D__law_is_line o__law_is_figures
    have h__law_is_line := oh__law_is_line (P := P) (w := w) (base := base) Gm0 D__law_is_line h__law_is_figures
    have o__law_goes_on := ok__law_goes_on (P := P) (w := w) (base := base) Gm0 D__law_goes_on o__law_is_line o__law_line_goes_on
    have h__law_goes_on := oh__law_goes_on (P := P) (w := w) (base := base) Gm0 D__law_goes_on h__law_is_line h__law_line_goes_on
    have o__law_place := ok__law_place (P := P) (w := w) (base := base) Gm0 D__law_place o__law_goes_on
    have h__law_place := oh__law_place (P := P) (w := w) (base := base) Gm0 D__law_place h__law_goes_on
    exact g_law Gm0 F0 o_is_log o__law_is_line o_read_log o_log_text o__law_alike o__law_bag o__law_some o__law_take h__law_place nC ⟨b_ga, b_gg, b_ex, b_hd⟩ b_nl b_nc gB (exm_own b_ex b_cl b_ty b_ss)
  have e := hfa.symm.trans (PySem.W.mg_of X G a_law)
  cases e
  refine ⟨PySem.W.fnOf "law" "law" (defArgs s_law) (defBody s_law) (defScope s_law) .none kV_law dc_law pm_law an_law cd_law ct_law, fun s v => .of_eq rfl, fun base _ _ => ?_⟩
  have S := main base
  exact ⟨fun vs H Q E h => S.len vs H Q E (end_of pl h), fun A fr s H args us vs Q E gd room e0 bd rv h => S.go A fr s H args us vs Q E gd room e0 bd rv (end_of pl h)⟩
end KW

set_option maxRecDepth 100000
set_option maxHeartbeats 4000000
namespace KW
open PySem PySem.Spec L2 DZ

/-! ### texts as lists of signs -/
abbrev Li := List Nat
def mk (l : Li) : Str := ⟨l.toArray⟩
def un (s : Str) : Li := s.cps.toList
@[simp] theorem mk_un (s : Str) : mk (un s) = s := by cases s; simp [mk, un]
@[simp] theorem un_mk (l : Li) : un (mk l) = l := by simp [mk, un]
theorem mk_inj {a b : Li} : mk a = mk b ↔ a = b := ⟨fun h => by rw [← un_mk a, h, un_mk], fun h => by rw [h]⟩
theorem mk_len (l : Li) : (mk l).length = l.length := by simp [mk, Str.length]
theorem mk_app (a b : Li) : mk a ++ mk b = mk (a ++ b) := by
  show (⟨(mk a).cps ++ (mk b).cps⟩ : Str) = _
  simp [mk]
theorem lit_nil : ("" : Str) = mk [] := by rfl
theorem lit_go : ("go" : Str) = mk [103, 111] := by rfl
theorem lit_cut : ("cut" : Str) = mk [99, 117, 116] := by rfl
theorem lit_end : ("end" : Str) = mk [101, 110, 100] := by rfl
theorem lit_sign : ("sign" : Str) = mk [115, 105, 103, 110] := by rfl
theorem lit_over : ("over" : Str) = mk [111, 118, 101, 114] := by rfl
theorem lit_signb : ("sign " : Str) = mk [115, 105, 103, 110, 32] := by rfl
theorem lit_overb : ("over " : Str) = mk [111, 118, 101, 114, 32] := by rfl
theorem lit_b : (" " : Str) = mk [32] := by rfl
theorem lit_nl : ("\n" : Str) = mk [10] := by rfl
theorem lit_0 : ("0" : Str) = mk [48] := by rfl
theorem lit_a : ("a" : Str) = mk [97] := by rfl
theorem lit_z : ("z" : Str) = mk [122] := by rfl
theorem lit_dig : ("0123456789" : Str) = mk [48, 49, 50, 51, 52, 53, 54, 55, 56, 57] := by rfl
theorem lit_abc : ("abcdefghijklmnopqrstuvwxyz" : Str) = mk [97, 98, 99, 100, 101, 102, 103, 104, 105, 106, 107, 108, 109, 110, 111, 112, 113, 114, 115, 116, 117, 118, 119, 120, 121, 122] := by rfl
theorem signs_mk (l : Li) : signs (mk l) = l.map fun c => PyData.str (mk [c]) := by
  unfold signs
  simp [mk]
theorem cutS_mk (l : Li) (lo hi : Option Int) : cutS (mk l) lo hi = mk ((l.drop (HT.sIx l.length 0 lo)).take (HT.sIx l.length l.length hi - HT.sIx l.length 0 lo)) := by
  unfold cutS
  rw [mk_len]
  simp [mk]

/-! ### parting and joining -/
def spl (c : Nat) : Li → List Li
  | [] => [[]]
  | x :: xs => if x = c then [] :: spl c xs else match spl c xs with
    | p :: ps => (x :: p) :: ps
    | [] => [[x]]
def jn (c : Nat) : List Li → Li
  | [] => []
  | [p] => p
  | p :: q :: r => p ++ c :: jn c (q :: r)
theorem spl_ne (c : Nat) (l : Li) : spl c l ≠ [] := by
  cases l with
  | nil => simp [spl]
  | cons x xs =>
    unfold spl
    split
    · simp
    · split <;> simp
theorem spl_hit {c : Nat} {xs : Li} : spl c (c :: xs) = [] :: spl c xs := by rw [spl, if_pos rfl]
theorem spl_miss {c x : Nat} {xs p : Li} {ps : List Li} (h : ¬ x = c) (e : spl c xs = p :: ps) : spl c (x :: xs) = (x :: p) :: ps := by rw [spl, if_neg h, e]
theorem spl_free {c : Nat} : ∀ {p : Li}, c ∉ p → spl c p = [p]
  | [], _ => rfl
  | x :: p, h => spl_miss (fun e => h (by rw [e]; exact List.mem_cons_self)) (spl_free (p := p) fun z => h (List.mem_cons_of_mem _ z))
theorem spl_app {c : Nat} {r : Li} : ∀ {p : Li}, c ∉ p → spl c (p ++ c :: r) = p :: spl c r
  | [], _ => spl_hit
  | x :: p, h => spl_miss (fun e => h (by rw [e]; exact List.mem_cons_self)) (spl_app (p := p) fun z => h (List.mem_cons_of_mem _ z))
theorem spl_jn {c : Nat} : ∀ {ps : List Li}, ps ≠ [] → (∀ p ∈ ps, c ∉ p) → spl c (jn c ps) = ps
  | [], h, _ => absurd rfl h
  | [p], _, h => spl_free (h p List.mem_cons_self)
  | p :: q :: r, _, h => by
    show spl c (p ++ c :: jn c (q :: r)) = _
    rw [spl_app (h p List.mem_cons_self), spl_jn (by simp) fun z hz => h z (List.mem_cons_of_mem _ hz)]
theorem jn_spl (c : Nat) : ∀ l : Li, jn c (spl c l) = l
  | [] => rfl
  | x :: xs => by
    have ih := jn_spl c xs
    unfold spl
    split
    · rename_i h
      have ne := spl_ne c xs
      cases z : spl c xs with
      | nil => exact absurd z ne
      | cons p ps =>
        rw [z] at ih
        show ([] : Li) ++ c :: jn c (p :: ps) = _
        rw [ih, h]
        rfl
    · cases z : spl c xs with
      | nil => exact absurd z (spl_ne c xs)
      | cons p ps =>
        rw [z] at ih
        show jn c ((x :: p) :: ps) = _
        cases ps with
        | nil => exact congrArg (x :: ·) ih
        | cons q r => exact congrArg (x :: ·) ih
theorem spl_mem (c : Nat) : ∀ (l : Li) (p : Li), p ∈ spl c l → c ∉ p
  | [], p, h => by
    cases (List.mem_singleton.mp h)
    simp
  | x :: xs, p, h => by
    unfold spl at h
    split at h
    · rcases List.mem_cons.mp h with rfl | h
      · simp
      · exact spl_mem c xs p h
    · rename_i hx
      cases z : spl c xs with
      | nil => exact absurd z (spl_ne c xs)
      | cons q qs =>
        rw [z] at h
        rcases List.mem_cons.mp h with rfl | h
        · intro m
          rcases List.mem_cons.mp m with e | m
          · exact hx e.symm
          · exact spl_mem c xs q (by rw [z]; exact List.mem_cons_self) m
        · exact spl_mem c xs p (by rw [z]; exact List.mem_cons_of_mem _ h)
theorem join_mk (c : Nat) : ∀ ps : List Li, Str.join (mk [c]) (ps.map mk) = mk (jn c ps)
  | [] => rfl
  | [p] => rfl
  | p :: q :: r => by
    show mk p ++ mk [c] ++ Str.join (mk [c]) ((q :: r).map mk) = _
    rw [join_mk c (q :: r), mk_app, mk_app]
    show mk ((p ++ [c]) ++ jn c (q :: r)) = mk (p ++ c :: jn c (q :: r))
    rw [List.append_assoc]
    rfl
theorem txt_join (c : Nat) (ps : List Li) : Txt.join (mk [c]) (ps.map mk) = mk (jn c ps) := (StrLaws.glued_eq_join _ _).trans (join_mk c ps)
theorem txt_split (c : Nat) (l : Li) : Txt.split (mk l) (mk [c]) = (spl c l).map mk := by
  have e : Txt.split (mk l) (mk [c]) = ((Txt.split (mk l) (mk [c])).map un).map mk := by rw [List.map_map]; simp [Function.comp_def]
  have j := StrLaws.join_split (mk l) (mk [c])
  have f : ∀ p ∈ (Txt.split (mk l) (mk [c])).map un, c ∉ p := fun p hp => by
    obtain ⟨s, hs, rfl⟩ := List.mem_map.mp hp
    exact StrLaws.split_free (mk l) c s hs
  have ne : (Txt.split (mk l) (mk [c])).map un ≠ [] := fun z => by
    have z : Txt.split (mk l) (mk [c]) = [] := List.map_eq_nil_iff.mp z
    unfold Txt.split at z
    split at z
    · cases z
    · split at z
      · cases z
      · rw [StrLaws.partsBetween_eq] at z
        obtain ⟨p, r, e⟩ := StrLaws.partsFrom_ne (mk l) (mk [c]).length 0 (Builtin.Str.occurrences (mk l) (mk [c]) 0 (mk l).length ((mk l).length + 1))
        rw [e] at z
        cases z
  rw [e] at j
  rw [join_mk] at j
  have j := mk_inj.mp j
  have z := spl_jn ne f
  rw [j] at z
  rw [z]
  exact e
theorem spl_len_le (c : Nat) : ∀ l : Li, (spl c l).length ≤ l.length + 1
  | [] => Nat.le_refl _
  | x :: xs => by
    have ih := spl_len_le c xs
    unfold spl
    split
    · simp only [List.length_cons]; omega
    · cases z : spl c xs with
      | nil => simp
      | cons p ps => rw [z] at ih; simp only [List.length_cons] at ih ⊢; omega
theorem strIn_mk (c : Nat) (l : Li) : strIn (mk [c]) (mk l) = decide (c ∈ l) := by
  unfold strIn
  have := StrLaws.found_one (mk l) c
  rw [show (mk l).cps.toList = l from by simp [mk]] at this
  exact this
theorem starts_mk (a b : Li) : Txt.startswith (mk a) (mk b) = decide (b <+: a) := by
  unfold Txt.startswith Builtin.Str.subAt
  rw [mk_len, mk_len]
  have e : ((mk a).cps.extract 0 (0 + b.length) == (mk b).cps) = (a.take b.length == b) := by
    rw [Nat.zero_add]
    simp only [mk]
    rw [Bool.eq_iff_iff]
    simp only [beq_iff_eq]
    constructor
    · intro h
      have := congrArg Array.toList h
      simpa using this
    · intro h
      apply Array.toList_inj.mp
      simpa using h
  rw [e, Nat.zero_add]
  rw [Bool.eq_iff_iff]
  simp only [Bool.and_eq_true, decide_eq_true_eq, beq_iff_eq]
  constructor
  · rintro ⟨_, h⟩
    exact ⟨a.drop b.length, by have z := List.take_append_drop b.length a; rw [h] at z; exact z⟩
  · rintro ⟨t, rfl⟩
    simp
end KW

set_option maxRecDepth 100000
set_option maxHeartbeats 4000000
namespace KW
open PySem PySem.Spec L2 DZ

/-! ### numbers as they are shown -/
def dig (c : Nat) : Bool := decide (48 ≤ c ∧ c ≤ 57)
def num (l : Li) : Nat := l.foldl (fun a c => a * 10 + (c - 48)) 0
def letter (c : Nat) : Bool := decide (97 ≤ c ∧ c ≤ 122)
def fig (s : Li) : Bool := s == [] || (s.all dig && (s == [48] || s.take 1 != [48]) && decide (s.length ≤ 3) && decide (num s < 400))
theorem fig_nil : fig [] = true := rfl
theorem bne1 (a b : Nat) : (([a] : Li) != [b]) = (a != b) := by simp [bne]
theorem fig1 (a : Nat) : fig [a] = dig a := by
  unfold fig
  cases h : dig a with
  | false => simp [h]
  | true =>
    have h2 := of_decide_eq_true h
    have : a - 48 < 400 := by omega
    simp [h, num, this]
    by_cases e : a = 48 <;> simp [e]
theorem fig2 (a b : Nat) : fig [a, b] = (dig a && dig b && a != 48) := by
  unfold fig
  cases h : dig a with
  | false => simp [h]
  | true =>
    cases g : dig b with
    | false => simp [h, g]
    | true =>
      have h2 := of_decide_eq_true h
      have g2 := of_decide_eq_true g
      have : (a - 48) * 10 + (b - 48) < 400 := by omega
      simp [h, g, num, this, bne1]
theorem fig3 (a b c : Nat) : fig [a, b, c] = (dig a && dig b && dig c && a != 48 && decide (((a - 48) * 10 + (b - 48)) * 10 + (c - 48) < 400)) := by
  unfold fig
  cases h : dig a <;> cases g : dig b <;> cases k : dig c <;> simp [h, g, k, num, bne1]
theorem fig4 (a b c d : Nat) (r : Li) : fig (a :: b :: c :: d :: r) = false := by
  unfold fig
  simp
theorem fig_dig {s : Li} (h : fig s = true) : s.all dig = true := by
  unfold fig at h
  rcases Bool.or_eq_true _ _ |>.mp h with h | h
  · rw [beq_iff_eq.mp h]; rfl
  · simp only [Bool.and_eq_true] at h
    exact h.1.1.1
theorem fig_nb {s : Li} (h : fig s = true) : 32 ∉ s := fun m => by
  have := List.all_eq_true.mp (fig_dig h) 32 m
  exact absurd this (by decide)
theorem fig_take {s : Li} (h : fig s = true) (i : Nat) : fig (s.take i) = true := by
  match s, i with
  | s, 0 => rfl
  | [], i + 1 => rfl
  | [a], i + 1 => simpa using h
  | [a, b], 1 =>
    rw [fig2] at h
    show fig [a] = true
    rw [fig1]
    simp only [Bool.and_eq_true] at h
    exact h.1.1
  | [a, b], i + 2 => simpa using h
  | [a, b, c], 1 =>
    rw [fig3] at h
    show fig [a] = true
    rw [fig1]
    simp only [Bool.and_eq_true] at h
    exact h.1.1.1.1
  | [a, b, c], 2 =>
    rw [fig3] at h
    show fig [a, b] = true
    rw [fig2]
    simp only [Bool.and_eq_true] at h ⊢
    exact ⟨h.1.1.1, h.1.2⟩
  | [a, b, c], i + 3 => simpa using h
  | a :: b :: c :: d :: r, i => rw [fig4] at h; cases h
def Pg (t : Li) (i : Nat) : Bool := decide (i ≤ t.length) && fig (t.take i)
/-- how many signs are a number's beginning -/
def ngo (t : Li) : Nat := if Pg t 1 = true then (if Pg t 2 = true then (if Pg t 3 = true then 3 else 2) else 1) else 0
theorem Pg_iff {t : Li} {i : Nat} : Pg t i = true ↔ i ≤ t.length ∧ fig (t.take i) = true := by unfold Pg; rw [Bool.and_eq_true, decide_eq_true_eq]
theorem ngo_spec (t : Li) : ngo t ≤ t.length ∧ fig (t.take (ngo t)) = true ∧ (ngo t < t.length → fig (t.take (ngo t + 1)) = false) := by
  unfold ngo
  have no : ∀ {i : Nat}, ¬ Pg t i = true → i ≤ t.length → fig (t.take i) = false := fun {i} h l => by
    cases z : fig (t.take i) with
    | false => rfl
    | true => exact absurd (Pg_iff.mpr ⟨l, z⟩) h
  split
  · rename_i h1
    split
    · rename_i h2
      split
      · rename_i h3
        refine ⟨(Pg_iff.mp h3).1, (Pg_iff.mp h3).2, fun l => ?_⟩
        match t, l with
        | a :: b :: c :: d :: r, _ => exact fig4 a b c d []
      · rename_i h3
        exact ⟨(Pg_iff.mp h2).1, (Pg_iff.mp h2).2, fun l => no h3 l⟩
    · rename_i h2
      exact ⟨(Pg_iff.mp h1).1, (Pg_iff.mp h1).2, fun l => no h2 l⟩
  · rename_i h1
    exact ⟨Nat.zero_le _, rfl, fun l => no h1 l⟩
theorem ngo_le {t : Li} {i : Nat} (h : i ≤ ngo t) : fig (t.take i) = true := by
  have := fig_take (ngo_spec t).2.1 i
  rwa [List.take_take, Nat.min_eq_left h] at this
theorem ngo_of {t : Li} {k : Nat} (l : k ≤ t.length) (h : fig (t.take k) = true) (n : k < t.length → fig (t.take (k + 1)) = false) : ngo t = k := by
  obtain ⟨a, b, c⟩ := ngo_spec t
  rcases Nat.lt_trichotomy (ngo t) k with z | z | z
  · have e := fig_take h (ngo t + 1)
    rw [List.take_take, Nat.min_eq_left z, c (Nat.lt_of_lt_of_le z l)] at e
    cases e
  · exact z
  · have e := ngo_le (t := t) (i := k + 1) z
    rw [n (Nat.lt_of_lt_of_le z a)] at e
    cases e
theorem ngo_all {t : Li} (h : fig t = true) : ngo t = t.length := ngo_of (Nat.le_refl _) (by rw [List.take_length]; exact h) fun l => absurd l (Nat.lt_irrefl _)
theorem ngo_b {d u : Li} (h : fig d = true) : ngo (d ++ 32 :: u) = d.length := by
  refine ngo_of (by simp) (by simpa using h) fun _ => ?_
  rw [List.take_length_add_append]
  cases z : fig (d ++ List.take 1 (32 :: u)) with
  | false => rfl
  | true => exact absurd (List.mem_append_right _ List.mem_cons_self) (fig_nb z)

/-! ### lines -/
def Lgo : Li := [103, 111]
def Lcut : Li := [99, 117, 116]
def Lend : Li := [101, 110, 100]
def Lsign : Li := [115, 105, 103, 110]
def Lover : Li := [111, 118, 101, 114]
def Lsb : Li := [115, 105, 103, 110, 32]
def Lob : Li := [111, 118, 101, 114, 32]
def W5 : List Li := [Lgo, Lcut, Lend, Lsb, Lob]
def okc (e : Li) : Bool := match e with
  | [c] => letter c
  | _ => false
/-- what may stand behind "sign ", "over " -/
def tok (over : Bool) (parts : List Li) : Bool := match parts with
  | [d] => fig d
  | [d, e] => !over && fig d && d != [] && (e == [] || okc e)
  | _ => false
/-- whether some line begins so -/
def lgo (p : Li) : Bool := W5.any (fun w => decide (p <+: w)) || (p.take 5 == Lsb && tok false (spl 32 (p.drop 5))) || (p.take 5 == Lob && tok true (spl 32 (p.drop 5)))
/-- whether a line tells an event -/
def lln (r : Li) : Bool := r == Lgo || r == Lcut || (match spl 32 r with
  | [a, d] => a == Lover && d != [] && fig d
  | [a, d, e] => a == Lsign && d != [] && fig d && okc e
  | _ => false)
theorem okc_nb {e : Li} (h : okc e = true) : 32 ∉ e := by
  unfold okc at h
  split at h
  · intro m
    cases List.mem_singleton.mp m
    cases h
  · cases h
theorem letter_nb {c : Nat} (h : letter c = true) : c ≠ 32 := fun e => by rw [e] at h; cases h
theorem lgo_pre {p w : Li} (hw : w ∈ W5) (h : p <+: w) : lgo p = true := by
  unfold lgo
  have : W5.any (fun w => decide (p <+: w)) = true := List.any_eq_true.mpr ⟨w, hw, decide_eq_true h⟩
  rw [this]
  rfl
theorem lgo_nil : lgo [] = true := lgo_pre (w := Lgo) List.mem_cons_self List.nil_prefix
theorem lgo_sb (t : Li) : lgo (Lsb ++ t) = tok false (spl 32 t) := by
  cases t with
  | nil => rfl
  | cons x r =>
    have a : W5.any (fun w => decide ((Lsb ++ x :: r) <+: w)) = false := by
      cases z : W5.any (fun w => decide ((Lsb ++ x :: r) <+: w)) with
      | false => rfl
      | true =>
        obtain ⟨w, hw, h⟩ := List.any_eq_true.mp z
        have l := (of_decide_eq_true h).length_le
        have : w.length ≤ 5 := by
          simp only [W5, List.mem_cons, List.not_mem_nil, or_false] at hw
          rcases hw with rfl | rfl | rfl | rfl | rfl <;> decide
        have e : (Lsb ++ x :: r).length = r.length + 6 := by simp [Lsb]
        omega
    unfold lgo
    rw [a]
    show (false || ((Lsb == Lsb) && tok false (spl 32 (x :: r))) || ((Lsb == Lob) && _)) = _
    rw [show (Lsb == Lsb) = true from rfl, show (Lsb == Lob) = false from rfl]
    simp
theorem lgo_ob (t : Li) : lgo (Lob ++ t) = tok true (spl 32 t) := by
  cases t with
  | nil => rfl
  | cons x r =>
    have a : W5.any (fun w => decide ((Lob ++ x :: r) <+: w)) = false := by
      cases z : W5.any (fun w => decide ((Lob ++ x :: r) <+: w)) with
      | false => rfl
      | true =>
        obtain ⟨w, hw, h⟩ := List.any_eq_true.mp z
        have l := (of_decide_eq_true h).length_le
        have : w.length ≤ 5 := by
          simp only [W5, List.mem_cons, List.not_mem_nil, or_false] at hw
          rcases hw with rfl | rfl | rfl | rfl | rfl <;> decide
        have e : (Lob ++ x :: r).length = r.length + 6 := by simp [Lob]
        omega
    unfold lgo
    rw [a]
    show (false || ((Lob == Lsb) && _) || ((Lob == Lob) && tok true (spl 32 (x :: r)))) = _
    rw [show (Lob == Lsb) = false from rfl, show (Lob == Lob) = true from rfl]
    simp
theorem tok_over (t : Li) : tok true (spl 32 t) = fig t := by
  by_cases h : 32 ∈ t
  · have e : fig t = false := by
      cases z : fig t with
      | false => rfl
      | true => exact absurd h (fig_nb z)
    rw [e]
    cases z : spl 32 t with
    | nil => rfl
    | cons p ps =>
      cases ps with
      | nil =>
        have := jn_spl 32 t
        rw [z] at this
        have := spl_mem 32 t p (by rw [z]; exact List.mem_cons_self)
        exact absurd h (by rwa [show p = t from ‹jn 32 [p] = t›] at this)
      | cons q qs => cases qs <;> rfl
  · rw [spl_free h]
    rfl
theorem spl_sb (t : Li) : spl 32 (Lsb ++ t) = Lsign :: spl 32 t := spl_app (p := Lsign) (by decide)
theorem spl_ob (t : Li) : spl 32 (Lob ++ t) = Lover :: spl 32 t := spl_app (p := Lover) (by decide)
theorem lln_ob (t : Li) : lln (Lob ++ t) = (t != [] && fig t) := by
  unfold lln
  rw [spl_ob]
  have h1 : (Lob ++ t == Lgo) = false := by
    cases z : (Lob ++ t == Lgo) with
    | false => rfl
    | true => exact absurd (congrArg List.length (beq_iff_eq.mp z)) (by simp [Lob, Lgo])
  have h2 : (Lob ++ t == Lcut) = false := by
    cases z : (Lob ++ t == Lcut) with
    | false => rfl
    | true => exact absurd (congrArg List.length (beq_iff_eq.mp z)) (by simp [Lob, Lcut])
  rw [h1, h2]
  have k := tok_over t
  cases z : spl 32 t with
  | nil => exact absurd z (spl_ne 32 t)
  | cons p ps =>
    rw [z] at k
    have j := jn_spl 32 t
    rw [z] at j
    cases ps with
    | nil =>
      have j : p = t := j
      rw [j]
      simp
    | cons q qs =>
      have k : fig t = false := by
        rw [← k]
        cases qs <;> rfl
      rw [k]
      cases qs with
      | nil => simp [show (Lover == Lsign) = false from rfl]
      | cons _ _ => simp
theorem lln_sb (t : Li) : lln (Lsb ++ t) = (match spl 32 t with
  | [d, e] => d != [] && fig d && okc e
  | _ => false) := by
  unfold lln
  rw [spl_sb]
  have h1 : (Lsb ++ t == Lgo) = false := by
    cases z : (Lsb ++ t == Lgo) with
    | false => rfl
    | true => exact absurd (congrArg List.length (beq_iff_eq.mp z)) (by simp [Lsb, Lgo])
  have h2 : (Lsb ++ t == Lcut) = false := by
    cases z : (Lsb ++ t == Lcut) with
    | false => rfl
    | true => exact absurd (congrArg List.length (beq_iff_eq.mp z)) (by simp [Lsb, Lcut])
  rw [h1, h2]
  cases z : spl 32 t with
  | nil => rfl
  | cons p ps =>
    cases ps with
    | nil => simp [show (Lsign == Lover) = false from rfl]
    | cons q qs =>
      cases qs with
      | nil => simp
      | cons _ _ => rfl
end KW

set_option maxRecDepth 100000
set_option maxHeartbeats 4000000
namespace KW
open PySem PySem.Spec L2 DZ

/-! ### operators at texts of signs -/
/-- a short text of plain signs -/
structure As (l : Li) : Prop where
  of ::
  ch : ∀ c ∈ l, c < 128
  len : l.length ≤ 1000
theorem As.sub {a b : Li} (h : As b) (i : ∀ c ∈ a, c ∈ b) (n : a.length ≤ b.length) : As a := ⟨fun c m => h.ch c (i c m), Nat.le_trans n h.len⟩
theorem As.take {l : Li} (h : As l) (i : Nat) : As (l.take i) := h.sub (fun _ m => List.mem_of_mem_take m) (by simp; omega)
theorem As.drop {l : Li} (h : As l) (i : Nat) : As (l.drop i) := h.sub (fun _ m => List.mem_of_mem_drop m) (by simp)
theorem As.one {l : Li} (h : As l) {c : Nat} (m : c ∈ l) : As [c] := h.sub (fun x hx => by cases List.mem_singleton.mp hx; exact m) (by cases l with | nil => cases m | cons => simp)
theorem spl_sub (c : Nat) : ∀ (l : Li) (p : Li), p ∈ spl c l → (∀ x ∈ p, x ∈ l) ∧ p.length ≤ l.length
  | [], p, h => by
    cases List.mem_singleton.mp h
    exact ⟨fun _ m => m, Nat.le_refl _⟩
  | x :: xs, p, h => by
    unfold spl at h
    split at h
    · rcases List.mem_cons.mp h with rfl | h
      · exact ⟨fun _ m => absurd m List.not_mem_nil, Nat.zero_le _⟩
      · have := spl_sub c xs p h
        exact ⟨fun y m => List.mem_cons_of_mem _ (this.1 y m), by simp only [List.length_cons]; omega⟩
    · cases z : spl c xs with
      | nil => exact absurd z (spl_ne c xs)
      | cons q qs =>
        rw [z] at h
        rcases List.mem_cons.mp h with rfl | h
        · have := spl_sub c xs q (by rw [z]; exact List.mem_cons_self)
          refine ⟨fun y m => ?_, by simp only [List.length_cons]; omega⟩
          rcases List.mem_cons.mp m with rfl | m
          · exact List.mem_cons_self
          · exact List.mem_cons_of_mem _ (this.1 y m)
        · have := spl_sub c xs p (by rw [z]; exact List.mem_cons_of_mem _ h)
          exact ⟨fun y m => List.mem_cons_of_mem _ (this.1 y m), by simp only [List.length_cons]; omega⟩
theorem As.part {l p : Li} (h : As l) {c : Nat} (m : p ∈ spl c l) : As p := h.sub (spl_sub c l p m).1 (spl_sub c l p m).2
theorem As.size {l : Li} (h : As l) : l.length ≤ sizeLine := Nat.le_trans h.len (by decide)
theorem As.fit {l : Li} (h : As l) : (mk l).length ≤ sizeLine := by
  rw [mk_len]
  exact Nat.le_trans h.len (by decide)
theorem As.fit2 {l : Li} (h : As l) : (mk l).length + 2 ≤ sizeLine := by
  rw [mk_len]
  have : 1002 ≤ sizeLine := by decide
  have := h.len
  omega
theorem sh_str {l : Li} (h : As l) : SeqAt.shaped (.str (mk l)) = true := by
  unfold SeqAt.shaped
  rw [Bool.and_eq_true]
  refine ⟨?_, decide_eq_true (Nat.zero_le 64)⟩
  show ((mk l).cps.all fun x => decide (x < 0x110000)) = true
  simp only [mk, List.all_toArray, List.all_eq_true, decide_eq_true_eq]
  exact fun c m => Nat.lt_trans (h.ch c m) (by decide)
theorem canLay_of_shaped' {d : PyData} (h : SeqAt.shaped d = true) : d.canLay0 = true := (Bool.and_eq_true_iff.mp h).1
theorem eqv_mk (a b : Li) : PyData.eqv (.str (mk a)) (.str (mk b)) = decide (a = b) := by
  show (mk a == mk b) = _
  rw [Bool.eq_iff_iff]
  simp [mk_inj]
theorem feq_mk {a b : Li} (r s : RV) (ha : As a) (hb : As b) : fEq r s (.str (mk a)) (.str (mk b)) = some (.fz (.bool (decide (a = b)))) := by
  unfold fEq
  rw [if_pos ⟨sh_str ha, sh_str hb⟩, eqv_mk]
theorem feq_s {a b : Li} {s t : Str} (ea : s = mk a) (eb : t = mk b) (ha : As a) (hb : As b) (r1 r2 : RV) : fEq r1 r2 (.str s) (.str t) = some (.fz (.bool (decide (a = b)))) := by
  subst ea eb
  exact feq_mk _ _ ha hb
theorem fne_s {a b : Li} {s t : Str} (ea : s = mk a) (eb : t = mk b) (ha : As a) (hb : As b) (r1 r2 : RV) : fNe r1 r2 (.str s) (.str t) = some (.fz (.bool (!decide (a = b)))) := by
  subst ea eb
  unfold fNe
  rw [if_pos ⟨sh_str ha, sh_str hb⟩, eqv_mk]
theorem fne_mk {a b : Li} (r s : RV) (ha : As a) (hb : As b) : fNe r s (.str (mk a)) (.str (mk b)) = some (.fz (.bool (!decide (a = b)))) := by
  unfold fNe
  rw [if_pos ⟨sh_str ha, sh_str hb⟩, eqv_mk]
theorem cut_to (l : Li) (k : Nat) : cutS (mk l) none (some (k : Int)) = mk (l.take k) := by
  rw [cutS_mk]
  show mk ((l.drop 0).take (HT.sIx l.length l.length (some (k : Int)) - 0)) = _
  rw [HT.sIx_nat, List.drop_zero, Nat.sub_zero]
  congr 1
  rcases Nat.le_total k l.length with h | h
  · rw [Nat.min_eq_left h]
  · rw [Nat.min_eq_right h, List.take_length, List.take_of_length_le h]
theorem cut_to1 (l : Li) : cutS (mk l) none (some 1) = mk (l.take 1) := cut_to l 1
theorem cut_to5 (l : Li) : cutS (mk l) none (some 5) = mk (l.take 5) := cut_to l 5
theorem cut_from (l : Li) (k : Nat) : cutS (mk l) (some (k : Int)) none = mk (l.drop k) := by
  rw [cutS_mk]
  show mk ((l.drop (HT.sIx l.length 0 (some (k : Int)))).take (l.length - HT.sIx l.length 0 (some (k : Int)))) = _
  rw [HT.sIx_nat]
  congr 1
  rcases Nat.le_total k l.length with h | h
  · rw [Nat.min_eq_left h, List.take_of_length_le (by simp)]
  · rw [Nat.min_eq_right h, List.drop_eq_nil_of_le (Nat.le_refl _), List.drop_eq_nil_of_le h, List.take_nil]
theorem cut_from5 (l : Li) : cutS (mk l) (some 5) none = mk (l.drop 5) := cut_from l 5
theorem cut_mid (l : Li) (i j : Nat) : cutS (mk l) (some (i : Int)) (some (j : Int)) = mk ((l.drop i).take (j - i)) := by
  rw [cutS_mk, HT.sIx_nat, HT.sIx_nat]
  congr 1
  rcases Nat.le_total i l.length with h | h
  · rw [Nat.min_eq_left h]
    rcases Nat.le_total j l.length with g | g
    · rw [Nat.min_eq_left g]
    · rw [Nat.min_eq_right g, List.take_of_length_le (l := l.drop i) (i := l.length - i) (by simp), List.take_of_length_le (by simp; omega)]
  · rw [Nat.min_eq_right h, List.drop_eq_nil_of_le (Nat.le_refl _), List.drop_eq_nil_of_le h, List.take_nil, List.take_nil]
theorem at_nat {α : Type} (xs : List α) (i : Nat) : atI xs (i : Int) = xs[i]? := by
  unfold atI ixN
  rw [if_pos (by omega)]
  by_cases h : i < xs.length
  · rw [if_pos (by omega)]
    rfl
  · rw [if_neg (by omega)]
    exact (List.getElem?_eq_none (by omega)).symm
theorem at_0 {α : Type} (xs : List α) : atI xs 0 = xs[0]? := at_nat xs 0
theorem at_1 {α : Type} (xs : List α) : atI xs 1 = xs[1]? := at_nat xs 1
theorem at_2 {α : Type} (xs : List α) : atI xs 2 = xs[2]? := at_nat xs 2
theorem at_3 {α : Type} (xs : List α) : atI xs 3 = xs[3]? := at_nat xs 3
theorem at_m {α : Type} (xs : List α) : atI xs (-1) = xs.getLast? := by
  cases h : xs.getLast? with
  | none =>
    cases List.getLast?_eq_none_iff.mp h
    rfl
  | some v =>
    obtain ⟨ys, rfl⟩ := List.getLast?_eq_some_iff.mp h
    exact atI_last ys v
theorem txt_at (l : Li) (i : Nat) : atI (mk l).cps.toList (i : Int) = l[i]? := by
  rw [at_nat]
  simp [mk]
theorem cps_mk (l : Li) : (mk l).cps.toList = l := by simp [mk]
theorem int_mk {l : Li} (h : l.all dig = true) (n : l ≠ []) (k : l.length ≤ 640) : PySem.intText? (mk l) = some ((num l : Nat) : Int) := by
  have := intText_digits (x := mk l) (by
    rw [cps_mk]
    intro c m
    exact of_decide_eq_true (List.all_eq_true.mp h c m)) (by rw [cps_mk]; exact n) (by rw [mk_len]; omega)
  rw [this, cps_mk]
  rfl
theorem lay_strs : ∀ {ps : List Li}, (∀ p ∈ ps, As p) → PyData.canLayAll0 (ps.map fun p => .str (mk p)) = true
  | [], _ => by simp [PyData.canLayAll0]
  | p :: ps, h => by
    have a := canLay_of_shaped' (sh_str (h p List.mem_cons_self))
    have b := lay_strs (ps := ps) fun q m => h q (List.mem_cons_of_mem _ m)
    simp only [List.map_cons, PyData.canLayAll0, a, b, Bool.and_self]
theorem deep_strs : ∀ (ps : List Li), PyData.depthAll (ps.map fun p => .str (mk p)) = 0
  | [] => by simp [PyData.depthAll]
  | p :: ps => by
    have b := deep_strs ps
    simp only [List.map_cons, PyData.depthAll, PyData.depth, b, Nat.max_self]
theorem sh_strs {ps : List Li} (h : ∀ p ∈ ps, As p) : SeqAt.shaped (.list (ps.map fun p => .str (mk p))) = true := by
  unfold SeqAt.shaped
  simp only [PyData.canLay0, lay_strs h, PyData.depth, deep_strs]
  decide
theorem feq_strs {ps : List Li} (r s : RV) (h : ∀ p ∈ ps, As p) : fEq r s (.list (ps.map fun p => .str (mk p))) (.list []) = some (.fz (.bool (decide (ps = [])))) := by
  unfold fEq
  rw [if_pos ⟨sh_strs h, by rfl⟩]
  cases ps <;> simp [PyData.eqv, PyData.eqvAll]
theorem lt_mk (a b : Li) : ltS (mk a) (mk b) = decide (a < b) := by
  unfold ltS
  rw [cps_mk, cps_mk]

/-! ### comprehensions that sort out, loops -/
theorem mix_one (Γ : DZ.Env) (v : Nat) (x : Option SV) : mixE [v] Γ (Γ.set v x) = Γ := by
  unfold mixE
  apply List.ext_getElem
  · simp
  · intro i h1 h2
    simp only [List.getElem_map, List.getElem_range, List.mem_singleton]
    split
    · rw [List.getElem?_eq_getElem h2]
      rfl
    · rename_i n
      rw [List.getElem?_set, if_neg fun e => n e.symm, List.getElem?_eq_getElem h2]
      rfl
theorem lc_run {v : Nat} {tt : M Bool} {te : M RV} {p : PyData → Bool} {g : PyData → PyData} {Γ : DZ.Env} : ∀ (ds acc : List PyData), acc.length + ds.length ≤ sizeLine →
    (∀ d ∈ ds, tt (Γ.set v (some (.fz d))) = .ok (p d) (Γ.set v (some (.fz d))) ∧ (p d = true → ∃ rv, te (Γ.set v (some (.fz d))) = .ok rv (Γ.set v (some (.fz d))) ∧ frz rv (Γ.set v (some (.fz d))) = .ok (g d) (Γ.set v (some (.fz d))))) →
    lcG [v] (gN v) (turnL tt te) ds (.list acc) Γ = .ok (.list (acc ++ (ds.filter p).map g)) Γ
  | [], acc, _, _ => by simp [lcG]
  | d :: ds, acc, n, h => by
    obtain ⟨h1, h2⟩ := h d List.mem_cons_self
    have e : (wipeE Γ [v]).set v (some (.fz d)) = Γ.set v (some (.fz d)) := by simp [wipeE]
    have n : acc.length + (ds.length + 1) ≤ sizeLine := n
    have e1 : gN v d (wipeE Γ [v]) = some (Γ.set v (some (.fz d))) := congrArg some e
    rw [lcG, e1]
    cases z : p d with
    | false =>
      have e2 : turnL tt te (.list acc) (Γ.set v (some (.fz d))) = .ok (.list acc) (Γ.set v (some (.fz d))) := by
        unfold turnL
        rw [h1, z]
        rfl
      have := lc_run (v := v) (tt := tt) (te := te) (p := p) (g := g) (Γ := Γ) ds acc (by omega) fun d m => h d (List.mem_cons_of_mem _ m)
      simp only [e2, mix_one]
      rw [this, List.filter_cons_of_neg (by simp [z])]
    | true =>
      obtain ⟨rv, h3, h4⟩ := h2 z
      have e2 : turnL tt te (.list acc) (Γ.set v (some (.fz d))) = .ok (.list (acc ++ [g d])) (Γ.set v (some (.fz d))) := by
        unfold turnL
        rw [h1, z]
        simp only [Out.bind, if_true, h3, h4, appD, if_pos (show acc.length < sizeLine by omega), Out.ofO]
      have := lc_run (v := v) (tt := tt) (te := te) (p := p) (g := g) (Γ := Γ) ds (acc ++ [g d]) (by simp; omega) fun d m => h d (List.mem_cons_of_mem _ m)
      simp only [e2, mix_one]
      rw [this, List.filter_cons_of_pos z, List.map_cons, List.append_assoc]
      rfl
theorem mlc_run {v : Nat} {mi : M (List PyData)} {tt : M Bool} {te : M RV} {Γ : DZ.Env} (ds : List PyData) (p : PyData → Bool) (g : PyData → PyData) (hi : mi Γ = .ok ds Γ) (n : ds.length ≤ sizeLine)
    (h : ∀ d ∈ ds, tt (Γ.set v (some (.fz d))) = .ok (p d) (Γ.set v (some (.fz d))) ∧ (p d = true → ∃ rv, te (Γ.set v (some (.fz d))) = .ok rv (Γ.set v (some (.fz d))) ∧ frz rv (Γ.set v (some (.fz d))) = .ok (g d) (Γ.set v (some (.fz d))))) :
    mLc [v] mi (gN v) tt te Γ = .ok (.ow (.list ((ds.filter p).map g))) Γ := by
  unfold mLc
  rw [hi]
  have := lc_run (v := v) (tt := tt) (te := te) (p := p) (g := g) (Γ := Γ) ds [] (by simpa using n) h
  simp only [Out.bind, this, List.nil_append]
theorem orV_ok {ma mb : M RV} {Γ : DZ.Env} {a b : Bool} (h1 : ma Γ = .ok (.fz (.bool a)) Γ) (h2 : a = false → mb Γ = .ok (.fz (.bool b)) Γ) : mOrV ma mb Γ = .ok (.fz (.bool (a || b))) Γ := by
  unfold mOrV
  rw [h1]
  cases a with
  | true => rfl
  | false => exact h2 rfl
theorem andV_ok {ma mb : M RV} {Γ : DZ.Env} {a b : Bool} (h1 : ma Γ = .ok (.fz (.bool a)) Γ) (h2 : a = true → mb Γ = .ok (.fz (.bool b)) Γ) : mAndV ma mb Γ = .ok (.fz (.bool (a && b))) Γ := by
  unfold mAndV
  rw [h1]
  cases a with
  | true => exact h2 rfl
  | false => rfl
theorem or_ok {ma mb : M Bool} {Γ : DZ.Env} {a b : Bool} (h1 : ma Γ = .ok a Γ) (h2 : a = false → mb Γ = .ok b Γ) : mOr ma mb Γ = .ok (a || b) Γ := by
  unfold mOr
  rw [h1]
  cases a with
  | true => rfl
  | false => exact h2 rfl
theorem and_ok {ma mb : M Bool} {Γ : DZ.Env} {a b : Bool} (h1 : ma Γ = .ok a Γ) (h2 : a = true → mb Γ = .ok b Γ) : mAnd ma mb Γ = .ok (a && b) Γ := by
  unfold mAnd
  rw [h1]
  cases a with
  | true => exact h2 rfl
  | false => rfl
theorem test_ok {m : M RV} {Γ : DZ.Env} {a : Bool} (h : m Γ = .ok (.fz (.bool a)) Γ) : mTest m Γ = .ok a Γ := by
  unfold mTest
  rw [h]
  rfl
theorem truth_ok {m : M RV} {Γ : DZ.Env} {a : Bool} (h : m Γ = .ok (.fz (.bool a)) Γ) : mTruth m Γ = .ok a Γ := by
  unfold mTruth
  rw [h]
  rfl
theorem not_ok {t : M Bool} {Γ : DZ.Env} {a : Bool} (h : t Γ = .ok a Γ) : mNot t Γ = .ok (!a) Γ := by
  unfold mNot
  rw [h]
  rfl
theorem op_ok {f : F2} {ma mb : M RV} {Γ Γ1 Γ2 : DZ.Env} {r s t : RV} {d e : PyData} (h1 : ma Γ = .ok r Γ1) (h2 : mb Γ1 = .ok s Γ2) (p1 : peek Γ2 r = some d) (p2 : peek Γ2 s = some e) (h : f r s d e = some t) : mOp2 f ma mb Γ = .ok t Γ2 := by
  unfold mOp2
  simp only [h1, h2, Out.bind, p1, p2, h]
theorem if_t {t : M Bool} {m1 m2 : DZ.Env → Fl} {Γ Γ1 : DZ.Env} (h : t Γ = .ok true Γ1) : mIf t m1 m2 Γ = m1 Γ1 := by
  unfold mIf
  rw [h]
  rfl
theorem if_f {t : M Bool} {m1 m2 : DZ.Env → Fl} {Γ Γ1 : DZ.Env} (h : t Γ = .ok false Γ1) : mIf t m1 m2 Γ = m2 Γ1 := by
  unfold mIf
  rw [h]
  rfl
theorem seq_n {m1 m2 : DZ.Env → Fl} {Γ Γ1 : DZ.Env} (h : m1 Γ = .nx Γ1) : mSeq m1 m2 Γ = m2 Γ1 := by
  unfold mSeq
  rw [h]
theorem seq_r {m1 m2 : DZ.Env → Fl} {Γ Γ1 : DZ.Env} {r : RV} (h : m1 Γ = .rt r Γ1) : mSeq m1 m2 Γ = .rt r Γ1 := by
  unfold mSeq
  rw [h]
theorem seq_x {m1 m2 : DZ.Env → Fl} {Γ Γ1 : DZ.Env} {e : Exn} (h : m1 Γ = .ex e Γ1) : mSeq m1 m2 Γ = .ex e Γ1 := by
  unfold mSeq
  rw [h]
/-- if t: return a -/
theorem ifr {t : M Bool} {m m2 : DZ.Env → Fl} {Γ Γ1 : DZ.Env} {r : RV} (h : t Γ = .ok true Γ) (g : m Γ = .rt r Γ1) : mSeq (mIf t m mSkip) m2 Γ = .rt r Γ1 := seq_r ((if_t h).trans g)
theorem ifs {t : M Bool} {m m2 : DZ.Env → Fl} {Γ : DZ.Env} (h : t Γ = .ok false Γ) : mSeq (mIf t m mSkip) m2 Γ = m2 Γ := seq_n ((if_f h).trans rfl)
theorem ret_fz {P : List Nat} {m : M RV} {Γ Γ1 : DZ.Env} {d : PyData} (h : m Γ = .ok (.fz d) Γ1) : mRet P m Γ = .rt (.fz d) Γ1 := by
  unfold mRet
  rw [h]
  rfl
theorem ret_ow {P : List Nat} {m : M RV} {Γ Γ1 : DZ.Env} {d : PyData} (h : m Γ = .ok (.ow d) Γ1) : mRet P m Γ = .rt (.ow d) Γ1 := by
  unfold mRet
  rw [h]
  rfl
theorem set_fz {i : Nat} {m : M RV} {Γ Γ1 : DZ.Env} {d : PyData} (h : m Γ = .ok (.fz d) Γ1) : mSet i m Γ = .nx (Γ1.set i (some (.fz d))) := by
  unfold mSet
  rw [h]
  rfl
theorem set_ow {i : Nat} {m : M RV} {Γ Γ1 : DZ.Env} {d : PyData} (h : m Γ = .ok (.ow d) Γ1) : mSet i m Γ = .nx (Γ1.set i (some (.ow d))) := by
  unfold mSet
  rw [h]
  rfl
theorem fn_rt {N : Nat} {b : DZ.Env → Fl} {svs : List SV} {d : PyData} {Γ : DZ.Env} (h : b (svs.map some ++ List.replicate (N - svs.length) none) = .rt (.fz d) Γ) : fnOf false N b svs = .ret (.fz d) none := by
  unfold fnOf
  rw [h]
  rfl
theorem call_1 {C : List SV → Fo} {m : M RV} {Γ : DZ.Env} {d e : PyData} {r : RV} (h : m Γ = .ok r Γ) (q : giv r Γ = .ok (.fz d) Γ) (c : C [.fz d] = .ret (.fz e) none) : mCallP C (mCons m mNil) Γ = .ok (.fz e) Γ := by
  unfold mCallP mCons mNil givs givs
  simp only [h, Out.bind, q, c, rvOf]
theorem loopF_inv {tg : Tgt} {body : DZ.Env → Fl} (Inv : Nat → DZ.Env → Prop) : ∀ (ds : List PyData) (n : Nat) (Γ : DZ.Env), Inv n Γ →
    (∀ d ∈ ds, ∀ m Γ, m < n + ds.length → Inv m Γ → ∃ Γ1, tg d Γ = some Γ1 ∧ ∃ Γ2, (body Γ1 = .nx Γ2 ∨ body Γ1 = .ct Γ2) ∧ Inv (m + 1) Γ2) → ∃ Γ', loopF tg body ds Γ = .nx Γ' ∧ Inv (n + ds.length) Γ'
  | [], n, Γ, i, _ => ⟨Γ, rfl, i⟩
  | d :: ds, n, Γ, i, h => by
    obtain ⟨Γ1, e1, Γ2, e2, i2⟩ := h d List.mem_cons_self n Γ (by simp only [List.length_cons]; omega) i
    obtain ⟨Γ', e3, i3⟩ := loopF_inv Inv ds (n + 1) Γ2 i2 fun d m k Γ l => h d (List.mem_cons_of_mem _ m) k Γ (by simp only [List.length_cons]; omega)
    refine ⟨Γ', ?_, by rw [List.length_cons, show n + (ds.length + 1) = n + 1 + ds.length from by omega]; exact i3⟩
    unfold loopF
    rw [e1]
    rcases e2 with e2 | e2 <;> simp only [e2, e3]
end KW

set_option maxRecDepth 100000
set_option maxHeartbeats 4000000
namespace KW
open PySem PySem.Spec L2 DZ

theorem all_dig (l : Li) : decide (l.filter (fun c => !decide (c ∈ ([48, 49, 50, 51, 52, 53, 54, 55, 56, 57] : Li))) = []) = l.all dig := by
  rw [Bool.eq_iff_iff, decide_eq_true_eq, List.filter_eq_nil_iff, List.all_eq_true]
  refine forall_congr' fun c => forall_congr' fun _ => ?_
  unfold dig
  simp
  omega
theorem fig_eq (l : Li) : fig l = (decide (l = []) || (l.all dig && ((decide (l = [48]) || !decide (l.take 1 = [48])) && (decide (l.length ≤ 3) && decide (num l < 400))))) := by
  unfold fig
  rw [Bool.eq_iff_iff]
  simp only [Bool.or_eq_true, Bool.and_eq_true, beq_iff_eq, bne_iff_ne, decide_eq_true_eq, Bool.not_eq_true', decide_eq_false_iff_not, and_assoc]
theorem ev_figures {l : Li} (h : As l) : f__law_is_figures [.fz (.str (mk l))] = .ret (.fz (.bool (fig l))) none := by
  have hf := h.fit
  have i1 : mSeqI (mVar 0) [some (.fz (.str (mk l))), none] = .ok (l.map fun c => PyData.str (mk [c])) [some (.fz (.str (mk l))), none] := by
    simp [mSeqI, mVar, Out.bind, frz, signs_mk]
  have e1 := mlc_run (v := 1) (mi := mSeqI (mVar 0)) (tt := (mTest (mOp2 (fIn true) (mVar 1) (mK (.str "0123456789"))))) (te := mVar 1) (Γ := [some (.fz (.str (mk l))), none]) (l.map fun c => PyData.str (mk [c]))
    (fun d => match d with | .str s => !strIn s "0123456789" | _ => false) (fun d => d) i1 (by rw [List.length_map]; exact h.size) (by
      intro d m
      obtain ⟨c, mc, rfl⟩ := List.mem_map.mp m
      refine ⟨?_, fun _ => ⟨.fz (.str (mk [c])), ?_, rfl⟩⟩
      · simp [fnOf, mSeq, mSkip, Out.bind, Out.fl, mIf, mEx, mRet, retv, mSet, putv, mVar, mK, mG, mOp2, peek, slotD, mTruth, truth, mTest, mNot, mAnd, mOr, mAndV, mOrV, mNotV, mIte, mNil, mCons, frzs, frz, mTup, mLst, peeks, mBlt, fLen, svOf, outOf, mSl, mPart, mNoP, fSl, mBmS, fSplit, fStarts, mCallP, givs, giv, rvOf, fOrd, fAdd, fSub, fInt, fIx, fMax2, mNeg, fIn]
      · simp [mVar])
  have e2 : ((l.map fun c => PyData.str (mk [c])).filter (fun d => match d with | .str s => !strIn s "0123456789" | _ => false)).map (fun d => d) = (l.filter (fun c => !decide (c ∈ ([48, 49, 50, 51, 52, 53, 54, 55, 56, 57] : Li)))).map fun c => PyData.str (mk [c]) := by
    rw [List.map_id', List.filter_map]
    congr 1
    simp only [Function.comp_def, lit_dig, strIn_mk]
  rw [e2] at e1
  unfold f__law_is_figures b__law_is_figures
  have hn : As [] := h.sub (fun _ m => absurd m List.not_mem_nil) (Nat.zero_le _)
  have h0 : As [48] := ⟨by decide, by decide⟩
  have q1 : (∀ p ∈ (l.filter (fun c => !decide (c ∈ ([48, 49, 50, 51, 52, 53, 54, 55, 56, 57] : Li)))).map (fun c => [c]), As p) := by
    intro p m
    obtain ⟨c, mc, rfl⟩ := List.mem_map.mp m
    exact h.one (List.mem_filter.mp mc).1
  have q2 := fun r s => feq_strs r s q1
  rw [List.map_map] at q2
  simp only [Function.comp_def, List.map_eq_nil_iff, all_dig] at q2
  refine fn_rt (Γ := [some (.fz (.str (mk l))), none]) (ret_fz ?_)
  change mOrV _ _ [some (.fz (.str (mk l))), none] = _
  have v1 : mVar 0 [some (.fz (.str (mk l))), none] = .ok (.fz (.str (mk l))) [some (.fz (.str (mk l))), none] := rfl
  generalize [some (SV.fz (.str (mk l))), none] = Γ at e1 v1
  have a1 := op_ok (f := fEq) v1 (mb := mK (.str "")) rfl rfl rfl (feq_s rfl lit_nil h hn _ _)
  have a2 := op_ok (f := fEq) e1 (mb := mLst mNil) rfl rfl rfl (q2 _ _)
  have a3 := op_ok (f := fEq) v1 (mb := mK (.str "0")) rfl rfl rfl (feq_s rfl lit_0 h h0 _ _)
  have a4 := op_ok (f := fNe) (ma := (mSl (mVar 0) mNoP (mPart (mK (.int 1))))) (Γ := Γ) (Γ1 := Γ) (r := .fz (.str (mk (l.take 1)))) (by simp [mSl, mNoP, mPart, mK, v1, Out.bind, peek, fSl, hf, cut_to1]) (mb := mK (.str "0")) rfl rfl rfl (fne_s rfl lit_0 (h.take 1) h0 _ _)
  have a5 : mOp2 fLe (mBlt fLen (mCons (mVar 0) mNil)) (mK (.int 3)) Γ = .ok (.fz (.bool (decide (l.length ≤ 3)))) Γ := by
    simp [mOp2, mBlt, mCons, mNil, v1, Out.bind, peeks, peek, fLen, h.size, mk_len, mK, fOrd]
    omega
  have g := orV_ok a1 fun hl => andV_ok a2 fun hd => andV_ok (orV_ok a3 fun _ => a4) fun _ => andV_ok a5 fun hk => (by
    have hl := of_decide_eq_false hl
    have hk := of_decide_eq_true hk
    simp [mOp2, mBlt, mCons, mNil, v1, Out.bind, peeks, peek, fInt, mK, fOrd, mk_len, int_mk hd hl (by omega), show l.length ≤ 640 from by omega]
    omega : mOp2 fLt (mBlt fInt (mCons (mVar 0) mNil)) (mK (.int 400)) Γ = Out.ok (.fz (.bool (decide (num l < 400)))) Γ)
  refine g.trans ?_
  rw [← fig_eq]

/-! ### the law's own reading of a line -/
theorem splv {l : Li} {c : Nat} {s : Str} (h : As l) (e : s = mk [c]) {ma mb : M RV} {Γ : DZ.Env} {r r2 : RV} (h1 : ma Γ = .ok r Γ) (h2 : mb Γ = .ok r2 Γ) (p1 : peek Γ r = some (.str (mk l))) (p2 : peek Γ r2 = some (.str s)) : mBmS fSplit ma (mCons mb mNil) Γ = .ok (.ow (.list ((spl c l).map fun p => .str (mk p)))) Γ := by
  subst e
  have q := h.fit2
  simp only [mBmS, h1, Out.bind, p1, mCons, mNil, h2, peeks, p2, fSplit]
  rw [if_pos ⟨by rw [mk_len]; rfl, q⟩, txt_split, List.map_map]
  rfl
theorem feq_int (r s : RV) (i j : Int) : fEq r s (.int i) (.int j) = some (.fz (.bool (decide (i = j)))) := by
  unfold fEq
  rw [if_pos ⟨rfl, rfl⟩]
  rfl
theorem one_le (a b : Nat) : ([a] : Li) ≤ [b] ↔ a ≤ b := by
  show ¬ (([b] : Li) < [a]) ↔ _
  simp [List.cons_lt_cons_iff]
theorem letv {c : Nat} {m : M RV} {Γ : DZ.Env} {s : Str} (e : s = mk [c]) (h : m Γ = .ok (.fz (.str s)) Γ) : mChain fLe fLe (mK (.str "a")) m (mK (.str "z")) Γ = .ok (.fz (.bool (letter c))) Γ := by
  subst e
  have q1 : ∀ r s, fLe r s (.str (mk [97])) (.str (mk [c])) = some (.fz (.bool (decide (97 ≤ c)))) := fun r s => by
    simp only [fLe, fOrd, lt_mk]
    congr 3
    rw [Bool.eq_iff_iff]
    simp [one_le]
  have q2 : ∀ r s, fLe r s (.str (mk [c])) (.str (mk [122])) = some (.fz (.bool (decide (c ≤ 122)))) := fun r s => by
    simp only [fLe, fOrd, lt_mk]
    congr 3
    rw [Bool.eq_iff_iff]
    simp [one_le]
  rw [lit_a, lit_z]
  unfold mChain letter
  simp only [mK, Out.bind, h, peek, q1]
  by_cases hc : 97 ≤ c
  · simp only [hc, decide_true, q2, true_and]
  · simp [hc]
theorem spl_as {l : Li} (h : As l) {c : Nat} : ∀ p ∈ spl c l, As p := fun _ m => h.part m
/-- a name that stands for a list of texts -/
structure Tx (i : Nat) (Γ : DZ.Env) (ps : List Li) : Prop where
  of ::
  as : ∀ p ∈ ps, As p
  v : mVar i Γ = .ok (.br i) Γ
  p : peek Γ (.br i) = some (.list (ps.map fun p => .str (mk p)))
theorem Tx.ix {i : Nat} {Γ : DZ.Env} {ps : List Li} (t : Tx i Γ ps) {k : Int} {p : Li} (h : atI ps k = some p) : mOp2 fIx (mVar i) (mK (.int k)) Γ = .ok (.fz (.str (mk p))) Γ := by
  refine op_ok t.v rfl t.p rfl ?_
  have : atI (ps.map fun p => PyData.str (mk p)) k = some (.str (mk p)) := by
    unfold atI at h ⊢
    rw [List.length_map]
    cases z : ixN ps.length k with
    | none => rw [z] at h; cases h
    | some j =>
      rw [z] at h
      have h : ps[j]? = some p := h
      show (ps.map fun p => PyData.str (mk p))[j]? = _
      rw [List.getElem?_map, h]
      rfl
  show (atI (ps.map fun p => PyData.str (mk p)) k).map RV.fz = _
  rw [this]
  rfl
theorem Tx.len {i : Nat} {Γ : DZ.Env} {ps : List Li} (t : Tx i Γ ps) : mBlt fLen (mCons (mVar i) mNil) Γ = .ok (.fz (.int ps.length)) Γ := by
  have p := t.p
  simp only [mBlt, mCons, mNil, t.v, Out.bind, peeks, p, fLen, List.length_map]
theorem Tx.leq {i : Nat} {Γ : DZ.Env} {ps : List Li} (t : Tx i Γ ps) (n : Nat) : mOp2 fEq (mBlt fLen (mCons (mVar i) mNil)) (mK (.int n)) Γ = .ok (.fz (.bool (decide (ps.length = n)))) Γ := by
  refine (op_ok t.len rfl rfl rfl (feq_int _ _ _ _)).trans ?_
  congr 3
  rw [Bool.eq_iff_iff]
  simp
  omega
/-- a value that is a text -/
structure Tv (m : M RV) (Γ : DZ.Env) (l : Li) : Prop where
  of ::
  as : As l
  v : m Γ = .ok (.fz (.str (mk l))) Γ
theorem Tv.lit {s : Str} {a : Li} {Γ : DZ.Env} (e : s = mk a) (h : As a) : Tv (mK (.str s)) Γ a := ⟨h, by rw [e]; rfl⟩
theorem Tv.eq {m n : M RV} {Γ : DZ.Env} {a b : Li} (t : Tv m Γ a) (u : Tv n Γ b) : mOp2 fEq m n Γ = .ok (.fz (.bool (decide (a = b)))) Γ := op_ok t.v u.v rfl rfl (feq_mk _ _ t.as u.as)
theorem Tv.ne {m n : M RV} {Γ : DZ.Env} {a b : Li} (t : Tv m Γ a) (u : Tv n Γ b) : mOp2 fNe m n Γ = .ok (.fz (.bool (!decide (a = b)))) Γ := op_ok t.v u.v rfl rfl (fne_mk _ _ t.as u.as)
theorem Tv.len {m : M RV} {Γ : DZ.Env} {a : Li} (t : Tv m Γ a) : mBlt fLen (mCons m mNil) Γ = .ok (.fz (.int a.length)) Γ := by
  simp only [mBlt, mCons, mNil, t.v, Out.bind, peeks, peek, fLen, mk_len]
  rw [if_pos t.as.size]
theorem Tv.leq {m : M RV} {Γ : DZ.Env} {a : Li} (t : Tv m Γ a) (n : Nat) : mOp2 fEq (mBlt fLen (mCons m mNil)) (mK (.int n)) Γ = .ok (.fz (.bool (decide (a.length = n)))) Γ := by
  refine (op_ok t.len rfl rfl rfl (feq_int _ _ _ _)).trans ?_
  congr 3
  rw [Bool.eq_iff_iff]
  simp
  omega
theorem Tv.call {m : M RV} {Γ : DZ.Env} {a : Li} (t : Tv m Γ a) {C : List SV → Fo} {e : PyData} (c : C [.fz (.str (mk a))] = .ret (.fz e) none) : mCallP C (mCons m mNil) Γ = .ok (.fz e) Γ := call_1 t.v rfl c
theorem Tx.at {i : Nat} {Γ : DZ.Env} {ps : List Li} (t : Tx i Γ ps) {k : Int} {p : Li} (h : atI ps k = some p) : Tv (mOp2 fIx (mVar i) (mK (.int k))) Γ p := ⟨t.as p (by
  unfold atI at h
  cases z : ixN ps.length k with
  | none => rw [z] at h; cases h
  | some j =>
    rw [z] at h
    exact List.mem_of_getElem? h), t.ix h⟩
theorem as_nil : As [] := ⟨by decide, by decide⟩
theorem as_go : As Lgo := ⟨by decide, by decide⟩
theorem as_cut : As Lcut := ⟨by decide, by decide⟩
theorem as_end : As Lend := ⟨by decide, by decide⟩
theorem as_sign : As Lsign := ⟨by decide, by decide⟩
theorem as_over : As Lover := ⟨by decide, by decide⟩
theorem as_sb : As Lsb := ⟨by decide, by decide⟩
theorem as_ob : As Lob := ⟨by decide, by decide⟩
theorem as_0 : As [48] := ⟨by decide, by decide⟩
theorem as_b : As [32] := ⟨by decide, by decide⟩
theorem tv_nil (Γ : DZ.Env) : Tv (mK (.str "")) Γ [] := Tv.lit lit_nil as_nil
theorem tv_go (Γ : DZ.Env) : Tv (mK (.str "go")) Γ Lgo := Tv.lit lit_go as_go
theorem tv_cut (Γ : DZ.Env) : Tv (mK (.str "cut")) Γ Lcut := Tv.lit lit_cut as_cut
theorem tv_end (Γ : DZ.Env) : Tv (mK (.str "end")) Γ Lend := Tv.lit lit_end as_end
theorem tv_sign (Γ : DZ.Env) : Tv (mK (.str "sign")) Γ Lsign := Tv.lit lit_sign as_sign
theorem tv_over (Γ : DZ.Env) : Tv (mK (.str "over")) Γ Lover := Tv.lit lit_over as_over
theorem tv_sb (Γ : DZ.Env) : Tv (mK (.str "sign ")) Γ Lsb := Tv.lit lit_signb as_sb
theorem tv_ob (Γ : DZ.Env) : Tv (mK (.str "over ")) Γ Lob := Tv.lit lit_overb as_ob
theorem tv_0 (Γ : DZ.Env) : Tv (mK (.str "0")) Γ [48] := Tv.lit lit_0 as_0
theorem tv_b (Γ : DZ.Env) : Tv (mK (.str " ")) Γ [32] := Tv.lit lit_b as_b
theorem inV_strs (x : Li) (ps : List Li) : inV (V.str (mk x)) (ps.map fun p => V.str (mk p)) = decide (x ∈ ps) := by
  unfold inV
  rw [Bool.eq_iff_iff]
  simp only [List.any_map, List.any_eq_true, Function.comp_def, decide_eq_true_eq]
  constructor
  · rintro ⟨p, m, e⟩
    have e : (mk p == mk x) = true := e
    have e := mk_inj.mp (beq_iff_eq.mp e)
    exact e ▸ m
  · intro m
    refine ⟨x, m, ?_⟩
    show (mk x == mk x) = true
    exact beq_self_eq_true _
theorem flats_strs : ∀ ps : List Li, flatsD (ps.map fun p => PyData.str (mk p)) = some (ps.map fun p => V.str (mk p))
  | [] => rfl
  | p :: ps => by
    simp only [List.map_cons, flatsD, flatD, flats_strs ps]
theorem fin_tup (r s : RV) (x : Li) (ps : List Li) (neg : Bool) : fIn neg r s (.str (mk x)) (.tuple (ps.map fun p => PyData.str (mk p))) = some (.fz (.bool (neg != decide (x ∈ ps)))) := by
  show inFlat neg _ _ = _
  unfold inFlat
  rw [flats_strs]
  simp only [flatD, inV_strs]
theorem ev_is_line {l : Li} (h : As l) : f__law_is_line [.fz (.str (mk l))] = .ret (.fz (.bool (lln l))) none := by
  unfold f__law_is_line b__law_is_line
  have v1 : mVar 0 [some (.fz (.str (mk l))), none] = .ok (.fz (.str (mk l))) [some (.fz (.str (mk l))), none] := rfl
  have c1 : mTest (mOp2 (fIn false) (mVar 0) (mTup (mCons (mK (.str "go")) (mCons (mK (.str "cut")) mNil)))) [some (.fz (.str (mk l))), none] = .ok (decide (l ∈ [Lgo, Lcut])) [some (.fz (.str (mk l))), none] := by
    refine test_ok (op_ok v1 (r := .fz (.str (mk l))) (s := .fz (.tuple ([Lgo, Lcut].map fun p => PyData.str (mk p)))) ?_ rfl rfl ?_)
    · rw [lit_go, lit_cut]
      rfl
    · rw [fin_tup]
      cases decide (l ∈ [Lgo, Lcut]) <;> rfl
  by_cases hg : l ∈ [Lgo, Lcut]
  · have e : lln l = true := by
      rcases List.mem_cons.mp hg with rfl | hg
      · rfl
      · rcases List.mem_singleton.mp hg with rfl
        rfl
    rw [e]
    exact fn_rt (ifr (by rw [decide_eq_true hg] at c1; exact c1) (ret_fz rfl))
  · have hgo : (l == Lgo) = false := by
      cases z : (l == Lgo) with
      | false => rfl
      | true => exact absurd (beq_iff_eq.mp z ▸ List.mem_cons_self) hg
    have hcut : (l == Lcut) = false := by
      cases z : (l == Lcut) with
      | false => rfl
      | true => exact absurd (beq_iff_eq.mp z ▸ List.mem_cons_of_mem _ List.mem_cons_self) hg
    refine fn_rt (Γ := [some (.fz (.str (mk l))), some (.ow (.list ((spl 32 l).map fun p => .str (mk p))))]) ((ifs (by rw [decide_eq_false hg] at c1; exact c1)).trans ?_)
    refine (seq_n (set_ow (splv h lit_b v1 rfl rfl rfl))).trans ?_
    have T : Tx 1 [some (.fz (.str (mk l))), some (.ow (.list ((spl 32 l).map fun p => .str (mk p))))] (spl 32 l) := ⟨spl_as h, rfl, rfl⟩
    change mSeq _ _ [some (.fz (.str (mk l))), some (.ow (.list ((spl 32 l).map fun p => .str (mk p))))] = _
    generalize [some (SV.fz (.str (mk l))), some (.ow (.list ((spl 32 l).map fun p => .str (mk p))))] = Γ at T
    unfold lln
    rw [hgo, hcut]
    have ne := spl_ne 32 l
    revert T ne
    generalize spl 32 l = ps
    intro T ne
    cases ps with
    | nil => exact absurd rfl ne
    | cons a ps =>
      have t0 := T.at (k := 0) (p := a) (by rw [at_0]; rfl)
      have c2 := test_ok (t0.eq (tv_over Γ))
      by_cases ha : a = Lover
      · refine ifr (by rw [decide_eq_true ha] at c2; exact c2) (ret_fz ?_)
        subst ha
        match ps, T, t0 with
        | [], T, t0 => exact andV_ok (b := false) (T.leq 2) fun z => by simp at z
        | [d], T, t0 =>
          have t1 := T.at (k := 1) (p := d) (by rw [at_1]; rfl)
          refine (andV_ok (T.leq 2) fun _ => andV_ok (t1.ne (tv_nil Γ)) fun _ => t1.call (ev_figures t1.as)).trans ?_
          congr 3
          rw [Bool.eq_iff_iff]
          simp
        | [d, e], T, t0 =>
          refine (andV_ok (b := false) (T.leq 2) fun z => by simp at z).trans ?_
          simp [show (Lover == Lsign) = false from rfl]
        | d :: e :: f :: r, T, t0 =>
          refine (andV_ok (b := false) (T.leq 2) fun z => by simp at z).trans ?_
          simp
      · refine (ifs (by rw [decide_eq_false ha] at c2; exact c2)).trans (ret_fz ?_)
        have hb : (a == Lover) = false := by
          cases z : (a == Lover) with
          | false => rfl
          | true => exact absurd (beq_iff_eq.mp z) ha
        match ps, T, t0 with
        | [], T, t0 => exact (andV_ok (b := false) (T.leq 3) fun z => by simp at z).trans (by simp)
        | [d], T, t0 => exact (andV_ok (b := false) (T.leq 3) fun z => by simp at z).trans (by simp [hb])
        | [d, e], T, t0 =>
          have t1 := T.at (k := 1) (p := d) (by rw [at_1]; rfl)
          have t2 := T.at (k := 2) (p := e) (by rw [at_2]; rfl)
          have t3 : mAndV (mOp2 fEq (mBlt fLen (mCons (mOp2 fIx (mVar 1) (mK (.int 2))) mNil)) (mK (.int 1))) (mChain fLe fLe (mK (.str "a")) (mOp2 fIx (mVar 1) (mK (.int 2))) (mK (.str "z"))) Γ = .ok (.fz (.bool (okc e))) Γ := by
            match e, t2 with
            | [], t2 => exact andV_ok (b := false) (t2.leq 1) fun z => by simp at z
            | [c], t2 => exact andV_ok (t2.leq 1) fun _ => letv rfl t2.v
            | c :: c' :: r, t2 => exact (andV_ok (b := false) (t2.leq 1) fun z => by simp at z).trans (by simp [okc])
          refine (andV_ok (T.leq 3) fun _ => andV_ok (t0.eq (tv_sign Γ)) fun _ => andV_ok (t1.ne (tv_nil Γ)) fun _ => andV_ok (t1.call (ev_figures t1.as)) fun _ => t3).trans ?_
          congr 3
          rw [Bool.eq_iff_iff]
          simp [and_assoc]
        | d :: e :: f :: r, T, t0 => exact (andV_ok (b := false) (T.leq 3) fun z => by simp at z).trans (by simp)
end KW

set_option maxRecDepth 100000
set_option maxHeartbeats 4000000
namespace KW
open PySem PySem.Spec L2 DZ

theorem goes_loop {l : Li} {tl : DZ.Env} : ∀ (ws : List Li) (x : Option SV), ∃ x', loopF (gN 1) (mIf (mTruth (mBmS fStarts (mVar 1) (mCons (mVar 0) mNil))) (mRet [] (mK (.bool true))) mSkip) (ws.map fun w => PyData.str (mk w)) (some (.fz (.str (mk l))) :: x :: tl) =
    if ws.any (fun w => decide (l <+: w)) = true then .rt (.fz (.bool true)) (some (.fz (.str (mk l))) :: x' :: tl) else .nx (some (.fz (.str (mk l))) :: x' :: tl)
  | [], x => ⟨x, rfl⟩
  | w :: ws, x => by
    have t : mTruth (mBmS fStarts (mVar 1) (mCons (mVar 0) mNil)) (some (.fz (.str (mk l))) :: some (.fz (.str (mk w))) :: tl) = .ok (decide (l <+: w)) (some (.fz (.str (mk l))) :: some (.fz (.str (mk w))) :: tl) := by
      refine truth_ok ?_
      show (match some (RV.fz (.bool (Txt.startswith (mk w) (mk l)))) with
        | some rv => Out.ok rv _
        | none => Out.no) = _
      rw [starts_mk]
    obtain ⟨x', e⟩ := goes_loop (l := l) (tl := tl) ws (some (.fz (.str (mk w))))
    by_cases hw : l <+: w
    · refine ⟨some (.fz (.str (mk w))), ?_⟩
      rw [List.map_cons, loopF]
      have e1 : gN 1 (.str (mk w)) (some (.fz (.str (mk l))) :: x :: tl) = some (some (.fz (.str (mk l))) :: some (.fz (.str (mk w))) :: tl) := rfl
      rw [decide_eq_true hw] at t
      rw [e1]
      simp only [if_t t, List.any_cons, decide_eq_true hw, Bool.true_or, if_true]
      rfl
    · refine ⟨x', ?_⟩
      rw [List.map_cons, loopF]
      have e1 : gN 1 (.str (mk w)) (some (.fz (.str (mk l))) :: x :: tl) = some (some (.fz (.str (mk l))) :: some (.fz (.str (mk w))) :: tl) := rfl
      rw [decide_eq_false hw] at t
      rw [e1]
      simp only [if_f t, List.any_cons, decide_eq_false hw, Bool.false_or]
      exact e
theorem lgo_eq (l : Li) : lgo l = (W5.any (fun w => decide (l <+: w)) || (decide (l.take 5 ∈ [Lsb, Lob]) && tok (l.take 5 == Lob) (spl 32 (l.drop 5)))) := by
  unfold lgo
  rw [Bool.or_assoc]
  congr 1
  by_cases h1 : l.take 5 = Lsb
  · rw [h1]
    simp [show (Lsb == Lob) = false from rfl]
  · by_cases h2 : l.take 5 = Lob
    · rw [h2]
      simp [show (Lob == Lsb) = false from rfl]
    · simp [h1, h2]
theorem ev_line_on {l : Li} (h : As l) : f__law_line_goes_on [.fz (.str (mk l))] = .ret (.fz (.bool (lgo l))) none := by
  unfold f__law_line_goes_on b__law_line_goes_on
  obtain ⟨x, e⟩ := goes_loop (l := l) (tl := [none]) W5 none
  have e0 : mFor (mSeqI (mTup (mCons (mK (.str "go")) (mCons (mK (.str "cut")) (mCons (mK (.str "end")) (mCons (mK (.str "sign ")) (mCons (mK (.str "over ")) mNil))))))) (gN 1) (mIf (mTruth (mBmS fStarts (mVar 1) (mCons (mVar 0) mNil))) (mRet [] (mK (.bool true))) mSkip) [some (.fz (.str (mk l))), none, none] = _ := e
  rw [lgo_eq]
  cases hw : W5.any (fun w => decide (l <+: w)) with
  | true =>
    rw [hw] at e0
    exact fn_rt (seq_r e0)
  | false =>
    rw [hw] at e0
    have T0 : Tv (mVar 0) [some (.fz (.str (mk l))), x, none] l := ⟨h, rfl⟩
    have T1 : Tv (mSl (mVar 0) mNoP (mPart (mK (.int 5)))) [some (.fz (.str (mk l))), x, none] (l.take 5) := ⟨h.take 5, by simp [mSl, mNoP, mPart, mK, mVar, Out.bind, peek, fSl, h.fit, cut_to5]⟩
    have T2 : Tv (mSl (mVar 0) (mPart (mK (.int 5))) mNoP) [some (.fz (.str (mk l))), x, none] (l.drop 5) := ⟨h.drop 5, by simp [mSl, mNoP, mPart, mK, mVar, Out.bind, peek, fSl, h.fit, cut_from5]⟩
    have c1 : mTest (mOp2 (fIn true) (mSl (mVar 0) mNoP (mPart (mK (.int 5)))) (mTup (mCons (mK (.str "sign ")) (mCons (mK (.str "over ")) mNil)))) [some (.fz (.str (mk l))), x, none] = .ok (!decide (l.take 5 ∈ [Lsb, Lob])) [some (.fz (.str (mk l))), x, none] := by
      refine test_ok (op_ok T1.v (s := .fz (.tuple ([Lsb, Lob].map fun p => PyData.str (mk p)))) ?_ rfl rfl ?_)
      · rw [lit_signb, lit_overb]
        rfl
      · rw [fin_tup]
        cases decide (l.take 5 ∈ [Lsb, Lob]) <;> rfl
    refine fn_rt (Γ := (if decide (l.take 5 ∈ [Lsb, Lob]) = true then [some (.fz (.str (mk l))), x, some (.ow (.list ((spl 32 (l.drop 5)).map fun p => .str (mk p))))] else [some (.fz (.str (mk l))), x, none])) ((seq_n e0).trans ?_)
    cases hd : decide (l.take 5 ∈ [Lsb, Lob]) with
    | false =>
      rw [hd] at c1
      exact ifr c1 (ret_fz rfl)
    | true =>
      rw [hd] at c1
      refine (ifs c1).trans ((seq_n (set_ow (splv (h.drop 5) lit_b T2.v rfl rfl rfl))).trans ?_)
      have T : Tx 2 [some (.fz (.str (mk l))), x, some (.ow (.list ((spl 32 (l.drop 5)).map fun p => .str (mk p))))] (spl 32 (l.drop 5)) := ⟨spl_as (h.drop 5), rfl, rfl⟩
      have T1 : Tv (mSl (mVar 0) mNoP (mPart (mK (.int 5)))) [some (.fz (.str (mk l))), x, some (.ow (.list ((spl 32 (l.drop 5)).map fun p => .str (mk p))))] (l.take 5) := ⟨h.take 5, by simp [mSl, mNoP, mPart, mK, mVar, Out.bind, peek, fSl, h.fit, cut_to5]⟩
      rw [if_pos rfl]
      change mSeq _ _ [some (.fz (.str (mk l))), x, some (.ow (.list ((spl 32 (l.drop 5)).map fun p => .str (mk p))))] = _
      generalize [some (SV.fz (.str (mk l))), x, some (.ow (.list ((spl 32 (l.drop 5)).map fun p => .str (mk p))))] = Γ at T T1
      have ob := T1.eq (tv_ob Γ)
      have ne := spl_ne 32 (l.drop 5)
      rw [Bool.false_or, Bool.true_and, show (l.take 5 == Lob) = decide (l.take 5 = Lob) from by rw [Bool.eq_iff_iff]; simp]
      revert T ob ne
      generalize spl 32 (l.drop 5) = ps
      generalize decide (l.take 5 = Lob) = b
      intro T ob ne
      have m : mIte (mTest (mOp2 fEq (mSl (mVar 0) mNoP (mPart (mK (.int 5)))) (mK (.str "over ")))) (mK (.int 1)) (mK (.int 2)) Γ = .ok (.fz (.int (if b = true then 1 else 2))) Γ := by
        unfold mIte
        rw [test_ok ob]
        cases b <;> rfl
      have g : mOp2 fGt (mBlt fLen (mCons (mVar 2) mNil)) (mIte (mTest (mOp2 fEq (mSl (mVar 0) mNoP (mPart (mK (.int 5)))) (mK (.str "over ")))) (mK (.int 1)) (mK (.int 2))) Γ = .ok (.fz (.bool (decide ((if b = true then 1 else 2) < ps.length)))) Γ := by
        refine (op_ok T.len m rfl rfl rfl).trans ?_
        congr 3
        rw [Bool.eq_iff_iff]
        cases b <;> simp <;> omega
      cases ps with
      | nil => exact absurd rfl ne
      | cons a ps =>
        have t0 := T.at (k := 0) (p := a) (by rw [at_0]; rfl)
        have c2 := or_ok (test_ok g) fun _ => not_ok (truth_ok (t0.call (ev_figures t0.as)))
        match ps, T, t0, c2 with
        | [], T, t0, c2 =>
          have e2 : (decide ((if b = true then 1 else 2) < ([a] : List Li).length) || !fig a) = !fig a := by cases b <;> simp
          rw [e2] at c2
          cases hf : fig a with
          | false =>
            rw [hf] at c2
            exact (ifr c2 (ret_fz rfl)).trans (by simp [tok, hf])
          | true =>
            rw [hf] at c2
            refine (ifs c2).trans (ret_fz ?_)
            refine (orV_ok (T.leq 1) (b := false) fun z => by simp at z).trans ?_
            simp [tok, hf]
        | [e], T, t0, c2 =>
          have e2 : (decide ((if b = true then 1 else 2) < ([a, e] : List Li).length) || !fig a) = (b || !fig a) := by cases b <;> simp
          rw [e2] at c2
          cases hf : (b || !fig a) with
          | true =>
            rw [hf] at c2
            refine (ifr c2 (ret_fz rfl)).trans ?_
            congr 3
            unfold tok
            cases b <;> simp_all
          | false =>
            rw [hf] at c2
            have hb : b = false := by cases b <;> simp_all
            have ha : fig a = true := by cases z : fig a <;> simp_all
            refine (ifs c2).trans (ret_fz ?_)
            have t1 := T.at (k := 1) (p := e) (by rw [at_1]; rfl)
            have t3 : mAndV (mOp2 fEq (mBlt fLen (mCons (mOp2 fIx (mVar 2) (mK (.int 1))) mNil)) (mK (.int 1))) (mChain fLe fLe (mK (.str "a")) (mOp2 fIx (mVar 2) (mK (.int 1))) (mK (.str "z"))) Γ = .ok (.fz (.bool (okc e))) Γ := by
              match e, t1 with
              | [], t2 => exact andV_ok (b := false) (t2.leq 1) fun z => by simp at z
              | [c], t2 => exact andV_ok (t2.leq 1) fun _ => letv rfl t2.v
              | c :: c' :: r, t2 => exact (andV_ok (b := false) (t2.leq 1) fun z => by simp at z).trans (by simp [okc])
            refine (orV_ok (T.leq 1) fun _ => andV_ok (t0.ne (tv_nil Γ)) fun _ => orV_ok (t1.eq (tv_nil Γ)) fun _ => t3).trans ?_
            congr 3
            rw [Bool.eq_iff_iff]
            simp [tok, hb, ha]
        | e :: f :: r, T, t0, c2 =>
          have e2 : (decide ((if b = true then 1 else 2) < ((a :: e :: f :: r) : List Li).length) || !fig a) = true := by cases b <;> simp
          rw [e2] at c2
          refine (ifr c2 (ret_fz rfl)).trans ?_
          simp [tok]
end KW

set_option maxRecDepth 100000
set_option maxHeartbeats 4000000
namespace KW
open PySem PySem.Spec L2 DZ

theorem cutD_last (ds : List PyData) : cutD ds none (some (-1)) = ds.dropLast := by
  unfold cutD
  show (ds.drop 0).take (HT.sIx ds.length ds.length (some (-1)) - 0) = _
  rw [List.drop_zero, Nat.sub_zero, List.dropLast_eq_take]
  congr 1
  have : HT.sIx ds.length ds.length (some (-1)) = if (-1 : Int) < 0 then ((-1 : Int) + (ds.length : Int)).toNat else min (-1 : Int).toNat ds.length := rfl
  rw [this, if_pos (by decide)]
  omega
theorem bad_rows {i v : Nat} {Γ : DZ.Env} {ps : List Li} (T : Tx i Γ ps) (hv : v < Γ.length) (n : ps.length ≤ 2000) :
    mOp2 fEq (mLc [v] (mSeqI (mSl (mVar i) mNoP (mPart (mNeg (mK (.int 1)))))) (gN v) (mNot (mTruth (mCallP f__law_is_line (mCons (mVar v) mNil)))) (mVar v)) (mLst mNil) Γ = .ok (.fz (.bool (ps.dropLast.all lln))) Γ := by
  have s1 : mSl (mVar i) mNoP (mPart (mNeg (mK (.int 1)))) Γ = .ok (.ow (.list (ps.dropLast.map fun p => .str (mk p)))) Γ := by
    have p := T.p
    simp only [mSl, T.v, Out.bind, mNoP, mPart, mNeg, mK, peek, p, fSl]
    simp only [peek] at p
    simp only [p, cutD_last, List.map_dropLast]
  have i1 : mSeqI (mSl (mVar i) mNoP (mPart (mNeg (mK (.int 1))))) Γ = .ok (ps.dropLast.map fun p => .str (mk p)) Γ := by
    unfold mSeqI
    rw [s1]
    rfl
  have z2 : 2000 ≤ sizeLine := by decide
  have e1 := mlc_run (v := v) (tt := (mNot (mTruth (mCallP f__law_is_line (mCons (mVar v) mNil))))) (te := mVar v) (Γ := Γ) _ (fun d => match d with | .str s => !lln (un s) | _ => false) (fun d => d) i1 (by simp; omega) (by
    intro d m
    obtain ⟨p, mp, rfl⟩ := List.mem_map.mp m
    have vv : mVar v (Γ.set v (some (.fz (.str (mk p))))) = .ok (.fz (.str (mk p))) (Γ.set v (some (.fz (.str (mk p))))) := by
      unfold mVar
      rw [List.getElem?_set_self hv]
    have t : Tv (mVar v) (Γ.set v (some (.fz (.str (mk p))))) p := ⟨T.as p (List.dropLast_subset _ mp), vv⟩
    refine ⟨?_, fun _ => ⟨_, vv, rfl⟩⟩
    have q := not_ok (truth_ok (t.call (ev_is_line t.as)))
    refine q.trans ?_
    show _ = Out.ok (!lln (un (mk p))) _
    rw [un_mk])
  have e2 : ((ps.dropLast.map fun p => PyData.str (mk p)).filter (fun d => match d with | .str s => !lln (un s) | _ => false)).map (fun d => d) = (ps.dropLast.filter fun p => !lln p).map fun p => .str (mk p) := by
    rw [List.map_id', List.filter_map]
    congr 1
  rw [e2] at e1
  refine (op_ok e1 (mb := mLst mNil) rfl rfl rfl (feq_strs _ _ fun p m => T.as p (List.dropLast_subset _ (List.mem_filter.mp m).1))).trans ?_
  congr 3
  rw [Bool.eq_iff_iff, decide_eq_true_eq, List.filter_eq_nil_iff, List.all_eq_true]
  simp
/-- the last row -/
def lst (ps : List Li) : Li := ps.getLastD []
theorem lst_at {ps : List Li} (h : ps ≠ []) : ps.getLast? = some (lst ps) := by
  unfold lst
  rw [List.getLastD_eq_getLast?]
  cases z : ps.getLast? with
  | none => exact absurd (List.getLast?_eq_none_iff.mp z) h
  | some p => rfl
theorem Tx.last {i : Nat} {Γ : DZ.Env} {ps : List Li} (T : Tx i Γ ps) (h : ps ≠ []) : Tv (mOp2 fIx (mVar i) (mNeg (mK (.int 1)))) Γ (lst ps) := by
  have := T.at (k := -1) (p := lst ps) (by rw [at_m]; exact lst_at h)
  exact ⟨this.as, this.v⟩
/-- whether some log goes on from a text -/
def gon (t : Li) : Bool := (spl 10 t).dropLast.all lln && lgo (lst (spl 10 t))
theorem spl_2000 {l : Li} (h : As l) (c : Nat) : (spl c l).length ≤ 2000 := by
  have := spl_len_le c l
  have := h.len
  omega
theorem ev_goes_on {l : Li} (h : As l) : f__law_goes_on [.fz (.str (mk l))] = .ret (.fz (.bool (gon l))) none := by
  unfold f__law_goes_on b__law_goes_on
  have T0 : Tv (mVar 0) [some (.fz (.str (mk l))), none, none] l := ⟨h, rfl⟩
  refine fn_rt (Γ := [some (.fz (.str (mk l))), some (.ow (.list ((spl 10 l).map fun p => .str (mk p)))), none]) ((seq_n (set_ow (splv h lit_nl T0.v rfl rfl rfl))).trans (ret_fz ?_))
  have T : Tx 1 [some (.fz (.str (mk l))), some (.ow (.list ((spl 10 l).map fun p => .str (mk p)))), none] (spl 10 l) := ⟨spl_as h, rfl, rfl⟩
  have ln := (T.last (spl_ne 10 l))
  exact andV_ok (bad_rows T (Nat.lt_succ_self 2) (spl_2000 h 10)) fun _ => ln.call (ev_line_on ln.as)

/-! ### the place -/
/-- a place in a text: its row and column -/
def plc (t : Li) : PyData := .tuple [.int ((spl 10 t).length : Nat), .int (((lst (spl 10 t)).length : Nat) + 1 : Int)]
theorem for_ok {mi : M (List PyData)} {tg : Tgt} {body : DZ.Env → Fl} {Γ Γ1 : DZ.Env} {ds : List PyData} (h : mi Γ = .ok ds Γ1) : mFor mi tg body Γ = loopF tg body ds Γ1 := by
  unfold mFor
  rw [h]
  rfl
theorem ints_range (n : Nat) : intsD 1 n = (List.range' 1 n).map fun i => PyData.int ((i : Nat) : Int) := by
  unfold intsD
  rw [List.range'_eq_map_range, List.map_map]
  apply List.map_congr_left
  intro i _
  simp
theorem plc_ev {t : Li} {Γ : DZ.Env} {i : Nat} (T : Tx i Γ (spl 10 t)) : mTup (mCons (mBlt fLen (mCons (mVar i) mNil)) (mCons (mOp2 fAdd (mBlt fLen (mCons (mOp2 fIx (mVar i) (mNeg (mK (.int 1)))) mNil)) (mK (.int 1))) mNil)) Γ = .ok (.fz (plc t)) Γ := by
  have a := T.len
  have b := (T.last (spl_ne 10 t)).len
  have c : mOp2 fAdd (mBlt fLen (mCons (mOp2 fIx (mVar i) (mNeg (mK (.int 1)))) mNil)) (mK (.int 1)) Γ = .ok (.fz (.int (((lst (spl 10 t)).length : Nat) + 1 : Int))) Γ := op_ok b rfl rfl rfl rfl
  unfold mTup
  generalize mOp2 fAdd (mBlt fLen (mCons (mOp2 fIx (mVar i) (mNeg (mK (.int 1)))) mNil)) (mK (.int 1)) = M at c
  simp only [mCons, mNil] at *
  simp only [a, c, Out.bind, frzs, frz]
  rfl
def plcBody : DZ.Env → Fl := (mIf (mNot (mTruth (mCallP f__law_goes_on (mCons (mSl (mVar 0) mNoP (mPart (mVar 1))) mNil)))) (mSeq (mSet 2 (mBmS fSplit (mSl (mVar 0) mNoP (mPart (mOp2 fSub (mVar 1) (mK (.int 1))))) (mCons (mK (.str "\n")) mNil))) (mRet [] (mTup (mCons (mBlt fLen (mCons (mVar 2) mNil)) (mCons (mOp2 fAdd (mBlt fLen (mCons (mOp2 fIx (mVar 2) (mNeg (mK (.int 1)))) mNil)) (mK (.int 1))) mNil))))) mSkip)
theorem plc_loop {t : Li} (h : As t) {k : Nat} (hk : k ≤ t.length) (hg : ∀ i, 1 ≤ i → i ≤ k → gon (t.take i) = true) (hb : k < t.length → gon (t.take (k + 1)) = false) : ∀ (r a : Nat) (x : Option SV), a ≤ k → a + r = t.length → ∃ x' y', loopF (gN 1) plcBody ((List.range' (a + 1) r).map fun i => PyData.int ((i : Nat) : Int)) [some (.fz (.str (mk t))), x, none] =
    if k < t.length then .rt (.fz (plc (t.take k))) [some (.fz (.str (mk t))), x', y'] else .nx [some (.fz (.str (mk t))), x', none]
  | 0, a, x, ha, e => ⟨x, none, by rw [if_neg (by omega)]; rfl⟩
  | r + 1, a, x, ha, e => by
    have T1 : Tv (mSl (mVar 0) mNoP (mPart (mVar 1))) [some (.fz (.str (mk t))), some (.fz (.int ((a + 1 : Nat) : Int))), none] (t.take (a + 1)) := ⟨h.take _, by
      have := cut_to t (a + 1)
      simp only [mSl, mNoP, mPart, mVar, List.getElem?_cons_zero, List.getElem?_cons_succ, Out.bind, peek, fSl, if_pos h.fit, this]⟩
    have c1 := not_ok (truth_ok (T1.call (ev_goes_on T1.as)))
    have e1 : gN 1 (.int ((a + 1 : Nat) : Int)) [some (.fz (.str (mk t))), x, none] = some [some (.fz (.str (mk t))), some (.fz (.int ((a + 1 : Nat) : Int))), none] := rfl
    rw [List.range'_succ, List.map_cons, loopF, e1]
    by_cases hx : a + 1 ≤ k
    · rw [hg (a + 1) (by omega) hx] at c1
      obtain ⟨x', y', q⟩ := plc_loop h hk hg hb r (a + 1) (some (.fz (.int ((a + 1 : Nat) : Int)))) hx (by omega)
      refine ⟨x', y', ?_⟩
      have f1 : plcBody [some (.fz (.str (mk t))), some (.fz (.int ((a + 1 : Nat) : Int))), none] = .nx [some (.fz (.str (mk t))), some (.fz (.int ((a + 1 : Nat) : Int))), none] := (if_f c1).trans rfl
      simp only [f1]
      exact q
    · have ek : a = k := by omega
      subst ek
      rw [hb (by omega)] at c1
      have T2 : Tv (mSl (mVar 0) mNoP (mPart (mOp2 fSub (mVar 1) (mK (.int 1))))) [some (.fz (.str (mk t))), some (.fz (.int ((a + 1 : Nat) : Int))), none] (t.take a) := ⟨h.take _, by
        have := cut_to t a
        have e : ((a + 1 : Nat) : Int) - 1 = (a : Int) := by omega
        simp only [mSl, mNoP, mPart, mVar, mOp2, mK, fSub, List.getElem?_cons_zero, List.getElem?_cons_succ, Out.bind, peek, fSl, if_pos h.fit, e, this]⟩
      refine ⟨some (.fz (.int ((a + 1 : Nat) : Int))), some (.ow (.list ((spl 10 (t.take a)).map fun p => .str (mk p)))), ?_⟩
      have T : Tx 2 [some (.fz (.str (mk t))), some (.fz (.int ((a + 1 : Nat) : Int))), some (.ow (.list ((spl 10 (t.take a)).map fun p => .str (mk p))))] (spl 10 (t.take a)) := ⟨spl_as (h.take a), rfl, rfl⟩
      have f1 : plcBody [some (.fz (.str (mk t))), some (.fz (.int ((a + 1 : Nat) : Int))), none] = .rt (.fz (plc (t.take a))) [some (.fz (.str (mk t))), some (.fz (.int ((a + 1 : Nat) : Int))), some (.ow (.list ((spl 10 (t.take a)).map fun p => .str (mk p))))] := (if_t c1).trans ((seq_n (set_ow (splv (h.take a) lit_nl T2.v rfl rfl rfl))).trans (ret_fz (plc_ev T)))
      simp only [f1]
      rw [if_pos (by omega)]
theorem ev_place {t : Li} (h : As t) {k : Nat} (hk : k ≤ t.length) (hg : ∀ i, 1 ≤ i → i ≤ k → gon (t.take i) = true) (hb : k < t.length → gon (t.take (k + 1)) = false) : f__law_place [.fz (.str (mk t))] = .ret (.fz (plc (t.take k))) none := by
  unfold f__law_place b__law_place
  have T0 : Tv (mVar 0) [some (.fz (.str (mk t))), none, none] t := ⟨h, rfl⟩
  obtain ⟨x, y, q⟩ := plc_loop h hk hg hb t.length 0 none (Nat.zero_le _) (Nat.zero_add _)
  have r1 : mRng (mCons (mK (.int 1)) (mCons (mOp2 fAdd (mBlt fLen (mCons (mVar 0) mNil)) (mK (.int 1))) mNil)) [some (.fz (.str (mk t))), none, none] = .ok ((List.range' 1 t.length).map fun i => PyData.int ((i : Nat) : Int)) [some (.fz (.str (mk t))), none, none] := by
    have c : mOp2 fAdd (mBlt fLen (mCons (mVar 0) mNil)) (mK (.int 1)) [some (.fz (.str (mk t))), none, none] = .ok (.fz (.int ((t.length : Nat) + 1 : Int))) [some (.fz (.str (mk t))), none, none] := op_ok T0.len rfl rfl rfl rfl
    have hl := h.len
    have g : (rngOk 1 && rngOk ((t.length : Nat) + 1 : Int)) = true := by
      rw [Bool.and_eq_true]
      refine ⟨rfl, ?_⟩
      unfold rngOk
      rw [Bool.and_eq_true, decide_eq_true_eq, decide_eq_true_eq]
      omega
    rw [← ints_range]
    simp only [mRng, mCons, mNil, mK, Out.bind, c, peeks, peek, g, if_true, show ((t.length : Int) + 1 - 1).toNat = t.length from by omega]
  have f1 := (for_ok (tg := gN 1) (body := plcBody) r1).trans q
  by_cases hx : k < t.length
  · rw [if_pos hx] at f1
    exact fn_rt (seq_r f1)
  · rw [if_neg hx] at f1
    have ek : k = t.length := by omega
    subst ek
    rw [List.take_length]
    have T1 : Tv (mVar 0) [some (.fz (.str (mk t))), x, none] t := ⟨h, rfl⟩
    have T : Tx 2 [some (.fz (.str (mk t))), x, some (.ow (.list ((spl 10 t).map fun p => .str (mk p))))] (spl 10 t) := ⟨spl_as h, rfl, rfl⟩
    exact fn_rt ((seq_n f1).trans ((seq_n (set_ow (splv h lit_nl T1.v rfl rfl rfl))).trans (ret_fz (plc_ev T))))
end KW

set_option maxRecDepth 100000
set_option maxHeartbeats 4000000
namespace KW
open PySem PySem.Spec L2 DZ

/-! ### how far a line goes, by the program -/
theorem fig_step {s : Li} (h : s.all dig = true) (n : s ≠ []) (l : s.length ≤ 4) : fig s = !((decide (1 < s.length) && decide (s.take 1 = [48])) || decide (400 ≤ num s)) := by
  match s, h, n, l with
  | [a], h, _, _ =>
    simp only [List.all_cons, List.all_nil, Bool.and_true] at h
    have a2 := of_decide_eq_true h
    rw [fig1, h]
    simp [num]
    omega
  | [a, b], h, _, _ =>
    simp only [List.all_cons, List.all_nil, Bool.and_true, Bool.and_eq_true] at h
    have a2 := of_decide_eq_true h.1
    have b2 := of_decide_eq_true h.2
    rw [fig2, h.1, h.2, Bool.eq_iff_iff]
    simp [num]
    omega
  | [a, b, c], h, _, _ =>
    simp only [List.all_cons, List.all_nil, Bool.and_true, Bool.and_eq_true] at h
    rw [fig3, h.1, h.2.1, h.2.2, Bool.eq_iff_iff]
    simp [num]
  | [a, b, c, d], h, _, _ =>
    simp only [List.all_cons, List.all_nil, Bool.and_true, Bool.and_eq_true] at h
    have a2 := of_decide_eq_true h.1
    rw [fig4, Bool.eq_iff_iff]
    simp [num]
    omega
theorem fig_len {s : Li} (h : fig s = true) : s.length ≤ 3 := by
  match s, h with
  | [], _ => decide
  | [a], _ => show 1 ≤ 3; decide
  | [a, b], _ => show 2 ≤ 3; decide
  | [a, b, c], _ => exact Nat.le_refl 3
  | a :: b :: c :: d :: r, h => rw [fig4] at h; cases h
theorem mem_dig {c : Nat} : decide (c ∈ ([48, 49, 50, 51, 52, 53, 54, 55, 56, 57] : Li)) = dig c := by
  unfold dig
  rw [Bool.eq_iff_iff]
  simp
  omega
abbrev ngT : M Bool := mAnd (mTest (mOp2 fLt (mOp2 fAdd (mVar 1) (mVar 2)) (mBlt fLen (mCons (mVar 0) mNil)))) (mTest (mOp2 (fIn false) (mOp2 fIx (mVar 0) (mOp2 fAdd (mVar 1) (mVar 2))) (mK (.str "0123456789"))))
abbrev ngB : DZ.Env → Fl := (mSeq (mSet 3 (mSl (mVar 0) (mPart (mVar 1)) (mPart (mOp2 fAdd (mOp2 fAdd (mVar 1) (mVar 2)) (mK (.int 1)))))) (mSeq (mIf (mOr (mAnd (mTest (mOp2 fGt (mBlt fLen (mCons (mVar 3) mNil)) (mK (.int 1)))) (mTest (mOp2 fEq (mOp2 fIx (mVar 3) (mK (.int 0))) (mK (.str "0"))))) (mTest (mOp2 fGe (mBlt fInt (mCons (mVar 3) mNil)) (mK (.int 400))))) (mRet [] (mVar 2)) mSkip) (mAug 2 (mK (.int 1)))))
abbrev ngE (l : Li) (a k : Nat) (x : Option SV) : DZ.Env := [some (.fz (.str (mk l))), some (.fz (.int (a : Nat))), some (.fz (.int (k : Nat))), x]
theorem ng_test {l : Li} (h : As l) {a k : Nat} (x : Option SV) : ngT (ngE l a k x) = .ok (decide (a + k < l.length) && dig (l.getD (a + k) 0)) (ngE l a k x) := by
  have s : mOp2 fAdd (mVar 1) (mVar 2) (ngE l a k x) = .ok (.fz (.int ((a + k : Nat) : Int))) (ngE l a k x) := rfl
  have T : Tv (mVar 0) (ngE l a k x) l := ⟨h, rfl⟩
  have c1 : mOp2 fLt (mOp2 fAdd (mVar 1) (mVar 2)) (mBlt fLen (mCons (mVar 0) mNil)) (ngE l a k x) = .ok (.fz (.bool (decide (a + k < l.length)))) (ngE l a k x) := by
    refine (op_ok s T.len rfl rfl rfl).trans ?_
    congr 3
    rw [Bool.eq_iff_iff]
    simp
    omega
  refine and_ok (test_ok c1) fun z => test_ok ?_
  have z := of_decide_eq_true z
  have c2 : mOp2 fIx (mVar 0) (mOp2 fAdd (mVar 1) (mVar 2)) (ngE l a k x) = .ok (.fz (.str (mk [l.getD (a + k) 0]))) (ngE l a k x) := by
    refine op_ok T.v s rfl rfl ?_
    show (if (mk l).length ≤ sizeLine then (atI (mk l).cps.toList ((a + k : Nat) : Int)).map (fun c => RV.fz (.str ⟨#[c]⟩)) else none) = _
    rw [if_pos h.fit, txt_at, List.getD_eq_getElem?_getD, List.getElem?_eq_getElem z]
    rfl
  refine op_ok c2 (mb := mK (.str "0123456789")) rfl rfl rfl ?_
  show some (RV.fz (.bool (false != strIn (mk [l.getD (a + k) 0]) "0123456789"))) = _
  rw [lit_dig, strIn_mk, mem_dig]
  simp
theorem take_snoc {l : Li} {a k : Nat} (z : a + k < l.length) : (l.drop a).take (k + 1) = (l.drop a).take k ++ [l.getD (a + k) 0] := by
  rw [List.take_add_one, List.getElem?_drop, List.getD_eq_getElem?_getD, List.getElem?_eq_getElem z]
  rfl
theorem ng_body {l : Li} (h : As l) {a k : Nat} (x : Option SV) (z : a + k < l.length) (g : dig (l.getD (a + k) 0) = true) (f : fig ((l.drop a).take k) = true) :
    ngB (ngE l a k x) = if fig ((l.drop a).take (k + 1)) = true then .nx (ngE l a (k + 1) (some (.fz (.str (mk ((l.drop a).take (k + 1))))))) else .rt (.fz (.int (k : Nat))) (ngE l a k (some (.fz (.str (mk ((l.drop a).take (k + 1))))))) := by
  have s1 : mSl (mVar 0) (mPart (mVar 1)) (mPart (mOp2 fAdd (mOp2 fAdd (mVar 1) (mVar 2)) (mK (.int 1)))) (ngE l a k x) = .ok (.fz (.str (mk ((l.drop a).take (k + 1))))) (ngE l a k x) := by
    have e := cut_mid l a (a + k + 1)
    rw [show a + k + 1 - a = k + 1 from by omega] at e
    have e2 : ((a : Nat) : Int) + ((k : Nat) : Int) + 1 = ((a + k + 1 : Nat) : Int) := by omega
    simp only [mSl, mPart, mVar, mOp2, mK, fAdd, List.getElem?_cons_zero, List.getElem?_cons_succ, Out.bind, peek, fSl, if_pos h.fit, e2, e]
  have hp : ((l.drop a).take (k + 1)).length = k + 1 := by simp; omega
  have kb : k ≤ 3 := by
    have := fig_len f
    rw [List.length_take, List.length_drop] at this
    omega
  have hs := take_snoc z
  have hd : ((l.drop a).take (k + 1)).all dig = true := by
    rw [hs, List.all_append, fig_dig f]
    simpa using g
  have hq : As ((l.drop a).take (k + 1)) := (h.drop a).take _
  have st := fig_step hd (fun e => by rw [e] at hp; cases hp) (by rw [hp]; omega)
  refine (seq_n (set_fz s1)).trans ?_
  change mSeq _ _ (ngE l a k (some (.fz (.str (mk ((l.drop a).take (k + 1))))))) = _
  generalize (l.drop a).take (k + 1) = p at *
  have T : Tv (mVar 3) (ngE l a k (some (.fz (.str (mk p))))) p := ⟨hq, rfl⟩
  have c1 : mOp2 fGt (mBlt fLen (mCons (mVar 3) mNil)) (mK (.int 1)) (ngE l a k (some (.fz (.str (mk p))))) = .ok (.fz (.bool (decide (1 < p.length)))) (ngE l a k (some (.fz (.str (mk p))))) := by
    refine (op_ok T.len (mb := mK (.int 1)) rfl rfl rfl rfl).trans ?_
    congr 3
    rw [Bool.eq_iff_iff]
    simp
    omega
  have c2 : mOp2 fEq (mOp2 fIx (mVar 3) (mK (.int 0))) (mK (.str "0")) (ngE l a k (some (.fz (.str (mk p))))) = .ok (.fz (.bool (decide (p.take 1 = [48])))) (ngE l a k (some (.fz (.str (mk p))))) := by
    have T1 : Tv (mOp2 fIx (mVar 3) (mK (.int 0))) (ngE l a k (some (.fz (.str (mk p))))) (p.take 1) := ⟨hq.take 1, op_ok T.v (mb := mK (.int 0)) rfl rfl rfl (by
      show (if (mk p).length ≤ sizeLine then (atI (mk p).cps.toList 0).map _ else none) = _
      rw [if_pos hq.fit, cps_mk, at_0]
      match p, hp with
      | c :: p, _ => rfl)⟩
    exact T1.eq (tv_0 _)
  have c3 : mOp2 fGe (mBlt fInt (mCons (mVar 3) mNil)) (mK (.int 400)) (ngE l a k (some (.fz (.str (mk p))))) = .ok (.fz (.bool (decide (400 ≤ num p)))) (ngE l a k (some (.fz (.str (mk p))))) := by
    have n1 : mBlt fInt (mCons (mVar 3) mNil) (ngE l a k (some (.fz (.str (mk p))))) = .ok (.fz (.int (num p : Nat))) (ngE l a k (some (.fz (.str (mk p))))) := by
      simp only [mBlt, mCons, mNil, T.v, Out.bind, peeks, peek, fInt, mk_len, int_mk hd (fun e => by rw [e] at hp; cases hp) (by omega), hp]
      rw [if_pos (by omega)]
      rfl
    refine (op_ok n1 (mb := mK (.int 400)) rfl rfl rfl rfl).trans ?_
    congr 3
    rw [Bool.eq_iff_iff]
    simp
    omega
  have c := or_ok (and_ok (test_ok c1) fun _ => test_ok c2) fun _ => test_ok c3
  cases hf : fig p with
  | true =>
    rw [hf] at st
    have : ((decide (1 < p.length) && decide (p.take 1 = [48])) || decide (400 ≤ num p)) = false := by
      cases q : ((decide (1 < p.length) && decide (p.take 1 = [48])) || decide (400 ≤ num p)) with
      | false => rfl
      | true => rw [q] at st; cases st
    rw [this] at c
    rw [if_pos rfl]
    exact ifs c
  | false =>
    rw [hf] at st
    have : ((decide (1 < p.length) && decide (p.take 1 = [48])) || decide (400 ≤ num p)) = true := by
      cases q : ((decide (1 < p.length) && decide (p.take 1 = [48])) || decide (400 ≤ num p)) with
      | false => rw [q] at st; cases st
      | true => rfl
    rw [this] at c
    rw [if_neg (by decide)]
    exact ifr c (ret_fz rfl)
theorem ng_loop {l : Li} (h : As l) {a : Nat} (ha : a ≤ l.length) : ∀ (f k : Nat) (x : Option SV), 4 ≤ f + k → a + k ≤ l.length → fig ((l.drop a).take k) = true →
    (∃ x', loopW ngT ngB f (ngE l a k x) = .nx (ngE l a (ngo (l.drop a)) x')) ∨ ∃ Γ', loopW ngT ngB f (ngE l a k x) = .rt (.fz (.int (ngo (l.drop a) : Nat))) Γ'
  | 0, k, x, n, b, g => by
    have := fig_len g
    rw [List.length_take, List.length_drop] at this
    omega
  | f + 1, k, x, n, b, g => by
    have t := ng_test h (a := a) (k := k) x
    have stop : (a + k < l.length → fig ((l.drop a).take (k + 1)) = false) → ngo (l.drop a) = k := fun q => ngo_of (by rw [List.length_drop]; omega) g fun z => q (by rw [List.length_drop] at z; omega)
    by_cases z : a + k < l.length
    · cases d : dig (l.getD (a + k) 0) with
      | false =>
        have e := stop fun _ => by
          rw [take_snoc z]
          cases q : fig ((l.drop a).take k ++ [l.getD (a + k) 0]) with
          | false => rfl
          | true =>
            have := fig_dig q
            rw [List.all_append, Bool.and_eq_true] at this
            have q2 := this.2
            rw [List.all_cons, d] at q2
            cases q2
        rw [d, Bool.and_false] at t
        refine .inl ⟨x, ?_⟩
        rw [e]
        unfold loopW
        rw [t]
        rfl
      | true =>
        rw [d, decide_eq_true z] at t
        have bd := ng_body h x z d g
        cases fg : fig ((l.drop a).take (k + 1)) with
        | false =>
          have e := stop fun _ => fg
          rw [fg, if_neg (by decide)] at bd
          refine .inr ⟨ngE l a k (some (.fz (.str (mk ((l.drop a).take (k + 1)))))), ?_⟩
          unfold loopW
          rw [t]
          simp only [Out.fl, Bool.and_self, if_true, bd, e]
        | true =>
          rw [fg, if_pos rfl] at bd
          have := ng_loop h ha f (k + 1) (some (.fz (.str (mk ((l.drop a).take (k + 1)))))) (by omega) (by omega) fg
          have e : loopW ngT ngB (f + 1) (ngE l a k x) = loopW ngT ngB f (ngE l a (k + 1) (some (.fz (.str (mk ((l.drop a).take (k + 1))))))) := by
            rw [loopW, t]
            simp only [Out.fl, Bool.and_self, if_true, bd]
          rw [e]
          exact this
    · have e := stop fun q => absurd q z
      rw [decide_eq_false z, Bool.false_and] at t
      refine .inl ⟨x, ?_⟩
      rw [e]
      unfold loopW
      rw [t]
      rfl
theorem ev_number {l : Li} (h : As l) {a : Nat} (ha : a ≤ l.length) : f_number_gone [.fz (.str (mk l)), .fz (.int (a : Nat))] = .ret (.fz (.int (ngo (l.drop a) : Nat))) none := by
  unfold f_number_gone b_number_gone
  have s : mSet 2 (mK (.int 0)) [some (.fz (.str (mk l))), some (.fz (.int (a : Nat))), none, none] = .nx (ngE l a 0 none) := rfl
  rcases ng_loop h ha 30 0 none (by decide) ha rfl with ⟨x', e⟩ | ⟨Γ', e⟩
  · exact fn_rt ((seq_n s).trans ((seq_n e).trans (ret_fz rfl)))
  · exact fn_rt ((seq_n s).trans (seq_r e))
end KW

set_option maxRecDepth 100000
set_option maxHeartbeats 4000000
namespace KW
open PySem PySem.Spec L2 DZ

/-- how many first signs two texts share -/
def cpl : Li → Li → Nat
  | x :: xs, y :: ys => if x = y then cpl xs ys + 1 else 0
  | _, _ => 0
def wgo (l : Li) (ws : List Li) : Nat := ws.foldl (fun b w => max b (cpl l w)) 0
theorem Tv.ixn {m n : M RV} {Γ : DZ.Env} {l : Li} {k : Nat} (T : Tv m Γ l) (e : n Γ = .ok (.fz (.int (k : Nat))) Γ) (z : k < l.length) : Tv (mOp2 fIx m n) Γ [l.getD k 0] := by
  refine ⟨?_, op_ok T.v e rfl rfl ?_⟩
  · rw [List.getD_eq_getElem?_getD, List.getElem?_eq_getElem z]
    exact T.as.one (List.getElem_mem z)
  · show (if (mk l).length ≤ sizeLine then (atI (mk l).cps.toList ((k : Nat) : Int)).map (fun c => RV.fz (.str ⟨#[c]⟩)) else none) = _
    rw [if_pos T.as.fit, txt_at, List.getD_eq_getElem?_getD, List.getElem?_eq_getElem z]
    rfl
theorem ltn {m n : M RV} {Γ : DZ.Env} {i j : Nat} (e : m Γ = .ok (.fz (.int (i : Nat))) Γ) (f : n Γ = .ok (.fz (.int (j : Nat))) Γ) : mOp2 fLt m n Γ = .ok (.fz (.bool (decide (i < j)))) Γ := by
  refine (op_ok e f rfl rfl rfl).trans ?_
  congr 3
  rw [Bool.eq_iff_iff]
  simp
abbrev wgT : M Bool := (mAnd (mTest (mOp2 fLt (mVar 4) (mBlt fLen (mCons (mVar 0) mNil)))) (mAnd (mTest (mOp2 fLt (mVar 4) (mBlt fLen (mCons (mVar 3) mNil)))) (mTest (mOp2 fEq (mOp2 fIx (mVar 0) (mVar 4)) (mOp2 fIx (mVar 3) (mVar 4))))))
abbrev wgE (l : Li) (s2 : Option SV) (b : Nat) (w : Li) (k : Nat) : DZ.Env := [some (.fz (.str (mk l))), s2, some (.fz (.int (b : Nat))), some (.fz (.str (mk w))), some (.fz (.int (k : Nat)))]
theorem wg_in {l w : Li} (hl : As l) (hw : As w) (s2 : Option SV) (b : Nat) : ∀ (f k : Nat), w.length < f + k → k ≤ w.length → loopW wgT (mAug 4 (mK (.int 1))) f (wgE l s2 b w k) = .nx (wgE l s2 b w (k + cpl (l.drop k) (w.drop k)))
  | 0, k, n, q => by omega
  | f + 1, k, n, q => by
    have T0 : Tv (mVar 0) (wgE l s2 b w k) l := ⟨hl, rfl⟩
    have T3 : Tv (mVar 3) (wgE l s2 b w k) w := ⟨hw, rfl⟩
    have v4 : mVar 4 (wgE l s2 b w k) = .ok (.fz (.int (k : Nat))) (wgE l s2 b w k) := rfl
    have t1 := test_ok (ltn v4 T0.len)
    have t2 := test_ok (ltn v4 T3.len)
    by_cases z1 : k < l.length
    · by_cases z2 : k < w.length
      · have t3 := test_ok ((T0.ixn v4 z1).eq (T3.ixn v4 z2))
        have t := and_ok t1 fun _ => and_ok t2 fun _ => t3
        have e1 : l.drop k = l.getD k 0 :: l.drop (k + 1) := by
          rw [List.drop_eq_getElem_cons z1, List.getD_eq_getElem?_getD, List.getElem?_eq_getElem z1]
          rfl
        have e2 : w.drop k = w.getD k 0 :: w.drop (k + 1) := by
          rw [List.drop_eq_getElem_cons z2, List.getD_eq_getElem?_getD, List.getElem?_eq_getElem z2]
          rfl
        rw [decide_eq_true z1, decide_eq_true z2, Bool.true_and, Bool.true_and] at t
        by_cases e : l.getD k 0 = w.getD k 0
        · rw [e] at t
          have t : wgT (wgE l s2 b w k) = .ok true (wgE l s2 b w k) := t.trans (by rw [decide_eq_true rfl])
          have r := wg_in hl hw s2 b f (k + 1) (by omega) z2
          have bd : mAug 4 (mK (.int 1)) (wgE l s2 b w k) = .nx (wgE l s2 b w (k + 1)) := rfl
          rw [loopW, t]
          simp only [Out.fl, if_true, bd]
          rw [r, e1, e2, cpl, if_pos e, show k + 1 + cpl (l.drop (k + 1)) (w.drop (k + 1)) = k + (cpl (l.drop (k + 1)) (w.drop (k + 1)) + 1) from by omega]
        · rw [decide_eq_false (fun z => e (by injection z))] at t
          rw [loopW, show wgT (wgE l s2 b w k) = _ from t, e1, e2, cpl, if_neg e]
          rfl
      · have t : wgT (wgE l s2 b w k) = _ := and_ok t1 fun _ => and_ok (b := false) t2 fun z => absurd (of_decide_eq_true z) z2
        rw [decide_eq_false z2, Bool.false_and, Bool.and_false] at t
        rw [loopW, show wgT (wgE l s2 b w k) = _ from t, List.drop_eq_nil_of_le (as := w) (by omega)]
        cases l.drop k <;> rfl
    · have t : wgT (wgE l s2 b w k) = _ := and_ok (b := false) t1 fun z => absurd (of_decide_eq_true z) z1
      rw [decide_eq_false z1, Bool.false_and] at t
      rw [loopW, show wgT (wgE l s2 b w k) = _ from t, List.drop_eq_nil_of_le (as := l) (by omega)]
      cases w.drop k <;> rfl
abbrev wgB : DZ.Env → Fl := (mSeq (mSet 4 (mK (.int 0))) (mSeq (loopW wgT (mAug 4 (mK (.int 1))) 30) (mSet 2 (mBlt fMax2 (mCons (mVar 2) (mCons (mVar 4) mNil))))))
theorem wg_body {l w : Li} (hl : As l) (hw : As w) (n : w.length < 30) (s2 : Option SV) (b : Nat) (y : Option SV) : wgB [some (.fz (.str (mk l))), s2, some (.fz (.int (b : Nat))), some (.fz (.str (mk w))), y] = .nx (wgE l s2 (max b (cpl l w)) w (cpl l w)) := by
  have a1 : mSet 4 (mK (.int 0)) [some (.fz (.str (mk l))), s2, some (.fz (.int (b : Nat))), some (.fz (.str (mk w))), y] = .nx (wgE l s2 b w 0) := rfl
  have a2 := wg_in hl hw s2 b 30 0 n (Nat.zero_le _)
  rw [List.drop_zero, List.drop_zero, Nat.zero_add] at a2
  refine (seq_n a1).trans ((seq_n a2).trans ?_)
  have a3 : mBlt fMax2 (mCons (mVar 2) (mCons (mVar 4) mNil)) (wgE l s2 b w (cpl l w)) = .ok (.fz (.int (max b (cpl l w) : Nat))) (wgE l s2 b w (cpl l w)) := by
    show Out.ok (RV.fz (.int (if ((cpl l w : Nat) : Int) > (b : Nat) then ((cpl l w : Nat) : Int) else (b : Nat)))) _ = _
    congr 3
    split <;> omega
  exact set_fz a3
theorem wg_out {l : Li} (hl : As l) (s2 : Option SV) : ∀ (ws : List Li), (∀ w ∈ ws, As w ∧ w.length < 30) → ∀ (b : Nat) (x y : Option SV), ∃ x' y', loopF (gN 3) wgB (ws.map fun w => .str (mk w)) [some (.fz (.str (mk l))), s2, some (.fz (.int (b : Nat))), x, y] = .nx [some (.fz (.str (mk l))), s2, some (.fz (.int (ws.foldl (fun b w => max b (cpl l w)) b : Nat))), x', y']
  | [], _, b, x, y => ⟨x, y, rfl⟩
  | w :: ws, h, b, x, y => by
    obtain ⟨x', y', e⟩ := wg_out hl s2 ws (fun u m => h u (List.mem_cons_of_mem _ m)) (max b (cpl l w)) (some (.fz (.str (mk w)))) (some (.fz (.int (cpl l w : Nat))))
    refine ⟨x', y', ?_⟩
    have g : gN 3 (.str (mk w)) [some (.fz (.str (mk l))), s2, some (.fz (.int (b : Nat))), x, y] = some [some (.fz (.str (mk l))), s2, some (.fz (.int (b : Nat))), some (.fz (.str (mk w))), y] := rfl
    have bd := wg_body hl (h w List.mem_cons_self).1 (h w List.mem_cons_self).2 s2 b y
    rw [List.map_cons, loopF, g]
    simp only [bd]
    exact e
theorem ev_word {l : Li} (hl : As l) {ws : List Li} (h : ∀ w ∈ ws, As w ∧ w.length < 30) {d : PyData} (hd : d = .list (ws.map fun w => .str (mk w)) ∨ d = .tuple (ws.map fun w => .str (mk w))) : f_word_gone [.fz (.str (mk l)), .fz d] = .ret (.fz (.int (wgo l ws : Nat))) none := by
  unfold f_word_gone b_word_gone
  obtain ⟨x', y', e⟩ := wg_out hl (some (.fz d)) ws h 0 none none
  have s : mSet 2 (mK (.int 0)) [some (.fz (.str (mk l))), some (.fz d), none, none, none] = .nx [some (.fz (.str (mk l))), some (.fz d), some (.fz (.int (0 : Nat))), none, none] := rfl
  have i : mSeqI (mVar 1) [some (.fz (.str (mk l))), some (.fz d), some (.fz (.int (0 : Nat))), none, none] = .ok (ws.map fun w => .str (mk w)) [some (.fz (.str (mk l))), some (.fz d), some (.fz (.int (0 : Nat))), none, none] := by
    rcases hd with rfl | rfl <;> rfl
  exact fn_rt ((seq_n s).trans ((seq_n ((for_ok i).trans e)).trans (ret_fz rfl)))
end KW

set_option maxRecDepth 100000
set_option maxHeartbeats 4000000
namespace KW
open PySem PySem.Spec L2 DZ

theorem call_2 {C : List SV → Fo} {m n : M RV} {Γ : DZ.Env} {d d' e : PyData} (h : m Γ = .ok (.fz d) Γ) (h2 : n Γ = .ok (.fz d') Γ) (c : C [.fz d, .fz d'] = .ret (.fz e) none) : mCallP C (mCons m (mCons n mNil)) Γ = .ok (.fz e) Γ := by
  have g1 : ∀ x, giv (.fz x) Γ = .ok (.fz x) Γ := fun _ => rfl
  simp only [mCallP, mCons, mNil, h, h2, Out.bind, givs, g1, c, rvOf]
theorem tup_2 {m n : M RV} {Γ : DZ.Env} {d e : PyData} (h : m Γ = .ok (.fz d) Γ) (h2 : n Γ = .ok (.fz e) Γ) : mTup (mCons m (mCons n mNil)) Γ = .ok (.fz (.tuple [d, e])) Γ := by
  simp only [mTup, mCons, mNil, h, h2, Out.bind, frzs, frz]
theorem tup_3 {m n o : M RV} {Γ : DZ.Env} {d e f : PyData} (h : m Γ = .ok (.fz d) Γ) (h2 : n Γ = .ok (.fz e) Γ) (h3 : o Γ = .ok (.fz f) Γ) : mTup (mCons m (mCons n (mCons o mNil))) Γ = .ok (.fz (.tuple [d, e, f])) Γ := by
  simp only [mTup, mCons, mNil, h, h2, h3, Out.bind, frzs, frz]
theorem addn {m n : M RV} {Γ : DZ.Env} {i j : Nat} (e : m Γ = .ok (.fz (.int (i : Nat))) Γ) (f : n Γ = .ok (.fz (.int (j : Nat))) Γ) : mOp2 fAdd m n Γ = .ok (.fz (.int ((i + j : Nat) : Int))) Γ := op_ok e f rfl rfl rfl
theorem eqn {m n : M RV} {Γ : DZ.Env} {i j : Nat} (e : m Γ = .ok (.fz (.int (i : Nat))) Γ) (f : n Γ = .ok (.fz (.int (j : Nat))) Γ) : mOp2 fEq m n Γ = .ok (.fz (.bool (decide (i = j)))) Γ := by
  refine (op_ok e f rfl rfl (feq_int _ _ _ _)).trans ?_
  congr 3
  rw [Bool.eq_iff_iff]
  simp
  omega
theorem Tv.from {m n : M RV} {Γ : DZ.Env} {l : Li} {k : Nat} (T : Tv m Γ l) (e : n Γ = .ok (.fz (.int (k : Nat))) Γ) : Tv (mSl m (mPart n) mNoP) Γ (l.drop k) := ⟨T.as.drop k, by
  have := cut_from l k
  simp only [mSl, mPart, mNoP, T.v, e, Out.bind, peek, fSl, if_pos T.as.fit, this]⟩
theorem Tv.to {m n : M RV} {Γ : DZ.Env} {l : Li} {k : Nat} (T : Tv m Γ l) (e : n Γ = .ok (.fz (.int (k : Nat))) Γ) : Tv (mSl m mNoP (mPart n)) Γ (l.take k) := ⟨T.as.take k, by
  have := cut_to l k
  simp only [mSl, mPart, mNoP, T.v, e, Out.bind, peek, fSl, if_pos T.as.fit, this]⟩
theorem Tv.mid {m n o : M RV} {Γ : DZ.Env} {l : Li} {i j : Nat} (T : Tv m Γ l) (e : n Γ = .ok (.fz (.int (i : Nat))) Γ) (f : o Γ = .ok (.fz (.int (j : Nat))) Γ) : Tv (mSl m (mPart n) (mPart o)) Γ ((l.drop i).take (j - i)) := ⟨(T.as.drop i).take _, by
  have := cut_mid l i j
  simp only [mSl, mPart, mNoP, T.v, e, f, Out.bind, peek, fSl, if_pos T.as.fit, this]⟩
theorem Tv.int {m : M RV} {Γ : DZ.Env} {l : Li} (T : Tv m Γ l) (h : l.all dig = true) (n : l ≠ []) (k : l.length ≤ 640) : mBlt fInt (mCons m mNil) Γ = .ok (.fz (.int (num l : Nat))) Γ := by
  simp only [mBlt, mCons, mNil, T.v, Out.bind, peeks, peek, fInt, mk_len, int_mk h n k]
  rw [if_pos k]
  rfl

/-- an event of a log: numbers by their figures -/
inductive Ev where
  | go | cut | over (t : Li) | sign (t : Li) (c : Nat)
def evD : Ev → PyData
  | .go => .tuple [.str (mk Lgo)]
  | .cut => .tuple [.str (mk Lcut)]
  | .over t => .tuple [.str (mk Lover), .int (num t : Nat)]
  | .sign t c => .tuple [.str (mk Lsign), .int (num t : Nat), .str (mk [c])]
def evL : Ev → Li
  | .go => Lgo
  | .cut => Lcut
  | .over t => Lob ++ t
  | .sign t c => Lsb ++ (t ++ 32 :: [c])
def evOk : Ev → Bool
  | .go => true
  | .cut => true
  | .over t => t != [] && fig t
  | .sign t c => t != [] && fig t && letter c

theorem ev_over {t : Li} (h : As (Lob ++ t)) : f_over_line [.fz (.str (mk (Lob ++ t)))] = .ret (.fz (if ngo t = 0 ∨ ngo t < t.length then .tuple [.none, .int ((5 + ngo t : Nat) : Int)] else .tuple [evD (.over t), .int (((Lob ++ t).length : Nat) : Int)])) none := by
  unfold f_over_line b_over_line
  have s1 : mSet 1 (mOp2 fAdd (mBlt fLen (mCons (mK (.str "over")) mNil)) (mK (.int 1))) [some (.fz (.str (mk (Lob ++ t)))), none, none] = .nx [some (.fz (.str (mk (Lob ++ t)))), some (.fz (.int (5 : Nat))), none] := set_fz (addn (j := 1) (tv_over _).len rfl)
  have hl : 5 ≤ (Lob ++ t).length := by simp [Lob]
  have n1 := ev_number h hl
  rw [show (Lob ++ t).drop 5 = t from rfl] at n1
  have s2 : mSet 2 (mCallP f_number_gone (mCons (mVar 0) (mCons (mVar 1) mNil))) [some (.fz (.str (mk (Lob ++ t)))), some (.fz (.int (5 : Nat))), none] = .nx [some (.fz (.str (mk (Lob ++ t)))), some (.fz (.int (5 : Nat))), some (.fz (.int (ngo t : Nat)))] := set_fz (call_2 rfl rfl n1)
  refine fn_rt (Γ := [some (.fz (.str (mk (Lob ++ t)))), some (.fz (.int (5 : Nat))), some (.fz (.int (ngo t : Nat)))]) ((seq_n s1).trans ((seq_n s2).trans ?_))
  have T : Tv (mVar 0) [some (.fz (.str (mk (Lob ++ t)))), some (.fz (.int (5 : Nat))), some (.fz (.int (ngo t : Nat)))] (Lob ++ t) := ⟨h, rfl⟩
  have v1 : mVar 1 [some (.fz (.str (mk (Lob ++ t)))), some (.fz (.int (5 : Nat))), some (.fz (.int (ngo t : Nat)))] = .ok (.fz (.int (5 : Nat))) [some (.fz (.str (mk (Lob ++ t)))), some (.fz (.int (5 : Nat))), some (.fz (.int (ngo t : Nat)))] := rfl
  have v2 : mVar 2 [some (.fz (.str (mk (Lob ++ t)))), some (.fz (.int (5 : Nat))), some (.fz (.int (ngo t : Nat)))] = .ok (.fz (.int (ngo t : Nat))) [some (.fz (.str (mk (Lob ++ t)))), some (.fz (.int (5 : Nat))), some (.fz (.int (ngo t : Nat)))] := rfl
  generalize [some (SV.fz (.str (mk (Lob ++ t)))), some (.fz (.int (5 : Nat))), some (.fz (.int (ngo t : Nat)))] = Γ at T v1 v2
  have c := or_ok (test_ok (eqn v2 (n := mK (.int 0)) (j := 0) rfl)) fun _ => test_ok (ltn (addn v1 v2) T.len)
  have sp := ngo_spec t
  by_cases hc : ngo t = 0 ∨ ngo t < t.length
  · have : (decide (ngo t = 0) || decide (5 + ngo t < (Lob ++ t).length)) = true := by
      rw [Bool.or_eq_true, decide_eq_true_eq, decide_eq_true_eq, List.length_append]
      rcases hc with hc | hc
      · exact .inl hc
      · exact .inr (by show 5 + ngo t < 5 + t.length; omega)
    rw [this] at c
    rw [if_pos hc]
    exact ifr c (ret_fz (tup_2 rfl (addn v1 v2)))
  · have : (decide (ngo t = 0) || decide (5 + ngo t < (Lob ++ t).length)) = false := by
      rw [Bool.or_eq_false_iff, decide_eq_false_iff_not, decide_eq_false_iff_not, List.length_append]
      refine ⟨fun z => hc (.inl z), fun z => hc (.inr ?_)⟩
      have z : 5 + ngo t < 5 + t.length := z
      omega
    rw [this] at c
    rw [if_neg hc]
    have e : ngo t = t.length := by omega
    have g := sp.2.1
    rw [e, List.take_length] at g
    have T1 := T.from v1
    have T2 : Tv (mSl (mVar 0) (mPart (mVar 1)) mNoP) Γ t := T1
    have l3 := fig_len g
    exact (ifs c).trans (ret_fz (tup_2 (tup_2 (tv_over Γ).v (T2.int (fig_dig g) (fun z => hc (.inl (by rw [z]; rfl))) (by omega))) T.len))
theorem ev_is_sign {l : Li} (h : As l) : f_is_sign [.fz (.str (mk l))] = .ret (.fz (.bool (okc l))) none := by
  unfold f_is_sign b_is_sign
  have T : Tv (mVar 0) [some (.fz (.str (mk l)))] l := ⟨h, rfl⟩
  have c1 : mIsi "str" (mVar 0) [some (.fz (.str (mk l)))] = .ok (.fz (.bool true)) [some (.fz (.str (mk l)))] := rfl
  refine fn_rt (Γ := [some (.fz (.str (mk l)))]) (ret_fz ?_)
  change mAndV _ _ [some (.fz (.str (mk l)))] = _
  have q : mAndV (mOp2 fEq (mBlt fLen (mCons (mVar 0) mNil)) (mK (.int 1))) (mOp2 (fIn false) (mVar 0) (mK (.str "abcdefghijklmnopqrstuvwxyz"))) [some (.fz (.str (mk l)))] = .ok (.fz (.bool (okc l))) [some (.fz (.str (mk l)))] := by
    match l, T with
    | [], T => exact andV_ok (b := false) (T.leq 1) fun z => by simp at z
    | [c], T =>
      refine (andV_ok (b := letter c) (T.leq 1) fun _ => op_ok T.v (mb := mK (.str "abcdefghijklmnopqrstuvwxyz")) rfl rfl rfl ?_).trans rfl
      show some (RV.fz (.bool (false != strIn (mk [c]) "abcdefghijklmnopqrstuvwxyz"))) = _
      rw [lit_abc, strIn_mk]
      congr 3
      unfold letter
      rw [Bool.eq_iff_iff]
      simp
      omega
    | c :: c' :: r, T => exact (andV_ok (b := false) (T.leq 1) fun z => by simp at z).trans (by simp [okc])
  exact (andV_ok c1 fun _ => q).trans (by simp)
end KW

set_option maxRecDepth 100000
set_option maxHeartbeats 4000000
namespace KW
open PySem PySem.Spec L2 DZ

theorem drop_sb (t : Li) (k : Nat) : (Lsb ++ t).drop (5 + k) = t.drop k := by
  rw [← List.drop_drop]
  rfl
/-- what the program tells of a line that begins with "sign " -/
def sgo (t : Li) : PyData :=
  if ngo t = 0 ∨ (t.drop (ngo t)).take 1 ≠ [32] then .tuple [.none, .int ((5 + ngo t : Nat) : Int)]
  else if okc ((t.drop (ngo t + 1)).take 1) = false then .tuple [.none, .int ((6 + ngo t : Nat) : Int)]
  else if ngo t + 2 < t.length then .tuple [.none, .int ((7 + ngo t : Nat) : Int)]
  else .tuple [evD (.sign (t.take (ngo t)) (t.getD (ngo t + 1) 0)), .int (((Lsb ++ t).length : Nat) : Int)]
theorem ev_sign {t : Li} (h : As (Lsb ++ t)) : f_sign_line [.fz (.str (mk (Lsb ++ t)))] = .ret (.fz (sgo t)) none := by
  unfold f_sign_line b_sign_line
  have s1 : mSet 1 (mOp2 fAdd (mBlt fLen (mCons (mK (.str "sign")) mNil)) (mK (.int 1))) [some (.fz (.str (mk (Lsb ++ t)))), none, none, none] = .nx [some (.fz (.str (mk (Lsb ++ t)))), some (.fz (.int (5 : Nat))), none, none] := set_fz (addn (j := 1) (tv_sign _).len rfl)
  have hl : 5 ≤ (Lsb ++ t).length := by simp [Lsb]
  have ll : (Lsb ++ t).length = 5 + t.length := by rw [List.length_append]; rfl
  have n1 := ev_number h hl
  rw [show (Lsb ++ t).drop 5 = t from rfl] at n1
  have s2 : mSet 2 (mCallP f_number_gone (mCons (mVar 0) (mCons (mVar 1) mNil))) [some (.fz (.str (mk (Lsb ++ t)))), some (.fz (.int (5 : Nat))), none, none] = .nx [some (.fz (.str (mk (Lsb ++ t)))), some (.fz (.int (5 : Nat))), some (.fz (.int (ngo t : Nat))), none] := set_fz (call_2 rfl rfl n1)
  have sp := ngo_spec t
  have fl := fig_len sp.2.1
  have key : ∃ Γ, (mSeq (mIf (mOr (mTest (mOp2 fEq (mVar 2) (mK (.int 0)))) (mTest (mOp2 fNe (mSl (mVar 0) (mPart (mOp2 fAdd (mVar 1) (mVar 2))) (mPart (mOp2 fAdd (mOp2 fAdd (mVar 1) (mVar 2)) (mK (.int 1))))) (mK (.str " "))))) (mRet [] (mTup (mCons (mK .none) (mCons (mOp2 fAdd (mVar 1) (mVar 2)) mNil)))) mSkip) (mSeq (mSet 3 (mOp2 fAdd (mOp2 fAdd (mVar 1) (mVar 2)) (mK (.int 1)))) (mSeq (mIf (mNot (mTruth (mCallP f_is_sign (mCons (mSl (mVar 0) (mPart (mVar 3)) (mPart (mOp2 fAdd (mVar 3) (mK (.int 1))))) mNil)))) (mRet [] (mTup (mCons (mK .none) (mCons (mVar 3) mNil)))) mSkip) (mSeq (mIf (mTest (mOp2 fLt (mOp2 fAdd (mVar 3) (mK (.int 1))) (mBlt fLen (mCons (mVar 0) mNil)))) (mRet [] (mTup (mCons (mK .none) (mCons (mOp2 fAdd (mVar 3) (mK (.int 1))) mNil)))) mSkip) (mRet [] (mTup (mCons (mTup (mCons (mK (.str "sign")) (mCons (mBlt fInt (mCons (mSl (mVar 0) (mPart (mVar 1)) (mPart (mOp2 fAdd (mVar 1) (mVar 2)))) mNil)) (mCons (mOp2 fIx (mVar 0) (mVar 3)) mNil)))) (mCons (mBlt fLen (mCons (mVar 0) mNil)) mNil)))))))) [some (.fz (.str (mk (Lsb ++ t)))), some (.fz (.int (5 : Nat))), some (.fz (.int (ngo t : Nat))), none] = .rt (.fz (sgo t)) Γ := by
    have T : Tv (mVar 0) [some (.fz (.str (mk (Lsb ++ t)))), some (.fz (.int (5 : Nat))), some (.fz (.int (ngo t : Nat))), none] (Lsb ++ t) := ⟨h, rfl⟩
    have v1 : mVar 1 [some (.fz (.str (mk (Lsb ++ t)))), some (.fz (.int (5 : Nat))), some (.fz (.int (ngo t : Nat))), none] = .ok (.fz (.int (5 : Nat))) [some (.fz (.str (mk (Lsb ++ t)))), some (.fz (.int (5 : Nat))), some (.fz (.int (ngo t : Nat))), none] := rfl
    have v2 : mVar 2 [some (.fz (.str (mk (Lsb ++ t)))), some (.fz (.int (5 : Nat))), some (.fz (.int (ngo t : Nat))), none] = .ok (.fz (.int (ngo t : Nat))) [some (.fz (.str (mk (Lsb ++ t)))), some (.fz (.int (5 : Nat))), some (.fz (.int (ngo t : Nat))), none] := rfl
    have a6 := addn (addn v1 v2) (n := mK (.int 1)) (j := 1) rfl
    have c := or_ok (test_ok (eqn v2 (n := mK (.int 0)) (j := 0) rfl)) fun _ => test_ok ((T.mid (addn v1 v2) a6).ne (tv_b _))
    rw [drop_sb, show 5 + ngo t + 1 - (5 + ngo t) = 1 from by omega] at c
    unfold sgo
    by_cases hc : ngo t = 0 ∨ (t.drop (ngo t)).take 1 ≠ [32]
    · have : (decide (ngo t = 0) || !decide ((t.drop (ngo t)).take 1 = [32])) = true := by
        rw [Bool.or_eq_true, decide_eq_true_eq, Bool.not_eq_true', decide_eq_false_iff_not]
        exact hc
      rw [this] at c
      rw [if_pos hc]
      exact ⟨_, ifr c (ret_fz (tup_2 rfl (addn v1 v2)))⟩
    · have : (decide (ngo t = 0) || !decide ((t.drop (ngo t)).take 1 = [32])) = false := by
        rw [Bool.or_eq_false_iff, decide_eq_false_iff_not, Bool.not_eq_false', decide_eq_true_eq]
        exact ⟨fun z => hc (.inl z), Decidable.byContradiction fun z => hc (.inr z)⟩
      rw [this] at c
      rw [if_neg hc, ifs c]
      have s3 := set_fz (i := 3) a6
      rw [seq_n s3]
      clear c a6 s3 v1 v2 T
      have T : Tv (mVar 0) [some (.fz (.str (mk (Lsb ++ t)))), some (.fz (.int (5 : Nat))), some (.fz (.int (ngo t : Nat))), some (.fz (.int ((5 + ngo t + 1 : Nat) : Int)))] (Lsb ++ t) := ⟨h, rfl⟩
      have v1 : mVar 1 [some (.fz (.str (mk (Lsb ++ t)))), some (.fz (.int (5 : Nat))), some (.fz (.int (ngo t : Nat))), some (.fz (.int ((5 + ngo t + 1 : Nat) : Int)))] = .ok (.fz (.int (5 : Nat))) [some (.fz (.str (mk (Lsb ++ t)))), some (.fz (.int (5 : Nat))), some (.fz (.int (ngo t : Nat))), some (.fz (.int ((5 + ngo t + 1 : Nat) : Int)))] := rfl
      have v2 : mVar 2 [some (.fz (.str (mk (Lsb ++ t)))), some (.fz (.int (5 : Nat))), some (.fz (.int (ngo t : Nat))), some (.fz (.int ((5 + ngo t + 1 : Nat) : Int)))] = .ok (.fz (.int (ngo t : Nat))) [some (.fz (.str (mk (Lsb ++ t)))), some (.fz (.int (5 : Nat))), some (.fz (.int (ngo t : Nat))), some (.fz (.int ((5 + ngo t + 1 : Nat) : Int)))] := rfl
      have v3 : mVar 3 [some (.fz (.str (mk (Lsb ++ t)))), some (.fz (.int (5 : Nat))), some (.fz (.int (ngo t : Nat))), some (.fz (.int ((5 + ngo t + 1 : Nat) : Int)))] = .ok (.fz (.int ((5 + ngo t + 1 : Nat) : Int))) [some (.fz (.str (mk (Lsb ++ t)))), some (.fz (.int (5 : Nat))), some (.fz (.int (ngo t : Nat))), some (.fz (.int ((5 + ngo t + 1 : Nat) : Int)))] := rfl
      change ∃ Γ, mSeq _ _ [some (SV.fz (.str (mk (Lsb ++ t)))), some (.fz (.int (5 : Nat))), some (.fz (.int (ngo t : Nat))), some (.fz (.int ((5 + ngo t + 1 : Nat) : Int)))] = _
      generalize [some (SV.fz (.str (mk (Lsb ++ t)))), some (.fz (.int (5 : Nat))), some (.fz (.int (ngo t : Nat))), some (.fz (.int ((5 + ngo t + 1 : Nat) : Int)))] = Γ at T v1 v2 v3
      have a7 := addn v3 (n := mK (.int 1)) (j := 1) rfl
      have T6 := T.mid v3 a7
      have c := not_ok (truth_ok (T6.call (ev_is_sign T6.as)))
      rw [show (Lsb ++ t).drop (5 + ngo t + 1) = t.drop (ngo t + 1) from drop_sb t (ngo t + 1), show 5 + ngo t + 1 + 1 - (5 + ngo t + 1) = 1 from by omega] at c
      cases ho : okc ((t.drop (ngo t + 1)).take 1) with
      | false =>
        rw [ho] at c
        rw [if_pos rfl, show 6 + ngo t = 5 + ngo t + 1 from by omega]
        exact ⟨_, ifr c (ret_fz (tup_2 rfl v3))⟩
      | true =>
        rw [ho] at c
        rw [if_neg (by decide), ifs c]
        have c2 := test_ok (ltn a7 T.len)
        by_cases hz : ngo t + 2 < t.length
        · rw [decide_eq_true (by omega)] at c2
          rw [if_pos hz, show 7 + ngo t = 5 + ngo t + 1 + 1 from by omega]
          exact ⟨_, ifr c2 (ret_fz (tup_2 rfl a7))⟩
        · rw [decide_eq_false (by omega)] at c2
          rw [if_neg hz, ifs c2]
          have hm : ngo t + 1 < t.length := by
            rcases Nat.lt_or_ge (ngo t + 1) t.length with z | z
            · exact z
            · rw [List.drop_eq_nil_of_le z] at ho
              cases ho
          have T8 := T.ixn v3 (by omega : 5 + ngo t + 1 < (Lsb ++ t).length)
          have g8 : (Lsb ++ t).getD (5 + ngo t + 1) 0 = t.getD (ngo t + 1) 0 := by
            rw [List.getD_eq_getElem?_getD, List.getD_eq_getElem?_getD, List.getElem?_append_right (by show 5 ≤ _; omega)]
            congr 2
            show 5 + ngo t + 1 - 5 = _
            omega
          rw [g8] at T8
          have T9 := T.mid v1 (addn v1 v2)
          rw [show (Lsb ++ t).drop 5 = t from rfl, show 5 + ngo t - 5 = ngo t from by omega] at T9
          have ne : t.take (ngo t) ≠ [] := fun z => by
            have := congrArg List.length z
            rw [List.length_take, Nat.min_eq_left sp.1] at this
            exact hc (.inl this)
          exact ⟨_, ret_fz (tup_2 (tup_3 (tv_sign Γ).v (T9.int (fig_dig sp.2.1) ne (by omega)) T8.v) T.len)⟩
  obtain ⟨Γ, key⟩ := key
  exact fn_rt ((seq_n s1).trans ((seq_n s2).trans key))
end KW

set_option maxRecDepth 100000
set_option maxHeartbeats 4000000
namespace KW
open PySem PySem.Spec L2 DZ

theorem Tv.add {m n : M RV} {Γ : DZ.Env} {a b : Li} (T : Tv m Γ a) (U : Tv n Γ b) (h : As (a ++ b)) : Tv (mOp2 fAdd m n) Γ (a ++ b) := ⟨h, op_ok T.v U.v rfl rfl (by
  show (if (mk a).length + (mk b).length ≤ sizeLine then some (RV.fz (.str (mk a ++ mk b))) else none) = _
  have := h.size
  rw [List.length_append] at this
  rw [mk_len, mk_len, if_pos this, mk_app])⟩
def wds : PyData := .tuple [.str (mk Lcut), .str (mk Lgo), .str (mk Lend)]
abbrev ws5 : List Li := [Lcut, Lgo, Lend, Lob, Lsb]
theorem tv_ovb (Γ : DZ.Env) : Tv (mOp2 fAdd (mK (.str "over")) (mK (.str " "))) Γ Lob := (tv_over Γ).add (tv_b Γ) as_ob
theorem tv_sib (Γ : DZ.Env) : Tv (mOp2 fAdd (mK (.str "sign")) (mK (.str " "))) Γ Lsb := (tv_sign Γ).add (tv_b Γ) as_sb
abbrev gE (r : Li) : DZ.Env := [some (.fz (.str (mk r))), some (.fz wds)]
theorem gone_in {r : Li} (h : As r) : mTest (mOp2 (fIn false) (mVar 0) (mVar 1)) (gE r) = .ok (decide (r ∈ [Lcut, Lgo, Lend])) (gE r) := by
  refine test_ok (op_ok (r := .fz (.str (mk r))) (s := .fz (.tuple ([Lcut, Lgo, Lend].map fun p => PyData.str (mk p)))) rfl rfl rfl rfl ?_)
  rw [fin_tup]
  cases decide (r ∈ [Lcut, Lgo, Lend]) <;> rfl
theorem gone_w {r : Li} (h : As r) (hw : r ∈ [Lcut, Lgo, Lend]) : f_gone_of_line [.fz (.str (mk r)), .fz wds] = .ret (.fz (.tuple [if r = Lend then .str (mk Lend) else .tuple [.str (mk r)], .int (r.length : Nat)])) none := by
  unfold f_gone_of_line b_gone_of_line
  have T : Tv (mVar 0) (gE r) r := ⟨h, rfl⟩
  have c := gone_in h
  rw [decide_eq_true hw] at c
  have t1 : mTup (mCons (mVar 0) mNil) (gE r) = .ok (.fz (.tuple [.str (mk r)])) (gE r) := rfl
  have t2 : mIte (mTest (mOp2 fEq (mVar 0) (mK (.str "end")))) (mK (.str "end")) (mTup (mCons (mVar 0) mNil)) (gE r) = .ok (.fz (if r = Lend then .str (mk Lend) else .tuple [.str (mk r)])) (gE r) := by
    unfold mIte
    rw [test_ok (T.eq (tv_end _))]
    by_cases e : r = Lend
    · rw [decide_eq_true e, if_pos e]
      exact (tv_end (gE r)).v
    · rw [decide_eq_false e, if_neg e]
      exact t1
  exact fn_rt (ifr c (ret_fz (tup_2 t2 T.len)))
theorem take_t {r : Li} (h : As r) (s : Str) (L : Li) (e : s = mk L) (hL : As L) (n : L.length = 4) : Tv (mSl (mVar 0) mNoP (mPart (mOp2 fAdd (mBlt fLen (mCons (mK (.str s)) mNil)) (mK (.int 1))))) (gE r) (r.take 5) := by
  have T : Tv (mVar 0) (gE r) r := ⟨h, rfl⟩
  have a := addn (Tv.lit (Γ := gE r) e hL).len (n := mK (.int 1)) (j := 1) rfl
  rw [n] at a
  exact T.to a
theorem gone_o {r : Li} (h : As r) (hw : ¬ r ∈ [Lcut, Lgo, Lend]) (ho : r.take 5 = Lob) : f_gone_of_line [.fz (.str (mk r)), .fz wds] = f_over_line [.fz (.str (mk r))] := by
  have e : r = Lob ++ r.drop 5 := by rw [← ho, List.take_append_drop]
  have ov : ∃ d, f_over_line [.fz (.str (mk r))] = .ret (.fz d) none := by
    rw [e]
    exact ⟨_, ev_over (e ▸ h)⟩
  obtain ⟨d, ov⟩ := ov
  rw [ov]
  unfold f_gone_of_line b_gone_of_line
  have T : Tv (mVar 0) (gE r) r := ⟨h, rfl⟩
  have c := gone_in h
  rw [decide_eq_false hw] at c
  have c2 := test_ok ((take_t h "over" Lover lit_over as_over rfl).eq (tv_ovb _))
  rw [decide_eq_true ho] at c2
  exact fn_rt ((ifs c).trans (ifr c2 (ret_fz (T.call ov))))
theorem gone_s {r : Li} (h : As r) (hw : ¬ r ∈ [Lcut, Lgo, Lend]) (ho : r.take 5 = Lsb) : f_gone_of_line [.fz (.str (mk r)), .fz wds] = f_sign_line [.fz (.str (mk r))] := by
  have e : r = Lsb ++ r.drop 5 := by rw [← ho, List.take_append_drop]
  have ov : ∃ d, f_sign_line [.fz (.str (mk r))] = .ret (.fz d) none := by
    rw [e]
    exact ⟨_, ev_sign (e ▸ h)⟩
  obtain ⟨d, ov⟩ := ov
  rw [ov]
  unfold f_gone_of_line b_gone_of_line
  have T : Tv (mVar 0) (gE r) r := ⟨h, rfl⟩
  have c := gone_in h
  rw [decide_eq_false hw] at c
  have c2 := test_ok ((take_t h "over" Lover lit_over as_over rfl).eq (tv_ovb _))
  rw [decide_eq_false (by rw [ho]; decide)] at c2
  have c3 := test_ok ((take_t h "sign" Lsign lit_sign as_sign rfl).eq (tv_sib _))
  rw [decide_eq_true ho] at c3
  exact fn_rt ((ifs c).trans ((ifs c2).trans (ifr c3 (ret_fz (T.call ov)))))
theorem gone_n {r : Li} (h : As r) (hw : ¬ r ∈ [Lcut, Lgo, Lend]) (ho : r.take 5 ≠ Lob) (hs : r.take 5 ≠ Lsb) : f_gone_of_line [.fz (.str (mk r)), .fz wds] = .ret (.fz (.tuple [.none, .int (wgo r ws5 : Nat)])) none := by
  unfold f_gone_of_line b_gone_of_line
  have T : Tv (mVar 0) (gE r) r := ⟨h, rfl⟩
  have c := gone_in h
  rw [decide_eq_false hw] at c
  have c2 := test_ok ((take_t h "over" Lover lit_over as_over rfl).eq (tv_ovb _))
  rw [decide_eq_false ho] at c2
  have c3 := test_ok ((take_t h "sign" Lsign lit_sign as_sign rfl).eq (tv_sib _))
  rw [decide_eq_false hs] at c3
  have w := ev_word (l := r) h (ws := ws5) (by
    intro w m
    simp only [List.mem_cons, List.not_mem_nil, or_false] at m
    rcases m with rfl | rfl | rfl | rfl | rfl
    · exact ⟨as_cut, by decide⟩
    · exact ⟨as_go, by decide⟩
    · exact ⟨as_end, by decide⟩
    · exact ⟨as_ob, by decide⟩
    · exact ⟨as_sb, by decide⟩) (.inl rfl)
  have q1 := (tv_ovb (gE r)).v
  have q2 := (tv_sib (gE r)).v
  have l5 : mLstS (mStarR (mVar 1) (mConsR (mOp2 fAdd (mK (.str "over")) (mK (.str " "))) (mConsR (mOp2 fAdd (mK (.str "sign")) (mK (.str " "))) (fun Γ => .ok [] Γ)))) (gE r) = .ok (.ow (.list (ws5.map fun w => .str (mk w)))) (gE r) := by
    have e : mStarR (mVar 1) (mConsR (mOp2 fAdd (mK (.str "over")) (mK (.str " "))) (mConsR (mOp2 fAdd (mK (.str "sign")) (mK (.str " "))) (fun Γ => .ok [] Γ))) (gE r) = .ok (ws5.map fun w => .fz (.str (mk w))) (gE r) := by
      show ((mConsR (mOp2 fAdd (mK (.str "over")) (mK (.str " "))) (mConsR (mOp2 fAdd (mK (.str "sign")) (mK (.str " "))) (fun Γ => .ok [] Γ)) (gE r)).bind fun rs Γ2 => Out.ok ([PyData.str (mk Lcut), .str (mk Lgo), .str (mk Lend)].map RV.fz ++ rs) Γ2) = _
      simp only [mConsR, q1, q2, Out.bind]
      rfl
    unfold mLstS
    rw [e]
    rfl
  have k : mCallP f_word_gone (mCons (mVar 0) (mCons (mLstS (mStarR (mVar 1) (mConsR (mOp2 fAdd (mK (.str "over")) (mK (.str " "))) (mConsR (mOp2 fAdd (mK (.str "sign")) (mK (.str " "))) (fun Γ => .ok [] Γ))))) mNil)) (gE r) = .ok (.fz (.int (wgo r ws5 : Nat))) (gE r) := by
    have g1 : ∀ x, giv (.fz x) (gE r) = .ok (.fz x) (gE r) := fun _ => rfl
    have g2 : ∀ x, giv (.ow x) (gE r) = .ok (.fz x) (gE r) := fun _ => rfl
    simp only [mCallP, mCons, mNil, T.v, l5, Out.bind, givs, g1, g2, w, rvOf]
  exact fn_rt ((ifs c).trans ((ifs c2).trans ((ifs c3).trans (ret_fz (tup_2 rfl k)))))
end KW

set_option maxRecDepth 100000
set_option maxHeartbeats 4000000
namespace KW
open PySem PySem.Spec L2 DZ

/-! ### what the program tells of a line, beside the law's own reading -/
theorem cpl_take : ∀ (l w : Li) (i : Nat), i ≤ cpl l w → l.take i <+: w
  | _, _, 0, _ => by simp
  | [], _, _ + 1, h => by simp
  | _ :: _, [], _ + 1, h => by simp [cpl] at h
  | x :: xs, y :: ys, i + 1, h => by
    unfold cpl at h
    split at h
    · rename_i e
      rw [List.take_succ_cons, e]
      exact List.cons_prefix_cons.mpr ⟨rfl, cpl_take xs ys i (by omega)⟩
    · omega
theorem cpl_ge : ∀ (l w : Li) (i : Nat), i ≤ l.length → l.take i <+: w → i ≤ cpl l w
  | _, _, 0, _, _ => Nat.zero_le _
  | [], _, i + 1, h, _ => by simp at h
  | x :: xs, [], i + 1, _, h => by simp at h
  | x :: xs, y :: ys, i + 1, h, p => by
    rw [List.take_succ_cons] at p
    obtain ⟨e, p⟩ := List.cons_prefix_cons.mp p
    unfold cpl
    rw [if_pos e]
    have := cpl_ge xs ys i (by simpa using h) p
    omega
theorem cpl_le : ∀ (l w : Li), cpl l w ≤ l.length
  | [], _ => by simp [cpl]
  | _ :: _, [] => by simp [cpl]
  | x :: xs, y :: ys => by
    unfold cpl
    split
    · have := cpl_le xs ys
      simp only [List.length_cons]
      omega
    · exact Nat.zero_le _
theorem wgo_fold (l : Li) : ∀ (ws : List Li) (b : Nat), b ≤ ws.foldl (fun b w => max b (cpl l w)) b ∧ (∀ w ∈ ws, cpl l w ≤ ws.foldl (fun b w => max b (cpl l w)) b) ∧ (ws.foldl (fun b w => max b (cpl l w)) b = b ∨ ∃ w ∈ ws, ws.foldl (fun b w => max b (cpl l w)) b = cpl l w)
  | [], b => ⟨Nat.le_refl _, fun _ m => absurd m List.not_mem_nil, .inl rfl⟩
  | w :: ws, b => by
    obtain ⟨h1, h2, h3⟩ := wgo_fold l ws (max b (cpl l w))
    rw [List.foldl_cons]
    refine ⟨by omega, fun u m => ?_, ?_⟩
    · rcases List.mem_cons.mp m with rfl | m
      · omega
      · exact h2 u m
    · rcases h3 with h3 | ⟨u, m, e⟩
      · rcases Nat.le_total b (cpl l w) with z | z
        · exact .inr ⟨w, List.mem_cons_self, by omega⟩
        · exact .inl (by omega)
      · exact .inr ⟨u, List.mem_cons_of_mem _ m, e⟩
/-- none, and how many signs go on -/
structure Bd (r : Li) (k : Nat) : Prop where
  le : k ≤ r.length
  ok : ∀ i, i ≤ k → lgo (r.take i) = true
  no : k < r.length → lgo (r.take (k + 1)) = false
theorem take_in {B t : Li} {k : Nat} (n : B.length = 5) : (B ++ t).take (5 + k) = B ++ t.take k := by
  rw [← n, List.take_length_add_append]
theorem pre_in {B t : Li} {i : Nat} (n : B.length = 5) (h : i ≤ 5) : (B ++ t).take i <+: B := by
  rw [List.take_append_of_le_length (by omega)]
  exact List.take_prefix _ _
theorem bd_ob {t : Li} (h : ngo t = 0 ∨ ngo t < t.length) : Bd (Lob ++ t) (5 + ngo t) ∧ lln (Lob ++ t) = false := by
  obtain ⟨a, b, c⟩ := ngo_spec t
  have ll : (Lob ++ t).length = 5 + t.length := by rw [List.length_append]; rfl
  refine ⟨⟨by omega, fun i hi => ?_, fun z => ?_⟩, ?_⟩
  · rcases Nat.le_total i 5 with z | z
    · exact lgo_pre (w := Lob) (by simp [W5]) (pre_in rfl z)
    · obtain ⟨j, rfl⟩ := Nat.exists_eq_add_of_le z
      rw [take_in rfl, lgo_ob, tok_over]
      exact ngo_le (by omega)
  · rw [Nat.add_assoc, take_in rfl, lgo_ob, tok_over]
    exact c (by omega)
  · rw [lln_ob]
    cases g : fig t with
    | false => exact Bool.and_false _
    | true =>
      have e := ngo_all g
      have : t = [] := by
        rcases h with h | h
        · exact List.length_eq_zero_iff.mp (by omega)
        · omega
      rw [this]
      rfl
theorem spl_b {d u : Li} (h : fig d = true) : spl 32 (d ++ 32 :: u) = d :: spl 32 u := spl_app (fig_nb h)
theorem tok_d {d : Li} (h : fig d = true) : tok false (spl 32 d) = true := by
  rw [spl_free (fig_nb h)]
  exact h
theorem tok_2 (d e : Li) : tok false [d, e] = (fig d && d != [] && (e == [] || okc e)) := by
  simp [tok]
theorem cut_at {t : Li} {m : Nat} (h : (t.drop m).take 1 = [32]) : t = t.take m ++ 32 :: t.drop (m + 1) ∧ m < t.length := by
  have z : m < t.length := by
    rcases Nat.lt_or_ge m t.length with z | z
    · exact z
    · rw [List.drop_eq_nil_of_le z] at h
      cases h
  rw [List.drop_eq_getElem_cons z, List.take_succ_cons] at h
  have e : t[m] = 32 := by injection h
  refine ⟨?_, z⟩
  conv => lhs; rw [← List.take_append_drop m t]
  rw [List.drop_eq_getElem_cons z, e]
theorem bd_sb1 {t : Li} (h : ngo t = 0 ∨ (t.drop (ngo t)).take 1 ≠ [32]) : Bd (Lsb ++ t) (5 + ngo t) ∧ lln (Lsb ++ t) = false := by
  obtain ⟨a, b, c⟩ := ngo_spec t
  have ll : (Lsb ++ t).length = 5 + t.length := by rw [List.length_append]; rfl
  refine ⟨⟨by omega, fun i hi => ?_, fun z => ?_⟩, ?_⟩
  · rcases Nat.le_total i 5 with z | z
    · exact lgo_pre (w := Lsb) (by simp [W5]) (pre_in rfl z)
    · obtain ⟨j, rfl⟩ := Nat.exists_eq_add_of_le z
      rw [take_in rfl, lgo_sb]
      exact tok_d (ngo_le (by omega))
  · have z : ngo t < t.length := by omega
    have c := c z
    rw [Nat.add_assoc, take_in rfl, lgo_sb]
    rw [List.take_add_one, List.getElem?_eq_getElem z] at c ⊢
    have c : fig (t.take (ngo t) ++ [t[ngo t]]) = false := c
    show tok false (spl 32 (t.take (ngo t) ++ [t[ngo t]])) = false
    by_cases e : t[ngo t] = 32
    · rcases h with h | h
      · rw [e, show t.take (ngo t) = [] from by rw [h]; rfl]
        rfl
      · refine absurd ?_ h
        rw [List.drop_eq_getElem_cons z, e]
        rfl
    · rw [spl_free]
      · exact c
      · intro m
        rcases List.mem_append.mp m with m | m
        · exact fig_nb b m
        · exact e (List.mem_singleton.mp m).symm
  · rw [lln_sb]
    split
    · rename_i d e q
      cases g : (d != [] && fig d && okc e) with
      | false => rfl
      | true =>
        exfalso
        simp only [Bool.and_eq_true, bne_iff_ne] at g
        have j := jn_spl 32 t
        rw [q] at j
        have j : d ++ 32 :: e = t := j
        have n := ngo_b (u := e) g.1.2
        rw [j] at n
        rcases h with h | h
        · exact g.1.1 (List.length_eq_zero_iff.mp (by omega))
        · apply h
          rw [n, ← j, List.drop_append_of_le_length (Nat.le_refl _), List.drop_length]
          rfl
    · rfl
/-- behind a number and a blank -/
structure Mid (t d u : Li) : Prop where
  e : t = d ++ 32 :: u
  f : fig d = true
  ne : d ≠ []
  n : ngo t = d.length
theorem mid_of {t : Li} (h : ¬ (ngo t = 0 ∨ (t.drop (ngo t)).take 1 ≠ [32])) : Mid t (t.take (ngo t)) (t.drop (ngo t + 1)) := by
  obtain ⟨a, b, c⟩ := ngo_spec t
  have h2 : (t.drop (ngo t)).take 1 = [32] := Decidable.byContradiction fun z => h (.inr z)
  refine ⟨(cut_at h2).1, b, fun z => ?_, by rw [List.length_take, Nat.min_eq_left a]⟩
  have := congrArg List.length z
  rw [List.length_take, Nat.min_eq_left a] at this
  exact h (.inl this)
theorem Mid.tk {t d u : Li} (M : Mid t d u) (j : Nat) : (Lsb ++ t).take (6 + ngo t + j) = Lsb ++ (d ++ 32 :: u.take j) := by
  rw [show 6 + ngo t + j = 5 + (d.length + (j + 1)) from by rw [M.n]; omega, take_in rfl]
  congr 1
  conv => lhs; rw [M.e]
  rw [List.take_length_add_append]
  rfl
theorem Mid.lo {t d u : Li} (M : Mid t d u) {i : Nat} (h : i ≤ 5 + ngo t) : lgo ((Lsb ++ t).take i) = true := by
  rcases Nat.le_total i 5 with z | z
  · exact lgo_pre (w := Lsb) (by simp [W5]) (pre_in rfl z)
  · obtain ⟨j, rfl⟩ := Nat.exists_eq_add_of_le z
    rw [take_in rfl, lgo_sb]
    exact tok_d (ngo_le (by omega))
theorem Mid.tok {t d u : Li} (M : Mid t d u) (v : Li) : lgo (Lsb ++ (d ++ 32 :: v)) = (match spl 32 v with
    | [e] => e == [] || okc e
    | _ => false) := by
  rw [lgo_sb, spl_b M.f]
  cases z : spl 32 v with
  | nil => exact absurd z (spl_ne 32 v)
  | cons p ps =>
    cases ps with
    | nil => rw [tok_2, M.f, show (d != []) = true from by simpa using M.ne]; simp
    | cons q qs => rfl
theorem Mid.ln {t d u : Li} (M : Mid t d u) : lln (Lsb ++ t) = (match spl 32 u with
    | [e] => okc e
    | _ => false) := by
  rw [lln_sb]
  conv => lhs; rw [M.e, spl_b M.f]
  cases z : spl 32 u with
  | nil => exact absurd z (spl_ne 32 u)
  | cons p ps =>
    cases ps with
    | nil => simp [M.f, M.ne]
    | cons q qs => rfl
theorem Mid.len {t d u : Li} (M : Mid t d u) : (Lsb ++ t).length = 6 + ngo t + u.length := by
  have := congrArg List.length M.e
  rw [List.length_append, List.length_cons] at this
  rw [List.length_append, show Lsb.length = 5 from rfl, M.n]
  omega
theorem spl1 {c : Nat} (h : c ≠ 32) : spl 32 [c] = [[c]] := spl_free (by
  intro m
  exact h (List.mem_singleton.mp m).symm)
theorem bd_sb2 {t d u : Li} (M : Mid t d u) (h : okc (u.take 1) = false) : Bd (Lsb ++ t) (6 + ngo t) ∧ lln (Lsb ++ t) = false := by
  have ml := M.len
  refine ⟨⟨by omega, fun i hi => ?_, fun z => ?_⟩, ?_⟩
  · rcases Nat.lt_or_ge i (6 + ngo t) with z | z
    · exact M.lo (by omega)
    · have : i = 6 + ngo t + 0 := by omega
      rw [this, M.tk, M.tok]
      rfl
  · rw [M.tk, M.tok]
    match u, ml, h, z with
    | [], ml, _, z => rw [ml] at z; simp at z
    | c :: u, _, h, _ =>
      show (match spl 32 [c] with
        | [e] => e == [] || okc e
        | _ => false) = false
      by_cases e : c = 32
      · rw [e]; rfl
      · rw [spl1 e]
        exact h
  · rw [M.ln]
    split
    · rename_i e q
      cases g : okc e with
      | false => rfl
      | true =>
        have j := jn_spl 32 u
        rw [q] at j
        have j : e = u := j
        rw [← j] at h
        match e, g, h with
        | [c], g, h => rw [show ([c] : Li).take 1 = [c] from rfl, g] at h; cases h
    · rfl
theorem bd_sb3 {t d u : Li} (M : Mid t d u) (h : okc (u.take 1) = true) (n : 1 < u.length) : Bd (Lsb ++ t) (7 + ngo t) ∧ lln (Lsb ++ t) = false := by
  have ml := M.len
  match u, M, ml, h, n with
  | c :: x :: u, M, ml, h, n =>
    have h : okc [c] = true := h
    have hc : c ≠ 32 := letter_nb h
    refine ⟨⟨by omega, fun i hi => ?_, fun z => ?_⟩, ?_⟩
    · rcases Nat.lt_or_ge i (6 + ngo t) with z | z
      · exact M.lo (by omega)
      · rcases Nat.lt_or_ge i (7 + ngo t) with z | z
        · have : i = 6 + ngo t + 0 := by omega
          rw [this, M.tk, M.tok]
          rfl
        · have : i = 6 + ngo t + 1 := by omega
          rw [this, M.tk, M.tok]
          show (match spl 32 [c] with
            | [e] => e == [] || okc e
            | _ => false) = true
          rw [spl1 hc]
          exact h
    · rw [show 7 + ngo t + 1 = 6 + ngo t + 2 from by omega, M.tk, M.tok]
      show (match spl 32 ([c] ++ [x]) with
        | [e] => e == [] || okc e
        | _ => false) = false
      by_cases e : x = 32
      · rw [e, spl_app (p := [c]) (by intro m; exact hc (List.mem_singleton.mp m).symm)]
        rfl
      · rw [spl_free (by
          intro m
          rcases List.mem_append.mp m with m | m
          · exact hc (List.mem_singleton.mp m).symm
          · exact e (List.mem_singleton.mp m).symm)]
        rfl
    · rw [M.ln]
      split
      · rename_i e q
        cases g : okc e with
        | false => rfl
        | true =>
          have j := jn_spl 32 (c :: x :: u)
          rw [q] at j
          have j : e = c :: x :: u := j
          rw [j] at g
          cases g
      · rfl
end KW

set_option maxRecDepth 100000
set_option maxHeartbeats 4000000
namespace KW
open PySem PySem.Spec L2 DZ

theorem lln_take5 {r : Li} (h : lln r = true) (ho : r.take 5 ≠ Lob) (hs : r.take 5 ≠ Lsb) : r = Lgo ∨ r = Lcut := by
  unfold lln at h
  rw [Bool.or_eq_true, Bool.or_eq_true, beq_iff_eq, beq_iff_eq] at h
  rcases h with (h | h) | h
  · exact .inl h
  · exact .inr h
  · exfalso
    have j := jn_spl 32 r
    cases q : spl 32 r with
    | nil => exact spl_ne 32 r q
    | cons a ps =>
      rw [q] at h j
      match ps, h, j with
      | [d], h, j =>
        simp only [Bool.and_eq_true, beq_iff_eq] at h
        apply ho
        rw [← j, h.1.1]
        rfl
      | [d, e], h, j =>
        simp only [Bool.and_eq_true, beq_iff_eq] at h
        apply hs
        rw [← j, h.1.1.1]
        rfl
theorem bd_n {r : Li} (hw : ¬ r ∈ [Lcut, Lgo, Lend]) (ho : r.take 5 ≠ Lob) (hs : r.take 5 ≠ Lsb) : Bd r (wgo r ws5) ∧ lln r = false := by
  obtain ⟨_, h2, h3⟩ := wgo_fold r ws5 0
  have w5 : ∀ w, w ∈ ws5 → w ∈ W5 := by
    intro w m
    simp only [ws5, W5, List.mem_cons, List.not_mem_nil, or_false] at m ⊢
    rcases m with rfl | rfl | rfl | rfl | rfl <;> simp
  have w6 : ∀ w, w ∈ W5 → w ∈ ws5 := by
    intro w m
    simp only [ws5, W5, List.mem_cons, List.not_mem_nil, or_false] at m ⊢
    rcases m with rfl | rfl | rfl | rfl | rfl <;> simp
  refine ⟨⟨?_, fun i hi => ?_, fun z => ?_⟩, ?_⟩
  · unfold wgo
    rcases h3 with e | ⟨w, _, e⟩
    · rw [e]; exact Nat.zero_le _
    · rw [e]; exact cpl_le _ _
  · unfold wgo at hi
    rcases h3 with e | ⟨w, m, e⟩
    · rw [e] at hi
      have : i = 0 := by omega
      rw [this]
      exact lgo_nil
    · rw [e] at hi
      exact lgo_pre (w5 w m) (cpl_take r w i hi)
  · cases g : lgo (r.take (wgo r ws5 + 1)) with
    | false => rfl
    | true =>
      exfalso
      rw [lgo_eq, Bool.or_eq_true] at g
      rcases g with g | g
      · obtain ⟨w, m, p⟩ := List.any_eq_true.mp g
        have := cpl_ge r w (wgo r ws5 + 1) z (of_decide_eq_true p)
        have := h2 w (w6 w m)
        unfold wgo at *
        omega
      · rw [Bool.and_eq_true, decide_eq_true_eq] at g
        have g := g.1
        have ln : (r.take (wgo r ws5 + 1)).take 5 = r.take 5 := by
          have l5 : ((r.take (wgo r ws5 + 1)).take 5).length = 5 := by
            simp only [List.mem_cons, List.not_mem_nil, or_false] at g
            rcases g with g | g <;> rw [g] <;> rfl
          rw [List.take_take] at l5 ⊢
          rw [List.length_take] at l5
          rw [Nat.min_eq_left (by omega)]
        rw [ln] at g
        simp only [List.mem_cons, List.not_mem_nil, or_false] at g
        rcases g with g | g
        · exact hs g
        · exact ho g
  · cases g : lln r with
    | false => rfl
    | true =>
      rcases lln_take5 g ho hs with rfl | rfl
      · exact absurd (by simp) hw
      · exact absurd (by simp) hw
theorem drop_take1 {u : Li} {c : Nat} (h : u.take 1 = [c]) (n : ¬ 1 < u.length) : u = [c] := by
  match u, h, n with
  | [x], h, _ => exact h
  | x :: y :: u, h, n => exact absurd (by simp) n
/-- a line, by the program and by the law -/
structure Gn (r : Li) : Prop where
  ln : lln r = true → ∃ e : Ev, evOk e = true ∧ evL e = r ∧ f_gone_of_line [.fz (.str (mk r)), .fz wds] = .ret (.fz (.tuple [evD e, .int (r.length : Nat)])) none
  en : r = Lend → f_gone_of_line [.fz (.str (mk r)), .fz wds] = .ret (.fz (.tuple [.str (mk Lend), .int (r.length : Nat)])) none
  no : lln r = false → r ≠ Lend → ∃ k, Bd r k ∧ f_gone_of_line [.fz (.str (mk r)), .fz wds] = .ret (.fz (.tuple [.none, .int (k : Nat)])) none
theorem gn_none {r : Li} {k : Nat} (b : Bd r k ∧ lln r = false) (he : r ≠ Lend) (f : f_gone_of_line [.fz (.str (mk r)), .fz wds] = .ret (.fz (.tuple [.none, .int (k : Nat)])) none) : Gn r := ⟨fun z => (by rw [b.2] at z; cases z), fun z => absurd z he, fun _ _ => ⟨k, b.1, f⟩⟩
theorem gn_some {r : Li} {e : Ev} (b : lln r = true) (he : r ≠ Lend) (h1 : evOk e = true) (h2 : evL e = r) (f : f_gone_of_line [.fz (.str (mk r)), .fz wds] = .ret (.fz (.tuple [evD e, .int (r.length : Nat)])) none) : Gn r := ⟨fun _ => ⟨e, h1, h2, f⟩, fun z => absurd z he, fun z => by rw [b] at z; cases z⟩
theorem evL_lln : ∀ e : Ev, evOk e = true → lln (evL e) = true
  | .go, _ => rfl
  | .cut, _ => rfl
  | .over t, h => by
    show lln (Lob ++ t) = true
    rw [lln_ob]
    exact h
  | .sign t c, h => by
    simp only [evOk, Bool.and_eq_true, bne_iff_ne] at h
    show lln (Lsb ++ (t ++ 32 :: [c])) = true
    rw [lln_sb, spl_b h.1.2, spl1 (letter_nb h.2)]
    simp [h.1.1, h.1.2, okc, h.2]
theorem ev_gone {r : Li} (h : As r) : Gn r := by
  by_cases hw : r ∈ [Lcut, Lgo, Lend]
  · have g := gone_w h hw
    simp only [List.mem_cons, List.not_mem_nil, or_false] at hw
    rcases hw with rfl | rfl | rfl
    · exact gn_some (e := .cut) rfl (by decide) rfl rfl (by rw [g, if_neg (by decide)]; rfl)
    · exact gn_some (e := .go) rfl (by decide) rfl rfl (by rw [g, if_neg (by decide)]; rfl)
    · exact ⟨fun z => (by cases z), fun _ => (by rw [g, if_pos rfl]), fun _ z => absurd rfl z⟩
  · have he : r ≠ Lend := fun z => hw (by rw [z]; simp)
    by_cases ho : r.take 5 = Lob
    · have g := gone_o h hw ho
      have e : r = Lob ++ r.drop 5 := by rw [← ho, List.take_append_drop]
      generalize r.drop 5 = t at e
      subst e
      rw [ev_over h] at g
      by_cases c : ngo t = 0 ∨ ngo t < t.length
      · rw [if_pos c] at g
        exact gn_none (bd_ob c) he g
      · rw [if_neg c] at g
        have sp := ngo_spec t
        have z : ngo t = t.length := by omega
        have f := sp.2.1
        rw [z, List.take_length] at f
        have ne : t ≠ [] := fun q => c (.inl (by rw [q]; rfl))
        have ok : evOk (.over t) = true := by simp [evOk, ne, f]
        exact gn_some (evL_lln _ ok) he ok rfl g
    · by_cases hs : r.take 5 = Lsb
      · have g := gone_s h hw hs
        have e : r = Lsb ++ r.drop 5 := by rw [← hs, List.take_append_drop]
        generalize r.drop 5 = t at e
        subst e
        rw [ev_sign h] at g
        unfold sgo at g
        by_cases c : ngo t = 0 ∨ (t.drop (ngo t)).take 1 ≠ [32]
        · rw [if_pos c] at g
          exact gn_none (bd_sb1 c) he g
        · rw [if_neg c] at g
          have M := mid_of c
          cases o : okc ((t.drop (ngo t + 1)).take 1) with
          | false =>
            rw [if_pos o] at g
            exact gn_none (bd_sb2 M o) he g
          | true =>
            rw [if_neg (by rw [o]; decide)] at g
            by_cases n : ngo t + 2 < t.length
            · rw [if_pos n] at g
              exact gn_none (bd_sb3 M o (by rw [List.length_drop]; omega)) he g
            · rw [if_neg n] at g
              have n1 : ¬ 1 < (t.drop (ngo t + 1)).length := by rw [List.length_drop]; omega
              have k : ∃ c, (t.drop (ngo t + 1)).take 1 = [c] ∧ letter c = true := by
                unfold okc at o
                split at o
                · rename_i c q
                  exact ⟨c, q, o⟩
                · cases o
              obtain ⟨c, q, lc⟩ := k
              have u := drop_take1 q n1
              have gc : t.getD (ngo t + 1) 0 = c := by
                have := congrArg (fun l => l[0]?) u
                simp only [List.getElem?_drop, Nat.add_zero] at this
                rw [List.getD_eq_getElem?_getD, this]
                rfl
              rw [gc] at g
              have ok : evOk (.sign (t.take (ngo t)) c) = true := by simp [evOk, M.ne, M.f, lc]
              have el : evL (.sign (t.take (ngo t)) c) = Lsb ++ t := by
                show Lsb ++ (t.take (ngo t) ++ 32 :: [c]) = Lsb ++ t
                rw [← u, ← M.e]
              exact gn_some (by rw [← el]; exact evL_lln _ ok) he ok el g
      · exact gn_none (bd_n hw ho hs) he (gone_n h hw ho hs)
end KW

set_option maxRecDepth 100000
set_option maxHeartbeats 4000000
namespace KW
open PySem PySem.Spec L2 DZ

/-! ### places -/
theorem ev_pre : ∀ (e : Ev), evOk e = true → ∀ i, lgo ((evL e).take i) = true
  | .go, _, i => lgo_pre (w := Lgo) (by simp [W5]) (List.take_prefix _ _)
  | .cut, _, i => lgo_pre (w := Lcut) (by simp [W5]) (List.take_prefix _ _)
  | .over t, h, i => by
    simp only [evOk, Bool.and_eq_true, bne_iff_ne] at h
    show lgo ((Lob ++ t).take i) = true
    rcases Nat.le_total i 5 with z | z
    · exact lgo_pre (w := Lob) (by simp [W5]) (pre_in rfl z)
    · obtain ⟨j, rfl⟩ := Nat.exists_eq_add_of_le z
      rw [take_in rfl, lgo_ob, tok_over]
      exact fig_take h.2 j
  | .sign t c, h, i => by
    simp only [evOk, Bool.and_eq_true, bne_iff_ne] at h
    show lgo ((Lsb ++ (t ++ 32 :: [c])).take i) = true
    have M : Mid (t ++ 32 :: [c]) t [c] := ⟨rfl, h.1.2, h.1.1, ngo_b h.1.2⟩
    rcases Nat.lt_or_ge i (6 + ngo (t ++ 32 :: [c])) with z | z
    · exact M.lo (by omega)
    · obtain ⟨j, rfl⟩ := Nat.exists_eq_add_of_le z
      rw [M.tk, M.tok]
      cases j with
      | zero => rfl
      | succ j =>
        rw [List.take_succ_cons, List.take_nil, spl1 (letter_nb h.2)]
        exact h.2
theorem ln_pre {r : Li} (h : As r) (l : lln r = true) (i : Nat) : lgo (r.take i) = true := by
  obtain ⟨e, ok, el, _⟩ := (ev_gone h).ln l
  rw [← el]
  exact ev_pre e ok i
/-- rows ahead of a rest -/
def pad (ls : List Li) (x : Li) : Li := ls.foldr (fun l y => l ++ 10 :: y) x
theorem pad_spl : ∀ {ls : List Li} {x : Li}, (∀ l ∈ ls, 10 ∉ l) → spl 10 (pad ls x) = ls ++ spl 10 x
  | [], _, _ => rfl
  | l :: ls, x, h => by
    show spl 10 (l ++ 10 :: pad ls x) = _
    rw [spl_app (h l List.mem_cons_self), pad_spl fun m z => h m (List.mem_cons_of_mem _ z)]
    rfl
def padn (ls : List Li) : Nat := (pad ls []).length
theorem pad_take : ∀ (ls : List Li) (x : Li) (j : Nat), (pad ls x).take (padn ls + j) = pad ls (x.take j)
  | [], x, j => by
    show x.take (0 + j) = x.take j
    rw [Nat.zero_add]
  | l :: ls, x, j => by
    have e : padn (l :: ls) = l.length + (padn ls + 1) := by
      unfold padn pad
      simp
    show (l ++ 10 :: pad ls x).take (padn (l :: ls) + j) = l ++ 10 :: pad ls (x.take j)
    rw [e, show l.length + (padn ls + 1) + j = l.length + (padn ls + j + 1) from by omega, List.take_length_add_append, List.take_succ_cons, pad_take ls x j]
theorem pad_len : ∀ (ls : List Li) (x : Li), (pad ls x).length = padn ls + x.length
  | [], x => (Nat.zero_add _).symm
  | l :: ls, x => by
    have e : padn (l :: ls) = l.length + (padn ls + 1) := by
      unfold padn pad
      simp
    show (l ++ 10 :: pad ls x).length = _
    rw [List.length_append, List.length_cons, pad_len ls x, e]
    omega
theorem gon_cons {l y : Li} (h : 10 ∉ l) : gon (l ++ 10 :: y) = (lln l && gon y) := by
  unfold gon
  rw [spl_app h]
  have ne := spl_ne 10 y
  cases z : spl 10 y with
  | nil => exact absurd z ne
  | cons p ps =>
    rw [List.dropLast_cons_of_ne_nil (by simp), List.all_cons, Bool.and_assoc]
    rfl
theorem gon_one {l : Li} (h : 10 ∉ l) : gon l = lgo l := by
  unfold gon
  rw [spl_free h]
  rfl
theorem pad_gon : ∀ {ls : List Li} {x : Li}, (∀ l ∈ ls, 10 ∉ l ∧ lln l = true) → gon (pad ls x) = gon x
  | [], _, _ => rfl
  | l :: ls, x, h => by
    show gon (l ++ 10 :: pad ls x) = _
    rw [gon_cons (h l List.mem_cons_self).1, (h l List.mem_cons_self).2, pad_gon fun m z => h m (List.mem_cons_of_mem _ z)]
    rfl
theorem pad_pre : ∀ {ls : List Li} {x : Li}, (∀ l ∈ ls, As l ∧ 10 ∉ l ∧ lln l = true) → ∀ i, i < padn ls → gon ((pad ls x).take i) = true
  | [], _, _, i, z => absurd z (Nat.not_lt_zero _)
  | l :: ls, x, h, i, z => by
    have e : padn (l :: ls) = l.length + (padn ls + 1) := by
      unfold padn pad
      simp
    obtain ⟨a, b, c⟩ := h l List.mem_cons_self
    show gon ((l ++ 10 :: pad ls x).take i) = true
    rcases Nat.lt_or_ge l.length i with q | q
    · obtain ⟨j, rfl⟩ := Nat.exists_eq_add_of_le q
      rw [show l.length.succ + j = l.length + (j + 1) from by omega, List.take_length_add_append, List.take_succ_cons, gon_cons b, c]
      exact pad_pre (fun m z => h m (List.mem_cons_of_mem _ z)) j (by omega)
    · rw [List.take_append_of_le_length q, gon_one fun m => b (List.mem_of_mem_take m)]
      exact ln_pre a c i
/-- where the law sees the first wrong sign -/
structure At75 (t : Li) (k : Nat) : Prop where
  le : k ≤ t.length
  ok : ∀ i, 1 ≤ i → i ≤ k → gon (t.take i) = true
  no : k < t.length → gon (t.take (k + 1)) = false
theorem at_pad {ls : List Li} {x : Li} {k : Nat} (h : ∀ l ∈ ls, As l ∧ 10 ∉ l ∧ lln l = true) (le : k ≤ x.length) (ok : ∀ j, j ≤ k → gon (x.take j) = true) (no : k < x.length → gon (x.take (k + 1)) = false) : At75 (pad ls x) (padn ls + k) := by
  have h2 : ∀ l ∈ ls, 10 ∉ l ∧ lln l = true := fun l m => (h l m).2
  refine ⟨by rw [pad_len]; omega, fun i _ hi => ?_, fun z => ?_⟩
  · rcases Nat.lt_or_ge i (padn ls) with q | q
    · exact pad_pre h i q
    · obtain ⟨j, rfl⟩ := Nat.exists_eq_add_of_le q
      rw [pad_take, pad_gon h2]
      exact ok j (by omega)
  · rw [pad_len] at z
    rw [Nat.add_assoc, pad_take, pad_gon h2]
    exact no (by omega)
/-- a row in which nothing goes on behind its first k signs -/
theorem at_row {ls : List Li} {r y : Li} {k : Nat} (h : ∀ l ∈ ls, As l ∧ 10 ∉ l ∧ lln l = true) (hr : 10 ∉ r) (y0 : y = [] ∨ ∃ z, y = 10 :: z) (le : k ≤ r.length) (ok : ∀ j, j ≤ k → lgo (r.take j) = true) (no : k < r.length → lgo (r.take (k + 1)) = false) (ln : y ≠ [] → lln r = false) :
    At75 (pad ls (r ++ y)) (padn ls + k) ∧ plc ((pad ls (r ++ y)).take (padn ls + k)) = .tuple [.int ((ls.length : Nat) + 1 : Int), .int ((k : Nat) + 1 : Int)] := by
  have tk : ∀ j, 10 ∉ r.take j := fun j m => hr (List.mem_of_mem_take m)
  have fr : ∀ l ∈ ls, 10 ∉ l := fun l m => (h l m).2.1
  refine ⟨at_pad h (by rw [List.length_append]; omega) (fun j hj => ?_) fun z => ?_, ?_⟩
  · rw [List.take_append_of_le_length (by omega), gon_one (tk j)]
    exact ok j hj
  · rcases Nat.lt_or_ge k r.length with q | q
    · rw [List.take_append_of_le_length q, gon_one (tk _)]
      exact no q
    · have e : k = r.length := by omega
      rcases y0 with rfl | ⟨u, rfl⟩
      · rw [List.length_append, List.length_nil] at z
        omega
      · rw [e, List.take_length_add_append, List.take_succ_cons, gon_cons hr, ln (by simp)]
        rfl
  · rw [pad_take, List.take_append_of_le_length le]
    unfold plc
    rw [pad_spl fr, spl_free (tk k)]
    have e1 : lst (ls ++ [r.take k]) = r.take k := by
      unfold lst
      rw [List.getLastD_eq_getLast?, List.getLast?_concat]
      rfl
    rw [e1, List.length_append, List.length_take, Nat.min_eq_left le]
    simp
theorem pad_jn {r : Li} {rs : List Li} : ∀ ls : List Li, ∃ y, jn 10 (ls ++ r :: rs) = pad ls (r ++ y) ∧ ((rs = [] ∧ y = []) ∨ (rs ≠ [] ∧ ∃ z, y = 10 :: z))
  | [] => by
    cases rs with
    | nil => exact ⟨[], by simp [jn, pad], .inl ⟨rfl, rfl⟩⟩
    | cons q qs => exact ⟨10 :: jn 10 (q :: qs), rfl, .inr ⟨by simp, _, rfl⟩⟩
  | l :: ls => by
    obtain ⟨y, e, c⟩ := pad_jn (r := r) (rs := rs) ls
    refine ⟨y, ?_, c⟩
    show jn 10 (l :: (ls ++ r :: rs)) = l ++ 10 :: pad ls (r ++ y)
    rw [← e]
    cases ls <;> rfl
/-- a text's rows up to the first that tells no event -/
theorem rows_cut : ∀ rs : List Li, (∀ r ∈ rs, lln r = true) ∨ ∃ ls r qs, rs = ls ++ r :: qs ∧ (∀ l ∈ ls, lln l = true) ∧ lln r = false
  | [] => .inl fun _ m => absurd m List.not_mem_nil
  | r :: rs => by
    cases z : lln r with
    | false => exact .inr ⟨[], r, rs, rfl, fun _ m => absurd m List.not_mem_nil, z⟩
    | true =>
      rcases rows_cut rs with h | ⟨ls, q, qs, e, h, n⟩
      · exact .inl fun u m => (List.mem_cons.mp m).elim (fun q => q ▸ z) (h u)
      · exact .inr ⟨r :: ls, q, qs, by rw [e]; rfl, fun u m => (List.mem_cons.mp m).elim (fun q => q ▸ z) (h u), n⟩
end KW

set_option maxRecDepth 100000
set_option maxHeartbeats 400000
namespace KW
open PySem PySem.Spec L2 DZ

/-! ### read_log -/
abbrev rdT : Tgt := gT 2 (gsC (gN 3) (gsC (gN 4) gs0))
abbrev rdA : DZ.Env → Fl := (mAsg (gT 2 (gsC (gN 5) (gsC (gN 6) gs0))) (mIte (mTest (mOp2 fLt (mVar 3) (mK (.int 2000)))) (mCallP f_gone_of_line (mCons (mVar 4) (mCons (mTupS (mStarR (mG (.tuple [.str "cut", .str "go"])) (mConsR (mK (.str "end")) (fun Γ => .ok [] Γ)))) mNil))) (mCallP f_end_line (mCons (mVar 4) mNil))))
abbrev rdR : DZ.Env → Fl := (mSeq (mIf (mTest (mOp2 (fIs false) (mVar 5) (mK .none))) (mRaise2 "BadText" (mCons (mOp2 fAdd (mVar 3) (mK (.int 1))) (mCons (mOp2 fAdd (mVar 6) (mK (.int 1))) mNil))) mSkip) (mSeq (mIf (mTest (mOp2 fEq (mVar 5) (mK (.str "end")))) (mSeq (mIf (mTest (mOp2 fLt (mOp2 fAdd (mVar 3) (mK (.int 1))) (mBlt fLen (mCons (mVar 1) mNil)))) (mRaise2 "BadText" (mCons (mOp2 fAdd (mVar 3) (mK (.int 1))) (mCons (mOp2 fAdd (mBlt fLen (mCons (mVar 4) mNil)) (mK (.int 1))) mNil))) mSkip) (mRet [] (mBlt fTupO (mCons (mVar 2) mNil)))) mSkip) (mEx (mBmL 2 cAppend (mCons (mVar 5) mNil)))))
abbrev rdB : DZ.Env → Fl := mSeq rdA rdR
abbrev rdE (t : Li) (rows : List Li) (fs : List PyData) (a b c d : Option SV) : DZ.Env := [some (.fz (.str (mk t))), some (.fz (.list (rows.map fun p => .str (mk p)))), some (.ow (.list fs)), a, b, c, d]
theorem rd_asg {t : Li} {rows : List Li} {fs : List PyData} {n : Nat} {r : Li} {e m : PyData} (c d : Option SV) (hn : n < 2000) (g : f_gone_of_line [.fz (.str (mk r)), .fz wds] = .ret (.fz (.tuple [e, m])) none) :
    rdA (rdE t rows fs (some (.fz (.int (n : Nat)))) (some (.fz (.str (mk r)))) c d) = .nx (rdE t rows fs (some (.fz (.int (n : Nat)))) (some (.fz (.str (mk r)))) (some (.fz e)) (some (.fz m))) := by
  have c1 := test_ok (ltn (m := mVar 3) (n := mK (.int 2000)) (Γ := rdE t rows fs (some (.fz (.int (n : Nat)))) (some (.fz (.str (mk r)))) c d) (i := n) (j := 2000) rfl rfl)
  rw [decide_eq_true hn] at c1
  have w : mTupS (mStarR (mG (.tuple [.str "cut", .str "go"])) (mConsR (mK (.str "end")) (fun Γ => .ok [] Γ))) (rdE t rows fs (some (.fz (.int (n : Nat)))) (some (.fz (.str (mk r)))) c d) = .ok (.fz wds) (rdE t rows fs (some (.fz (.int (n : Nat)))) (some (.fz (.str (mk r)))) c d) := by
    rw [lit_cut, lit_go, lit_end]
    rfl
  have k := call_2 (m := mVar 4) (Γ := rdE t rows fs (some (.fz (.int (n : Nat)))) (some (.fz (.str (mk r)))) c d) rfl w g
  unfold rdA mAsg mIte
  rw [c1]
  simp only [Out.bind, if_true, k]
  rfl
theorem raise_2 {m n : M RV} {Γ : DZ.Env} {d e : PyData} (h : m Γ = .ok (.fz d) Γ) (h2 : n Γ = .ok (.fz e) Γ) : mRaise2 "BadText" (mCons m (mCons n mNil)) Γ = .ex ⟨"BadText", [("column", e), ("line", d)]⟩ Γ := by
  simp only [mRaise2, mCons, mNil, h, h2, Out.bind, frzs, frz, Out.fl]
/-- what is raised at a place -/
def bt (l c : Int) : Exn := ⟨"BadText", [("column", .int c), ("line", .int l)]⟩
theorem rd_none {t : Li} {rows : List Li} {fs : List PyData} {n k : Nat} {r : Li} (c d : Option SV) (hn : n < 2000) (g : f_gone_of_line [.fz (.str (mk r)), .fz wds] = .ret (.fz (.tuple [.none, .int (k : Nat)])) none) :
    ∃ Γ, rdB (rdE t rows fs (some (.fz (.int (n : Nat)))) (some (.fz (.str (mk r)))) c d) = .ex (bt ((n : Nat) + 1) ((k : Nat) + 1)) Γ := by
  have a := rd_asg (t := t) (rows := rows) (fs := fs) c d hn g
  generalize hG : rdE t rows fs (some (.fz (.int (n : Nat)))) (some (.fz (.str (mk r)))) (some (.fz .none)) (some (.fz (.int (k : Nat)))) = Γ at a
  have c1 : mTest (mOp2 (fIs false) (mVar 5) (mK .none)) Γ = .ok true Γ := by subst hG; exact test_ok rfl
  have v3 : mVar 3 Γ = .ok (.fz (.int (n : Nat))) Γ := by subst hG; rfl
  have v6 : mVar 6 Γ = .ok (.fz (.int (k : Nat))) Γ := by subst hG; rfl
  exact ⟨Γ, (seq_n a).trans (seq_x ((if_t c1).trans (raise_2 (addn v3 (n := mK (.int 1)) (j := 1) rfl) (addn v6 (n := mK (.int 1)) (j := 1) rfl))))⟩
theorem rd_len {t : Li} {rows : List Li} {fs : List PyData} (a b c d : Option SV) : mBlt fLen (mCons (mVar 1) mNil) (rdE t rows fs a b c d) = .ok (.fz (.int (rows.length : Nat))) (rdE t rows fs a b c d) := by
  show Out.ok (RV.fz (.int ((rows.map fun p => PyData.str (mk p)).length : Nat))) _ = _
  rw [List.length_map]
theorem rd_end {t : Li} {rows : List Li} {fs : List PyData} {n : Nat} (c d : Option SV) (hn : n < 2000) (g : f_gone_of_line [.fz (.str (mk Lend)), .fz wds] = .ret (.fz (.tuple [.str (mk Lend), .int (Lend.length : Nat)])) none) :
    ∃ Γ, rdB (rdE t rows fs (some (.fz (.int (n : Nat)))) (some (.fz (.str (mk Lend)))) c d) = if n + 1 < rows.length then .ex (bt ((n : Nat) + 1) ((3 : Nat) + 1)) Γ else .rt (.fz (.tuple fs)) Γ := by
  have a := rd_asg (t := t) (rows := rows) (fs := fs) c d hn g
  generalize hG : rdE t rows fs (some (.fz (.int (n : Nat)))) (some (.fz (.str (mk Lend)))) (some (.fz (.str (mk Lend)))) (some (.fz (.int (Lend.length : Nat)))) = Γ at a
  have c1 : mTest (mOp2 (fIs false) (mVar 5) (mK .none)) Γ = .ok false Γ := by subst hG; exact test_ok rfl
  have T5 : Tv (mVar 5) Γ Lend := by subst hG; exact ⟨as_end, rfl⟩
  have T4 : Tv (mVar 4) Γ Lend := by subst hG; exact ⟨as_end, rfl⟩
  have v3 : mVar 3 Γ = .ok (.fz (.int (n : Nat))) Γ := by subst hG; rfl
  have ln : mBlt fLen (mCons (mVar 1) mNil) Γ = .ok (.fz (.int (rows.length : Nat))) Γ := by subst hG; exact rd_len _ _ _ _
  have tp : mBlt fTupO (mCons (mVar 2) mNil) Γ = .ok (.fz (.tuple fs)) Γ := by subst hG; rfl
  have c2 := test_ok (T5.eq (tv_end Γ))
  rw [decide_eq_true rfl] at c2
  have p3 := addn v3 (n := mK (.int 1)) (j := 1) rfl
  have c3 := test_ok (ltn p3 ln)
  refine ⟨Γ, (seq_n a).trans ((ifs c1).trans ?_)⟩
  by_cases z : n + 1 < rows.length
  · rw [decide_eq_true z] at c3
    rw [if_pos z]
    exact seq_x ((if_t c2).trans (seq_x ((if_t c3).trans (raise_2 p3 (addn T4.len (n := mK (.int 1)) (j := 1) rfl)))))
  · rw [decide_eq_false z] at c3
    rw [if_neg z]
    exact seq_r ((if_t c2).trans ((ifs c3).trans (ret_fz tp)))
theorem app_ok {i : Nat} {m : M RV} {Γ Γ1 : DZ.Env} {ds0 ds : List PyData} {d : PyData} (h0 : Γ[i]? = some (some (.ow (.list ds0)))) (hm : m Γ = .ok (.fz d) Γ1) (h1 : Γ1[i]? = some (some (.ow (.list ds)))) (n : ds.length < sizeLine) : mEx (mBmL i cAppend (mCons m mNil)) Γ = .nx (Γ1.set i (some (.ow (.list (ds ++ [d]))))) := by
  have r : recv Γ1 (.br i) = some (.ow (.list ds)) := by
    unfold recv
    simp only [h1]
    rfl
  have c : cAppend [.ow (.list ds), .fz d] = .ret (.fz .none) (some (.ow (.list (ds ++ [d])))) := by
    exact if_pos n
  simp only [mEx, mBmL, h0, mCons, mNil, hm, Out.bind, frzs, frz, callIo, r, List.map, c, back, Out.fl]
theorem sh_ev {e : Ev} (h : As (evL e)) : SeqAt.shaped (evD e) = true ∧ (∀ s, PyData.eqv (evD e) (.str s) = false) ∧ PyData.isNon (evD e) = false := by
  cases e with
  | go => exact ⟨by decide +kernel, fun _ => rfl, rfl⟩
  | cut => exact ⟨by decide +kernel, fun _ => rfl, rfl⟩
  | over t =>
    refine ⟨?_, fun _ => rfl, rfl⟩
    have a := canLay_of_shaped' (sh_str as_over)
    simp [evD, SeqAt.shaped, PyData.canLay0, PyData.canLayAll0, PyData.depth, PyData.depthAll] at a ⊢
    exact a
  | sign t c =>
    refine ⟨?_, fun _ => rfl, rfl⟩
    have a := canLay_of_shaped' (sh_str as_sign)
    have b := canLay_of_shaped' (sh_str (h.one (c := c) (by simp [evL])))
    simp [evD, SeqAt.shaped, PyData.canLay0, PyData.canLayAll0, PyData.depth, PyData.depthAll] at a b ⊢
    exact ⟨a, b⟩
theorem rd_line {t : Li} {rows : List Li} {fs : List PyData} {n : Nat} {e : Ev} (c d : Option SV) (hn : n < 2000) (hf : fs.length < 2000) (ha : As (evL e)) (g : f_gone_of_line [.fz (.str (mk (evL e))), .fz wds] = .ret (.fz (.tuple [evD e, .int ((evL e).length : Nat)])) none) :
    ∃ c' d', rdB (rdE t rows fs (some (.fz (.int (n : Nat)))) (some (.fz (.str (mk (evL e))))) c d) = .nx (rdE t rows (fs ++ [evD e]) (some (.fz (.int (n : Nat)))) (some (.fz (.str (mk (evL e))))) c' d') := by
  obtain ⟨s1, s2, s3⟩ := sh_ev ha
  have a := rd_asg (t := t) (rows := rows) (fs := fs) c d hn g
  have c1 : mTest (mOp2 (fIs false) (mVar 5) (mK .none)) (rdE t rows fs (some (.fz (.int (n : Nat)))) (some (.fz (.str (mk (evL e))))) (some (.fz (evD e))) (some (.fz (.int ((evL e).length : Nat))))) = .ok false (rdE t rows fs (some (.fz (.int (n : Nat)))) (some (.fz (.str (mk (evL e))))) (some (.fz (evD e))) (some (.fz (.int ((evL e).length : Nat))))) := by
    refine test_ok (op_ok (r := .fz (evD e)) (s := .fz .none) rfl rfl rfl rfl ?_)
    show some (RV.fz (.bool (false != PyData.isNon (evD e)))) = _
    rw [s3]
    rfl
  have c2 : mTest (mOp2 fEq (mVar 5) (mK (.str "end"))) (rdE t rows fs (some (.fz (.int (n : Nat)))) (some (.fz (.str (mk (evL e))))) (some (.fz (evD e))) (some (.fz (.int ((evL e).length : Nat))))) = .ok false (rdE t rows fs (some (.fz (.int (n : Nat)))) (some (.fz (.str (mk (evL e))))) (some (.fz (evD e))) (some (.fz (.int ((evL e).length : Nat))))) := by
    refine test_ok (op_ok (r := .fz (evD e)) (s := .fz (.str "end")) rfl rfl rfl rfl ?_)
    unfold fEq
    rw [if_pos ⟨s1, by rw [lit_end]; exact sh_str as_end⟩, s2]
  refine ⟨some (.fz (evD e)), some (.fz (.int ((evL e).length : Nat))), (seq_n a).trans ((ifs c1).trans ((ifs c2).trans ?_))⟩
  exact app_ok (i := 2) (m := mVar 5) (ds0 := fs) (ds := fs) (d := evD e) (Γ := rdE t rows fs (some (.fz (.int (n : Nat)))) (some (.fz (.str (mk (evL e))))) (some (.fz (evD e))) (some (.fz (.int ((evL e).length : Nat))))) rfl rfl rfl (Nat.lt_of_lt_of_le hf (by decide))
abbrev enR (n : Nat) (rs : List Li) : List PyData := enumD n (rs.map fun p => .str (mk p))
theorem rd_step {t : Li} {rows : List Li} {fs : List PyData} {n : Nat} {r : Li} {rs : List Li} (a b c d : Option SV) : loopF rdT rdB (enR n (r :: rs)) (rdE t rows fs a b c d) = match rdB (rdE t rows fs (some (.fz (.int (n : Nat)))) (some (.fz (.str (mk r)))) c d) with
      | .nx Γ2 => loopF rdT rdB (enR (n + 1) rs) Γ2
      | .ct Γ2 => loopF rdT rdB (enR (n + 1) rs) Γ2
      | .bk Γ2 => .nx Γ2
      | .rt rv Γ2 => .rt rv Γ2
      | .ex e Γ2 => .ex e Γ2
      | .no => .no := by
  have e : rdT (.tuple [.int (n : Nat), .str (mk r)]) (rdE t rows fs a b c d) = some (rdE t rows fs (some (.fz (.int (n : Nat)))) (some (.fz (.str (mk r)))) c d) := rfl
  change loopF rdT rdB (.tuple [.int (n : Nat), .str (mk r)] :: enR (n + 1) rs) _ = _
  rw [loopF, e]
  try dsimp only
  try (generalize rdB (rdE t rows fs (some (.fz (.int (n : Nat)))) (some (.fz (.str (mk r)))) c d) = x; cases x <;> rfl)
theorem rd_lines {t : Li} {rows rest : List Li} : ∀ (ls : List Li) (n : Nat) (fs : List PyData) (a b c d : Option SV), (∀ l ∈ ls, As l ∧ lln l = true) → n + ls.length < 2000 → fs.length = n →
    ∃ es : List Ev, (∀ e ∈ es, evOk e = true) ∧ es.map evL = ls ∧ ∃ a' b' c' d', loopF rdT rdB (enR n (ls ++ rest)) (rdE t rows fs a b c d) = loopF rdT rdB (enR (n + ls.length) rest) (rdE t rows (fs ++ es.map evD) a' b' c' d')
  | [], n, fs, a, b, c, d, _, _, _ => ⟨[], fun _ m => absurd m List.not_mem_nil, rfl, a, b, c, d, by simp⟩
  | l :: ls, n, fs, a, b, c, d, h, hn, hf => by
    obtain ⟨al, ll⟩ := h l List.mem_cons_self
    simp only [List.length_cons] at hn
    obtain ⟨e, ok, el, g⟩ := (ev_gone al).ln ll
    subst el
    obtain ⟨c', d', s⟩ := rd_line (t := t) (rows := rows) (fs := fs) c d (by omega : n < 2000) (by omega) al g
    obtain ⟨es, h1, h2, a3, b3, c3, d3, q⟩ := rd_lines (t := t) (rows := rows) (rest := rest) ls (n + 1) (fs ++ [evD e]) (some (.fz (.int (n : Nat)))) (some (.fz (.str (mk (evL e))))) c' d' (fun u m => h u (List.mem_cons_of_mem _ m)) (by omega) (by simp [hf])
    refine ⟨e :: es, fun u m => (List.mem_cons.mp m).elim (fun z => z ▸ ok) (h1 u), by rw [List.map_cons, h2], a3, b3, c3, d3, ?_⟩
    rw [List.cons_append, rd_step, s]
    simp only [q, List.length_cons, List.map_cons, List.append_assoc, List.cons_append, List.nil_append]
    rw [show n + 1 + ls.length = n + (ls.length + 1) from by omega]
theorem read_pre {t : Li} (h : As t) {Γ : DZ.Env} {r : RV} (k : loopF rdT rdB (enR 0 (spl 10 t)) (rdE t (spl 10 t) [] none none none none) = .rt r Γ) {d : PyData} (hr : r = .fz d) : f_read_log [.fz (.str (mk t))] = .ret (.fz d) none := by
  subst hr
  unfold f_read_log b_read_log
  have s1 := splv h lit_nl (ma := mVar 0) (mb := mK (.str "\n")) (Γ := [some (.fz (.str (mk t))), none, none, none, none, none, none]) rfl rfl rfl rfl
  have s2 : mPar2 1 2 (mBmS fSplit (mVar 0) (mCons (mK (.str "\n")) mNil)) (mLst mNil) [some (.fz (.str (mk t))), none, none, none, none, none, none] = .nx (rdE t (spl 10 t) [] none none none none) := by
    unfold mPar2
    rw [s1]
    rfl
  exact fn_rt ((seq_n s2).trans (seq_r ((for_ok (mi := mEnum (mCons (mVar 1) mNil)) rfl).trans k)))
theorem fn_ex {N : Nat} {b : DZ.Env → Fl} {svs : List SV} {e : Exn} {Γ : DZ.Env} (h : b (svs.map some ++ List.replicate (N - svs.length) none) = .ex e Γ) : fnOf false N b svs = .ex e none := by
  unfold fnOf
  rw [h]
  rfl
theorem read_ex {t : Li} (h : As t) {Γ : DZ.Env} {e : Exn} (k : loopF rdT rdB (enR 0 (spl 10 t)) (rdE t (spl 10 t) [] none none none none) = .ex e Γ) : f_read_log [.fz (.str (mk t))] = .ex e none := by
  unfold f_read_log b_read_log
  have s1 := splv h lit_nl (ma := mVar 0) (mb := mK (.str "\n")) (Γ := [some (.fz (.str (mk t))), none, none, none, none, none, none]) rfl rfl rfl rfl
  have s2 : mPar2 1 2 (mBmS fSplit (mVar 0) (mCons (mK (.str "\n")) mNil)) (mLst mNil) [some (.fz (.str (mk t))), none, none, none, none, none, none] = .nx (rdE t (spl 10 t) [] none none none none) := by
    unfold mPar2
    rw [s1]
    rfl
  exact fn_ex ((seq_n s2).trans (seq_x ((for_ok (mi := mEnum (mCons (mVar 1) mNil)) rfl).trans k)))
theorem read_out {t : Li} (h : As t) {fs : List PyData} {a b c d : Option SV} (k : loopF rdT rdB (enR 0 (spl 10 t)) (rdE t (spl 10 t) [] none none none none) = .nx (rdE t (spl 10 t) fs a b c d)) : f_read_log [.fz (.str (mk t))] = .ex (bt ((spl 10 t).length : Nat) ((lst (spl 10 t)).length + 1)) none := by
  unfold f_read_log b_read_log
  have s1 := splv h lit_nl (ma := mVar 0) (mb := mK (.str "\n")) (Γ := [some (.fz (.str (mk t))), none, none, none, none, none, none]) rfl rfl rfl rfl
  have s2 : mPar2 1 2 (mBmS fSplit (mVar 0) (mCons (mK (.str "\n")) mNil)) (mLst mNil) [some (.fz (.str (mk t))), none, none, none, none, none, none] = .nx (rdE t (spl 10 t) [] none none none none) := by
    unfold mPar2
    rw [s1]
    rfl
  have L : Tv (mOp2 fIx (mVar 1) (mNeg (mK (.int 1)))) (rdE t (spl 10 t) fs a b c d) (lst (spl 10 t)) := by
    have q := lst_at (spl_ne 10 t)
    refine ⟨spl_as h _ (List.mem_of_getLast? q), op_ok (r := .fz (.list ((spl 10 t).map fun p => .str (mk p)))) (s := .fz (.int (-1))) rfl rfl rfl rfl ?_⟩
    show (atI ((spl 10 t).map fun p => PyData.str (mk p)) (-1)).map RV.fz = _
    rw [at_m, List.getLast?_map, q]
    rfl
  exact fn_ex ((seq_n s2).trans ((seq_n ((for_ok (mi := mEnum (mCons (mVar 1) mNil)) rfl).trans k)).trans (raise_2 (rd_len a b c d) (addn L.len (n := mK (.int 1)) (j := 1) rfl))))
end KW

set_option maxRecDepth 100000
set_option maxHeartbeats 1000000
namespace KW
open PySem PySem.Spec L2 DZ

/-! ### a text is read back, or told where it is none -/
/-- whether a text is a log's: lines, and an end -/
def isLog (t : Li) : Bool := decide (lst (spl 10 t) = Lend) && (spl 10 t).dropLast.all lln
theorem rows_few {t : Li} (h : As t) : (spl 10 t).length < 2000 := by
  have := spl_len_le 10 t
  have := h.len
  omega
theorem lst_snoc (ls : List Li) (r : Li) : lst (ls ++ [r]) = r := by
  unfold lst
  rw [List.getLastD_eq_getLast?, List.getLast?_concat]
  rfl
theorem gn_end : f_gone_of_line [.fz (.str (mk Lend)), .fz wds] = .ret (.fz (.tuple [.str (mk Lend), .int (Lend.length : Nat)])) none := (ev_gone as_end).en rfl
theorem read_ok {t : Li} (h : As t) (k : isLog t = true) : ∃ es : List Ev, (∀ e ∈ es, evOk e = true) ∧ spl 10 t = es.map evL ++ [Lend] ∧ f_read_log [.fz (.str (mk t))] = .ret (.fz (.tuple (es.map evD))) none := by
  unfold isLog at k
  rw [Bool.and_eq_true, decide_eq_true_eq, List.all_eq_true] at k
  obtain ⟨k1, k2⟩ := k
  have q := lst_at (spl_ne 10 t)
  rw [k1] at q
  obtain ⟨ls, e⟩ := List.getLast?_eq_some_iff.mp q
  have fw := rows_few h
  rw [e, List.dropLast_concat] at k2
  rw [e, List.length_append] at fw
  have as : ∀ l ∈ ls, As l ∧ lln l = true := fun l m => ⟨h.part (c := 10) (by rw [e]; exact List.mem_append_left _ m), k2 l m⟩
  obtain ⟨es, h1, h2, a, b, c, d, lp⟩ := rd_lines (t := t) (rows := spl 10 t) (rest := [Lend]) ls 0 [] none none none none as (by omega) rfl
  refine ⟨es, h1, by rw [h2, e], ?_⟩
  obtain ⟨Γ, en⟩ := rd_end (t := t) (rows := spl 10 t) (fs := [] ++ es.map evD) (n := 0 + ls.length) c d (by omega) gn_end
  rw [if_neg (by rw [e, List.length_append]; simp)] at en
  refine read_pre h (Γ := Γ) (r := .fz (.tuple (es.map evD))) ?_ rfl
  conv => lhs; rw [show enR 0 (spl 10 t) = enR 0 (ls ++ [Lend]) from by rw [e]]
  rw [lp, rd_step, en]
  rfl
theorem read_bad {t : Li} (h : As t) (k : isLog t = false) : ∃ (n : Nat) (l c : Int), At75 t n ∧ plc (t.take n) = .tuple [.int l, .int c] ∧ f_read_log [.fz (.str (mk t))] = .ex (bt l c) none := by
  have fr : ∀ l ∈ spl 10 t, 10 ∉ l := fun l m => spl_mem 10 t l m
  have fw := rows_few h
  have jt := jn_spl 10 t
  rcases rows_cut (spl 10 t) with al | ⟨ls, r, qs, e, al, nl⟩
  · -- lines only: the end lacks
    have q := lst_at (spl_ne 10 t)
    obtain ⟨ls, e⟩ := List.getLast?_eq_some_iff.mp q
    have as : ∀ l ∈ spl 10 t, As l ∧ lln l = true := fun l m => ⟨h.part m, al l m⟩
    have al2 : ∀ l ∈ ls, As l ∧ 10 ∉ l ∧ lln l = true := fun l m => by
      have m2 : l ∈ spl 10 t := by rw [e]; exact List.mem_append_left _ m
      exact ⟨h.part m2, fr l m2, al l m2⟩
    have mr : lst (spl 10 t) ∈ spl 10 t := List.mem_of_getLast? q
    obtain ⟨es, h1, h2, a, b, c, d, lp⟩ := rd_lines (t := t) (rows := spl 10 t) (rest := []) (spl 10 t) 0 [] none none none none as (by omega) rfl
    rw [List.append_nil] at lp
    have rd := read_out h (fs := [] ++ es.map evD) (a := a) (b := b) (c := c) (d := d) (lp.trans rfl)
    obtain ⟨P1, P2⟩ := at_row (ls := ls) (r := lst (spl 10 t)) (y := []) (k := (lst (spl 10 t)).length) al2 (fr _ mr) (.inl rfl) (Nat.le_refl _) (fun j _ => ln_pre (h.part mr) (al _ mr) j) (fun z => absurd z (Nat.lt_irrefl _)) (fun z => absurd rfl z)
    obtain ⟨y, e2, c2⟩ := pad_jn (r := lst (spl 10 t)) (rs := []) ls
    have y0 : y = [] := by
      rcases c2 with c2 | c2
      · exact c2.2
      · exact absurd rfl c2.1
    subst y0
    rw [← e, jt] at e2
    rw [← e2] at P1 P2
    refine ⟨_, _, _, P1, P2, ?_⟩
    rw [rd]
    have : (spl 10 t).length = ls.length + 1 := by
      conv => lhs; rw [e]
      simp
    rw [this]
    rfl
  · have as : ∀ l ∈ ls, As l ∧ lln l = true := fun l m => ⟨h.part (c := 10) (by rw [e]; exact List.mem_append_left _ m), al l m⟩
    have al2 : ∀ l ∈ ls, As l ∧ 10 ∉ l ∧ lln l = true := fun l m => by
      have m2 : l ∈ spl 10 t := by rw [e]; exact List.mem_append_left _ m
      exact ⟨h.part m2, fr l m2, al l m⟩
    have mr : r ∈ spl 10 t := by rw [e]; simp
    have ar := h.part mr
    have fw2 := fw
    rw [e, List.length_append, List.length_cons] at fw2
    obtain ⟨es, h1, h2, a, b, c, d, lp⟩ := rd_lines (t := t) (rows := spl 10 t) (rest := r :: qs) ls 0 [] none none none none as (by omega) rfl
    obtain ⟨y, e2, c2⟩ := pad_jn (r := r) (rs := qs) ls
    rw [← e, jt] at e2
    have y0 : y = [] ∨ ∃ z, y = 10 :: z := by
      rcases c2 with c2 | c2
      · exact .inl c2.2
      · exact .inr c2.2
    have en0 : enR 0 (spl 10 t) = enR 0 (ls ++ r :: qs) := by rw [e]
    by_cases re : r = Lend
    · subst re
      have qn : qs ≠ [] := fun z => by
        subst z
        unfold isLog at k
        rw [e, lst_snoc, List.dropLast_concat] at k
        rw [show ls.all lln = true from List.all_eq_true.mpr al] at k
        cases k
      obtain ⟨Γ, en⟩ := rd_end (t := t) (rows := spl 10 t) (fs := [] ++ es.map evD) (n := 0 + ls.length) c d (by omega) gn_end
      have ql : 0 < qs.length := List.length_pos_iff.mpr qn
      rw [if_pos (by rw [e, List.length_append, List.length_cons]; omega)] at en
      have rd := read_ex h (Γ := Γ) (e := bt ((0 + ls.length : Nat) + 1) ((3 : Nat) + 1)) (by rw [en0, lp, rd_step, en])
      obtain ⟨P1, P2⟩ := at_row (ls := ls) (r := Lend) (y := y) (k := 3) al2 (fr _ mr) y0 (by decide) (fun j _ => lgo_pre (w := Lend) (by simp [W5]) (List.take_prefix _ _)) (fun z => absurd z (by decide)) (fun _ => rfl)
      rw [← e2] at P1 P2
      refine ⟨_, _, _, P1, P2, ?_⟩
      rw [rd, Nat.zero_add]
    · obtain ⟨m, B, g⟩ := (ev_gone ar).no nl re
      obtain ⟨Γ, en⟩ := rd_none (t := t) (rows := spl 10 t) (fs := [] ++ es.map evD) (n := 0 + ls.length) c d (by omega) g
      have rd := read_ex h (Γ := Γ) (e := bt ((0 + ls.length : Nat) + 1) ((m : Nat) + 1)) (by rw [en0, lp, rd_step, en])
      obtain ⟨P1, P2⟩ := at_row (ls := ls) (r := r) (y := y) (k := m) al2 (fr _ mr) y0 B.le B.ok B.no (fun _ => nl)
      rw [← e2] at P1 P2
      refine ⟨_, _, _, P1, P2, ?_⟩
      rw [rd, Nat.zero_add]
theorem evL_inj : ∀ {e f : Ev}, evOk e = true → evOk f = true → evL e = evL f → e = f
  | .go, .go, _, _, _ => rfl
  | .cut, .cut, _, _, _ => rfl
  | .over t, .over u, _, _, h => by
    have h : Lob ++ t = Lob ++ u := h
    rw [List.append_cancel_left h]
  | .sign t c, .sign u d, h, g, e => by
    have e : Lsb ++ (t ++ 32 :: [c]) = Lsb ++ (u ++ 32 :: [d]) := e
    have e := congrArg (spl 32) (List.append_cancel_left e)
    simp only [evOk, Bool.and_eq_true, bne_iff_ne] at h g
    rw [spl_b h.1.2, spl_b g.1.2, spl1 (letter_nb h.2), spl1 (letter_nb g.2)] at e
    injection e with e1 e2
    injection e2 with e2
    injection e2 with e2
    rw [e1, e2]
  | .go, .cut, _, _, h => by cases h
  | .go, .over _, _, _, h => by cases h
  | .go, .sign _ _, _, _, h => by cases h
  | .cut, .go, _, _, h => by cases h
  | .cut, .over _, _, _, h => by cases h
  | .cut, .sign _ _, _, _, h => by cases h
  | .over _, .go, _, _, h => by cases h
  | .over _, .cut, _, _, h => by cases h
  | .over _, .sign _ _, _, _, h => by cases h
  | .sign _ _, .go, _, _, h => by cases h
  | .sign _ _, .cut, _, _, h => by cases h
  | .sign _ _, .over _, _, _, h => by cases h
theorem evs_inj : ∀ {es fs : List Ev}, (∀ e ∈ es, evOk e = true) → (∀ e ∈ fs, evOk e = true) → es.map evL = fs.map evL → es = fs
  | [], [], _, _, _ => rfl
  | [], _ :: _, _, _, h => by cases h
  | _ :: _, [], _, _, h => by cases h
  | e :: es, f :: fs, h, g, k => by
    rw [List.map_cons, List.map_cons] at k
    injection k with k1 k2
    rw [evL_inj (h e List.mem_cons_self) (g f List.mem_cons_self) k1, evs_inj (fun x m => h x (List.mem_cons_of_mem _ m)) (fun x m => g x (List.mem_cons_of_mem _ m)) k2]
end KW

set_option maxRecDepth 100000
set_option maxHeartbeats 1000000
namespace KW
open PySem PySem.Spec L2 DZ

/-! ### log_text -/
def shw (n : Nat) : Li := if n < 10 then [48 + n] else if n < 100 then [48 + n / 10, 48 + n % 10] else [48 + n / 100, 48 + n / 10 % 10, 48 + n % 10]
theorem shw_digits : ∀ n, n < 400 → (Nat.toDigits 10 n).map Char.toNat = shw n := by decide +kernel
theorem shw_num {t : Li} (h : fig t = true) (n : t ≠ []) : shw (num t) = t ∧ num t < 400 := by
  match t, h, n with
  | [a], h, _ =>
    rw [fig1] at h
    have a2 := of_decide_eq_true h
    have e : num [a] = a - 48 := by simp [num]
    rw [e]
    refine ⟨?_, by omega⟩
    unfold shw
    rw [if_pos (by omega)]
    congr 1
    omega
  | [a, b], h, _ =>
    rw [fig2, Bool.and_eq_true, Bool.and_eq_true, bne_iff_ne] at h
    have a2 := of_decide_eq_true h.1.1
    have b2 := of_decide_eq_true h.1.2
    have a3 := h.2
    have e : num [a, b] = (a - 48) * 10 + (b - 48) := by simp [num]
    rw [e]
    refine ⟨?_, by omega⟩
    unfold shw
    rw [if_neg (by omega), if_pos (by omega), show 48 + ((a - 48) * 10 + (b - 48)) / 10 = a from by omega, show 48 + ((a - 48) * 10 + (b - 48)) % 10 = b from by omega]
  | [a, b, c], h, _ =>
    rw [fig3, Bool.and_eq_true, Bool.and_eq_true, Bool.and_eq_true, Bool.and_eq_true, bne_iff_ne, decide_eq_true_eq] at h
    have a2 := of_decide_eq_true h.1.1.1.1
    have b2 := of_decide_eq_true h.1.1.1.2
    have c2 := of_decide_eq_true h.1.1.2
    have a3 := h.1.2
    have e : num [a, b, c] = ((a - 48) * 10 + (b - 48)) * 10 + (c - 48) := by simp [num]
    rw [e]
    refine ⟨?_, h.2⟩
    unfold shw
    rw [if_neg (by omega), if_neg (by omega), show 48 + (((a - 48) * 10 + (b - 48)) * 10 + (c - 48)) / 100 = a from by omega, show 48 + (((a - 48) * 10 + (b - 48)) * 10 + (c - 48)) / 10 % 10 = b from by omega, show 48 + (((a - 48) * 10 + (b - 48)) * 10 + (c - 48)) % 10 = c from by omega]
  | a :: b :: c :: d :: r, h, _ => rw [fig4] at h; cases h
theorem str_num {t : Li} (h : fig t = true) (n : t ≠ []) : PySem.Str.ofString (toString ((num t : Nat) : Int)) = mk t := by
  obtain ⟨a, b⟩ := shw_num h n
  have e := PySem.W.KIN.signs_num (num t)
  rw [shw_digits _ b, a] at e
  rw [← mk_un (PySem.Str.ofString (toString ((num t : Nat) : Int)))]
  exact congrArg mk e
theorem small_ok {n : Nat} (h : n < 400) : f_is_small [.fz (.int (n : Nat))] = .ret (.fz (.bool true)) none := by
  have i : f_is_integer [.fz (.int (n : Nat))] = .ret (.fz (.bool true)) none := rfl
  have c : f_is_count [.fz (.int (n : Nat))] = .ret (.fz (.bool true)) none := by
    unfold f_is_count b_is_count
    refine fn_rt (Γ := [some (.fz (.int (n : Nat)))]) (ret_fz ?_)
    refine (andV_ok (a := true) (b := decide (0 ≤ ((n : Nat) : Int))) (call_1 (m := mVar 0) rfl rfl i) fun _ => op_ok (ma := mVar 0) (mb := mK (.int 0)) rfl rfl rfl rfl rfl).trans ?_
    rw [decide_eq_true (by omega)]
    rfl
  unfold f_is_small b_is_small
  refine fn_rt (Γ := [some (.fz (.int (n : Nat)))]) (ret_fz ?_)
  refine (andV_ok (a := true) (b := decide (((n : Nat) : Int) < 400)) (call_1 (m := mVar 0) rfl rfl c) fun _ => op_ok (ma := mVar 0) (mb := mK (.int 400)) rfl rfl rfl rfl rfl).trans ?_
  rw [decide_eq_true (by omega)]
  rfl
theorem tup_len {Γ : DZ.Env} {ds : List PyData} (v : mVar 0 Γ = .ok (.fz (.tuple ds)) Γ) (n : Nat) : mOp2 fEq (mBlt fLen (mCons (mVar 0) mNil)) (mK (.int n)) Γ = .ok (.fz (.bool (decide (ds.length = n)))) Γ := by
  have l : mBlt fLen (mCons (mVar 0) mNil) Γ = .ok (.fz (.int (ds.length : Nat))) Γ := by
    simp only [mBlt, mCons, mNil, v, Out.bind, peeks, peek, fLen]
  exact eqn l (n := mK (.int n)) (j := n) rfl
theorem tup_at {Γ : DZ.Env} {ds : List PyData} (v : mVar 0 Γ = .ok (.fz (.tuple ds)) Γ) {k : Nat} {d : PyData} (h : ds[k]? = some d) : mOp2 fIx (mVar 0) (mK (.int (k : Nat))) Γ = .ok (.fz d) Γ := by
  refine op_ok v (mb := mK (.int (k : Nat))) rfl rfl rfl ?_
  show (atI ds (k : Int)).map RV.fz = _
  rw [at_nat, h]
  rfl
/-- the three first tests of is_logged -/
theorem lg_pre {w : Li} {tl : List PyData} {Γ : DZ.Env} (hw : As w) (v : mVar 0 Γ = .ok (.fz (.tuple (.str (mk w) :: tl))) Γ) (sh : SeqAt.shaped (.tuple (.str (mk w) :: tl)) = true) : mOr (mNot (mTruth (mIsi "tuple" (mVar 0)))) (mOr (mTest (mOp2 fEq (mVar 0) (mTup mNil))) (mNot (mTruth (mIsi "str" (mOp2 fIx (mVar 0) (mK (.int 0))))))) Γ = .ok false Γ := by
  have a : mIsi "tuple" (mVar 0) Γ = .ok (.fz (.bool true)) Γ := by
    simp only [mIsi, v, Out.bind, peek, Option.bind, tyN]
    rfl
  have b : mOp2 fEq (mVar 0) (mTup mNil) Γ = .ok (.fz (.bool false)) Γ := by
    refine op_ok v (mb := mTup mNil) (s := .fz (.tuple [])) rfl rfl rfl ?_
    unfold fEq
    rw [if_pos ⟨sh, by rfl⟩]
    rfl
  have c : mIsi "str" (mOp2 fIx (mVar 0) (mK (.int 0))) Γ = .ok (.fz (.bool true)) Γ := by
    have := tup_at v (k := 0) (d := .str (mk w)) rfl
    unfold mIsi
    rw [show mOp2 fIx (mVar 0) (mK (.int 0)) Γ = _ from this]
    rfl
  exact or_ok (not_ok (truth_ok a)) fun _ => or_ok (test_ok b) fun _ => not_ok (truth_ok c)
theorem lg_in {w : Li} {tl : List PyData} {Γ : DZ.Env} (hw : As w) (v : mVar 0 Γ = .ok (.fz (.tuple (.str (mk w) :: tl))) Γ) : mTest (mOp2 (fIn false) (mOp2 fIx (mVar 0) (mK (.int 0))) (mG (.tuple [.str "cut", .str "go"]))) Γ = .ok (decide (w ∈ [Lcut, Lgo])) Γ := by
  refine test_ok (op_ok (tup_at v (k := 0) (d := .str (mk w)) rfl) (mb := mG (.tuple [.str "cut", .str "go"])) (s := .gl (.tuple ([Lcut, Lgo].map fun p => PyData.str (mk p)))) ?_ rfl rfl ?_)
  · rw [lit_cut, lit_go]
    rfl
  · rw [fin_tup]
    cases decide (w ∈ [Lcut, Lgo]) <;> rfl
theorem lg_ev {e : Ev} (h : evOk e = true) (ha : As (evL e)) : f_is_logged [.fz (evD e)] = .ret (.fz (.bool true)) none := by
  have sh := (sh_ev ha).1
  unfold f_is_logged b_is_logged
  have v : mVar 0 [some (.fz (evD e))] = .ok (.fz (evD e)) [some (.fz (evD e))] := rfl
  refine fn_rt (Γ := [some (.fz (evD e))]) ?_
  change mSeq _ _ [some (SV.fz (evD e))] = _
  generalize [some (SV.fz (evD e))] = Γ at v
  cases e with
  | go =>
    refine (ifs (lg_pre as_go v sh)).trans (ifr (lg_in as_go v) (ret_fz (tup_len v 1)))
  | cut =>
    refine (ifs (lg_pre as_cut v sh)).trans (ifr (lg_in as_cut v) (ret_fz (tup_len v 1)))
  | over t =>
    simp only [evOk, Bool.and_eq_true, bne_iff_ne] at h
    have T0 : Tv (mOp2 fIx (mVar 0) (mK (.int 0))) Γ Lover := ⟨as_over, tup_at v (k := 0) rfl⟩
    have c2 := test_ok (T0.eq (tv_over Γ))
    have s := call_1 (tup_at v (k := 1) (d := .int (num t : Nat)) rfl) rfl (small_ok (shw_num h.2 h.1).2)
    exact (ifs (lg_pre as_over v sh)).trans ((ifs (lg_in as_over v)).trans (ifr c2 (ret_fz (andV_ok (tup_len v 2) fun _ => s))))
  | sign t c =>
    simp only [evOk, Bool.and_eq_true, bne_iff_ne] at h
    have T0 : Tv (mOp2 fIx (mVar 0) (mK (.int 0))) Γ Lsign := ⟨as_sign, tup_at v (k := 0) rfl⟩
    have c2 := test_ok (T0.eq (tv_over Γ))
    have s := call_1 (tup_at v (k := 1) (d := .int (num t : Nat)) rfl) rfl (small_ok (shw_num h.1.2 h.1.1).2)
    have ac : As [c] := ha.one (by simp [evL])
    have sg := ev_is_sign ac
    rw [show okc [c] = true from h.2] at sg
    have s3 := call_1 (tup_at v (k := 2) (d := .str (mk [c])) rfl) rfl sg
    exact (ifs (lg_pre as_sign v sh)).trans ((ifs (lg_in as_sign v)).trans ((ifs c2).trans (ret_fz (andV_ok (T0.eq (tv_sign Γ)) fun _ => andV_ok (tup_len v 3) fun _ => andV_ok s fun _ => s3))))
/-- events of a short log -/
structure Evs (es : List Ev) : Prop where
  ok : ∀ e ∈ es, evOk e = true
  as : ∀ e ∈ es, As (evL e)
  n : es.length ≤ 1000
theorem ev_is_log {es : List Ev} (h : Evs es) : f_is_log [.fz (.tuple (es.map evD))] = .ret (.fz (.bool true)) none := by
  unfold f_is_log b_is_log
  have v : mVar 0 [some (.fz (.tuple (es.map evD))), none] = .ok (.fz (.tuple (es.map evD))) [some (.fz (.tuple (es.map evD))), none] := rfl
  refine fn_rt (Γ := [some (.fz (.tuple (es.map evD))), none]) (ret_fz ?_)
  change mAndV _ _ [some (SV.fz (.tuple (es.map evD))), none] = _
  have hv : 1 < [some (SV.fz (.tuple (es.map evD))), none].length := Nat.lt_succ_self 1
  have i : mSeqI (mVar 0) [some (.fz (.tuple (es.map evD))), none] = .ok (es.map evD) [some (.fz (.tuple (es.map evD))), none] := rfl
  generalize [some (SV.fz (.tuple (es.map evD))), none] = Γ at v i hv
  have a : mIsi "tuple" (mVar 0) Γ = .ok (.fz (.bool true)) Γ := by
    simp only [mIsi, v, Out.bind, peek, Option.bind, tyN]
    rfl
  have b : mOp2 fLe (mBlt fLen (mCons (mVar 0) mNil)) (mK (.int 2000)) Γ = .ok (.fz (.bool true)) Γ := by
    have l : mBlt fLen (mCons (mVar 0) mNil) Γ = .ok (.fz (.int ((es.map evD).length : Nat))) Γ := by
      simp only [mBlt, mCons, mNil, v, Out.bind, peeks, peek, fLen]
    refine (op_ok l (mb := mK (.int 2000)) rfl rfl rfl rfl).trans ?_
    dsimp only
    rw [List.length_map, decide_eq_true (by have := h.n; omega)]
  have l := mlc_run (v := 1) (tt := mYes) (te := mCallP f_is_logged (mCons (mVar 1) mNil)) (Γ := Γ) _ (fun _ => true) (fun _ => .bool true) i (by rw [List.length_map]; exact Nat.le_trans h.n (by decide)) (by
    intro d m
    obtain ⟨e, me, rfl⟩ := List.mem_map.mp m
    have vv : mVar 1 (Γ.set 1 (some (.fz (evD e)))) = .ok (.fz (evD e)) (Γ.set 1 (some (.fz (evD e)))) := by
      unfold mVar
      rw [List.getElem?_set_self hv]
    exact ⟨rfl, fun _ => ⟨_, call_1 vv rfl (lg_ev (h.ok e me) (h.as e me)), rfl⟩⟩)
  have c : mBlt fAll (mCons (mLc [1] (mSeqI (mVar 0)) (gN 1) mYes (mCallP f_is_logged (mCons (mVar 1) mNil))) mNil) Γ = .ok (.fz (.bool true)) Γ := by
    have bs : ∀ ds : List PyData, boolsD ((ds.filter fun _ => true).map fun _ => PyData.bool true) = some (ds.map fun _ => true) := by
      intro ds
      induction ds with
      | nil => rfl
      | cons d ds ih =>
        show (boolsD ((ds.filter fun _ => true).map fun _ => PyData.bool true)).map (true :: ·) = _
        rw [ih]
        rfl
    simp only [mBlt, mCons, mNil, l, Out.bind, peeks, peek, fAll, bs]
    simp
  exact andV_ok a fun _ => andV_ok b fun _ => c
theorem filt (ds : List PyData) : ds.filter (fun _ => true) = ds := List.filter_eq_self.mpr fun _ _ => rfl
theorem jn_len (c : Nat) : ∀ ps : List Li, (ps.map List.length).sum + ps.length ≤ (jn c ps).length + 1
  | [] => Nat.zero_le _
  | [p] => by simp [jn]
  | p :: q :: r => by
    have := jn_len c (q :: r)
    simp only [jn, List.map_cons, List.sum_cons, List.length_cons, List.length_append] at this ⊢
    omega
theorem strsD_mk : ∀ ps : List Li, strsD (ps.map fun p => PyData.str (mk p)) = some (ps.map mk)
  | [] => rfl
  | p :: ps => by
    show (strsD (ps.map fun p => PyData.str (mk p))).map (mk p :: ·) = _
    rw [strsD_mk ps]
    rfl
theorem join_ok {c : Nat} {s : Str} {ps : List Li} {m : M RV} {Γ : DZ.Env} (e : s = mk [c]) (h : m Γ = .ok (.ow (.list (ps.map fun p => .str (mk p)))) Γ) (ha : As (jn c ps)) : mBmS fJoin (mK (.str s)) (mCons m mNil) Γ = .ok (.fz (.str (mk (jn c ps)))) Γ := by
  subst e
  have l : ((ps.map mk).map (·.length)).sum + (ps.map mk).length * (mk [c]).length ≤ 16777216 := by
    have := jn_len c ps
    have := ha.len
    have e : (ps.map mk).map (·.length) = ps.map List.length := by
      rw [List.map_map]
      apply List.map_congr_left
      intro p _
      exact mk_len p
    rw [e, mk_len, List.length_map]
    simp only [List.length_cons, List.length_nil]
    omega
  simp only [mBmS, mK, Out.bind, peek, mCons, h, mNil, peeks, fJoin, strsD_mk]
  rw [if_pos l, txt_join]
def evS : Ev → List Li
  | .go => [Lgo]
  | .cut => [Lcut]
  | .over t => [Lover, t]
  | .sign t c => [Lsign, t, [c]]
theorem evS_jn : ∀ e : Ev, jn 32 (evS e) = evL e
  | .go => rfl
  | .cut => rfl
  | .over t => rfl
  | .sign t c => rfl
def strD : PyData → PyData
  | .int i => .str (PySem.Str.ofString (toString i))
  | d => d
theorem fstr_ok {m : M RV} {Γ : DZ.Env} {d : PyData} (v : m Γ = .ok (.fz d) Γ) (h : (∃ s, d = .str s) ∨ ∃ n : Nat, n < 400 ∧ d = .int (n : Nat)) : mBlt fStr (mCons m mNil) Γ = .ok (.fz (strD d)) Γ := by
  rcases h with ⟨s, rfl⟩ | ⟨n, hn, rfl⟩
  · simp only [mBlt, mCons, mNil, v, Out.bind, peeks, peek, fStr]
    rfl
  · simp only [mBlt, mCons, mNil, v, Out.bind, peeks, peek, fStr]
    have : ((n : Nat) : Int).natAbs.log2 < 1920 := by
      rw [Int.natAbs_natCast]
      have : n.log2 ≤ n := Nat.log2_le_self n
      omega
    rw [if_pos this]
    rfl
def evP : Ev → List PyData
  | .go => [.str (mk Lgo)]
  | .cut => [.str (mk Lcut)]
  | .over t => [.str (mk Lover), .int (num t : Nat)]
  | .sign t c => [.str (mk Lsign), .int (num t : Nat), .str (mk [c])]
theorem evP_D : ∀ e : Ev, evD e = .tuple (evP e)
  | .go => rfl
  | .cut => rfl
  | .over _ => rfl
  | .sign _ _ => rfl
theorem evP_S : ∀ e : Ev, evOk e = true → (evP e).map strD = (evS e).map (fun p => PyData.str (mk p)) ∧ (∀ d ∈ evP e, (∃ s, d = .str s) ∨ ∃ n : Nat, n < 400 ∧ d = .int (n : Nat)) ∧ (evP e).length ≤ 3
  | .go, _ => ⟨rfl, fun d m => by cases List.mem_singleton.mp m; exact .inl ⟨_, rfl⟩, by decide⟩
  | .cut, _ => ⟨rfl, fun d m => by cases List.mem_singleton.mp m; exact .inl ⟨_, rfl⟩, by decide⟩
  | .over t, h => by
    simp only [evOk, Bool.and_eq_true, bne_iff_ne] at h
    refine ⟨?_, fun d m => ?_, by show 2 ≤ 3; decide⟩
    · show [PyData.str (mk Lover), .str (PySem.Str.ofString (toString ((num t : Nat) : Int)))] = _
      rw [str_num h.2 h.1]
      rfl
    · simp only [evP, List.mem_cons, List.not_mem_nil, or_false] at m
      rcases m with rfl | rfl
      · exact .inl ⟨_, rfl⟩
      · exact .inr ⟨_, (shw_num h.2 h.1).2, rfl⟩
  | .sign t c, h => by
    simp only [evOk, Bool.and_eq_true, bne_iff_ne] at h
    refine ⟨?_, fun d m => ?_, Nat.le_refl 3⟩
    · show [PyData.str (mk Lsign), .str (PySem.Str.ofString (toString ((num t : Nat) : Int))), .str (mk [c])] = _
      rw [str_num h.1.2 h.1.1]
      rfl
    · simp only [evP, List.mem_cons, List.not_mem_nil, or_false] at m
      rcases m with rfl | rfl | rfl
      · exact .inl ⟨_, rfl⟩
      · exact .inr ⟨_, (shw_num h.1.2 h.1.1).2, rfl⟩
      · exact .inl ⟨_, rfl⟩
theorem line_join {i v : Nat} {Γ : DZ.Env} {e : Ev} (h : evOk e = true) (ha : As (evL e)) (vi : mVar i Γ = .ok (.fz (evD e)) Γ) (hv : v < Γ.length) : mBmS fJoin (mK (.str " ")) (mCons (mLc [v] (mSeqI (mVar i)) (gN v) mYes (mBlt fStr (mCons (mVar v) mNil))) mNil) Γ = .ok (.fz (.str (mk (evL e)))) Γ := by
  obtain ⟨p1, p2, p3⟩ := evP_S e h
  have si : mSeqI (mVar i) Γ = .ok (evP e) Γ := by
    unfold mSeqI
    rw [vi, evP_D]
    rfl
  have l := mlc_run (v := v) (tt := mYes) (te := mBlt fStr (mCons (mVar v) mNil)) (Γ := Γ) _ (fun _ => true) strD si (Nat.le_trans p3 (by decide)) (by
    intro d m
    have vv : mVar v (Γ.set v (some (.fz d))) = .ok (.fz d) (Γ.set v (some (.fz d))) := by
      unfold mVar
      rw [List.getElem?_set_self hv]
    exact ⟨rfl, fun _ => ⟨_, fstr_ok vv (p2 d m), rfl⟩⟩)
  rw [filt, p1] at l
  rw [← evS_jn] at ha ⊢
  exact join_ok lit_b l ha
theorem ev_line_of {e : Ev} (h : evOk e = true) (ha : As (evL e)) : f_line_of [.fz (evD e)] = .ret (.fz (.str (mk (evL e)))) none := by
  unfold f_line_of b_line_of
  exact fn_rt (Γ := [some (.fz (evD e)), none]) (ret_fz (line_join h ha rfl (Nat.lt_succ_self 1)))
/-- a log's text -/
def txt (es : List Ev) : Li := jn 10 (es.map evL ++ [Lend])
theorem ev_log_text {es : List Ev} (h : Evs es) (ht : As (txt es)) : f_log_text [.fz (.tuple (es.map evD))] = .ret (.fz (.str (mk (txt es)))) none := by
  unfold f_log_text b_log_text
  have v : mVar 0 [some (.fz (.tuple (es.map evD))), none] = .ok (.fz (.tuple (es.map evD))) [some (.fz (.tuple (es.map evD))), none] := rfl
  refine fn_rt (Γ := [some (.fz (.tuple (es.map evD))), none]) ?_
  change mSeq _ _ [some (SV.fz (.tuple (es.map evD))), none] = _
  have hv : 1 < [some (SV.fz (.tuple (es.map evD))), none].length := Nat.lt_succ_self 1
  have i : mSeqI (mVar 0) [some (.fz (.tuple (es.map evD))), none] = .ok (es.map evD) [some (.fz (.tuple (es.map evD))), none] := rfl
  generalize [some (SV.fz (.tuple (es.map evD))), none] = Γ at v i hv
  have c := not_ok (truth_ok (call_1 v rfl (ev_is_log h)))
  have l := mlc_run (v := 1) (tt := mYes) (te := mCallP f_line_of (mCons (mVar 1) mNil)) (Γ := Γ) _ (fun _ => true) (fun d => match f_line_of [.fz d] with | .ret (.fz x) _ => x | _ => .none) i (by rw [List.length_map]; exact Nat.le_trans h.n (by decide)) (by
    intro d m
    obtain ⟨e, me, rfl⟩ := List.mem_map.mp m
    have vv : mVar 1 (Γ.set 1 (some (.fz (evD e)))) = .ok (.fz (evD e)) (Γ.set 1 (some (.fz (evD e)))) := by
      unfold mVar
      rw [List.getElem?_set_self hv]
    refine ⟨rfl, fun _ => ⟨_, call_1 vv rfl (ev_line_of (h.ok e me) (h.as e me)), ?_⟩⟩
    rw [ev_line_of (h.ok e me) (h.as e me)]
    rfl)
  rw [filt, List.map_map] at l
  have q : es.map ((fun d => match f_line_of [.fz d] with | .ret (.fz x) _ => x | _ => .none) ∘ evD) = (es.map evL).map fun p => PyData.str (mk p) := by
    rw [List.map_map]
    apply List.map_congr_left
    intro e me
    show (match f_line_of [.fz (evD e)] with | .ret (.fz x) _ => x | _ => .none) = _
    rw [ev_line_of (h.ok e me) (h.as e me)]
    rfl
  rw [q] at l
  have st : mLstS (mStarR (mLc [1] (mSeqI (mVar 0)) (gN 1) mYes (mCallP f_line_of (mCons (mVar 1) mNil))) (mConsR (mK (.str "end")) (fun Γ => .ok [] Γ))) Γ = .ok (.ow (.list ((es.map evL ++ [Lend]).map fun p => .str (mk p)))) Γ := by
    have e : mStarR (mLc [1] (mSeqI (mVar 0)) (gN 1) mYes (mCallP f_line_of (mCons (mVar 1) mNil))) (mConsR (mK (.str "end")) (fun Γ => .ok [] Γ)) Γ = .ok ((((es.map evL).map fun p => PyData.str (mk p)) ++ [PyData.str "end"]).map RV.fz) Γ := by
      unfold mStarR
      rw [l]
      show Out.ok (((es.map evL).map fun p => PyData.str (mk p)).map RV.fz ++ [RV.fz (.str "end")]) Γ = _
      rw [List.map_append]
      rfl
    have fz : ∀ ds : List PyData, frzs (ds.map RV.fz) Γ = .ok ds Γ := by
      intro ds
      induction ds with
      | nil => rfl
      | cons d ds ih =>
        show (frz (.fz d) Γ).bind _ = _
        simp only [frz, Out.bind]
        rw [ih]
    unfold mLstS
    rw [e]
    simp only [Out.bind, fz]
    rw [if_pos (by
      simp only [List.length_append, List.length_map, List.length_cons, List.length_nil]
      have := h.n
      have : 1001 ≤ sizeLine := by decide
      omega), lit_end, List.map_append]
    rfl
  exact (ifs c).trans (ret_fz (join_ok lit_nl st ht))
end KW

set_option maxRecDepth 100000
set_option maxHeartbeats 1000000
namespace KW
open PySem PySem.Spec L2 DZ

/-! ### values alike -/
def Asc (s : Str) : Prop := ∀ c ∈ s.cps.toList, c < 128
theorem Asc.app {a b : Str} (h : Asc a) (g : Asc b) : Asc (a ++ b) := fun c m => (PyProof.Rows.mem_cps_append.mp m).elim (h c) (g c)
theorem Asc.sh {s : Str} (h : Asc s) : SeqAt.shaped (.str s) = true := by
  unfold SeqAt.shaped
  rw [Bool.and_eq_true]
  refine ⟨?_, decide_eq_true (Nat.zero_le 64)⟩
  show (s.cps.all fun x => decide (x < 0x110000)) = true
  rw [Array.all_eq_true_iff_forall_mem]
  exact fun c m => decide_eq_true (Nat.lt_trans (h c (Array.mem_toList_iff.mpr m)) (by decide))
theorem asc_mk {l : Li} (h : As l) : Asc (mk l) := fun c m => h.ch c (by rwa [cps_mk] at m)
theorem asc_char : ∀ c, c < 128 → (∀ x ∈ Builtin.Str.reprChar 34 c, x < 128) ∧ ∀ x ∈ Builtin.Str.reprChar 39 c, x < 128 := by decide +kernel
theorem asc_fold (q : Nat) (hq : q = 34 ∨ q = 39) : ∀ (l : List Nat) (acc : Array Nat), (∀ c ∈ l, c < 128) → (∀ c ∈ acc.toList, c < 128) → ∀ c ∈ (l.foldl (fun out c => out ++ (Builtin.Str.reprChar q c).toArray) acc).toList, c < 128
  | [], acc, _, h => h
  | x :: l, acc, h, g => by
    rw [List.foldl_cons]
    refine asc_fold q hq l _ (fun c m => h c (List.mem_cons_of_mem _ m)) fun c m => ?_
    rw [Array.toList_append, List.mem_append] at m
    have k := asc_char x (h x List.mem_cons_self)
    rcases m with m | m
    · exact g c m
    · have m : c ∈ Builtin.Str.reprChar q x := m
      rcases hq with rfl | rfl
      · exact k.1 c m
      · exact k.2 c m
theorem asc_repr {s : Str} (h : Asc s) : Asc (reprText s) := by
  intro c m
  unfold reprText at m
  have hq : reprQuote s = 34 ∨ reprQuote s = 39 := by
    unfold reprQuote
    split
    · exact .inl rfl
    · exact .inr rfl
  have q2 : reprQuote s < 128 := by rcases hq with e | e <;> rw [e] <;> decide
  have m : c ∈ ((s.cps.foldl (fun out c => out ++ (Builtin.Str.reprChar (reprQuote s) c).toArray) #[reprQuote s]).push (reprQuote s)).toList := m
  rw [Array.toList_push, List.mem_append, ← Array.foldl_toList] at m
  rcases m with m | m
  · exact asc_fold _ hq _ _ h (fun x k => by cases List.mem_singleton.mp k; exact q2) c m
  · cases List.mem_singleton.mp m
    exact q2
theorem asc_lit1 : Asc ("(" : Str) := (by decide +kernel : ∀ c ∈ ("(" : Str).cps.toList, c < 128)
theorem asc_lit2 : Asc (")" : Str) := (by decide +kernel : ∀ c ∈ (")" : Str).cps.toList, c < 128)
theorem asc_lit3 : Asc (",)" : Str) := (by decide +kernel : ∀ c ∈ (",)" : Str).cps.toList, c < 128)
theorem asc_lit4 : Asc (", " : Str) := (by decide +kernel : ∀ c ∈ (", " : Str).cps.toList, c < 128)
theorem asc_tup {ts : List Str} (h : ∀ t ∈ ts, Asc t) : Asc (tupleText ts) := by
  unfold tupleText
  refine (asc_lit1.app fun c m => ?_).app ?_
  · rcases (PyProof.Rows.mem_join _ _ _).mp m with ⟨t, k, m⟩ | ⟨_, m⟩
    · exact h t k c m
    · exact asc_lit4 c m
  · split
    · exact asc_lit3
    · exact asc_lit2
theorem shown_num {t : Li} (h : fig t = true) (n : t ≠ []) : (PyData.int ((num t : Nat) : Int)).shown = mk t := str_num h n
/-- data whose text is plain and short -/
structure Pl (d : PyData) (w : Nat) : Prop where
  asc : Asc d.shown
  lay : d.canLay0 = true
  sho : d.showable = true
  sml : d.intsShort 13 = true
  wt : d.weight ≤ w
theorem pl_str {l : Li} (h : As l) : Pl (.str (mk l)) l.length := ⟨by rw [PyData.shown]; exact asc_repr (asc_mk h), canLay_of_shaped' (sh_str h), by rw [PyData.showable], by rw [PyData.intsShort], by rw [PyData.weight]; exact Nat.le_of_eq (mk_len l)⟩
theorem pl_num {t : Li} (h : fig t = true) (n : t ≠ []) : Pl (.int (num t : Nat)) 400 := by
  have b := (shw_num h n).2
  refine ⟨?_, by rw [PyData.canLay0], ?_, ?_, ?_⟩
  · rw [shown_num h n]
    intro c m
    rw [cps_mk] at m
    have := of_decide_eq_true (List.all_eq_true.mp (fig_dig h) c m)
    omega
  · rw [PyData.showable, decide_eq_true_eq, Int.natAbs_natCast]
    have := Nat.log2_le_self (num t)
    omega
  · rw [PyData.intsShort, decide_eq_true_eq, shown_num h n, mk_len]
    have := fig_len h
    omega
  · rw [PyData.weight]
    split
    · exact Nat.zero_le _
    · rw [Int.natAbs_natCast]
      have := Nat.log2_le_self (num t)
      omega
structure Pls (ds : List PyData) (w : Nat) : Prop where
  asc : ∀ t ∈ PyData.shownAll ds, Asc t
  lay : PyData.canLayAll0 ds = true
  sho : PyData.showableAll ds = true
  sml : PyData.intsShortAll 13 ds = true
  wt : PyData.weightAll ds ≤ w
theorem pls_nil : Pls [] 0 := ⟨by rw [PyData.shownAll]; exact fun _ m => absurd m List.not_mem_nil, by rw [PyData.canLayAll0], by rw [PyData.showableAll], by rw [PyData.intsShortAll], by rw [PyData.weightAll]; exact Nat.le_refl _⟩
theorem pls_cons {d : PyData} {ds : List PyData} {v w : Nat} (h : Pl d v) (g : Pls ds w) : Pls (d :: ds) (v + 1 + w) := by
  refine ⟨?_, ?_, ?_, ?_, ?_⟩
  · rw [PyData.shownAll]
    exact fun t m => (List.mem_cons.mp m).elim (fun e => e ▸ h.asc) (g.asc t)
  · rw [PyData.canLayAll0, h.lay, g.lay]; rfl
  · rw [PyData.showableAll, h.sho, g.sho]; rfl
  · rw [PyData.intsShortAll, h.sml, g.sml]; rfl
  · rw [PyData.weightAll]
    have := h.wt
    have := g.wt
    omega
theorem pl_tup {ds : List PyData} {w : Nat} (h : Pls ds w) : Pl (.tuple ds) w := ⟨by rw [PyData.shown]; exact asc_tup h.asc, by rw [PyData.canLay0]; exact h.lay, by rw [PyData.showable]; exact h.sho, by rw [PyData.intsShort]; exact h.sml, by rw [PyData.weight]; exact h.wt⟩
theorem Pl.mono {d : PyData} {v w : Nat} (h : Pl d v) (k : v ≤ w) : Pl d w := ⟨h.asc, h.lay, h.sho, h.sml, Nat.le_trans h.wt k⟩
theorem Pls.mono {d : List PyData} {v w : Nat} (h : Pls d v) (k : v ≤ w) : Pls d w := ⟨h.asc, h.lay, h.sho, h.sml, Nat.le_trans h.wt k⟩
theorem pl_ev {e : Ev} (h : evOk e = true) (ha : As (evL e)) : Pl (evD e) 500 := by
  cases e with
  | go => exact (pl_tup (pls_cons (pl_str as_go) pls_nil)).mono (by decide)
  | cut => exact (pl_tup (pls_cons (pl_str as_cut) pls_nil)).mono (by decide)
  | over t =>
    simp only [evOk, Bool.and_eq_true, bne_iff_ne] at h
    exact (pl_tup (pls_cons (pl_str as_over) (pls_cons (pl_num h.2 h.1) pls_nil))).mono (by decide)
  | sign t c =>
    simp only [evOk, Bool.and_eq_true, bne_iff_ne] at h
    have ac : As [c] := ha.one (by simp [evL])
    exact (pl_tup (pls_cons (pl_str as_sign) (pls_cons (pl_num h.1.2 h.1.1) (pls_cons (pl_str ac) pls_nil)))).mono (by show 4 + 1 + (400 + 1 + (1 + 1 + 0)) ≤ 500; decide)
theorem pl_evs : ∀ {es : List Ev}, (∀ e ∈ es, evOk e = true ∧ As (evL e)) → Pls (es.map evD) (es.length * 501)
  | [], _ => pls_nil
  | e :: es, h => (pls_cons (pl_ev (h e List.mem_cons_self).1 (h e List.mem_cons_self).2) (pl_evs fun x m => h x (List.mem_cons_of_mem _ m))).mono (by simp only [List.length_cons]; omega)
theorem dep_ev : ∀ e : Ev, (evD e).depth = 1
  | .go => by simp [evD, PyData.depth, PyData.depthAll]
  | .cut => by simp [evD, PyData.depth, PyData.depthAll]
  | .over _ => by simp [evD, PyData.depth, PyData.depthAll]
  | .sign _ _ => by simp [evD, PyData.depth, PyData.depthAll]
theorem dep_evs : ∀ es : List Ev, PyData.depthAll (es.map evD) ≤ 1
  | [] => by simp [PyData.depthAll]
  | e :: es => by
    have := dep_evs es
    rw [List.map_cons, PyData.depthAll, dep_ev]
    omega
theorem alike_of {d : PyData} {w : Nat} (h : Pl d w) (hw : w ≤ 1000000) (dp : d.depth ≤ 40) : f__law_alike [.fz d, .fz d] = .ret (.fz (.bool true)) none := by
  unfold f__law_alike b__law_alike
  have c := h.lay
  have sh : SeqAt.shaped d = true := by
    unfold SeqAt.shaped
    rw [c, decide_eq_true (by omega)]
    rfl
  have n : d.shown.length ≤ sizeLine := by
    refine Nat.le_trans (PyData.shown_le_of_layable0 ?_ h.sml) (by decide)
    unfold PyData.layable0
    rw [c, decide_eq_true (by omega), decide_eq_true (Nat.le_trans h.wt (Nat.le_trans hw (by decide)))]
    rfl
  have r0 : ∀ i, mVar i [some (.fz d), some (.fz d)] = .ok (.fz d) [some (.fz d), some (.fz d)] → mBlt fRepr (mCons (mVar i) mNil) [some (.fz d), some (.fz d)] = .ok (.fz (.str d.shown)) [some (.fz d), some (.fz d)] := fun i v => by
    simp only [mBlt, mCons, mNil, v, Out.bind, peeks, peek, fRepr]
    rw [if_pos ⟨c, h.sho, dp, n⟩]
  have s1 := h.asc.sh
  have e1 : mOp2 fEq (mBlt fRepr (mCons (mVar 0) mNil)) (mBlt fRepr (mCons (mVar 1) mNil)) [some (.fz d), some (.fz d)] = .ok (.fz (.bool true)) [some (.fz d), some (.fz d)] := by
    refine op_ok (r0 0 rfl) (r0 1 rfl) rfl rfl ?_
    unfold fEq
    rw [if_pos ⟨s1, s1⟩, SeqAt.eqv_refl _ (canLay_of_shaped' s1)]
  have e2 : mOp2 fEq (mVar 0) (mVar 1) [some (.fz d), some (.fz d)] = .ok (.fz (.bool true)) [some (.fz d), some (.fz d)] := by
    refine op_ok (ma := mVar 0) (mb := mVar 1) (r := .fz d) (s := .fz d) rfl rfl rfl rfl ?_
    unfold fEq
    rw [if_pos ⟨sh, sh⟩, SeqAt.eqv_refl d c]
  exact fn_rt (Γ := [some (.fz d), some (.fz d)]) (ret_fz (andV_ok e1 fun _ => e2))
theorem alike_str {l : Li} (h : As l) : f__law_alike [.fz (.str (mk l)), .fz (.str (mk l))] = .ret (.fz (.bool true)) none := alike_of (pl_str h) (Nat.le_trans h.len (by decide)) (Nat.zero_le _)
theorem alike_log {es : List Ev} (h : Evs es) : f__law_alike [.fz (.tuple (es.map evD)), .fz (.tuple (es.map evD))] = .ret (.fz (.bool true)) none := by
  have n := h.n
  refine alike_of (pl_tup (pl_evs fun e m => ⟨h.ok e m, h.as e m⟩)) (by omega) ?_
  rw [PyData.depth]
  have := dep_evs es
  omega
end KW

set_option maxRecDepth 100000
set_option maxHeartbeats 1000000
namespace KW
open PySem PySem.Spec L2 DZ

/-! ### the law's bag -/
def bag (x y z : Int) (cs : List Int) : PyData := .list [.int x, .int y, .int z, .list (cs.map PyData.int)]
theorem fn_ow {N : Nat} {b : DZ.Env → Fl} {svs : List SV} {d : PyData} {Γ : DZ.Env} (h : b (svs.map some ++ List.replicate (N - svs.length) none) = .rt (.ow d) Γ) : fnOf false N b svs = .ret (.ow d) none := by
  unfold fnOf
  rw [h]
  rfl
theorem fn_io {N : Nat} {b : DZ.Env → Fl} {svs : List SV} {d o : PyData} {Γ : DZ.Env} (h : b (svs.map some ++ List.replicate (N - svs.length) none) = .rt (.fz d) (some (.ow o) :: Γ)) : fnOf true N b svs = .ret (.fz d) (some (.ow o)) := by
  unfold fnOf
  rw [h]
  rfl
theorem ev_bag {ns : List Int} (h : ns.length ≤ 63) : ∃ cs : List Int, cs.length ≤ 63 ∧ f__law_bag [.sc (.list (ns.map PyData.int))] = .ret (.ow (bag 0 1234567891 0 cs)) none := by
  refine ⟨ns.map fun i => if i < 0 then -i else i, by rw [List.length_map]; exact h, ?_⟩
  unfold f__law_bag b__law_bag
  have s : mSl (mVar 0) mNoP (mPart (mK (.int 63))) [some (.sc (.list (ns.map PyData.int))), none] = .ok (.ow (.list (ns.map PyData.int))) [some (.sc (.list (ns.map PyData.int))), none] := by
    show Out.ok (RV.ow (.list (cutD (ns.map PyData.int) none (some 63)))) _ = _
    congr 3
    unfold cutD
    show ((ns.map PyData.int).drop 0).take (HT.sIx _ _ (some ((63 : Nat) : Int)) - 0) = _
    rw [HT.sIx_nat, List.drop_zero, Nat.sub_zero, List.length_map, Nat.min_eq_right h, List.take_of_length_le (by rw [List.length_map]; exact Nat.le_refl _)]
  have hv : 1 < [some (SV.sc (.list (ns.map PyData.int))), none].length := Nat.lt_succ_self 1
  refine fn_ow (Γ := [some (.sc (.list (ns.map PyData.int))), none]) (ret_ow ?_)
  change mLst _ [some (SV.sc (.list (ns.map PyData.int))), none] = _
  generalize [some (SV.sc (.list (ns.map PyData.int))), none] = Γ at s hv
  have i : mSeqI (mSl (mVar 0) mNoP (mPart (mK (.int 63)))) Γ = .ok (ns.map PyData.int) Γ := by
    unfold mSeqI
    rw [s]
    rfl
  have l := mlc_run (v := 1) (tt := mYes) (te := mBlt fAbs (mCons (mVar 1) mNil)) (Γ := Γ) _ (fun _ => true) (fun d => match d with | .int i => .int (if i < 0 then -i else i) | d => d) i (by rw [List.length_map]; exact Nat.le_trans h (by decide)) (by
    intro d m
    obtain ⟨n, _, rfl⟩ := List.mem_map.mp m
    have vv : mVar 1 (Γ.set 1 (some (.fz (.int n)))) = .ok (.fz (.int n)) (Γ.set 1 (some (.fz (.int n)))) := by
      unfold mVar
      rw [List.getElem?_set_self hv]
    refine ⟨rfl, fun _ => ⟨.fz (.int (if n < 0 then -n else n)), ?_, rfl⟩⟩
    simp only [mBlt, mCons, mNil, vv, Out.bind, peeks, peek, fAbs])
  rw [filt, List.map_map] at l
  simp only [mLst, mCons, mNil, l, Out.bind, mK, frzs, frz, bag, List.map_map]
  rfl
abbrev tkE (x y z : Int) (cs : List Int) (m : Nat) (a b c d e : Option SV) : DZ.Env := [some (.ow (bag x y z cs)), some (.fz (.int (m : Nat))), a, b, c, d, e]
theorem mulr (i j : Int) (h : -(2 ^ 64) < j ∧ j < 2 ^ 64) : mulOk i j = true := by
  unfold mulOk
  rw [decide_eq_true h.1, decide_eq_true h.2]
  simp
theorem mull (i j : Int) (h : -(2 ^ 64) < i ∧ i < 2 ^ 64) : mulOk i j = true := by
  unfold mulOk
  rw [decide_eq_true h.1, decide_eq_true h.2]
  simp
theorem v_mul {ma mb : M RV} {Γ : DZ.Env} {i j : Int} (h : ma Γ = .ok (.fz (.int i)) Γ) (g : mb Γ = .ok (.fz (.int j)) Γ) (o : mulOk i j = true) : mOp2 fMul ma mb Γ = .ok (.fz (.int (i * j))) Γ := op_ok h g rfl rfl (by
  show (if mulOk i j = true then some (RV.fz (.int (i * j))) else none) = _
  rw [if_pos o])
theorem v_add {ma mb : M RV} {Γ : DZ.Env} {i j : Int} (h : ma Γ = .ok (.fz (.int i)) Γ) (g : mb Γ = .ok (.fz (.int j)) Γ) : mOp2 fAdd ma mb Γ = .ok (.fz (.int (i + j))) Γ := op_ok h g rfl rfl rfl
theorem v_mod {ma mb : M RV} {Γ : DZ.Env} {i j : Int} (h : ma Γ = .ok (.fz (.int i)) Γ) (g : mb Γ = .ok (.fz (.int j)) Γ) (o : 0 < j) : mOp2 fMod ma mb Γ = .ok (.fz (.int (i % j))) Γ := op_ok h g rfl rfl (by
  show (if 0 < j then some (RV.fz (.int (i % j))) else none) = _
  rw [if_pos o])
theorem v_div {ma mb : M RV} {Γ : DZ.Env} {i j : Int} (h : ma Γ = .ok (.fz (.int i)) Γ) (g : mb Γ = .ok (.fz (.int j)) Γ) (o : 0 < j ∧ j < 1073741824) : mOp2 fDiv ma mb Γ = .ok (.fz (.int (i / j))) Γ := op_ok h g rfl rfl (by
  show (if 0 < j ∧ j < 1073741824 then some (RV.fz (.int (i / j))) else none) = _
  rw [if_pos o])
theorem v_int {ma : M RV} {Γ : DZ.Env} {i : Int} (h : ma Γ = .ok (.fz (.int i)) Γ) : mBlt fInt (mCons ma mNil) Γ = .ok (.fz (.int i)) Γ := by
  simp only [mBlt, mCons, mNil, h, Out.bind, peeks, peek, fInt]
theorem cut_cells (cs : List Int) (z : Int) : ∃ as : List Int, as.length ≤ cs.length ∧ cutD (cs.map PyData.int) (some z) none = as.map PyData.int := by
  unfold cutD
  refine ⟨(cs.drop (HT.sIx (cs.map PyData.int).length 0 (some z))).take (HT.sIx (cs.map PyData.int).length (cs.map PyData.int).length none - HT.sIx (cs.map PyData.int).length 0 (some z)), ?_, ?_⟩
  · rw [List.length_take, List.length_drop]
    omega
  · rw [List.map_take, List.map_drop]
theorem tk_cell (x y z : Int) (cs : List Int) (hc : cs.length ≤ 63) (m : Nat) (a b c d e : Option SV) : ∃ v : Int, mOp2 fIx (mOp2 fAdd (mSl (mOp2 fIx (mVar 0) (mK (.int 3))) (mPart (mOp2 fIx (mVar 0) (mK (.int 2)))) mNoP) (mLst (mCons (mK (.int 0)) mNil))) (mK (.int 0)) (tkE x y z cs m a b c d e) = .ok (.fz (.int v)) (tkE x y z cs m a b c d e) := by
  obtain ⟨as, la, ea⟩ := cut_cells cs z
  have i3 : mOp2 fIx (mVar 0) (mK (.int 3)) (tkE x y z cs m a b c d e) = .ok (.fz (.list (cs.map PyData.int))) (tkE x y z cs m a b c d e) := rfl
  have i2 : mOp2 fIx (mVar 0) (mK (.int 2)) (tkE x y z cs m a b c d e) = .ok (.fz (.int z)) (tkE x y z cs m a b c d e) := rfl
  have sl : mSl (mOp2 fIx (mVar 0) (mK (.int 3))) (mPart (mOp2 fIx (mVar 0) (mK (.int 2)))) mNoP (tkE x y z cs m a b c d e) = .ok (.ow (.list (as.map PyData.int))) (tkE x y z cs m a b c d e) := by
    simp only [mSl, i3, mPart, i2, mNoP, Out.bind, peek, fSl, ea]
  have l0 : mLst (mCons (mK (.int 0)) mNil) (tkE x y z cs m a b c d e) = .ok (.ow (.list [.int 0])) (tkE x y z cs m a b c d e) := rfl
  have ad : mOp2 fAdd (mSl (mOp2 fIx (mVar 0) (mK (.int 3))) (mPart (mOp2 fIx (mVar 0) (mK (.int 2)))) mNoP) (mLst (mCons (mK (.int 0)) mNil)) (tkE x y z cs m a b c d e) = .ok (.ow (.list (as.map PyData.int ++ [.int 0]))) (tkE x y z cs m a b c d e) := by
    refine op_ok sl l0 rfl rfl ?_
    show (if RV.isGl (.ow (.list (as.map PyData.int))) = false ∧ RV.isGl (.ow (.list [.int 0])) = false ∧ (as.map PyData.int).length + 1 ≤ sizeLine then some (RV.ow (.list (as.map PyData.int ++ [.int 0]))) else none) = _
    rw [if_pos ⟨rfl, rfl, by rw [List.length_map]; have q : 64 ≤ sizeLine := (by decide); omega⟩]
  have : ∃ v : Int, (as.map PyData.int ++ [.int 0])[0]? = some (.int v) := by
    cases as with
    | nil => exact ⟨0, rfl⟩
    | cons v as => exact ⟨v, rfl⟩
  obtain ⟨v, hv⟩ := this
  refine ⟨v, op_ok ad (mb := mK (.int 0)) rfl rfl rfl ?_⟩
  show (atI (as.map PyData.int ++ [.int 0]) 0).map RV.fz = _
  rw [at_0, hv]
  rfl
theorem put_ok (i : Nat) {k : Nat} {m : M RV} {Γ : DZ.Env} {v : Int} {ds : List PyData} (h : m Γ = .ok (.fz (.int v)) Γ) (g : Γ[i]? = some (some (.ow (.list ds)))) (hk : k < ds.length) : mPutIx i (mK (.int (k : Nat))) m Γ = .nx (Γ.set i (some (.ow (.list (ds.set k (.int v)))))) := by
  have e : ixN ds.length (k : Int) = some k := by
    unfold ixN
    rw [if_pos (by omega), if_pos (by omega)]
    rfl
  unfold mPutIx
  simp only [h, Out.fl, frz, g, mK, putIx, peek, e]
theorem tk_one (x y z : Int) (cs : List Int) (hc : cs.length ≤ 63) (m : Nat) (a b c d e : Option SV) : ∃ x' y' z' d' e', mSeq (mSet 4 (mOp2 fIx (mOp2 fAdd (mSl (mOp2 fIx (mVar 0) (mK (.int 3))) (mPart (mOp2 fIx (mVar 0) (mK (.int 2)))) mNoP) (mLst (mCons (mK (.int 0)) mNil))) (mK (.int 0)))) (mSeq (mAugIx 0 (mK (.int 2)) (mK (.int 1))) (mSeq (mIf (mTest (mOp2 fGe (mVar 4) (mOp2 fPow (mK (.int 10)) (mK (.int 18))))) (mPutIx 0 (mK (.int 0)) (mVar 4)) mSkip) (mSeq (mSet 5 (mOp2 fAdd (mOp2 fAdd (mOp2 fMul (mOp2 fIx (mVar 0) (mK (.int 1))) (mK (.int 48271))) (mOp2 fMod (mBlt fInt (mCons (mVar 4) mNil)) (mK (.int 2147483647)))) (mOp2 fMul (mK (.int 7919)) (mOp2 fIx (mVar 0) (mK (.int 2)))))) (mPutIx 0 (mK (.int 1)) (mOp2 fMod (mBlt fInt (mCons (mVar 5) mNil)) (mK (.int 2147483647))))))) (tkE x y z cs m a b c d e) = .nx (tkE x' y' z' cs m a b d' e' e) := by
  obtain ⟨v, hv⟩ := tk_cell x y z cs hc m a b c d e
  have s1 := set_fz (i := 4) hv
  have s2 : mAugIx 0 (mK (.int 2)) (mK (.int 1)) (tkE x y z cs m a b (some (.fz (.int v))) d e) = .nx (tkE x y (z + 1) cs m a b (some (.fz (.int v))) d e) := rfl
  have g1 : mOp2 fGe (mVar 4) (mOp2 fPow (mK (.int 10)) (mK (.int 18))) (tkE x y (z + 1) cs m a b (some (.fz (.int v))) d e) = .ok (.fz (.bool (decide (1000000000000000000 ≤ v)))) (tkE x y (z + 1) cs m a b (some (.fz (.int v))) d e) := by
    have p : mOp2 fPow (mK (.int 10)) (mK (.int 18)) (tkE x y (z + 1) cs m a b (some (.fz (.int v))) d e) = .ok (.fz (.int 1000000000000000000)) (tkE x y (z + 1) cs m a b (some (.fz (.int v))) d e) := rfl
    exact op_ok (ma := mVar 4) (r := .fz (.int v)) rfl p rfl rfl rfl
  have s3 : ∃ x', mIf (mTest (mOp2 fGe (mVar 4) (mOp2 fPow (mK (.int 10)) (mK (.int 18))))) (mPutIx 0 (mK (.int 0)) (mVar 4)) mSkip (tkE x y (z + 1) cs m a b (some (.fz (.int v))) d e) = .nx (tkE x' y (z + 1) cs m a b (some (.fz (.int v))) d e) := by
    have t := test_ok g1
    by_cases q : 1000000000000000000 ≤ v
    · rw [decide_eq_true q] at t
      exact ⟨v, (if_t t).trans (put_ok 0 (k := 0) (v := v) (m := mVar 4) (ds := [.int x, .int y, .int (z + 1), .list (cs.map PyData.int)]) rfl rfl (by show 0 < 4; decide))⟩
    · rw [decide_eq_false q] at t
      exact ⟨x, (if_f t).trans rfl⟩
  obtain ⟨x', s3⟩ := s3
  have i1 : mOp2 fIx (mVar 0) (mK (.int 1)) (tkE x' y (z + 1) cs m a b (some (.fz (.int v))) d e) = .ok (.fz (.int y)) (tkE x' y (z + 1) cs m a b (some (.fz (.int v))) d e) := rfl
  have i2 : mOp2 fIx (mVar 0) (mK (.int 2)) (tkE x' y (z + 1) cs m a b (some (.fz (.int v))) d e) = .ok (.fz (.int (z + 1))) (tkE x' y (z + 1) cs m a b (some (.fz (.int v))) d e) := rfl
  have v4 : mVar 4 (tkE x' y (z + 1) cs m a b (some (.fz (.int v))) d e) = .ok (.fz (.int v)) (tkE x' y (z + 1) cs m a b (some (.fz (.int v))) d e) := rfl
  have w5 := v_add (v_add (v_mul i1 (mb := mK (.int 48271)) rfl (mulr _ _ (by decide))) (v_mod (v_int v4) (mb := mK (.int 2147483647)) rfl (by decide))) (v_mul (ma := mK (.int 7919)) rfl i2 (mull _ _ (by decide)))
  have s4 := set_fz (i := 5) w5
  have v5 : mVar 5 (tkE x' y (z + 1) cs m a b (some (.fz (.int v))) (some (.fz (.int (y * 48271 + v % 2147483647 + 7919 * (z + 1))))) e) = .ok (.fz (.int (y * 48271 + v % 2147483647 + 7919 * (z + 1)))) (tkE x' y (z + 1) cs m a b (some (.fz (.int v))) (some (.fz (.int (y * 48271 + v % 2147483647 + 7919 * (z + 1))))) e) := rfl
  have w6 := v_mod (v_int v5) (mb := mK (.int 2147483647)) rfl (by decide)
  have s5 := put_ok 0 (k := 1) (ds := [.int x', .int y, .int (z + 1), .list (cs.map PyData.int)]) w6 rfl (by show 1 < 4; decide)
  exact ⟨x', _, z + 1, _, _, (seq_n s1).trans ((seq_n s2).trans ((seq_n s3).trans ((seq_n s4).trans s5)))⟩
theorem tk_two (x y z : Int) (cs : List Int) (m : Nat) (hm : 0 < m ∧ m < 1073741824) (a b c d e : Option SV) : ∃ (v : Int) (x' : Int) (e' : Option SV), 0 ≤ v ∧ v < m ∧ mSeq (mSet 6 (mOp2 fMod (mBlt fInt (mCons (mOp2 fIx (mVar 0) (mK (.int 0))) mNil)) (mVar 1))) (mSeq (mPutIx 0 (mK (.int 0)) (mOp2 fDiv (mBlt fInt (mCons (mOp2 fIx (mVar 0) (mK (.int 0))) mNil)) (mVar 1))) (mRet [0] (mVar 6))) (tkE x y z cs m a b c d e) = .rt (.fz (.int v)) (tkE x' y z cs m a b c d e') := by
  have i0 : ∀ e, mOp2 fIx (mVar 0) (mK (.int 0)) (tkE x y z cs m a b c d e) = .ok (.fz (.int x)) (tkE x y z cs m a b c d e) := fun _ => rfl
  have v1 : ∀ e, mVar 1 (tkE x y z cs m a b c d e) = .ok (.fz (.int (m : Nat))) (tkE x y z cs m a b c d e) := fun _ => rfl
  have s1 := set_fz (i := 6) (v_mod (v_int (i0 e)) (v1 e) (by omega))
  have s2 := put_ok 0 (k := 0) (ds := [.int x, .int y, .int z, .list (cs.map PyData.int)]) (v_div (v_int (i0 (some (.fz (.int (x % (m : Nat))))))) (v1 _) (by omega)) rfl (by show 0 < 4; decide)
  exact ⟨x % (m : Nat), x / (m : Nat), some (.fz (.int (x % (m : Nat)))), Int.emod_nonneg _ (by omega), Int.emod_lt_of_pos _ (by omega), (seq_n s1).trans ((seq_n s2).trans rfl)⟩
theorem tk_three (x y z : Int) (cs : List Int) (m : Nat) (hm : 0 < m ∧ m < 1073741824) (a b c d e : Option SV) : ∃ (v : Int) (a' b' : Option SV), 0 ≤ v ∧ v < m ∧ mSeq (mSet 2 (mOp2 fMod (mBlt fInt (mCons (mOp2 fMul (mOp2 fAdd (mOp2 fIx (mVar 0) (mK (.int 1))) (mK (.int 1))) (mK (.int 39373))) mNil)) (mK (.int 1000000007)))) (mSeq (mSet 3 (mOp2 fMod (mBlt fInt (mCons (mOp2 fMul (mOp2 fMod (mBlt fInt (mCons (mOp2 fMul (mVar 2) (mVar 2)) mNil)) (mK (.int 998244353))) (mK (.int 30011))) mNil)) (mK (.int 998244353)))) (mRet [0] (mOp2 fMod (mBlt fInt (mCons (mOp2 fDiv (mVar 3) (mK (.int 7))) mNil)) (mVar 1)))) (tkE x y z cs m a b c d e) = .rt (.fz (.int v)) (tkE x y z cs m a' b' c d e) := by
  have i1 : mOp2 fIx (mVar 0) (mK (.int 1)) (tkE x y z cs m a b c d e) = .ok (.fz (.int y)) (tkE x y z cs m a b c d e) := rfl
  have w2 := v_mod (v_int (v_mul (v_add i1 (mb := mK (.int 1)) rfl) (mb := mK (.int 39373)) rfl (mulr _ _ (by decide)))) (mb := mK (.int 1000000007)) rfl (by decide)
  have b2 : 0 ≤ (y + 1) * 39373 % 1000000007 ∧ (y + 1) * 39373 % 1000000007 < 1000000007 := ⟨Int.emod_nonneg _ (by decide), Int.emod_lt_of_pos _ (by decide)⟩
  generalize (y + 1) * 39373 % 1000000007 = f at w2 b2
  have s1 := set_fz (i := 2) w2
  have v2 : mVar 2 (tkE x y z cs m (some (.fz (.int f))) b c d e) = .ok (.fz (.int f)) (tkE x y z cs m (some (.fz (.int f))) b c d e) := rfl
  have w3 := v_mod (v_int (v_mul (v_mod (v_int (v_mul v2 v2 (mulr _ _ (by omega)))) (mb := mK (.int 998244353)) rfl (by decide)) (mb := mK (.int 30011)) rfl (mulr _ _ (by decide)))) (mb := mK (.int 998244353)) rfl (by decide)
  generalize f * f % 998244353 * 30011 % 998244353 = g at w3
  have s2 := set_fz (i := 3) w3
  have v3 : mVar 3 (tkE x y z cs m (some (.fz (.int f))) (some (.fz (.int g))) c d e) = .ok (.fz (.int g)) (tkE x y z cs m (some (.fz (.int f))) (some (.fz (.int g))) c d e) := rfl
  have v1 : mVar 1 (tkE x y z cs m (some (.fz (.int f))) (some (.fz (.int g))) c d e) = .ok (.fz (.int (m : Nat))) (tkE x y z cs m (some (.fz (.int f))) (some (.fz (.int g))) c d e) := rfl
  have w4 := v_mod (v_int (v_div v3 (mb := mK (.int 7)) rfl (by decide))) v1 (by omega)
  exact ⟨g / 7 % (m : Nat), some (.fz (.int f)), some (.fz (.int g)), Int.emod_nonneg _ (by omega), Int.emod_lt_of_pos _ (by omega), (seq_n s1).trans ((seq_n s2).trans (ret_fz w4))⟩
theorem ev_take (x y z : Int) (cs : List Int) (hc : cs.length ≤ 63) (m : Nat) (hm : 0 < m ∧ m < 1073741824) : ∃ (v : Nat) (x' y' z' : Int), v < m ∧ f__law_take [.ow (bag x y z cs), .fz (.int (m : Nat))] = .ret (.fz (.int (v : Nat))) (some (.ow (bag x' y' z' cs))) := by
  have key : ∃ (v : Int) (x' y' z' : Int) (a b c d e : Option SV), 0 ≤ v ∧ v < m ∧ b__law_take (tkE x y z cs m none none none none none) = .rt (.fz (.int v)) (tkE x' y' z' cs m a b c d e) := by
    unfold b__law_take
    have i0 : mOp2 fIx (mVar 0) (mK (.int 0)) (tkE x y z cs m none none none none none) = .ok (.fz (.int x)) (tkE x y z cs m none none none none none) := rfl
    have t0 := test_ok (op_ok i0 (mb := mK (.int 0)) rfl rfl rfl (feq_int _ _ _ _))
    have one : ∃ x' y' z' c' d', mIf (mTest (mOp2 fEq (mOp2 fIx (mVar 0) (mK (.int 0))) (mK (.int 0)))) (mSeq (mSet 4 (mOp2 fIx (mOp2 fAdd (mSl (mOp2 fIx (mVar 0) (mK (.int 3))) (mPart (mOp2 fIx (mVar 0) (mK (.int 2)))) mNoP) (mLst (mCons (mK (.int 0)) mNil))) (mK (.int 0)))) (mSeq (mAugIx 0 (mK (.int 2)) (mK (.int 1))) (mSeq (mIf (mTest (mOp2 fGe (mVar 4) (mOp2 fPow (mK (.int 10)) (mK (.int 18))))) (mPutIx 0 (mK (.int 0)) (mVar 4)) mSkip) (mSeq (mSet 5 (mOp2 fAdd (mOp2 fAdd (mOp2 fMul (mOp2 fIx (mVar 0) (mK (.int 1))) (mK (.int 48271))) (mOp2 fMod (mBlt fInt (mCons (mVar 4) mNil)) (mK (.int 2147483647)))) (mOp2 fMul (mK (.int 7919)) (mOp2 fIx (mVar 0) (mK (.int 2)))))) (mPutIx 0 (mK (.int 1)) (mOp2 fMod (mBlt fInt (mCons (mVar 5) mNil)) (mK (.int 2147483647)))))))) mSkip (tkE x y z cs m none none none none none) = .nx (tkE x' y' z' cs m none none c' d' none) := by
      by_cases q : x = 0
      · rw [decide_eq_true q] at t0
        obtain ⟨x', y', z', c', d', e⟩ := tk_one x y z cs hc m none none none none none
        exact ⟨x', y', z', c', d', (if_t t0).trans e⟩
      · rw [decide_eq_false q] at t0
        exact ⟨x, y, z, none, none, (if_f t0).trans rfl⟩
    obtain ⟨x', y', z', c', d', e1⟩ := one
    have i1 : mOp2 fIx (mVar 0) (mK (.int 0)) (tkE x' y' z' cs m none none c' d' none) = .ok (.fz (.int x')) (tkE x' y' z' cs m none none c' d' none) := rfl
    have t1 : mTest (mOp2 fGt (mOp2 fIx (mVar 0) (mK (.int 0))) (mK (.int 0))) (tkE x' y' z' cs m none none c' d' none) = .ok (decide (0 < x')) (tkE x' y' z' cs m none none c' d' none) := test_ok (op_ok i1 (mb := mK (.int 0)) rfl rfl rfl rfl)
    by_cases q : 0 < x'
    · rw [decide_eq_true q] at t1
      obtain ⟨v, x2, e2, h1, h2, h3⟩ := tk_two x' y' z' cs m hm none none c' d' none
      exact ⟨v, x2, y', z', none, none, c', d', e2, h1, h2, (seq_n e1).trans (ifr t1 h3)⟩
    · rw [decide_eq_false q] at t1
      obtain ⟨v, a2, b2, h1, h2, h3⟩ := tk_three x' y' z' cs m hm none none c' d' none
      exact ⟨v, x', y', z', a2, b2, c', d', none, h1, h2, (seq_n e1).trans ((ifs t1).trans h3)⟩
  obtain ⟨v, x', y', z', a, b, c, d, e, h1, h2, h3⟩ := key
  obtain ⟨n, rfl⟩ := Int.eq_ofNat_of_zero_le h1
  exact ⟨n, x', y', z', by omega, fn_io h3⟩
end KW

set_option maxRecDepth 100000
set_option maxHeartbeats 1000000
namespace KW
open PySem PySem.Spec L2 DZ

theorem io_ok {i : Nat} {C : List SV → Fo} {m : M RV} {Γ : DZ.Env} {r : RV} {a : PyData} {b b' v : PyData} (hi : Γ[i]? = some (some (.ow b))) (h : m Γ = .ok r Γ) (f : frz r Γ = .ok a Γ) (c : C [.ow b, .fz a] = .ret (.fz v) (some (.ow b'))) : mCallIo C (mCons (mVar i) (mCons m mNil)) Γ = .ok (.fz v) (Γ.set i (some (.ow b'))) := by
  have vi : mVar i Γ = .ok (.br i) Γ := by
    unfold mVar
    rw [hi]
  have rc : recv Γ (.br i) = some (.ow b) := by
    unfold recv
    simp only [hi]
    rfl
  simp only [mCallIo, mCons, mNil, vi, h, Out.bind, frzs, f, callIo, rc, List.map, c, rvOf, back]
theorem ev_some (x y z : Int) (cs : List Int) (hc : cs.length ≤ 63) (ds : List PyData) (hd : 0 < ds.length ∧ ds.length < 1000) : ∃ (d : PyData) (x' y' z' : Int), d ∈ ds ∧ f__law_some [.ow (bag x y z cs), .fz (.list ds)] = .ret (.fz d) (some (.ow (bag x' y' z' cs))) := by
  obtain ⟨v, x', y', z', hv, t⟩ := ev_take x y z cs hc ds.length (by omega)
  obtain ⟨d, hd2⟩ : ∃ d, ds[v]? = some d := ⟨ds[v], List.getElem?_eq_getElem hv⟩
  refine ⟨d, x', y', z', List.mem_of_getElem? hd2, ?_⟩
  unfold f__law_some b__law_some
  have l : mBlt fLen (mCons (mVar 1) mNil) [some (.ow (bag x y z cs)), some (.fz (.list ds))] = .ok (.fz (.int (ds.length : Nat))) [some (.ow (bag x y z cs)), some (.fz (.list ds))] := rfl
  have c := io_ok (i := 0) (Γ := [some (.ow (bag x y z cs)), some (.fz (.list ds))]) rfl l rfl t
  have o : mOp2 fIx (mVar 1) (mCallIo f__law_take (mCons (mVar 0) (mCons (mBlt fLen (mCons (mVar 1) mNil)) mNil))) [some (.ow (bag x y z cs)), some (.fz (.list ds))] = .ok (.fz d) [some (.ow (bag x' y' z' cs)), some (.fz (.list ds))] := by
    refine op_ok (ma := mVar 1) (r := .fz (.list ds)) rfl c rfl rfl ?_
    show (atI ds ((v : Nat) : Int)).map RV.fz = _
    rw [at_nat, hd2]
    rfl
  exact fn_io (ret_fz o)

/-! ### what is no log -/
theorem no_text {d : PyData} (h : f_is_log [.fz d] = .ret (.fz (.bool false)) none) : f_log_text [.fz d] = .ex ⟨"Nothing", []⟩ none := by
  unfold f_log_text b_log_text
  have c := not_ok (truth_ok (call_1 (m := mVar 0) (Γ := [some (.fz d), none]) rfl rfl h))
  exact fn_ex (Γ := [some (.fz d), none]) (seq_x (if_t c))
theorem no_tuple {d : PyData} (h : tyN d = some "NoneType" ∨ tyN d = some "int") : f_is_log [.fz d] = .ret (.fz (.bool false)) none := by
  unfold f_is_log b_is_log
  have a : mIsi "tuple" (mVar 0) [some (.fz d), none] = .ok (.fz (.bool false)) [some (.fz d), none] := by
    have v : mVar 0 [some (.fz d), none] = .ok (.fz d) [some (.fz d), none] := rfl
    rcases h with h | h <;> (simp only [mIsi, v, Out.bind, peek, Option.bind, h]; rfl)
  exact fn_rt (Γ := [some (.fz d), none]) (ret_fz (andV_ok (b := false) a fun z => by cases z))
theorem no_event {d : PyData} (h : f_is_logged [.fz d] = .ret (.fz (.bool false)) none) : f_is_log [.fz (.tuple [d])] = .ret (.fz (.bool false)) none := by
  unfold f_is_log b_is_log
  have a : mIsi "tuple" (mVar 0) [some (.fz (.tuple [d])), none] = .ok (.fz (.bool true)) [some (.fz (.tuple [d])), none] := rfl
  have b : mOp2 fLe (mBlt fLen (mCons (mVar 0) mNil)) (mK (.int 2000)) [some (.fz (.tuple [d])), none] = .ok (.fz (.bool true)) [some (.fz (.tuple [d])), none] := rfl
  have l := mlc_run (v := 1) (mi := mSeqI (mVar 0)) (tt := mYes) (te := mCallP f_is_logged (mCons (mVar 1) mNil)) (Γ := [some (.fz (.tuple [d])), none]) [d] (fun _ => true) (fun _ => .bool false) rfl (by show 1 ≤ sizeLine; decide) (by
    intro e m
    cases List.mem_singleton.mp m
    exact ⟨rfl, fun _ => ⟨_, call_1 (m := mVar 1) (r := .fz d) rfl rfl h, rfl⟩⟩)
  have c : mBlt fAll (mCons (mLc [1] (mSeqI (mVar 0)) (gN 1) mYes (mCallP f_is_logged (mCons (mVar 1) mNil))) mNil) [some (.fz (.tuple [d])), none] = .ok (.fz (.bool false)) [some (.fz (.tuple [d])), none] := by
    simp only [mBlt, mCons, mNil, l, Out.bind, peeks, peek, fAll]
    rfl
  exact fn_rt (Γ := [some (.fz (.tuple [d])), none]) (ret_fz (andV_ok a fun _ => andV_ok b fun _ => c))
def odds : List PyData := [.none, .int 5, .tuple [.tuple [.str "sign", .int 0]], .tuple [.tuple [.str "sign", .int 0, .str "A"]], .tuple [.tuple [.str "over", .int 400]], .tuple [.str "go"], .tuple [.tuple [.str "end"]], .tuple [.tuple [.str "over", .bool true]], .tuple [.tuple [.str "sign", .int (-1), .str "a"]]]
theorem odd_1 : f_is_logged [.fz (.tuple [.str "sign", .int 0])] = .ret (.fz (.bool false)) none := by kernel_rfl
theorem odd_2 : f_is_logged [.fz (.tuple [.str "sign", .int 0, .str "A"])] = .ret (.fz (.bool false)) none := by kernel_rfl
theorem odd_3 : f_is_logged [.fz (.tuple [.str "over", .int 400])] = .ret (.fz (.bool false)) none := by kernel_rfl
theorem odd_4 : f_is_logged [.fz (.str "go")] = .ret (.fz (.bool false)) none := by kernel_rfl
theorem odd_5 : f_is_logged [.fz (.tuple [.str "end"])] = .ret (.fz (.bool false)) none := by kernel_rfl
theorem odd_6 : f_is_logged [.fz (.tuple [.str "over", .bool true])] = .ret (.fz (.bool false)) none := by kernel_rfl
theorem odd_7 : f_is_logged [.fz (.tuple [.str "sign", .int (-1), .str "a"])] = .ret (.fz (.bool false)) none := by kernel_rfl
theorem odd_all : ∀ d ∈ odds, f_is_log [.fz d] = .ret (.fz (.bool false)) none := by
  intro d m
  simp only [odds, List.mem_cons, List.not_mem_nil, or_false] at m
  rcases m with rfl | rfl | rfl | rfl | rfl | rfl | rfl | rfl | rfl
  · exact no_tuple (.inl rfl)
  · exact no_tuple (.inr rfl)
  · exact no_event odd_1
  · exact no_event odd_2
  · exact no_event odd_3
  · exact no_event odd_4
  · exact no_event odd_5
  · exact no_event odd_6
  · exact no_event odd_7
end KW

set_option maxRecDepth 100000
set_option maxHeartbeats 1000000
namespace KW
open PySem PySem.Spec L2 DZ

/-! ### the law's own run -/
theorem vz {i : Nat} {Γ : DZ.Env} {d : PyData} (h : Γ[i]? = some (some (.fz d))) : mVar i Γ = .ok (.fz d) Γ := by
  unfold mVar
  rw [h]
theorem vb {i : Nat} {Γ : DZ.Env} {d : PyData} (h : Γ[i]? = some (some (.ow d))) : mVar i Γ = .ok (.br i) Γ ∧ peek Γ (.br i) = some d := by
  refine ⟨?_, ?_⟩
  · unfold mVar
    rw [h]
  · show slotD Γ i = some d
    unfold slotD
    rw [h]
theorem gs {i : Nat} {Γ : DZ.Env} {x : Option SV} (h : i < Γ.length) : (Γ.set i x)[i]? = some x := List.getElem?_set_self h
theorem gn {i j : Nat} {Γ : DZ.Env} {x : Option SV} (h : i ≠ j) : (Γ.set i x)[j]? = Γ[j]? := List.getElem?_set_ne h
theorem sl {i : Nat} {Γ : DZ.Env} {x : Option SV} {n : Nat} (h : Γ.length = n) : (Γ.set i x).length = n := by rw [List.length_set]; exact h
def BagIn (Γ : DZ.Env) : Prop := ∃ x y z cs, cs.length ≤ 63 ∧ Γ[1]? = some (some (.ow (bag x y z cs)))
theorem BagIn.set {Γ : DZ.Env} {i : Nat} {x : Option SV} (h : BagIn Γ) (n : i ≠ 1) : BagIn (Γ.set i x) := by
  obtain ⟨a, b, c, cs, l, e⟩ := h
  exact ⟨a, b, c, cs, l, by rw [gn n]; exact e⟩
theorem st_take {Γ : DZ.Env} {n : Nat} (hl : Γ.length = n + 2) (h : BagIn Γ) {m : M RV} {k : Nat} (hm : m Γ = .ok (.fz (.int (k : Nat))) Γ) (hk : 0 < k ∧ k < 1073741824) : ∃ v b, v < k ∧ BagIn (Γ.set 1 b) ∧ mCallIo f__law_take (mCons (mVar 1) (mCons m mNil)) Γ = .ok (.fz (.int (v : Nat))) (Γ.set 1 b) := by
  obtain ⟨x, y, z, cs, lc, e⟩ := h
  obtain ⟨v, x', y', z', hv, t⟩ := ev_take x y z cs lc k hk
  exact ⟨v, _, hv, ⟨x', y', z', cs, lc, gs (by omega)⟩, io_ok e hm rfl t⟩
theorem st_some {Γ : DZ.Env} {n : Nat} (hl : Γ.length = n + 2) (h : BagIn Γ) {m : M RV} {ds : List PyData} (hm : m Γ = .ok (.ow (.list ds)) Γ) (hd : 0 < ds.length ∧ ds.length < 1000) : ∃ d b, d ∈ ds ∧ BagIn (Γ.set 1 b) ∧ mCallIo f__law_some (mCons (mVar 1) (mCons m mNil)) Γ = .ok (.fz d) (Γ.set 1 b) := by
  obtain ⟨x, y, z, cs, lc, e⟩ := h
  obtain ⟨d, x', y', z', hd2, t⟩ := ev_some x y z cs lc ds hd
  exact ⟨d, _, hd2, ⟨x', y', z', cs, lc, gs (by omega)⟩, io_ok e hm rfl t⟩

/-- a drawn event -/
structure Sm (e : Ev) : Prop where
  ok : evOk e = true
  as : As (evL e)
  n : (evL e).length ≤ 10
theorem as_small {l : Li} (h : ∀ c ∈ l, c < 128) (n : l.length ≤ 10) : As l := ⟨h, by omega⟩
theorem fig_as {t : Li} (h : fig t = true) : ∀ c ∈ t, c < 128 := fun c m => by
  have := of_decide_eq_true (List.all_eq_true.mp (fig_dig h) c m)
  omega
theorem sm_over {t : Li} (h : fig t = true) (n : t ≠ []) : Sm (.over t) := by
  have l := fig_len h
  have q : (evL (.over t)).length ≤ 10 := by
    show (Lob ++ t).length ≤ 10
    rw [List.length_append]
    show 5 + t.length ≤ 10
    omega
  refine ⟨by simp [evOk, h, n], as_small (fun c m => ?_) q, q⟩
  rcases List.mem_append.mp m with m | m
  · exact as_ob.ch c m
  · exact fig_as h c m
theorem sm_sign {t : Li} {c : Nat} (h : fig t = true) (n : t ≠ []) (lc : letter c = true) : Sm (.sign t c) := by
  have l := fig_len h
  have q : (evL (.sign t c)).length ≤ 10 := by
    show (Lsb ++ (t ++ 32 :: [c])).length ≤ 10
    rw [List.length_append, List.length_append]
    show 5 + (t.length + 2) ≤ 10
    omega
  have c2 := of_decide_eq_true lc
  refine ⟨by simp [evOk, h, n, lc], as_small (fun x m => ?_) q, q⟩
  rcases List.mem_append.mp m with m | m
  · exact as_sb.ch x m
  · rcases List.mem_append.mp m with m | m
    · exact fig_as h x m
    · simp only [List.mem_cons, List.not_mem_nil, or_false] at m
      rcases m with rfl | rfl <;> omega
theorem sm_go : Sm .go := ⟨rfl, as_go, by decide⟩
theorem sm_cut : Sm .cut := ⟨rfl, as_cut, by decide⟩
theorem drawn_num {d : PyData} (h : d ∈ [PyData.int 0, .int 1, .int 7, .int 12, .int 40, .int 399]) : ∃ t : Li, fig t = true ∧ t ≠ [] ∧ d = .int (num t : Nat) := by
  simp only [List.mem_cons, List.not_mem_nil, or_false] at h
  rcases h with rfl | rfl | rfl | rfl | rfl | rfl
  · exact ⟨[48], by decide, by decide, rfl⟩
  · exact ⟨[49], by decide, by decide, rfl⟩
  · exact ⟨[55], by decide, by decide, rfl⟩
  · exact ⟨[49, 50], by decide, by decide, rfl⟩
  · exact ⟨[52, 48], by decide, by decide, rfl⟩
  · exact ⟨[51, 57, 57], by decide, by decide, rfl⟩
theorem lit_e : ("e" : Str) = mk [101] := by rfl
theorem drawn_sign {d : PyData} (h : d ∈ [PyData.str "a", .str "e", .str "z"]) : ∃ c, letter c = true ∧ d = .str (mk [c]) := by
  simp only [List.mem_cons, List.not_mem_nil, or_false] at h
  rcases h with rfl | rfl | rfl
  · exact ⟨97, by decide, by rw [lit_a]⟩
  · exact ⟨101, by decide, by rw [lit_e]⟩
  · exact ⟨122, by decide, by rw [lit_z]⟩
abbrev lwA : DZ.Env → Fl := (mSeq (mSet 8 (mCallIo f__law_some (mCons (mVar 1) (mCons (mLst (mCons (mK (.int 0)) (mCons (mK (.int 1)) (mCons (mK (.int 7)) (mCons (mK (.int 12)) (mCons (mK (.int 40)) (mCons (mK (.int 399)) mNil))))))) mNil)))) (mEx (mBmL 2 cAppend (mCons (mOp2 fIx (mLst (mCons (mTup (mCons (mK (.str "go")) mNil)) (mCons (mTup (mCons (mK (.str "cut")) mNil)) (mCons (mTup (mCons (mK (.str "over")) (mCons (mVar 8) mNil))) (mCons (mTup (mCons (mK (.str "sign")) (mCons (mVar 8) (mCons (mCallIo f__law_some (mCons (mVar 1) (mCons (mLst (mCons (mK (.str "a")) (mCons (mK (.str "e")) (mCons (mK (.str "z")) mNil)))) mNil))) mNil)))) mNil))))) (mCallIo f__law_take (mCons (mVar 1) (mCons (mK (.int 4)) mNil)))) mNil))))
theorem lw_event {Γ : DZ.Env} {es : List Ev} (hl : Γ.length = 18) (hb : BagIn Γ) (h2 : Γ[2]? = some (some (.ow (.list (es.map evD))))) (n : es.length < 1000) : ∃ Γ' e, lwA Γ = .nx Γ' ∧ Γ'.length = 18 ∧ BagIn Γ' ∧ Γ'[2]? = some (some (.ow (.list ((es ++ [e]).map evD)))) ∧ Sm e := by
  obtain ⟨d, b, hd, hb1, s1⟩ := st_some (n := 16) hl hb (m := mLst (mCons (mK (.int 0)) (mCons (mK (.int 1)) (mCons (mK (.int 7)) (mCons (mK (.int 12)) (mCons (mK (.int 40)) (mCons (mK (.int 399)) mNil))))))) rfl (by decide : 0 < 6 ∧ 6 < 1000)
  obtain ⟨t, ft, nt, rfl⟩ := drawn_num hd
  have s2 := set_fz (i := 8) s1
  have l1 : ((Γ.set 1 b).set 8 (some (.fz (.int (num t : Nat))))).length = 18 := sl (sl hl)
  have b1 : BagIn ((Γ.set 1 b).set 8 (some (.fz (.int (num t : Nat))))) := hb1.set (by decide)
  have g2 : ((Γ.set 1 b).set 8 (some (.fz (.int (num t : Nat)))))[2]? = some (some (.ow (.list (es.map evD)))) := by rw [gn (by decide), gn (by decide)]; exact h2
  have g8 : ((Γ.set 1 b).set 8 (some (.fz (.int (num t : Nat)))))[8]? = some (some (.fz (.int (num t : Nat)))) := gs (by rw [List.length_set, hl]; decide)
  generalize (Γ.set 1 b).set 8 (some (.fz (.int (num t : Nat)))) = Γ1 at s2 l1 b1 g2 g8
  have v8 := vz g8
  obtain ⟨d, b', hd, hb2, s3⟩ := st_some (n := 16) l1 b1 (m := mLst (mCons (mK (.str "a")) (mCons (mK (.str "e")) (mCons (mK (.str "z")) mNil)))) rfl (by decide : 0 < 3 ∧ 3 < 1000)
  obtain ⟨c, lc, rfl⟩ := drawn_sign hd
  have l2 : (Γ1.set 1 b').length = 18 := sl l1
  have g3 : (Γ1.set 1 b')[2]? = some (some (.ow (.list (es.map evD)))) := by rw [gn (by decide)]; exact g2
  generalize Γ1.set 1 b' = Γ2 at s3 l2 hb2 g3
  have h1 : mTup (mCons (mK (.str "go")) mNil) Γ1 = .ok (.fz (evD .go)) Γ1 := by rw [lit_go]; rfl
  have h2 : mTup (mCons (mK (.str "cut")) mNil) Γ1 = .ok (.fz (evD .cut)) Γ1 := by rw [lit_cut]; rfl
  have h3 : mTup (mCons (mK (.str "over")) (mCons (mVar 8) mNil)) Γ1 = .ok (.fz (evD (.over t))) Γ1 := tup_2 (tv_over Γ1).v v8
  have h4 : mTup (mCons (mK (.str "sign")) (mCons (mVar 8) (mCons (mCallIo f__law_some (mCons (mVar 1) (mCons (mLst (mCons (mK (.str "a")) (mCons (mK (.str "e")) (mCons (mK (.str "z")) mNil)))) mNil))) mNil))) Γ1 = .ok (.fz (evD (.sign t c))) Γ2 := by
    have vs := (tv_sign Γ1).v
    generalize mCallIo f__law_some (mCons (mVar 1) (mCons (mLst (mCons (mK (.str "a")) (mCons (mK (.str "e")) (mCons (mK (.str "z")) mNil)))) mNil)) = M at s3
    simp only [mTup, mCons, vs, v8, s3, mNil, Out.bind, frzs, frz]
    rfl
  obtain ⟨v, b3, hv, hb3, s4⟩ := st_take (n := 16) l2 hb2 (m := mK (.int 4)) (k := 4) rfl (by decide)
  have l3 : (Γ2.set 1 b3).length = 18 := sl l2
  have g4 : (Γ2.set 1 b3)[2]? = some (some (.ow (.list (es.map evD)))) := by rw [gn (by decide)]; exact g3
  generalize Γ2.set 1 b3 = Γ3 at s4 l3 hb3 g4
  have ev : ∃ e, [evD .go, evD .cut, evD (.over t), evD (.sign t c)][v]? = some (evD e) ∧ Sm e := by
    match v, hv with
    | 0, _ => exact ⟨.go, rfl, sm_go⟩
    | 1, _ => exact ⟨.cut, rfl, sm_cut⟩
    | 2, _ => exact ⟨.over t, rfl, sm_over ft nt⟩
    | 3, _ => exact ⟨.sign t c, rfl, sm_sign ft nt lc⟩
    | v + 4, hv => omega
  obtain ⟨e, he, se⟩ := ev
  refine ⟨Γ3.set 2 (some (.ow (.list (es.map evD ++ [evD e])))), e, (seq_n s2).trans (app_ok g2 (op_ok (r := .ow (.list [evD .go, evD .cut, evD (.over t), evD (.sign t c)])) ?_ s4 rfl rfl ?_) g4 ?_), sl l3, hb3.set (by decide), ?_, se⟩
  · generalize mTup (mCons (mK (.str "sign")) (mCons (mVar 8) (mCons (mCallIo f__law_some (mCons (mVar 1) (mCons (mLst (mCons (mK (.str "a")) (mCons (mK (.str "e")) (mCons (mK (.str "z")) mNil)))) mNil))) mNil))) = M4 at h4
    generalize mTup (mCons (mK (.str "over")) (mCons (mVar 8) mNil)) = M3 at h3
    generalize mTup (mCons (mK (.str "cut")) mNil) = M2 at h2
    generalize mTup (mCons (mK (.str "go")) mNil) = M1 at h1
    simp only [mLst, mCons, h1, h2, h3, h4, mNil, Out.bind, frzs, frz]
  · show (atI [evD .go, evD .cut, evD (.over t), evD (.sign t c)] ((v : Nat) : Int)).map RV.fz = _
    rw [at_nat, he]
    rfl
  · rw [List.length_map]
    exact Nat.lt_of_lt_of_le n (by decide)
  · rw [gs (by rw [l3]; decide), List.map_append]
    rfl
abbrev lwB : DZ.Env → Fl := (mEx (mBmL 9 cAppend (mCons (mBmS fJoin (mK (.str " ")) (mCons (mLc [16] (mSeqI (mVar 4)) (gN 16) mYes (mBlt fStr (mCons (mVar 16) mNil))) mNil)) mNil)))
theorem lw_rows : ∀ (es : List Ev) (rs : List Li) (Γ : DZ.Env), (∀ e ∈ es, Sm e) → rs.length + es.length < 1000 → Γ.length = 18 → Γ[9]? = some (some (.ow (.list (rs.map fun p => .str (mk p))))) → ∃ Γ', loopF (gN 4) lwB (es.map evD) Γ = .nx Γ' ∧ Γ'.length = 18 ∧ Γ'[9]? = some (some (.ow (.list ((rs ++ es.map evL).map fun p => .str (mk p))))) ∧ ∀ i, i ≠ 4 → i ≠ 9 → Γ'[i]? = Γ[i]?
  | [], rs, Γ, _, _, hl, h9 => ⟨Γ, rfl, hl, by rw [List.map_nil, List.append_nil]; exact h9, fun _ _ _ => rfl⟩
  | e :: es, rs, Γ, h, n, hl, h9 => by
    have se := h e List.mem_cons_self
    simp only [List.length_cons] at n
    have g : gN 4 (evD e) Γ = some (Γ.set 4 (some (.fz (evD e)))) := rfl
    have l1 : (Γ.set 4 (some (.fz (evD e)))).length = 18 := sl hl
    have g9 : (Γ.set 4 (some (.fz (evD e))))[9]? = some (some (.ow (.list (rs.map fun p => .str (mk p))))) := by rw [gn (by decide)]; exact h9
    have v4 : mVar 4 (Γ.set 4 (some (.fz (evD e)))) = .ok (.fz (evD e)) (Γ.set 4 (some (.fz (evD e)))) := vz (gs (by rw [hl]; decide))
    have lj := line_join (v := 16) se.ok se.as v4 (by rw [l1]; decide)
    have bd := app_ok g9 lj g9 (by rw [List.length_map]; exact Nat.lt_of_lt_of_le (by omega : rs.length < 1000) (by decide))
    obtain ⟨Γ', e1, e2, e3, e4⟩ := lw_rows es (rs ++ [evL e]) ((Γ.set 4 (some (.fz (evD e)))).set 9 (some (.ow (.list ((rs.map fun p => .str (mk p)) ++ [.str (mk (evL e))]))))) (fun x m => h x (List.mem_cons_of_mem _ m)) (by rw [List.length_append]; simp only [List.length_cons, List.length_nil]; omega) (sl l1) (by
      rw [gs (by rw [l1]; decide), List.map_append]
      rfl)
    refine ⟨Γ', ?_, e2, ?_, fun i n4 n9 => ?_⟩
    · rw [List.map_cons, loopF, g]
      simp only [bd]
      exact e1
    · rw [e3, List.map_cons, List.append_assoc]
      rfl
    · rw [e4 i n4 n9, gn n9.symm, gn n4.symm]
end KW

set_option maxRecDepth 100000
set_option maxHeartbeats 1000000
namespace KW
open PySem PySem.Spec L2 DZ

theorem jn_mem {c : Nat} : ∀ {ps : List Li} {x : Nat}, x ∈ jn c ps → x = c ∨ ∃ p ∈ ps, x ∈ p
  | [], x, m => absurd m List.not_mem_nil
  | [p], x, m => .inr ⟨p, List.mem_cons_self, m⟩
  | p :: q :: r, x, m => by
    have m : x ∈ p ++ c :: jn c (q :: r) := m
    rcases List.mem_append.mp m with m | m
    · exact .inr ⟨p, List.mem_cons_self, m⟩
    · rcases List.mem_cons.mp m with m | m
      · exact .inl m
      · rcases jn_mem m with m | ⟨u, k, m⟩
        · exact .inl m
        · exact .inr ⟨u, List.mem_cons_of_mem _ k, m⟩
theorem jn_le {c k : Nat} : ∀ {ps : List Li}, (∀ p ∈ ps, p.length ≤ k) → (jn c ps).length ≤ ps.length * (k + 1)
  | [], _ => Nat.zero_le _
  | [p], h => by
    have := h p List.mem_cons_self
    show p.length ≤ 1 * (k + 1)
    omega
  | p :: q :: r, h => by
    have a := h p List.mem_cons_self
    have b := jn_le (c := c) (ps := q :: r) fun u m => h u (List.mem_cons_of_mem _ m)
    show (p ++ c :: jn c (q :: r)).length ≤ ((q :: r).length + 1) * (k + 1)
    rw [List.length_append, List.length_cons, Nat.succ_mul]
    omega
theorem txt_as {es : List Ev} (h : ∀ e ∈ es, Sm e) (n : es.length ≤ 5) : As (txt es) ∧ (txt es).length ≤ 100 := by
  have l : (txt es).length ≤ 66 := by
    have := jn_le (c := 10) (k := 10) (ps := es.map evL ++ [Lend]) (by
      intro p m
      rcases List.mem_append.mp m with m | m
      · obtain ⟨e, k, rfl⟩ := List.mem_map.mp m
        exact (h e k).n
      · cases List.mem_singleton.mp m
        decide)
    rw [List.length_append, List.length_map] at this
    have : (txt es).length ≤ (es.length + 1) * 11 := this
    omega
  refine ⟨⟨fun c m => ?_, by omega⟩, by omega⟩
  rcases jn_mem m with rfl | ⟨p, k, m⟩
  · decide
  · rcases List.mem_append.mp k with k | k
    · obtain ⟨e, k2, rfl⟩ := List.mem_map.mp k
      exact (h e k2).as.ch c m
    · cases List.mem_singleton.mp k
      exact as_end.ch c m
theorem ev_no10 : ∀ e : Ev, evOk e = true → 10 ∉ evL e
  | .go, _ => by decide
  | .cut, _ => by decide
  | .over t, h => by
    simp only [evOk, Bool.and_eq_true, bne_iff_ne] at h
    intro m
    rcases List.mem_append.mp m with m | m
    · exact absurd m (by decide)
    · have := List.all_eq_true.mp (fig_dig h.2) 10 m
      exact absurd this (by decide)
  | .sign t c, h => by
    simp only [evOk, Bool.and_eq_true, bne_iff_ne] at h
    intro m
    rcases List.mem_append.mp m with m | m
    · exact absurd m (by decide)
    · rcases List.mem_append.mp m with m | m
      · have := List.all_eq_true.mp (fig_dig h.1.2) 10 m
        exact absurd this (by decide)
      · simp only [List.mem_cons, List.not_mem_nil, or_false] at m
        rcases m with m | m
        · cases m
        · rw [← m] at h
          exact absurd h.2 (by decide)
theorem txt_spl {es : List Ev} (h : ∀ e ∈ es, evOk e = true) : spl 10 (txt es) = es.map evL ++ [Lend] := spl_jn (by simp) (by
  intro p m
  rcases List.mem_append.mp m with m | m
  · obtain ⟨e, k, rfl⟩ := List.mem_map.mp m
    exact ev_no10 e (h e k)
  · cases List.mem_singleton.mp m
    decide)
theorem txt_log {es : List Ev} (h : ∀ e ∈ es, evOk e = true) : isLog (txt es) = true := by
  unfold isLog
  rw [txt_spl h, lst_snoc, List.dropLast_concat, Bool.and_eq_true]
  refine ⟨by decide, List.all_eq_true.mpr fun p m => ?_⟩
  obtain ⟨e, k, rfl⟩ := List.mem_map.mp m
  exact evL_lln e (h e k)
theorem evs_of {es : List Ev} (h : ∀ e ∈ es, Sm e) (n : es.length ≤ 5) : Evs es := ⟨fun e m => (h e m).ok, fun e m => (h e m).as, by omega⟩
theorem read_txt {es : List Ev} (h : ∀ e ∈ es, Sm e) (n : es.length ≤ 5) : f_read_log [.fz (.str (mk (txt es)))] = .ret (.fz (.tuple (es.map evD))) none := by
  have ok : ∀ e ∈ es, evOk e = true := fun e m => (h e m).ok
  obtain ⟨fs, h1, h2, h3⟩ := read_ok (txt_as h n).1 (txt_log ok)
  rw [txt_spl ok] at h2
  have e := evs_inj ok h1 (List.append_cancel_right h2)
  rw [e]
  rw [← e]
  rw [e] at h3 ⊢
  exact h3
/-- the first look: a drawn log -/
theorem lw_first {Γ : DZ.Env} {es : List Ev} (h : ∀ e ∈ es, Sm e) (n : es.length ≤ 5) (h2 : Γ[2]? = some (some (.fz (.tuple (es.map evD))))) (h5 : Γ[5]? = some (some (.fz (.str (mk (txt es)))))) : (mIf (mOr (mTest (mOp2 (fIs true) (mCallP f_is_log (mCons (mVar 2) mNil)) (mK (.bool true)))) (mOr (mTest (mOp2 fNe (mCallP f_log_text (mCons (mVar 2) mNil)) (mVar 5))) (mNot (mTruth (mCallP f__law_alike (mCons (mCallP f_read_log (mCons (mVar 5) mNil)) (mCons (mVar 2) mNil))))))) (mRet [] (mK (.bool false))) mSkip) Γ = .nx Γ := by
  have v2 := vz h2
  have v5 := vz h5
  have E := evs_of h n
  have A := (txt_as h n).1
  have a1 : mTest (mOp2 (fIs true) (mCallP f_is_log (mCons (mVar 2) mNil)) (mK (.bool true))) Γ = .ok false Γ := test_ok (op_ok (call_1 v2 rfl (ev_is_log E)) (mb := mK (.bool true)) rfl rfl rfl rfl)
  have T : Tv (mVar 5) Γ (txt es) := ⟨A, v5⟩
  have L : Tv (mCallP f_log_text (mCons (mVar 2) mNil)) Γ (txt es) := ⟨A, call_1 v2 rfl (ev_log_text E A)⟩
  have a2 := test_ok (L.ne T)
  rw [decide_eq_true rfl] at a2
  have R := T.call (read_txt h n)
  have a3 := not_ok (truth_ok (call_2 R v2 (alike_log E)))
  exact (if_f (or_ok a1 fun _ => or_ok a2 fun _ => a3)).trans rfl
/-- the odd things -/
theorem lw_odd : ∀ (ds : List PyData) (Γ : DZ.Env), (∀ d ∈ ds, f_is_log [.fz d] = .ret (.fz (.bool false)) none) → Γ.length = 18 → ∃ Γ', loopF (gN 7) ((mSeq (mIf (mTest (mOp2 (fIs true) (mCallP f_is_log (mCons (mVar 7) mNil)) (mK (.bool false)))) (mRet [] (mK (.bool false))) mSkip) (mTryN "Nothing" (mSeq (mEx (mCall f_log_text (mCons (mVar 7) mNil))) (mRet [] (mK (.bool false)))) (fun Γ => .ct Γ)))) ds Γ = .nx Γ'
  | [], Γ, _, _ => ⟨Γ, rfl⟩
  | d :: ds, Γ, h, hl => by
    have hd := h d List.mem_cons_self
    have g : gN 7 d Γ = some (Γ.set 7 (some (.fz d))) := rfl
    have l1 : (Γ.set 7 (some (.fz d))).length = 18 := sl hl
    have v7 : mVar 7 (Γ.set 7 (some (.fz d))) = .ok (.fz d) (Γ.set 7 (some (.fz d))) := vz (gs (by rw [hl]; decide))
    obtain ⟨Γ', e⟩ := lw_odd ds (Γ.set 7 (some (.fz d))) (fun x m => h x (List.mem_cons_of_mem _ m)) l1
    generalize Γ.set 7 (some (.fz d)) = Γ1 at g l1 v7 e
    have t : mTest (mOp2 (fIs true) (mCallP f_is_log (mCons (mVar 7) mNil)) (mK (.bool false))) Γ1 = .ok false Γ1 := test_ok (op_ok (call_1 v7 rfl hd) (mb := mK (.bool false)) rfl rfl rfl rfl)
    have c : mCall f_log_text (mCons (mVar 7) mNil) Γ1 = .ex ⟨"Nothing", []⟩ Γ1 := by
      have g1 : ∀ x, giv (.fz x) Γ1 = .ok (.fz x) Γ1 := fun _ => rfl
      simp only [mCall, mCons, mNil, v7, Out.bind, givs, g1, no_text hd]
    have b : mTryN "Nothing" (mSeq (mEx (mCall f_log_text (mCons (mVar 7) mNil))) (mRet [] (mK (.bool false)))) (fun Γ => .ct Γ) Γ1 = .ct Γ1 := by
      have : mSeq (mEx (mCall f_log_text (mCons (mVar 7) mNil))) (mRet [] (mK (.bool false))) Γ1 = .ex ⟨"Nothing", []⟩ Γ1 := seq_x (by
        unfold mEx
        rw [c]
        rfl)
      unfold mTryN
      rw [this]
      exact if_pos rfl
    refine ⟨Γ', ?_⟩
    have bd := (ifs (m := mRet [] (mK (.bool false))) t).trans b
    rw [loopF, g]
    simp only [bd]
    exact e
theorem seq_c {m1 m2 : DZ.Env → Fl} {Γ Γ1 : DZ.Env} (h : m1 Γ = .ct Γ1) : mSeq m1 m2 Γ = .ct Γ1 := by
  unfold mSeq
  rw [h]
theorem try_ok {i : Nat} {mb mS : DZ.Env → Fl} {mE : M RV} {Γ Γ1 : DZ.Env} {l c : Int} (h : mb Γ = .ex (bt l c) Γ1) (hi : i < Γ1.length) (hE : mE (Γ1.set i none) = .ok (.fz (.tuple [.int l, .int c])) (Γ1.set i none)) : mTryX i "BadText" mb mE mS Γ = .nx (Γ1.set i none) := by
  have e1 : (bt l c).fs.lookup ("line" : Str) = some (.int l) := rfl
  have e2 : (bt l c).fs.lookup ("column" : Str) = some (.int c) := rfl
  have sh : SeqAt.shaped (.tuple [.int l, .int c]) = true := by simp [SeqAt.shaped, PyData.canLay0, PyData.canLayAll0, PyData.depth, PyData.depthAll]
  unfold mTryX
  rw [h]
  show (if (bt l c).c = "BadText" ∧ i < Γ1.length then _ else _) = _
  rw [if_pos ⟨rfl, hi⟩]
  simp only [e1, e2, hE, Out.fl, eqOr, peek]
  rw [if_pos sh, if_pos (SeqAt.eqv_refl _ (canLay_of_shaped' sh))]
  show Fl.nx ((Γ1.set i none).set i none) = _
  rw [List.set_set]
end KW

set_option maxRecDepth 100000
set_option maxHeartbeats 1000000
namespace KW
open PySem PySem.Spec L2 DZ

/-! ### bent texts -/
structure Bent (es : List Ev) (Γ : DZ.Env) : Prop where
  len : Γ.length = 18
  bag : BagIn Γ
  txt : Γ[5]? = some (some (.fz (.str (mk (txt es)))))
theorem Bent.set {es : List Ev} {Γ : DZ.Env} {i : Nat} {x : Option SV} (h : Bent es Γ) (n : i ≠ 1) (k : i ≠ 5) : Bent es (Γ.set i x) := ⟨sl h.len, h.bag.set n, by rw [gn k]; exact h.txt⟩
theorem Bent.bg {es : List Ev} {Γ : DZ.Env} {b : Option SV} (h : Bent es Γ) (k : BagIn (Γ.set 1 b)) : Bent es (Γ.set 1 b) := ⟨sl h.len, k, by rw [gn (by decide)]; exact h.txt⟩
theorem par3_ok {i j l : Nat} {ma mb mc : M RV} {Γ Γ1 Γ2 : DZ.Env} {a b c : PyData} (h1 : ma Γ = .ok (.fz a) Γ1) (h2 : mb Γ1 = .ok (.fz b) Γ2) (h3 : mc Γ2 = .ok (.fz c) Γ2) : mPar3 i j l ma mb mc Γ = .nx (((Γ2.set i (some (.fz a))).set j (some (.fz b))).set l (some (.fz c))) := by
  simp only [mPar3, h1, h2, h3, Out.fl, frz]
theorem ite_t {t : M Bool} {ma mb : M RV} {Γ : DZ.Env} (h : t Γ = .ok true Γ) : mIte t ma mb Γ = ma Γ := by
  unfold mIte
  rw [h]
  rfl
theorem ite_f {t : M Bool} {ma mb : M RV} {Γ : DZ.Env} (h : t Γ = .ok false Γ) : mIte t ma mb Γ = mb Γ := by
  unfold mIte
  rw [h]
  rfl
theorem lit_al : ("acdeginorstuvz 0149\n" : Str) = mk [97, 99, 100, 101, 103, 105, 110, 111, 114, 115, 116, 117, 118, 122, 32, 48, 49, 52, 57, 10] := by rfl
/-- the text bent -/
theorem lw_bend {es : List Ev} {Γ : DZ.Env} (h : ∀ e ∈ es, Sm e) (n : es.length ≤ 5) (B : Bent es Γ) : ∃ Γ' u, As u ∧ Γ'[11]? = some (some (.fz (.str (mk u)))) ∧ Bent es Γ' ∧ ∀ m, mSeq ((mPar3 14 15 11 (mCallIo f__law_take (mCons (mVar 1) (mCons (mOp2 fAdd (mBlt fLen (mCons (mVar 5) mNil)) (mK (.int 1))) mNil))) (mCallIo f__law_take (mCons (mVar 1) (mCons (mK (.int 4)) mNil))) (mVar 5))) (mSeq ((mSet 10 (mCallIo f__law_some (mCons (mVar 1) (mCons (mBlt fLstX (mCons (mK (.str "acdeginorstuvz 0149\n")) mNil)) mNil))))) (mSeq ((mSet 11 (mIte (mTest (mOp2 fEq (mVar 15) (mK (.int 0)))) (mOp2 fAdd (mOp2 fAdd (mSl (mVar 5) mNoP (mPart (mVar 14))) (mVar 10)) (mSl (mVar 5) (mPart (mOp2 fAdd (mVar 14) (mK (.int 1)))) mNoP)) (mIte (mTest (mOp2 fEq (mVar 15) (mK (.int 1)))) (mOp2 fAdd (mOp2 fAdd (mSl (mVar 5) mNoP (mPart (mVar 14))) (mVar 10)) (mSl (mVar 5) (mPart (mVar 14)) mNoP)) (mIte (mTest (mOp2 fEq (mVar 15) (mK (.int 2)))) (mOp2 fAdd (mSl (mVar 5) mNoP (mPart (mVar 14))) (mSl (mVar 5) (mPart (mOp2 fAdd (mVar 14) (mK (.int 1)))) mNoP)) (mSl (mVar 5) mNoP (mPart (mVar 14)))))))) m)) Γ = m Γ' := by
  obtain ⟨A, TL⟩ := txt_as h n
  have T5 : Tv (mVar 5) Γ (txt es) := ⟨A, vz B.txt⟩
  have k1 : mOp2 fAdd (mBlt fLen (mCons (mVar 5) mNil)) (mK (.int 1)) Γ = .ok (.fz (.int (((txt es).length + 1 : Nat) : Int))) Γ := addn T5.len (n := mK (.int 1)) (j := 1) rfl
  obtain ⟨a, b1, ha, hb1, s1⟩ := st_take (n := 16) B.len B.bag k1 (by omega)
  have B1 := B.bg hb1
  obtain ⟨w, b2, hw, hb2, s2⟩ := st_take (n := 16) B1.len B1.bag (m := mK (.int 4)) (k := 4) rfl (by decide)
  have B2 := B1.bg hb2
  have p := par3_ok (i := 14) (j := 15) (l := 11) s1 s2 (vz B2.txt)
  have B3 := ((B2.set (i := 14) (x := some (.fz (.int (a : Nat)))) (by decide) (by decide)).set (i := 15) (x := some (.fz (.int (w : Nat)))) (by decide) (by decide)).set (i := 11) (x := some (.fz (.str (mk (txt es))))) (by decide) (by decide)
  have g14 : (((((Γ.set 1 b1).set 1 b2).set 14 (some (.fz (.int (a : Nat))))).set 15 (some (.fz (.int (w : Nat))))).set 11 (some (.fz (.str (mk (txt es))))))[14]? = some (some (.fz (.int (a : Nat)))) := by
    rw [gn (by decide), gn (by decide), gs (by rw [B2.len]; decide)]
  have g15 : (((((Γ.set 1 b1).set 1 b2).set 14 (some (.fz (.int (a : Nat))))).set 15 (some (.fz (.int (w : Nat))))).set 11 (some (.fz (.str (mk (txt es))))))[15]? = some (some (.fz (.int (w : Nat)))) := by
    rw [gn (by decide), gs (by rw [List.length_set, B2.len]; decide)]
  generalize ((((Γ.set 1 b1).set 1 b2).set 14 (some (.fz (.int (a : Nat))))).set 15 (some (.fz (.int (w : Nat))))).set 11 (some (.fz (.str (mk (txt es))))) = Γ1 at p B3 g14 g15
  have ls : mBlt fLstX (mCons (mK (.str "acdeginorstuvz 0149\n")) mNil) Γ1 = .ok (.ow (.list (signs "acdeginorstuvz 0149\n"))) Γ1 := by
    show (match (if ("acdeginorstuvz 0149\n" : Str).cps.size ≤ sizeLine then some (RV.ow (.list (signs "acdeginorstuvz 0149\n"))) else none) with
      | some rv => Out.ok rv Γ1
      | none => .no) = _
    rw [if_pos (by rw [lit_al]; decide)]
  rw [lit_al, signs_mk, ← lit_al] at ls
  obtain ⟨d, b3, hd, hb3, s3⟩ := st_some (n := 16) B3.len B3.bag ls (by rw [List.length_map]; decide)
  obtain ⟨c, hc, rfl⟩ := List.mem_map.mp hd
  have c128 : c < 128 := by
    have : ∀ c ∈ ([97, 99, 100, 101, 103, 105, 110, 111, 114, 115, 116, 117, 118, 122, 32, 48, 49, 52, 57, 10] : Li), c < 128 := by decide
    exact this c hc
  have q := set_fz (i := 10) s3
  have B4 := (B3.bg hb3).set (i := 10) (x := some (.fz (.str (mk [c])))) (by decide) (by decide)
  have f14 : ((Γ1.set 1 b3).set 10 (some (.fz (.str (mk [c])))))[14]? = some (some (.fz (.int (a : Nat)))) := by rw [gn (by decide), gn (by decide)]; exact g14
  have f15 : ((Γ1.set 1 b3).set 10 (some (.fz (.str (mk [c])))))[15]? = some (some (.fz (.int (w : Nat)))) := by rw [gn (by decide), gn (by decide)]; exact g15
  have f10 : ((Γ1.set 1 b3).set 10 (some (.fz (.str (mk [c])))))[10]? = some (some (.fz (.str (mk [c])))) := gs (by rw [List.length_set, B3.len]; decide)
  generalize (Γ1.set 1 b3).set 10 (some (.fz (.str (mk [c])))) = Γ2 at q B4 f14 f15 f10
  have v14 := vz f14
  have v15 := vz f15
  have ac : As [c] := ⟨fun x m => by cases List.mem_singleton.mp m; exact c128, by show 1 ≤ 1000; decide⟩
  have T5 : Tv (mVar 5) Γ2 (txt es) := ⟨A, vz B4.txt⟩
  have T10 : Tv (mVar 10) Γ2 [c] := ⟨ac, vz f10⟩
  have v14p := addn v14 (n := mK (.int 1)) (j := 1) rfl
  have asx : ∀ x : Li, As x → x.length ≤ 200 → As (txt es ++ x) := fun x hx nx => ⟨fun y m => (List.mem_append.mp m).elim (A.ch y) (hx.ch y), by rw [List.length_append]; omega⟩
  have A1 : As ((txt es).take a ++ [c]) := ⟨fun y m => (List.mem_append.mp m).elim (fun m => A.ch y (List.mem_of_mem_take m)) (ac.ch y), by rw [List.length_append, List.length_take]; simp only [List.length_cons, List.length_nil]; omega⟩
  have A2 : ∀ k, As (((txt es).take a ++ [c]) ++ (txt es).drop k) := fun k => ⟨fun y m => (List.mem_append.mp m).elim (A1.ch y) (fun m => A.ch y (List.mem_of_mem_drop m)), by rw [List.length_append, List.length_append, List.length_take, List.length_drop]; simp only [List.length_cons, List.length_nil]; omega⟩
  have A3 : As ((txt es).take a ++ (txt es).drop (a + 1)) := ⟨fun y m => (List.mem_append.mp m).elim (fun m => A.ch y (List.mem_of_mem_take m)) (fun m => A.ch y (List.mem_of_mem_drop m)), by rw [List.length_append, List.length_take, List.length_drop]; omega⟩
  have S := T5.to v14
  have R1 := ((S.add T10 A1).add (T5.from v14p) (A2 _))
  have R2 := ((S.add T10 A1).add (T5.from v14) (A2 _))
  have R3 := S.add (T5.from v14p) A3
  have e0 := test_ok (eqn v15 (n := mK (.int 0)) (j := 0) rfl)
  have e1 := test_ok (eqn v15 (n := mK (.int 1)) (j := 1) rfl)
  have e2 := test_ok (eqn v15 (n := mK (.int 2)) (j := 2) rfl)
  have key : ∃ u, Tv (mIte (mTest (mOp2 fEq (mVar 15) (mK (.int 0)))) (mOp2 fAdd (mOp2 fAdd (mSl (mVar 5) mNoP (mPart (mVar 14))) (mVar 10)) (mSl (mVar 5) (mPart (mOp2 fAdd (mVar 14) (mK (.int 1)))) mNoP)) (mIte (mTest (mOp2 fEq (mVar 15) (mK (.int 1)))) (mOp2 fAdd (mOp2 fAdd (mSl (mVar 5) mNoP (mPart (mVar 14))) (mVar 10)) (mSl (mVar 5) (mPart (mVar 14)) mNoP)) (mIte (mTest (mOp2 fEq (mVar 15) (mK (.int 2)))) (mOp2 fAdd (mSl (mVar 5) mNoP (mPart (mVar 14))) (mSl (mVar 5) (mPart (mOp2 fAdd (mVar 14) (mK (.int 1)))) mNoP)) (mSl (mVar 5) mNoP (mPart (mVar 14)))))) Γ2 u := by
    by_cases w0 : w = 0
    · rw [decide_eq_true w0] at e0
      exact ⟨_, R1.as, (ite_t e0).trans R1.v⟩
    · rw [decide_eq_false w0] at e0
      by_cases w1 : w = 1
      · rw [decide_eq_true w1] at e1
        exact ⟨_, R2.as, (ite_f e0).trans ((ite_t e1).trans R2.v)⟩
      · rw [decide_eq_false w1] at e1
        by_cases w2 : w = 2
        · rw [decide_eq_true w2] at e2
          exact ⟨_, R3.as, (ite_f e0).trans ((ite_f e1).trans ((ite_t e2).trans R3.v))⟩
        · rw [decide_eq_false w2] at e2
          exact ⟨_, S.as, (ite_f e0).trans ((ite_f e1).trans ((ite_f e2).trans S.v))⟩
  obtain ⟨u, U⟩ := key
  exact ⟨Γ2.set 11 (some (.fz (.str (mk u)))), u, U.as, gs (by rw [B4.len]; decide), B4.set (by decide) (by decide), fun m => (seq_n p).trans ((seq_n q).trans (seq_n (set_fz U.v)))⟩
/-- the bent text read back, or told -/
theorem lw_look {es : List Ev} {Γ : DZ.Env} {u : Li} (A : As u) (h11 : Γ[11]? = some (some (.fz (.str (mk u))))) (B : Bent es Γ) : ∃ Γ', (mSeq ((mSet 12 (mBmS fSplit (mVar 11) (mCons (mK (.str "\n")) mNil)))) (mSeq ((mIf (mAnd (mTest (mOp2 fEq (mOp2 fIx (mVar 12) (mNeg (mK (.int 1)))) (mK (.str "end")))) (mTest (mOp2 fEq (mLc [17] (mSeqI (mSl (mVar 12) mNoP (mPart (mNeg (mK (.int 1)))))) (gN 17) (mNot (mTruth (mCallP f__law_is_line (mCons (mVar 17) mNil)))) (mVar 17)) (mLst mNil)))) (mSeq (mIf (mNot (mTruth (mCallP f__law_alike (mCons (mCallP f_log_text (mCons (mCallP f_read_log (mCons (mVar 11) mNil)) mNil)) (mCons (mVar 11) mNil))))) (mRet [] (mK (.bool false))) mSkip) (fun Γ => .ct Γ)) mSkip)) ((mTryX 13 "BadText" (mSeq (mEx (mCall f_read_log (mCons (mVar 11) mNil))) (mRet [] (mK (.bool false)))) (mCallP f__law_place (mCons (mVar 11) mNil)) (mRet [] (mK (.bool false)))))) Γ = .nx Γ' ∨ mSeq ((mSet 12 (mBmS fSplit (mVar 11) (mCons (mK (.str "\n")) mNil)))) (mSeq ((mIf (mAnd (mTest (mOp2 fEq (mOp2 fIx (mVar 12) (mNeg (mK (.int 1)))) (mK (.str "end")))) (mTest (mOp2 fEq (mLc [17] (mSeqI (mSl (mVar 12) mNoP (mPart (mNeg (mK (.int 1)))))) (gN 17) (mNot (mTruth (mCallP f__law_is_line (mCons (mVar 17) mNil)))) (mVar 17)) (mLst mNil)))) (mSeq (mIf (mNot (mTruth (mCallP f__law_alike (mCons (mCallP f_log_text (mCons (mCallP f_read_log (mCons (mVar 11) mNil)) mNil)) (mCons (mVar 11) mNil))))) (mRet [] (mK (.bool false))) mSkip) (fun Γ => .ct Γ)) mSkip)) ((mTryX 13 "BadText" (mSeq (mEx (mCall f_read_log (mCons (mVar 11) mNil))) (mRet [] (mK (.bool false)))) (mCallP f__law_place (mCons (mVar 11) mNil)) (mRet [] (mK (.bool false)))))) Γ = .ct Γ') ∧ Bent es Γ' := by
  have T0 : Tv (mVar 11) Γ u := ⟨A, vz h11⟩
  have s := set_ow (i := 12) (splv A lit_nl (mb := mK (.str "\n")) T0.v rfl rfl rfl)
  have B1 := B.set (i := 12) (x := some (.ow (.list ((spl 10 u).map fun p => .str (mk p))))) (by decide) (by decide)
  have g12 : (Γ.set 12 (some (.ow (.list ((spl 10 u).map fun p => .str (mk p))))))[12]? = some (some (.ow (.list ((spl 10 u).map fun p => .str (mk p))))) := gs (by rw [B.len]; decide)
  have g11 : (Γ.set 12 (some (.ow (.list ((spl 10 u).map fun p => .str (mk p))))))[11]? = some (some (.fz (.str (mk u)))) := by rw [gn (by decide)]; exact h11
  generalize Γ.set 12 (some (.ow (.list ((spl 10 u).map fun p => .str (mk p))))) = Γ1 at s B1 g12 g11
  have T : Tx 12 Γ1 (spl 10 u) := ⟨spl_as A, (vb g12).1, (vb g12).2⟩
  have T11 : Tv (mVar 11) Γ1 u := ⟨A, vz g11⟩
  have c := and_ok (test_ok ((T.last (spl_ne 10 u)).eq (tv_end Γ1))) fun _ => test_ok (bad_rows T (by rw [B1.len]; decide : 17 < Γ1.length) (spl_2000 A 10))
  have c : mAnd _ _ Γ1 = .ok (isLog u) Γ1 := c
  cases hlog : isLog u with
  | true =>
    rw [hlog] at c
    obtain ⟨fs, h1, h2, h3⟩ := read_ok A hlog
    have tx : txt fs = u := by
      unfold txt
      rw [← h2, jn_spl]
    have E : Evs fs := ⟨h1, fun e m => A.part (c := 10) (by rw [h2]; exact List.mem_append_left _ (List.mem_map_of_mem m)), by
      have := spl_2000 A 10
      have q := spl_len_le 10 u
      rw [h2, List.length_append, List.length_map] at q
      have := A.len
      simp only [List.length_cons, List.length_nil] at q
      omega⟩
    have L := call_1 (T11.call h3) rfl (ev_log_text E (by rw [tx]; exact A))
    rw [tx] at L
    have k := not_ok (truth_ok (call_2 L T11.v (alike_str A)))
    refine ⟨Γ1, .inr ((seq_n s).trans (seq_c ((if_t c).trans ?_))), B1⟩
    exact (ifs (m := mRet [] (mK (.bool false))) k).trans rfl
  | false =>
    rw [hlog] at c
    obtain ⟨n, l, cc, P1, P2, P3⟩ := read_bad A hlog
    have B2 := B1.set (i := 13) (x := none) (by decide) (by decide)
    have T13 : Tv (mVar 11) (Γ1.set 13 none) u := ⟨A, vz (by rw [gn (by decide)]; exact g11)⟩
    have pl := T13.call (ev_place A P1.le P1.ok P1.no)
    rw [P2] at pl
    have mb : mSeq (mEx (mCall f_read_log (mCons (mVar 11) mNil))) (mRet [] (mK (.bool false))) Γ1 = .ex (bt l cc) Γ1 := seq_x (by
      have g1 : ∀ x, giv (.fz x) Γ1 = .ok (.fz x) Γ1 := fun _ => rfl
      have : mCall f_read_log (mCons (mVar 11) mNil) Γ1 = .ex (bt l cc) Γ1 := by
        simp only [mCall, mCons, mNil, T11.v, Out.bind, givs, g1, P3]
      unfold mEx
      rw [this]
      rfl)
    refine ⟨Γ1.set 13 none, .inl ((seq_n s).trans ((seq_n ((if_f c).trans rfl)).trans (try_ok mb (by rw [B1.len]; decide) pl))), B2⟩
theorem rng_ok {m : M RV} {Γ Γ1 : DZ.Env} {k : Nat} (h : m Γ = .ok (.fz (.int (k : Nat))) Γ1) (n : k < 1000) : mRng (mCons m mNil) Γ = .ok (intsD 0 k) Γ1 := by
  have o : rngOk ((k : Nat) : Int) = true := by
    unfold rngOk
    rw [Bool.and_eq_true, decide_eq_true_eq, decide_eq_true_eq]
    omega
  simp only [mRng, mCons, mNil, h, Out.bind, peeks, peek]
  rw [if_pos o]
  rfl
theorem plain : ∀ ns : List Int, ns.length ≤ 63 → f_law [.sc (.list (ns.map PyData.int))] = .ret (.fz (.bool true)) none := by
  intro ns hn
  obtain ⟨cs, hc, eb⟩ := ev_bag hn
  unfold f_law b_law
  have key : ∃ Γ', b_law (some (.sc (.list (ns.map PyData.int))) :: List.replicate 17 none) = .rt (.fz (.bool true)) Γ' := by
    unfold b_law
    have s0 : (mSet 1 (mCallP f__law_bag (mCons (mVar 0) mNil))) (some (.sc (.list (ns.map PyData.int))) :: List.replicate 17 none) = .nx ((some (.sc (.list (ns.map PyData.int))) :: List.replicate 17 none : DZ.Env).set 1 (some (.ow (bag 0 1234567891 0 cs)))) := by
      refine set_ow ?_
      show (match f__law_bag [.sc (.list (ns.map PyData.int))] with
        | .ret r _ => Out.ok (rvOf r) _
        | _ => .no) = _
      rw [eb]
      rfl
    have s1 : ∀ Γ, (mSet 2 (mLst mNil)) Γ = .nx (Γ.set 2 (some (.ow (.list [])))) := fun _ => rfl
    -- the drawn log
    have l1 : (((some (.sc (.list (ns.map PyData.int))) :: List.replicate 17 none : DZ.Env).set 1 (some (.ow (bag 0 1234567891 0 cs)))).set 2 (some (.ow (.list [])))).length = 18 := rfl
    have b1 : BagIn (((some (.sc (.list (ns.map PyData.int))) :: List.replicate 17 none : DZ.Env).set 1 (some (.ow (bag 0 1234567891 0 cs)))).set 2 (some (.ow (.list [])))) := ⟨0, 1234567891, 0, cs, hc, rfl⟩
    have g2 : (((some (.sc (.list (ns.map PyData.int))) :: List.replicate 17 none : DZ.Env).set 1 (some (.ow (bag 0 1234567891 0 cs)))).set 2 (some (.ow (.list []))))[2]? = some (some (.ow (.list []))) := rfl
    have s1 := s1 ((some (.sc (.list (ns.map PyData.int))) :: List.replicate 17 none : DZ.Env).set 1 (some (.ow (bag 0 1234567891 0 cs))))
    rw [seq_n s0, seq_n s1]
    clear s0 s1
    generalize ((some (.sc (.list (ns.map PyData.int))) :: List.replicate 17 none : DZ.Env).set 1 (some (.ow (bag 0 1234567891 0 cs)))).set 2 (some (.ow (.list []))) = Γ at l1 b1 g2
    obtain ⟨v, b, hv, hb, t⟩ := st_take (n := 16) l1 b1 (m := mK (.int 6)) (k := 6) rfl (by decide)
    have r := rng_ok t (by omega)
    obtain ⟨Γ2, e2, l2, b2, es, n2, hs, g2⟩ := loopF_inv (tg := gN 3) (body := lwA) (fun m Γ => Γ.length = 18 ∧ BagIn Γ ∧ ∃ es : List Ev, es.length = m ∧ (∀ e ∈ es, Sm e) ∧ Γ[2]? = some (some (.ow (.list (es.map evD))))) (intsD 0 v) 0 (Γ.set 1 b) ⟨sl l1, hb, [], rfl, fun _ m => absurd m List.not_mem_nil, by rw [gn (by decide)]; exact g2⟩ (by
      intro d _ m Γ hm i
      obtain ⟨hl, hb, es, n, hs, g⟩ := i
      have lv : (intsD 0 v).length = v := by unfold intsD; simp
      obtain ⟨Γ', e, f1, f2, f3, f4, f5⟩ := lw_event (Γ := Γ.set 3 (some (.fz d))) (es := es) (sl hl) (hb.set (by decide)) (by rw [gn (by decide)]; exact g) (by omega)
      exact ⟨_, rfl, Γ', .inl f1, f2, f3, es ++ [e], by rw [List.length_append, n]; rfl, fun x m => (List.mem_append.mp m).elim (hs x) fun m => List.mem_singleton.mp m ▸ f5, f4⟩)
    have lv : (intsD 0 v).length = v := by unfold intsD; simp
    have n5 : es.length ≤ 5 := by omega
    rw [seq_n ((for_ok r).trans e2)]
    clear e2 r t
    -- its text
    have p2 : (mPar2 2 9 (mBlt fTupO (mCons (mVar 2) mNil)) (mLst mNil)) Γ2 = .nx ((Γ2.set 2 (some (.fz (.tuple (es.map evD))))).set 9 (some (.ow (.list [])))) := by
      have t : mBlt fTupO (mCons (mVar 2) mNil) Γ2 = .ok (.fz (.tuple (es.map evD))) Γ2 := by
        have a := (vb g2).1
        have c := (vb g2).2
        simp only [mBlt, mCons, mNil, a, Out.bind, peeks, c, fTupO]
      unfold mPar2
      rw [t]
      rfl
    rw [seq_n p2]
    have l3 : ((Γ2.set 2 (some (.fz (.tuple (es.map evD))))).set 9 (some (.ow (.list [])))).length = 18 := sl (sl l2)
    have b3 : BagIn ((Γ2.set 2 (some (.fz (.tuple (es.map evD))))).set 9 (some (.ow (.list [])))) := (b2.set (by decide)).set (by decide)
    have h2 : ((Γ2.set 2 (some (.fz (.tuple (es.map evD))))).set 9 (some (.ow (.list []))))[2]? = some (some (.fz (.tuple (es.map evD)))) := by rw [gn (by decide), gs (by rw [l2]; decide)]
    have h9 : ((Γ2.set 2 (some (.fz (.tuple (es.map evD))))).set 9 (some (.ow (.list []))))[9]? = some (some (.ow (.list []))) := gs (by rw [List.length_set, l2]; decide)
    generalize (Γ2.set 2 (some (.fz (.tuple (es.map evD))))).set 9 (some (.ow (.list []))) = Γ3 at l3 b3 h2 h9
    clear p2
    have i3 : mSeqI (mVar 2) Γ3 = .ok (es.map evD) Γ3 := by
      unfold mSeqI
      rw [vz h2]
      rfl
    obtain ⟨Γ4, e4, l4, h9, ag⟩ := lw_rows es [] Γ3 hs (by show 0 + es.length < 1000; omega) l3 h9
    rw [seq_n ((for_ok i3).trans e4)]
    have b4 : BagIn Γ4 := by
      obtain ⟨a, b, c, cs, l, e⟩ := b3
      exact ⟨a, b, c, cs, l, by rw [ag 1 (by decide) (by decide)]; exact e⟩
    have k2 : Γ4[2]? = some (some (.fz (.tuple (es.map evD)))) := by rw [ag 2 (by decide) (by decide)]; exact h2
    obtain ⟨A, TL⟩ := txt_as hs n5
    have ad : mOp2 fAdd (mVar 9) (mLst (mCons (mK (.str "end")) mNil)) Γ4 = .ok (.ow (.list ((es.map evL ++ [Lend]).map fun p => .str (mk p)))) Γ4 := by
      refine op_ok (vb h9).1 (s := .ow (.list [.str (mk Lend)])) ?_ (vb h9).2 rfl ?_
      · rw [lit_end]
        rfl
      · show (if RV.isGl (.br 9) = false ∧ RV.isGl (.ow (.list [.str (mk Lend)])) = false ∧ (([] ++ es.map evL).map fun p => PyData.str (mk p)).length + 1 ≤ sizeLine then some (RV.ow (.list ((([] ++ es.map evL).map fun p => PyData.str (mk p)) ++ [.str (mk Lend)]))) else none) = _
        rw [if_pos ⟨rfl, rfl, by rw [List.nil_append, List.length_map, List.length_map]; have q : 1000 ≤ sizeLine := (by decide); omega⟩, List.nil_append, List.map_append]
        rfl
    have j := join_ok lit_nl ad A
    rw [seq_n (set_fz (i := 5) j)]
    have l5 : (Γ4.set 5 (some (.fz (.str (mk (txt es)))))).length = 18 := sl l4
    have b5 : BagIn (Γ4.set 5 (some (.fz (.str (mk (txt es)))))) := b4.set (by decide)
    have k5 : (Γ4.set 5 (some (.fz (.str (mk (txt es))))))[5]? = some (some (.fz (.str (mk (txt es))))) := gs (by rw [l4]; decide)
    have k2 : (Γ4.set 5 (some (.fz (.str (mk (txt es))))))[2]? = some (some (.fz (.tuple (es.map evD)))) := by rw [gn (by decide)]; exact k2
    change ∃ Γ', mSeq _ _ (Γ4.set 5 (some (.fz (.str (mk (txt es)))))) = _
    generalize Γ4.set 5 (some (.fz (.str (mk (txt es))))) = Γ5 at l5 b5 k5 k2
    rw [seq_n (lw_first hs n5 k2 k5)]
    -- the bent texts
    have r6 := rng_ok (m := mK (.int 6)) (Γ := Γ5) (k := 6) rfl (by decide)
    obtain ⟨Γ6, e6, B6⟩ := loopF_inv (tg := gN 6) (body := (mSeq (mPar3 14 15 11 (mCallIo f__law_take (mCons (mVar 1) (mCons (mOp2 fAdd (mBlt fLen (mCons (mVar 5) mNil)) (mK (.int 1))) mNil))) (mCallIo f__law_take (mCons (mVar 1) (mCons (mK (.int 4)) mNil))) (mVar 5)) (mSeq (mSet 10 (mCallIo f__law_some (mCons (mVar 1) (mCons (mBlt fLstX (mCons (mK (.str "acdeginorstuvz 0149\n")) mNil)) mNil)))) (mSeq (mSet 11 (mIte (mTest (mOp2 fEq (mVar 15) (mK (.int 0)))) (mOp2 fAdd (mOp2 fAdd (mSl (mVar 5) mNoP (mPart (mVar 14))) (mVar 10)) (mSl (mVar 5) (mPart (mOp2 fAdd (mVar 14) (mK (.int 1)))) mNoP)) (mIte (mTest (mOp2 fEq (mVar 15) (mK (.int 1)))) (mOp2 fAdd (mOp2 fAdd (mSl (mVar 5) mNoP (mPart (mVar 14))) (mVar 10)) (mSl (mVar 5) (mPart (mVar 14)) mNoP)) (mIte (mTest (mOp2 fEq (mVar 15) (mK (.int 2)))) (mOp2 fAdd (mSl (mVar 5) mNoP (mPart (mVar 14))) (mSl (mVar 5) (mPart (mOp2 fAdd (mVar 14) (mK (.int 1)))) mNoP)) (mSl (mVar 5) mNoP (mPart (mVar 14))))))) (mSeq (mSet 12 (mBmS fSplit (mVar 11) (mCons (mK (.str "\n")) mNil))) (mSeq (mIf (mAnd (mTest (mOp2 fEq (mOp2 fIx (mVar 12) (mNeg (mK (.int 1)))) (mK (.str "end")))) (mTest (mOp2 fEq (mLc [17] (mSeqI (mSl (mVar 12) mNoP (mPart (mNeg (mK (.int 1)))))) (gN 17) (mNot (mTruth (mCallP f__law_is_line (mCons (mVar 17) mNil)))) (mVar 17)) (mLst mNil)))) (mSeq (mIf (mNot (mTruth (mCallP f__law_alike (mCons (mCallP f_log_text (mCons (mCallP f_read_log (mCons (mVar 11) mNil)) mNil)) (mCons (mVar 11) mNil))))) (mRet [] (mK (.bool false))) mSkip) (fun Γ => .ct Γ)) mSkip) (mTryX 13 "BadText" (mSeq (mEx (mCall f_read_log (mCons (mVar 11) mNil))) (mRet [] (mK (.bool false)))) (mCallP f__law_place (mCons (mVar 11) mNil)) (mRet [] (mK (.bool false)))))))))) (fun _ Γ => Bent es Γ) (intsD 0 6) 0 Γ5 ⟨l5, b5, k5⟩ (by
      intro d _ m Γ _ B
      obtain ⟨Γ1, u, U, h11, B1, st⟩ := lw_bend hs n5 (B.set (i := 6) (x := some (.fz d)) (by decide) (by decide))
      obtain ⟨Γ2, lk, B2⟩ := lw_look U h11 B1
      exact ⟨_, rfl, Γ2, by rw [st]; exact lk, B2⟩)
    rw [seq_n ((for_ok r6).trans e6)]
    -- the odd things
    have i7 : (mSeqI (mTup (mCons (mK .none) (mCons (mK (.int 5)) (mCons (mTup (mCons (mTup (mCons (mK (.str "sign")) (mCons (mK (.int 0)) mNil))) mNil)) (mCons (mTup (mCons (mTup (mCons (mK (.str "sign")) (mCons (mK (.int 0)) (mCons (mK (.str "A")) mNil)))) mNil)) (mCons (mTup (mCons (mTup (mCons (mK (.str "over")) (mCons (mK (.int 400)) mNil))) mNil)) (mCons (mTup (mCons (mK (.str "go")) mNil)) (mCons (mTup (mCons (mTup (mCons (mK (.str "end")) mNil)) mNil)) (mCons (mTup (mCons (mTup (mCons (mK (.str "over")) (mCons (mK (.bool true)) mNil))) mNil)) (mCons (mTup (mCons (mTup (mCons (mK (.str "sign")) (mCons (mNeg (mK (.int 1))) (mCons (mK (.str "a")) mNil)))) mNil)) mNil))))))))))) Γ6 = .ok odds Γ6 := rfl
    obtain ⟨Γ7, e7⟩ := lw_odd odds Γ6 odd_all B6.len
    rw [seq_n ((for_ok i7).trans e7)]
    exact ⟨Γ7, rfl⟩
  obtain ⟨Γ', key⟩ := key
  exact fn_rt key
end KW

open PySem PySem.W PyProof.Rows
set_option maxRecDepth 100000 in
set_option maxHeartbeats 0 in
theorem PySem.Challenge.cw_wordhomes_k75_logs_read_holds : PySem.Challenge.rw_wordhomes_k75_logs_read.Holds := by
  w_on; o_law; k_head; (case hw => w_witness2)
  k_fill
  refine KW.walk_75 (l := PySem.Challenge.rw_wordhomes_k75_logs_read) (k := 8) (x := "script") rfl rfl ⟨rfl, by decide, by decide⟩ (fun w h Y => PySem.W.kIn_of Y) ?NL ?F
  case NL => intro w; kernel_rfl
  case F =>
    intro w mg fa h KX G hmg
    refine' KW.all_mk KW.plain KX G hmg ?z_isinstance ?z_int ?z_bool ?z_str ?z_tuple ?z_list ?z_len ?z_all ?z_max ?z_abs ?z_repr ?z_range ?z_enumerate ?v_SIGNS ?v_SIGN ?v_OVER ?v_END ?v_MOST_LINES ?v_MOST_NUMBER ?v_PLAIN ?l_PLAIN ?a_is_integer ?l_is_integer ?c_is_integer ?k_is_integer ?a_is_count ?l_is_count ?c_is_count ?k_is_count ?a_is_sign ?l_is_sign ?c_is_sign ?k_is_sign ?a_is_small ?l_is_small ?c_is_small ?k_is_small ?a_is_logged ?l_is_logged ?c_is_logged ?k_is_logged ?a_is_log ?l_is_log ?c_is_log ?k_is_log ?a_line_of ?l_line_of ?c_line_of ?k_line_of ?a_log_text ?l_log_text ?c_log_text ?k_log_text ?a_number_gone ?l_number_gone ?c_number_gone ?k_number_gone ?a_word_gone ?l_word_gone ?c_word_gone ?k_word_gone ?a_over_line ?l_over_line ?c_over_line ?k_over_line ?a_sign_line ?l_sign_line ?c_sign_line ?k_sign_line ?a_gone_of_line ?l_gone_of_line ?c_gone_of_line ?k_gone_of_line ?a_end_line ?l_end_line ?c_end_line ?k_end_line ?a_read_log ?l_read_log ?c_read_log ?k_read_log ?a__law_bag ?l__law_bag ?c__law_bag ?k__law_bag ?a__law_take ?l__law_take ?c__law_take ?k__law_take ?a__law_some ?l__law_some ?c__law_some ?k__law_some ?a__law_alike ?l__law_alike ?c__law_alike ?k__law_alike ?a__law_is_figures ?l__law_is_figures ?c__law_is_figures ?k__law_is_figures ?a__law_line_goes_on ?l__law_line_goes_on ?c__law_line_goes_on ?k__law_line_goes_on ?a__law_is_line ?l__law_is_line ?c__law_is_line ?k__law_is_line ?a__law_goes_on ?l__law_goes_on ?c__law_goes_on ?k__law_goes_on ?a__law_place ?l__law_place ?c__law_place ?k__law_place ?a_law ?l_law ?c_law ?k_law ?n_a ?n_k ?n_h1 ?n_h2 ?n_h3 ?n_h4 ?n_q ?b_a ?b_l ?b_bm ?b_sa ?b_ga ?b_gg ?b_ex ?b_ty ?b_k ?b_hd ?b_cl ?b_ss ?b_ini ?b_tI ?b_lI ?b_cI ?b_lc ?b_ld ?b_vs ?b_file ?b_top ?b_sup ?b_isV ?b_own ?b_op ?b_ns ?b_nl ?b_nc
    (case z_isinstance => k_is)
    (case z_int => k_is)
    (case z_bool => k_is)
    (case z_str => k_is)
    (case z_tuple => k_is)
    (case z_list => k_is)
    (case z_len => k_is)
    (case z_all => k_is)
    (case z_max => k_is)
    (case z_abs => k_is)
    (case z_repr => k_is)
    (case z_range => k_is)
    (case z_enumerate => k_is)
    (case v_SIGNS => k_is)
    (case v_SIGN => k_is)
    (case v_OVER => k_is)
    (case v_END => k_is)
    (case v_MOST_LINES => k_is)
    (case v_MOST_NUMBER => k_is)
    (case v_PLAIN => k_is)
    (case l_PLAIN => k_is)
    (case a_is_integer => k_is)
    (case l_is_integer => k_is)
    (case c_is_integer => k_is)
    (case k_is_integer => k_is)
    (case a_is_count => k_is)
    (case l_is_count => k_is)
    (case c_is_count => k_is)
    (case k_is_count => k_is)
    (case a_is_sign => k_is)
    (case l_is_sign => k_is)
    (case c_is_sign => k_is)
    (case k_is_sign => k_is)
    (case a_is_small => k_is)
    (case l_is_small => k_is)
    (case c_is_small => k_is)
    (case k_is_small => k_is)
    (case a_is_logged => k_is)
    (case l_is_logged => k_is)
    (case c_is_logged => k_is)
    (case k_is_logged => k_is)
    (case a_is_log => k_is)
    (case l_is_log => k_is)
    (case c_is_log => k_is)
    (case k_is_log => k_is)
    (case a_line_of => k_is)
    (case l_line_of => k_is)
    (case c_line_of => k_is)
    (case k_line_of => k_is)
    (case a_log_text => k_is)
    (case l_log_text => k_is)
    (case c_log_text => k_is)
    (case k_log_text => k_is)
    (case a_number_gone => k_is)
    (case l_number_gone => k_is)
    (case c_number_gone => k_is)
    (case k_number_gone => k_is)
    (case a_word_gone => k_is)
    (case l_word_gone => k_is)
    (case c_word_gone => k_is)
    (case k_word_gone => k_is)
    (case a_over_line => k_is)
    (case l_over_line => k_is)
    (case c_over_line => k_is)
    (case k_over_line => k_is)
    (case a_sign_line => k_is)
    (case l_sign_line => k_is)
    (case c_sign_line => k_is)
    (case k_sign_line => k_is)
    (case a_gone_of_line => k_is)
    (case l_gone_of_line => k_is)
    (case c_gone_of_line => k_is)
    (case k_gone_of_line => k_is)
    (case a_end_line => k_is)
    (case l_end_line => k_is)
    (case c_end_line => k_is)
    (case k_end_line => k_is)
    (case a_read_log => k_is)
    (case l_read_log => k_is)
    (case c_read_log => k_is)
    (case k_read_log => k_is)
    (case a__law_bag => k_is)
    (case l__law_bag => k_is)
    (case c__law_bag => k_is)
    (case k__law_bag => k_is)
    (case a__law_take => k_is)
    (case l__law_take => k_is)
    (case c__law_take => k_is)
    (case k__law_take => k_is)
    (case a__law_some => k_is)
    (case l__law_some => k_is)
    (case c__law_some => k_is)
    (case k__law_some => k_is)
    (case a__law_alike => k_is)
    (case l__law_alike => k_is)
    (case c__law_alike => k_is)
    (case k__law_alike => k_is)
    (case a__law_is_figures => k_is)
    (case l__law_is_figures => k_is)
    (case c__law_is_figures => k_is)
    (case k__law_is_figures => k_is)
    (case a__law_line_goes_on => k_is)
    (case l__law_line_goes_on => k_is)
    (case c__law_line_goes_on => k_is)
    (case k__law_line_goes_on => k_is)
    (case a__law_is_line => k_is)
    (case l__law_is_line => k_is)
    (case c__law_is_line => k_is)
    (case k__law_is_line => k_is)
    (case a__law_goes_on => k_is)
    (case l__law_goes_on => k_is)
    (case c__law_goes_on => k_is)
    (case k__law_goes_on => k_is)
    (case a__law_place => k_is)
    (case l__law_place => k_is)
    (case c__law_place => k_is)
    (case k__law_place => k_is)
    (case a_law => k_is)
    (case l_law => k_is)
    (case c_law => k_is)
    (case k_law => k_is)
    (case n_a => k_is)
    (case n_k => k_is)
    (case n_h1 => k_is)
    (case n_h2 => k_is)
    (case n_h3 => k_is)
    (case n_h4 => k_is)
    (case n_q => kernel_rfl)
    (case b_a => k_is)
    (case b_l => k_is)
    (case b_bm => kernel_rfl)
    (case b_sa => k_is)
    (case b_ga => k_is)
    (case b_gg => k_is)
    (case b_ex => k_is)
    (case b_ty => k_is)
    (case b_k => k_is)
    (case b_hd => k_is)
    (case b_cl => k_is)
    (case b_ss => k_is)
    (case b_ini => k_is)
    (case b_tI => k_is)
    (case b_lI => k_is)
    (case b_cI => k_is)
    (case b_lc => k_is)
    (case b_ld => k_is)
    (case b_vs => rfl)
    (case b_file => kernel_rfl)
    (case b_top => kernel_rfl)
    (case b_sup => kernel_rfl)
    (case b_isV => k_is)
    (case b_own => k_is)
    (case b_op => k_is)
    (case b_ns => k_is)
    (case b_nl => k_is)
    (case b_nc => k_is)
