import PyProof.Rows.All
import Wide.All
import OpenK.AllK
import Wide.FinOn
import HandS.ForMost
import HandS.Star
import HandS.Wide
import HandS.TupAny
import HandS.Deep
import HandS.Style
import HandS.Walk
import HandS.EndBits
import KE.GoesNew
import KE.GoesEnum
import KE.GoesZip
import KE.GoesMore
import HandS.TupMul
import HandS.Conv
import HandS.WideBits
import HandS.TupLe
import KE.KSortedM
import HandS.SortInts
import HandS.RaiseMore
import PyProof.ReprRoads
import PyProof.IsRules
import HandS.IsInst
import HandS.Iter
import HandS.SetFor
import HandS.DictComp
import PySem.Challenge.RW_beforeitcomes_k92_whole_tight_lots
set_option Elab.async false
set_option linter.all false
set_option maxRecDepth 100000
set_option maxHeartbeats 4000000
/-! DLa: data over the abstract heap by value; the mirror's state monad; expressions. -/
namespace DL
open PySem PySem.Spec PyProof.Rows L2

abbrev D := PyData
def kD : Key → D
  | .inl i => .int i
  | .inr x => .str x

/-! ### data as they stand in an abstract heap -/
mutual
inductive Rp (H : Hp) : V → D → Prop
  | non : Rp H .non .none
  | bl (b : Bool) : Rp H (.bl b) (.bool b)
  | int (i : Int) : Rp H (.int i) (.int i)
  | str (x : Str) : Rp H (.str x) (.str x)
  | lst {a : Addr} {xs : List V} {ds : List D} : H a = some (.lst xs) → xs.length ≤ sizeLine → RpA H xs ds → Rp H (.ref a) (.list ds)
  | tup {a : Addr} {xs : List V} {ds : List D} : H a = some (.tup xs) → xs.length ≤ sizeLine → RpA H xs ds → Rp H (.ref a) (.tuple ds)
  | dct {a : Addr} {kvs : List (Key × V)} {ds : List (D × D)} : H a = some (.dK kvs) → RpK H kvs ds → Rp H (.ref a) (.dict ds)
inductive RpA (H : Hp) : List V → List D → Prop
  | nil : RpA H [] []
  | cons {v : V} {vs : List V} {d : D} {ds : List D} : Rp H v d → RpA H vs ds → RpA H (v :: vs) (d :: ds)
inductive RpK (H : Hp) : List (Key × V) → List (D × D) → Prop
  | nil : RpK H [] []
  | cons {k : Key} {v : V} {kvs : List (Key × V)} {d : D} {ds : List (D × D)} : Rp H v d → RpK H kvs ds → RpK H ((k, v) :: kvs) ((kD k, d) :: ds)
end

mutual
theorem Rp.mono {F G : Hp} (s : Same F G) : ∀ (d : D) (v : V), Rp F v d → Rp G v d
  | .none, _, h => by cases h; exact .non
  | .bool b, _, h => by cases h; exact .bl _
  | .int i, _, h => by cases h; exact .int _
  | .str x, _, h => by cases h; exact .str _
  | .list ds, _, h => by cases h with | lst h1 h2 h3 => exact .lst (s _ _ h1) h2 (RpA.mono s ds _ h3)
  | .tuple ds, _, h => by cases h with | tup h1 h2 h3 => exact .tup (s _ _ h1) h2 (RpA.mono s ds _ h3)
  | .dict ds, _, h => by cases h with | dct h1 h2 => exact .dct (s _ _ h1) (RpK.mono s ds _ h2)
theorem RpA.mono {F G : Hp} (s : Same F G) : ∀ (ds : List D) (vs : List V), RpA F vs ds → RpA G vs ds
  | [], _, h => by cases h; exact .nil
  | d :: ds, _, h => by cases h with | cons h1 h2 => exact .cons (Rp.mono s d _ h1) (RpA.mono s ds _ h2)
theorem RpK.mono {F G : Hp} (s : Same F G) : ∀ (ds : List (D × D)) (vs : List (Key × V)), RpK F vs ds → RpK G vs ds
  | [], _, h => by cases h; exact .nil
  | (k, d) :: ds, _, h => by cases h with | cons h1 h2 => exact .cons (Rp.mono s d _ h1) (RpK.mono s ds _ h2)
end
theorem RpA.length {H : Hp} : ∀ {vs : List V} {ds : List D}, RpA H vs ds → vs.length = ds.length
  | _, _, .nil => rfl
  | _, _, .cons _ t => congrArg (· + 1) (RpA.length t)
theorem RpA.get {H : Hp} : ∀ {vs : List V} {ds : List D} {i : Nat} {d : D}, RpA H vs ds → ds[i]? = some d → ∃ v, vs[i]? = some v ∧ Rp H v d
  | _, _, _, _, .nil, e => by simp at e
  | _, _, 0, _, .cons r _, e => by simp at e; subst e; exact ⟨_, rfl, r⟩
  | _, _, i + 1, d, .cons _ t, e => by
    obtain ⟨v, h1, h2⟩ := RpA.get (i := i) t (by simpa using e)
    exact ⟨v, by simpa using h1, h2⟩
theorem RpA.get' {H : Hp} : ∀ {vs : List V} {ds : List D} {i : Nat} {v : V}, RpA H vs ds → vs[i]? = some v → ∃ d, ds[i]? = some d ∧ Rp H v d
  | _, _, _, _, .nil, e => by simp at e
  | _, _, 0, _, .cons r _, e => by simp at e; subst e; exact ⟨_, rfl, r⟩
  | _, _, i + 1, d, .cons _ t, e => by
    obtain ⟨v, h1, h2⟩ := RpA.get' (i := i) t (by simpa using e)
    exact ⟨v, by simpa using h1, h2⟩
theorem RpA.append {H : Hp} : ∀ {vs ws : List V} {ds es : List D}, RpA H vs ds → RpA H ws es → RpA H (vs ++ ws) (ds ++ es)
  | _, _, _, _, .nil, s => s
  | _, _, _, _, .cons r t, s => .cons r (RpA.append t s)
theorem RpA.take {H : Hp} : ∀ {vs : List V} {ds : List D} (n : Nat), RpA H vs ds → RpA H (vs.take n) (ds.take n)
  | _, _, 0, _ => .nil
  | _, _, _ + 1, .nil => .nil
  | _, _, n + 1, .cons r t => .cons r (RpA.take n t)
theorem RpA.drop {H : Hp} : ∀ {vs : List V} {ds : List D} (n : Nat), RpA H vs ds → RpA H (vs.drop n) (ds.drop n)
  | _, _, 0, r => r
  | _, _, _ + 1, .nil => .nil
  | _, _, n + 1, .cons _ t => RpA.drop n t
theorem RpA.set {H : Hp} : ∀ {vs : List V} {ds : List D} (n : Nat) {v : V} {d : D}, RpA H vs ds → Rp H v d → RpA H (vs.set n v) (ds.set n d)
  | _, _, _, _, _, .nil, _ => .nil
  | _, _, 0, _, _, .cons _ t, q => .cons q t
  | _, _, n + 1, _, _, .cons r t, q => .cons r (RpA.set n t q)
theorem RpA.reverse {H : Hp} {vs : List V} {ds : List D} (h : RpA H vs ds) : RpA H vs.reverse ds.reverse := by
  induction vs generalizing ds with
  | nil => cases h; exact .nil
  | cons v vs ih => cases h with | cons r t => rw [List.reverse_cons, List.reverse_cons]; exact (ih t).append (.cons r .nil)
theorem RpA.rep {H : Hp} {vs : List V} {ds : List D} (h : RpA H vs ds) : ∀ k : Nat, RpA H (List.replicate k vs).flatten (List.replicate k ds).flatten
  | 0 => .nil
  | k + 1 => by rw [List.replicate_succ, List.replicate_succ, List.flatten_cons, List.flatten_cons]; exact h.append (RpA.rep h k)
theorem RpA.ints {H : Hp} : ∀ (ns : List Int), RpA H (ns.map V.int) (ns.map PyData.int)
  | [] => .nil
  | n :: ns => .cons (.int n) (RpA.ints ns)
theorem RpA.intsE {H : Hp} : ∀ {ns : List Int} {vs : List V}, RpA H vs (ns.map PyData.int) → vs = ns.map V.int
  | [], _, h => by cases h; rfl
  | n :: ns, _, h => by cases h with | cons r t => cases r; rw [RpA.intsE t]; rfl
theorem RpA.boolsE {H : Hp} : ∀ {ns : List Bool} {vs : List V}, RpA H vs (ns.map PyData.bool) → vs = ns.map V.bl
  | [], _, h => by cases h; rfl
  | n :: ns, _, h => by cases h with | cons r t => cases r; rw [RpA.boolsE t]; rfl

/-! the hand layer's own relation, for == and in -/
mutual
theorem Rp.dp {K : PySem.W.Frag} {H : Hp} : ∀ (d : D) (v : V), d.canLay0 = true → Rp H v d → Dp K H v d
  | .none, _, _, h => by cases h; exact .non
  | .bool b, _, _, h => by cases h; exact .bl _
  | .int i, _, _, h => by cases h; exact .int _
  | .str x, _, _, h => by cases h; exact .str _
  | .list ds, _, c, h => by cases h with | lst h1 h2 h3 => exact .lst (.of h1) (RpA.dp ds _ (by simpa [PyData.canLay0] using c) h3)
  | .tuple ds, _, c, h => by cases h with | tup h1 h2 h3 => exact .tup (.of h1) (RpA.dp ds _ (by simpa [PyData.canLay0] using c) h3)
  | .dict ds, _, c, h => by simp [PyData.canLay0] at c
theorem RpA.dp {K : PySem.W.Frag} {H : Hp} : ∀ (ds : List D) (vs : List V), PyData.canLayAll0 ds = true → RpA H vs ds → DpAll K H vs ds
  | [], _, _, h => by cases h; exact .nil
  | d :: ds, _, c, h => by
    have c' : d.canLay0 = true ∧ PyData.canLayAll0 ds = true := by simpa [PyData.canLayAll0] using c
    cases h with | cons h1 h2 => exact .cons (Rp.dp d _ c'.1 h1) (RpA.dp ds _ c'.2 h2)
end

/-! ### the drawn numbers' source, as it stands -/
structure Src where
  slot : Option Nat
  cells : List Int
  left : Int
  mixed : Int
  turn : Int
def Src.obj (τ : Src) (c : Addr) : HO := .dK [(.inr "cells", .ref c), (.inr "left", .int τ.left), (.inr "mixed", .int τ.mixed), (.inr "turn", .int τ.turn)]
/-- the slot of the source, the dict's place, its list's place -/
abbrev SA := Option (Nat × Addr × Addr)
def NotSrc (sa : SA) (a : Addr) : Prop := ∀ i p c, sa = some (i, p, c) → a ≠ p ∧ a ≠ c
def SrcOk (sa : SA) (F H : Hp) (τ : Src) : Prop := ∀ i p c, sa = some (i, p, c) → H p = some (τ.obj c) ∧ H c = some (.lst (τ.cells.map V.int)) ∧ τ.cells.length ≤ sizeLine ∧ F p = none ∧ F c = none

/-- F, H go on to F', H': nothing that stood is changed -/
structure Grow (F H F' H' : Hp) : Prop where
  ff : Same F F'
  hh : Same H H'
  fh : Same F' H'
  nf : ∀ a, F a = none → H a ≠ none → F' a = none
/-- .. but for the source -/
structure Ext (sa : SA) (F H F' H' : Hp) : Prop where
  ff : Same F F'
  hh : ∀ a o, H a = some o → NotSrc sa a → H' a = some o
  nn : ∀ a, H a ≠ none → H' a ≠ none
  nf : ∀ a, F a = none → H a ≠ none → F' a = none
section
variable {F H F1 H1 F2 H2 : Hp} {sa : SA}
theorem nn_of {a : Addr} {o : HO} (e : H a = some o) : H a ≠ none := by rw [e]; simp
theorem Grow.refl (s : Same F H) : Grow F H F H := ⟨Same.refl _, Same.refl _, s, fun _ h _ => h⟩
theorem Grow.trans (a : Grow F H F1 H1) (b : Grow F1 H1 F2 H2) : Grow F H F2 H2 :=
  ⟨a.ff.trans b.ff, a.hh.trans b.hh, b.fh, fun c h1 h2 => b.nf c (a.nf c h1 h2) (by
    cases e : H c with
    | none => exact absurd e h2
    | some o => exact nn_of (a.hh c o e))⟩
theorem same_upd2 {p : Addr} {o : HO} (s : Same F H) (hp : H p = none) : Same (upd F p o) (upd H p o) := fun b x e => by
  by_cases h : b = p
  · subst h; rw [upd_same] at e ⊢; exact e
  · rw [upd_ne h] at e ⊢; exact s b x e
theorem same_new {p : Addr} {o : HO} (hp : H p = none) : Same H (upd H p o) := fun b x e => by rw [upd_ne (ne_of_none e hp)]; exact e
/-- a new object laid -/
theorem Grow.alloc {p : Addr} (s : Same F H) (hp : H p = none) (o : HO) : Grow F H (upd F p o) (upd H p o) :=
  ⟨same_new (s.free hp), same_new hp, same_upd2 s hp, fun a h1 h2 => by
    rw [upd_ne (fun e => h2 (by rw [e]; exact hp))]; exact h1⟩
/-- .. but not frozen -/
theorem Grow.own {p : Addr} (s : Same F H) (hp : H p = none) (o : HO) : Grow F H F (upd H p o) :=
  ⟨Same.refl _, same_new hp, s.trans (same_new hp), fun a h1 _ => h1⟩
theorem Grow.ext (g : Grow F H F1 H1) : Ext sa F H F1 H1 := ⟨g.ff, fun a o e _ => g.hh a o e, fun a h => by
  cases e : H a with
  | none => exact absurd e h
  | some o => exact nn_of (g.hh a o e), g.nf⟩
theorem Ext.refl : Ext sa F H F H := ⟨Same.refl _, fun _ _ e _ => e, fun _ h => h, fun _ h _ => h⟩
theorem Ext.trans (a : Ext sa F H F1 H1) (b : Ext sa F1 H1 F2 H2) : Ext sa F H F2 H2 :=
  ⟨a.ff.trans b.ff, fun c o e n => b.hh c o (a.hh c o e n) n, fun c h => b.nn c (a.nn c h), fun c h1 h2 => b.nf c (a.nf c h1 h2) (a.nn c h2)⟩
theorem SrcOk.grow {τ : Src} (k : SrcOk sa F H τ) (g : Grow F H F1 H1) : SrcOk sa F1 H1 τ := fun i p c e => by
  obtain ⟨h1, h2, h3, h4, h5⟩ := k i p c e
  exact ⟨g.hh _ _ h1, g.hh _ _ h2, h3, g.nf _ h4 (nn_of h1), g.nf _ h5 (nn_of h2)⟩
end

/-! ### what an expression sees -/
abbrev EnvD := List (Option D)
structure View (F : Hp) (sa : SA) (σ : L2.St) (H : Hp) (η : EnvD) (τ : Src) : Prop where
  fh : Same F H
  var : ∀ (i : Nat) (d : D), η[i]? = some (some d) → ∃ v, σ[i]? = some (some v) ∧ Rp F v d
  src : SrcOk sa F H τ
  len : η.length ≤ σ.length
  flag : sa.map (·.1) = τ.slot
  slot : ∀ (i : Nat) (p c : Addr), sa = some (i, p, c) → i < 2 ∧ σ[i]? = some (some (.ref p))
/-- .. behind what left it as it was -/
theorem View.back {F H F1 H1 : Hp} {sa : SA} {σ : L2.St} {η : EnvD} {τ τ1 : Src} (w : View F sa σ H η τ) (ff : Same F F1) (fh : Same F1 H1) (k : SrcOk sa F1 H1 τ1) (fl : sa.map (·.1) = τ1.slot) : View F1 sa σ H1 η τ1 :=
  ⟨fh, fun i d e => let ⟨v, h1, h2⟩ := w.var i d e; ⟨v, h1, Rp.mono ff _ _ h2⟩, k, w.len, fl, w.slot⟩
theorem View.grow {F H F1 H1 : Hp} {sa : SA} {σ : L2.St} {η : EnvD} {τ : Src} (w : View F sa σ H η τ) (g : Grow F H F1 H1) : View F1 sa σ H1 η τ :=
  ⟨g.fh, fun i d e => let ⟨v, h1, h2⟩ := w.var i d e; ⟨v, h1, Rp.mono g.ff _ _ h2⟩, w.src.grow g, w.len, w.flag, w.slot⟩

/-- the mirror of an expression -/
abbrev M (α : Type) := EnvD → Src → Option (α × Src)
def mPure {α : Type} (a : α) : M α := fun _ τ => some (a, τ)
def mBind {α β : Type} (f : M α) (g : α → M β) : M β := fun η τ => match f η τ with
  | some (a, τ1) => g a η τ1
  | none => none
def mLift {α : Type} (o : Option α) : M α := fun _ τ => match o with
  | some a => some (a, τ)
  | none => none
def mVar (i : Nat) : M D := fun η τ => match η[i]? with
  | some (some d) => some (d, τ)
  | _ => none
theorem mBind_some {α β : Type} {f : M α} {g : α → M β} {η : EnvD} {τ : Src} {b : β} {τ2 : Src} (h : mBind f g η τ = some (b, τ2)) : ∃ a τ1, f η τ = some (a, τ1) ∧ g a η τ1 = some (b, τ2) := by
  unfold mBind at h
  split at h
  · exact ⟨_, _, by assumption, h⟩
  · cases h
theorem mLift_some {α : Type} {o : Option α} {η : EnvD} {τ : Src} {b : α} {τ2 : Src} (h : mLift o η τ = some (b, τ2)) : o = some b ∧ τ2 = τ := by
  unfold mLift at h
  split at h
  · cases h; exact ⟨rfl, rfl⟩
  · cases h

/-! the readings -/
def tE (f : M D) : TE := fun σ H Q => ∃ F sa η τ d τ', View F sa σ H η τ ∧ f η τ = some (d, τ') ∧ ∀ F' H' v, Ext sa F H F' H' → View F' sa σ H' η τ' → Rp F' v d → Q v H'
def tT (f : M Bool) : TT := fun σ H Q => ∃ F sa η τ d τ', View F sa σ H η τ ∧ f η τ = some (d, τ') ∧ ∀ F' H', Ext sa F H F' H' → View F' sa σ H' η τ' → Q d H'
def tL (f : M (List D)) : TA := fun σ H Q => ∃ F sa η τ d τ', View F sa σ H η τ ∧ f η τ = some (d, τ') ∧ ∀ F' H' v, Ext sa F H F' H' → View F' sa σ H' η τ' → RpA F' v d → Q v H'
/-- a new list whose items are data; it is not frozen yet -/
def tN (f : M (List D)) : TE := fun σ H Q => ∃ F sa η τ d τ', View F sa σ H η τ ∧ f η τ = some (d, τ') ∧ ∀ F' H' a vs, Ext sa F H F' H' → View F' sa σ H' η τ' → H a = none → F' a = none → H' a = some (.lst vs) → vs.length ≤ sizeLine → NotSrc sa a → RpA F' vs d → Q (.ref a) H'

abbrev DE (X : Cx) (e : Expr) (f : M D) : Prop := PE X e (tE f)
abbrev DT (X : Cx) (e : Expr) (f : M Bool) : Prop := PT X e (tT f)
abbrev DW (X : Cx) (e : Expr) (f : M Bool) : Prop := PW X e (tT f)
abbrev DA (X : Cx) (es : List Expr) (f : M (List D)) : Prop := PA X es (tL f)
abbrev DN (X : Cx) (e : Expr) (f : M (List D)) : Prop := PE X e (tN f)

theorem pe_w {X : Cx} {e : Expr} {t t' : TE} (h : PE X e t) (w : ∀ σ H Q, t' σ H Q → t σ H Q) : PE X e t' := ⟨fun pins s σ H Q I k => h.run pins s σ H Q I (w σ H Q k)⟩
theorem pt_w {X : Cx} {e : Expr} {t t' : TT} (h : PT X e t) (w : ∀ σ H Q, t' σ H Q → t σ H Q) : PT X e t' := ⟨fun pins s σ H Q I k => h.run pins s σ H Q I (w σ H Q k)⟩
theorem pw_w {X : Cx} {e : Expr} {t t' : TT} (h : PW X e t) (w : ∀ σ H Q, t' σ H Q → t σ H Q) : PW X e t' := ⟨fun wh pins s σ H Q I k => h.run wh pins s σ H Q I (w σ H Q k)⟩
theorem pa_w {X : Cx} {es : List Expr} {t t' : TA} (h : PA X es t) (w : ∀ σ H Q, t' σ H Q → t σ H Q) : PA X es t' := ⟨fun pos pins s σ H Q I k => h.run pos pins s σ H Q I (w σ H Q k)⟩

section
variable {F H : Hp} {sa : SA} {σ : L2.St} {η : EnvD} {τ τ' : Src} {f : M D} {d : D} {Q : VK}
theorem tE.go (w : View F sa σ H η τ) (e : f η τ = some (d, τ')) (h : ∀ F' H' v, Ext sa F H F' H' → View F' sa σ H' η τ' → Rp F' v d → Q v H') : tE f σ H Q := ⟨F, sa, η, τ, d, τ', w, e, h⟩
theorem tL.go {f : M (List D)} {d : List D} {Q : List V → Hp → Prop} (w : View F sa σ H η τ) (e : f η τ = some (d, τ')) (h : ∀ F' H' v, Ext sa F H F' H' → View F' sa σ H' η τ' → RpA F' v d → Q v H') : tL f σ H Q := ⟨F, sa, η, τ, d, τ', w, e, h⟩
theorem tN.go {f : M (List D)} {d : List D} (w : View F sa σ H η τ) (e : f η τ = some (d, τ')) (h : ∀ F' H' a vs, Ext sa F H F' H' → View F' sa σ H' η τ' → H a = none → F' a = none → H' a = some (.lst vs) → vs.length ≤ sizeLine → NotSrc sa a → RpA F' vs d → Q (.ref a) H') : tN f σ H Q := ⟨F, sa, η, τ, d, τ', w, e, h⟩
theorem tT.go {f : M Bool} {d : Bool} {Q : Bool → Hp → Prop} (w : View F sa σ H η τ) (e : f η τ = some (d, τ')) (h : ∀ F' H', Ext sa F H F' H' → View F' sa σ H' η τ' → Q d H') : tT f σ H Q := ⟨F, sa, η, τ, d, τ', w, e, h⟩
end

/-! ### operators by values -/
/-- what an operator's rule asks is given by its mirror on data -/
def Op2 (r : R2) (o : D → D → Option D) : Prop := ∀ (x y : V) (dx dy d : D) (F H : Hp) (Q : VK), o dx dy = some d → Same F H → Rp F x dx → Rp F y dy → (∀ F' H' v, Grow F H F' H' → Rp F' v d → Q v H') → r x y H Q
def Op1 (r : V → Hp → VK → Prop) (o : D → Option D) : Prop := ∀ (x : V) (dx d : D) (F H : Hp) (Q : VK), o dx = some d → Same F H → Rp F x dx → (∀ F' H' v, Grow F H F' H' → Rp F' v d → Q v H') → r x H Q
def OpL (r : List V → Hp → VK → Prop) (o : List D → Option D) : Prop := ∀ (x : List V) (dx : List D) (d : D) (F H : Hp) (Q : VK), o dx = some d → Same F H → RpA F x dx → (∀ F' H' v, Grow F H F' H' → Rp F' v d → Q v H') → r x H Q
def mOp2 (o : D → D → Option D) (f g : M D) : M D := mBind f fun x => mBind g fun y => mLift (o x y)
def mOp1 (o : D → Option D) (f : M D) : M D := mBind f fun x => mLift (o x)
def mOpL (o : List D → Option D) (f : M (List D)) : M D := mBind f fun x => mLift (o x)
section
variable {X : Cx} {a b : Expr} {f g : M D} {pos : Pos}
/-- two readings in a row -/
theorem two {F H : Hp} {sa : SA} {σ : L2.St} {η : EnvD} {τ τ1 τ2 : Src} {x y : D} {R : V → V → Hp → Prop} (w : View F sa σ H η τ) (e1 : f η τ = some (x, τ1)) (e2 : g η τ1 = some (y, τ2))
    (h : ∀ F' H' u v, Ext sa F H F' H' → View F' sa σ H' η τ2 → Rp F' u x → Rp F' v y → R u v H') : tE f σ H fun u H1 => tE g σ H1 fun v H2 => R u v H2 :=
  tE.go w e1 fun _ _ u x1 w1 r1 => tE.go w1 e2 fun F2 H2 v x2 w2 r2 => h F2 H2 u v (x1.trans x2) w2 (Rp.mono x2.ff _ _ r1) r2
theorem tOp_of {r : R2} {o : D → D → Option D} (h : Op2 r o) : ∀ σ H Q, tE (mOp2 o f g) σ H Q → tOp r (tE f) (tE g) σ H Q := by
  rintro σ H Q ⟨F, sa, η, τ, d, τ', w, e, k⟩
  obtain ⟨x, τ1, e1, e⟩ := mBind_some e
  obtain ⟨y, τ2, e2, e⟩ := mBind_some e
  obtain ⟨e3, rfl⟩ := mLift_some e
  exact two w e1 e2 fun F' H' u v x1 w1 r1 r2 => h u v x y d F' H' Q e3 w1.fh r1 r2 fun F2 H2 z gr rz => k F2 H2 z (x1.trans gr.ext) (w1.grow gr) rz
theorem de_bin {op : Operator} {r : R2} {o : D → D → Option D} (ho : OpR X (binaryOp op) r) (h : Op2 r o) (ha : DE X a f) (hb : DE X b g) : DE X (.BinOp a op b pos) (mOp2 o f g) :=
  pe_w (pe_op ho ha hb) (tOp_of h)
theorem de_cmp {op : CmpOp} {r : R2} {o : D → D → Option D} (ho : OpR X (compareOp op) r) (h : Op2 r o) (ha : DE X a f) (hb : DE X b g) (hm : behindInMarks op b = false) : DE X (.Compare a [op] [b] pos) (mOp2 o f g) :=
  pe_w (pe_cmpR ho ha hb hm) (tOp_of h)
theorem de_un {op : UnaryOp} {r : V → Hp → VK → Prop} {o : D → Option D} (ho : UnR X (unaryOp op) r) (h : Op1 r o) (ha : DE X a f) : DE X (.UnaryOp op a pos) (mOp1 o f) := by
  refine pe_w (pe_un ho ha) ?_
  rintro σ H Q ⟨F, sa, η, τ, d, τ', w, e, k⟩
  obtain ⟨x, τ1, e1, e⟩ := mBind_some e
  obtain ⟨e3, rfl⟩ := mLift_some e
  exact tE.go w e1 fun F' H' u x1 w1 r1 => h u x d F' H' Q e3 w1.fh r1 fun F2 H2 z gr rz => k F2 H2 z (x1.trans gr.ext) (w1.grow gr) rz
/-- a value as a test: a bool -/
def bOf : D → Option Bool
  | .bool b => some b
  | _ => none
def mBool (f : M D) : M Bool := mBind f fun x => mLift (bOf x)
theorem bOf_some {d : D} {b : Bool} (h : bOf d = some b) : d = .bool b := by
  cases d <;> simp [bOf] at h; subst h; rfl
theorem dt_val {e : Expr} (h : DE X e f) (he : ∀ whole, isTrue e X.env whole = (do let v ← whole; standAt e.pos; holding [v] (truthy v)) := by intro _; rfl) : DT X e (mBool f) := by
  refine pt_w (pt_val h he) ?_
  rintro σ H Q ⟨F, sa, η, τ, d, τ', w, e, k⟩
  obtain ⟨x, τ1, e1, e⟩ := mBind_some e
  obtain ⟨e3, rfl⟩ := mLift_some e
  obtain rfl := bOf_some e3
  refine tE.go w e1 fun F' H' u x1 w1 r1 => ?_
  cases r1
  exact ⟨d, rfl, k F' H' x1 w1⟩
/-- a comparison as a test -/
theorem dt_cmp {op : CmpOp} {r : R2} {o : D → D → Option D} (ho : OpR X (compareOp op) r) (h : Op2 r o) (ha : DE X a f) (hb : DE X b g) (hm : behindInMarks op b = false) : DT X (.Compare a [op] [b] pos) (mBool (mOp2 o f g)) := by
  refine pt_w (pt_cmpR ho ha hb hm) ?_
  rintro σ H Q ⟨F, sa, η, τ, d, τ', w, e, k⟩
  obtain ⟨x, τ1, e1, e⟩ := mBind_some e
  obtain ⟨e3, rfl⟩ := mLift_some e
  obtain rfl := bOf_some e3
  refine tOp_of h σ H _ (tE.go w e1 fun F' H' u x1 w1 r1 => ?_)
  cases r1
  exact ⟨d, rfl, k F' H' x1 w1⟩
end

/-! ### names and constants -/
section
variable {X : Cx} {pos : Pos}
theorem de_var (i : Nat) {x : Str} (hN : X.N[i]? = some x := by rfl) (hv : Vis X.env.scope x := by first | exact Or.inl rfl | exact Or.inr (Or.inl rfl) | exact Or.inr (Or.inr rfl)) (hd : (x == ("__debug__" : Str)) = false := by decide)
    (hcd : (x == ("__classdict__" : Str)) = false := by decide) : DE X (.Name x pos) (mVar i) := by
  refine pe_w (pe_var hN hv hd hcd) ?_
  rintro σ H Q ⟨F, sa, η, τ, d, τ', w, e, k⟩
  unfold mVar at e
  split at e
  · rename_i z hz
    cases e
    obtain ⟨v, h1, h2⟩ := w.var i d hz
    exact ⟨v, h1, k F H v .refl w h2⟩
  · cases e
theorem de_const {e : Expr} {v : V} {d : D} (h : PE X e (tC v)) (r : ∀ F, Rp F v d) : DE X e (mPure d) := by
  refine pe_w h ?_
  rintro σ H Q ⟨F, sa, η, τ, d', τ', w, e, k⟩
  cases e
  exact k F H v .refl w (r F)
theorem de_int {i : Int} {j : Nat} : DE X (.Constant (.int i) j pos) (mPure (.int i)) := de_const pe_int fun _ => .int i
theorem de_bl {b : Bool} {j : Nat} : DE X (.Constant (.bool b) j pos) (mPure (.bool b)) := de_const pe_bl fun _ => .bl b
theorem de_non {j : Nat} : DE X (.Constant .none j pos) (mPure .none) := de_const pe_non fun _ => .non
theorem de_str {x : Str} {j : Nat} : DE X (.Constant (.str x) j pos) (mPure (.str x)) := de_const pe_str fun _ => .str x
end

/-! ### argument lists, displays -/
def mNil : M (List D) := mPure []
def mCons (f : M D) (g : M (List D)) : M (List D) := mBind f fun x => mBind g fun xs => mPure (x :: xs)
def seqOf : D → Option (List D)
  | .list ds => some ds
  | .tuple ds => some ds
  | _ => none
def mStar (f : M D) (g : M (List D)) : M (List D) := mBind f fun x => mBind (mLift (seqOf x)) fun ds => mBind g fun xs => mPure (ds ++ xs)
def okLen (xs : List D) : Option (List D) := if xs.length ≤ sizeLine then some xs else none
def mTup (g : M (List D)) : M D := mBind g fun xs => mLift ((okLen xs).map PyData.tuple)
def mLst (g : M (List D)) : M (List D) := mBind g fun xs => mLift (okLen xs)
/-- a new list, frozen at once -/
def mOfN (g : M (List D)) : M D := mBind g fun xs => mPure (.list xs)
theorem okLen_some {xs ys : List D} (h : okLen xs = some ys) : ys = xs ∧ xs.length ≤ sizeLine := by
  unfold okLen at h
  split at h
  · cases h; exact ⟨rfl, by assumption⟩
  · cases h
section
variable {X : Cx} {e : Expr} {es : List Expr} {f : M D} {g : M (List D)} {pos p : Pos}
theorem da_nil : DA X [] mNil := by
  refine pa_w pa_nil ?_
  rintro σ H Q ⟨F, sa, η, τ, d, τ', w, e, k⟩
  cases e
  exact k F H [] .refl w .nil
theorem da_cons (he : DE X e f) (hr : DA X es g) (hs : starEach (e :: es) X.env = (false, eval e X.env) :: starEach es X.env := by rfl) : DA X (e :: es) (mCons f g) := by
  refine pa_w (pa_cons he hr hs) ?_
  rintro σ H Q ⟨F, sa, η, τ, d, τ', w, e, k⟩
  obtain ⟨x, τ1, e1, e⟩ := mBind_some e
  obtain ⟨xs, τ2, e2, e⟩ := mBind_some e
  cases e
  exact tE.go w e1 fun F1 H1 u x1 w1 r1 => tL.go w1 e2 fun F2 H2 us x2 w2 r2 => k F2 H2 _ (x1.trans x2) w2 (.cons (Rp.mono x2.ff _ _ r1) r2)
theorem seq_at {F H : Hp} {K : PySem.W.Frag} {x : D} {v : V} {ds : List D} (s : Same F H) (h : seqOf x = some ds) (r : Rp F v x) : ∃ p xs, v = .ref p ∧ (SqT K H p xs ∨ SqL K H p xs) ∧ xs.length ≤ sizeLine ∧ RpA F xs ds := by
  cases x <;> simp only [seqOf, Option.some.injEq, reduceCtorEq] at h
  · subst h; cases r with | lst h1 h2 h3 => exact ⟨_, _, rfl, .inr (.of (s _ _ h1)), h2, h3⟩
  · subst h; cases r with | tup h1 h2 h3 => exact ⟨_, _, rfl, .inl (.of (s _ _ h1)), h2, h3⟩
theorem da_star (he : DE X e f) (hr : DA X es g) (hs : starEach (.Starred e p :: es) X.env = (true, eval e X.env) :: starEach es X.env := by rfl) : DA X (.Starred e p :: es) (mStar f g) := by
  refine pa_w (StX.pa_star he hr hs) ?_
  rintro σ H Q ⟨F, sa, η, τ, d, τ', w, e, k⟩
  obtain ⟨x, τ1, e1, e⟩ := mBind_some e
  obtain ⟨ds, τ2, e2, ea⟩ := mBind_some e
  obtain ⟨e4, rfl⟩ := mLift_some e2
  obtain ⟨xs, τ3, e3, eb⟩ := mBind_some ea
  cases eb
  refine tE.go w e1 fun F1 H1 u x1 w1 r1 => ?_
  obtain ⟨q, vs, rfl, hq, _, hr⟩ := seq_at (K := X.K) w1.fh e4 r1
  exact ⟨q, vs, rfl, hq, tL.go w1 e3 fun F2 H2 us x2 w2 r2 => k F2 H2 _ (x1.trans x2) w2 ((RpA.mono x2.ff _ _ hr).append r2)⟩
theorem de_tup {k : Nat} (h : DA X es g) : DE X (.Tuple es k pos) (mTup g) := by
  refine pe_w (pe_tup h) ?_
  rintro σ H Q ⟨F, sa, η, τ, d, τ', w, e, k⟩
  obtain ⟨xs, τ1, e1, e⟩ := mBind_some e
  obtain ⟨e2, rfl⟩ := mLift_some e
  obtain ⟨ys, e3, rfl⟩ := Option.map_eq_some_iff.mp e2
  obtain ⟨rfl, hl⟩ := okLen_some e3
  refine tL.go w e1 fun F1 H1 us x1 w1 r1 => ⟨by rw [r1.length]; exact hl, fun q hq => ?_⟩
  have gr := Grow.alloc w1.fh hq (.tup us)
  exact k _ _ _ (x1.trans gr.ext) (w1.grow gr) (.tup upd_same (by rw [r1.length]; exact hl) (RpA.mono gr.ff _ _ r1))
theorem notSrc_new {F H : Hp} {sa : SA} {τ : Src} {a : Addr} (k : SrcOk sa F H τ) (h : H a = none) : NotSrc sa a := fun i p c e => by
  obtain ⟨h1, h2, _⟩ := k i p c e
  exact ⟨fun z => (by rw [z, h1] at h; cases h), fun z => (by rw [z, h2] at h; cases h)⟩
theorem dn_lst (h : DA X es g) : DN X (.List es pos) (mLst g) := by
  refine pe_w (pe_lst h) ?_
  rintro σ H Q ⟨F, sa, η, τ, d, τ', w, e, k⟩
  obtain ⟨xs, τ1, e1, e⟩ := mBind_some e
  obtain ⟨e2, rfl⟩ := mLift_some e
  obtain ⟨rfl, hl⟩ := okLen_some e2
  refine tL.go w e1 fun F1 H1 us x1 w1 r1 => ⟨by rw [r1.length]; exact hl, fun q hq => ?_⟩
  have gr := Grow.own w1.fh hq (.lst us)
  have hq0 : H q = none := by
    cases z : H q with
    | none => rfl
    | some o => exact absurd hq (x1.nn q (nn_of z))
  exact k _ _ _ _ (x1.trans gr.ext) (w1.grow gr) hq0 (w1.fh.free hq) upd_same (by rw [r1.length]; exact hl) (notSrc_new w1.src hq) r1
/-- a new list as data -/
theorem de_ofN (h : DN X e g) : DE X e (mOfN g) := by
  refine pe_w h ?_
  rintro σ H Q ⟨F, sa, η, τ, d, τ', w, e, k⟩
  obtain ⟨xs, τ1, e1, e⟩ := mBind_some e
  cases e
  refine tN.go w e1 fun F1 H1 a us x1 w1 h0 hF hH hl hn r1 => ?_
  have sf : Same F1 (upd F1 a (.lst us)) := same_new hF
  have fh : Same (upd F1 a (.lst us)) H1 := fun b o z => by
    by_cases hb : b = a
    · subst hb; rw [upd_same] at z; rw [hH]; exact z
    · rw [upd_ne hb] at z; exact w1.fh b o z
  have ex : Ext sa F H (upd F1 a (.lst us)) H1 := ⟨x1.ff.trans sf, x1.hh, x1.nn, fun b z1 z2 => by
    have hb : b ≠ a := fun q => z2 (by rw [q]; exact h0)
    rw [upd_ne hb]; exact x1.nf b z1 z2⟩
  refine k _ _ _ ex ⟨fh, fun i d e => let ⟨v, h1, h2⟩ := w1.var i d e; ⟨v, h1, Rp.mono sf _ _ h2⟩, fun i p c e => ?_, w1.len, w1.flag, w1.slot⟩ (.lst upd_same hl (RpA.mono sf _ _ r1))
  obtain ⟨h1, h2, h3, h4, h5⟩ := w1.src i p c e
  obtain ⟨n1, n2⟩ := hn i p c e
  exact ⟨h1, h2, h3, by rw [upd_ne (Ne.symm n1)]; exact h4, by rw [upd_ne (Ne.symm n2)]; exact h5⟩
end
end DL

/-! DLb: the operators by their mirrors on data. -/
namespace DL
open PySem PySem.Spec PyProof.Rows L2

/-! ### arithmetic -/
def iOf : D → Option Int
  | .int i => some i
  | _ => none
theorem iOf_some {d : D} {i : Int} (h : iOf d = some i) : d = .int i := by
  cases d <;> simp [iOf] at h; subst h; rfl
def dI (g : Int → Int → D) (c : Int → Int → Bool) (x y : D) : Option D := match x, y with
  | .int i, .int j => if c i j = true then some (g i j) else none
  | _, _ => none
theorem dI_some {g : Int → Int → D} {c : Int → Int → Bool} {x y d : D} (h : dI g c x y = some d) : ∃ i j, x = .int i ∧ y = .int j ∧ c i j = true ∧ d = g i j := by
  unfold dI at h
  split at h
  · split at h
    · cases h; exact ⟨_, _, rfl, rfl, by assumption, rfl⟩
    · cases h
  · cases h
theorem op2_int {C : Int → Int → Prop} {g : Int → Int → V} {gd : Int → Int → D} {c : Int → Int → Bool} (hc : ∀ i j, c i j = true → C i j) (hg : ∀ F i j, Rp F (g i j) (gd i j)) : Op2 (rI C g) (dI gd c) := by
  intro x y dx dy d F H Q e s rx ry k
  obtain ⟨i, j, rfl, rfl, h, rfl⟩ := dI_some e
  cases rx
  cases ry
  exact ⟨i, j, rfl, rfl, hc i j h, k F H _ (.refl s) (hg F i j)⟩
theorem op2_int0 {g : Int → Int → V} {gd : Int → Int → D} (hg : ∀ F i j, Rp F (g i j) (gd i j)) : Op2 (rI0 g) (dI gd fun _ _ => true) := by
  intro x y dx dy d F H Q e s rx ry k
  obtain ⟨i, j, rfl, rfl, h, rfl⟩ := dI_some e
  cases rx
  cases ry
  exact ⟨i, j, rfl, rfl, k F H _ (.refl s) (hg F i j)⟩
/-- one rule or the other, one mirror or else the other -/
def dOr (o o' : D → D → Option D) (x y : D) : Option D := match o x y with
  | some d => some d
  | none => o' x y
theorem Op2.or {r r' : R2} {o o' : D → D → Option D} (h : Op2 r o) (h' : Op2 r' o') : Op2 (fun x y H Q => r x y H Q ∨ r' x y H Q) (dOr o o') := by
  intro x y dx dy d F H Q e s rx ry k
  unfold dOr at e
  split at e
  · rename_i z hz
    cases e
    exact .inl (h x y dx dy d F H Q hz s rx ry k)
  · exact .inr (h' x y dx dy d F H Q e s rx ry k)
def dCatL : D → D → Option D
  | .list xs, .list ys => if xs.length + ys.length ≤ sizeLine then some (.list (xs ++ ys)) else none
  | _, _ => none
theorem op2_catL : Op2 rCat dCatL := by
  intro x y dx dy d F H Q e s rx ry k
  unfold dCatL at e
  split at e
  · rename_i xs ys
    split at e
    · rename_i hl
      cases e
      cases rx with
      | @lst pa vs _ h1 h2 h3 =>
        cases ry with
        | @lst pb ws _ g1 g2 g3 =>
          have hz := h3.length
          have hz2 := g3.length
          refine ⟨_, _, _, _, rfl, rfl, s _ _ h1, s _ _ g1, by omega, fun p hp => ?_⟩
          have gr := Grow.alloc s hp (.lst (vs ++ ws))
          exact k _ _ _ gr (.lst upd_same (by rw [List.length_append]; omega) (RpA.mono gr.ff _ _ (h3.append g3)))
    · cases e
  · cases e
def dCatT : D → D → Option D
  | .tuple xs, .tuple ys => if xs.length + ys.length ≤ sizeLine then some (.tuple (xs ++ ys)) else none
  | _, _ => none
theorem op2_catT {K : PySem.W.Frag} : Op2 (rCatA K) dCatT := by
  intro x y dx dy d F H Q e s rx ry k
  unfold dCatT at e
  split at e
  · rename_i xs ys
    split at e
    · rename_i hl
      cases e
      cases rx with
      | @tup pa vs _ h1 h2 h3 =>
        cases ry with
        | @tup pb ws _ g1 g2 g3 =>
          have hz := h3.length
          have hz2 := g3.length
          refine ⟨_, _, _, _, rfl, rfl, .of (s _ _ h1), .of (s _ _ g1), by omega, fun e0 => ?_, fun _ e0 => ?_, fun _ _ p hp => ?_⟩
          · subst e0
            cases h3
            exact k F H _ (.refl s) (.tup g1 g2 g3)
          · subst e0
            cases g3
            rw [List.append_nil] at k
            exact k F H _ (.refl s) (.tup h1 h2 h3)
          · have gr := Grow.alloc s hp (.tup (vs ++ ws))
            exact k _ _ _ gr (.tup upd_same (by rw [List.length_append]; omega) (RpA.mono gr.ff _ _ (h3.append g3)))
    · cases e
  · cases e
def dStr : D → D → Option D
  | .str x, .str y => if x.length + y.length ≤ sizeLine then some (.str (x ++ y)) else none
  | _, _ => none
def dAdd : D → D → Option D := dOr (dI (fun i j => .int (i + j)) fun _ _ => true) (dOr dCatL dCatT)
def dSub : D → D → Option D := dI (fun i j => .int (i - j)) fun _ _ => true
def dFloor : D → D → Option D := dI (fun i j => .int (i / j)) fun _ j => decide (0 < j) && decide (j.natAbs.log2 < 9000)
def dMod : D → D → Option D := dI (fun i j => .int (i % j)) fun _ j => decide (0 < j)
def okPow (i j : Int) : Bool := decide (0 ≤ j) && decide (j ≤ 1000000) && decide (i.natAbs < 2 ^ 64)
def dPow : D → D → Option D := dI (fun i j => .int (i ^ j.toNat)) okPow
def dShl : D → D → Option D := dI (fun i j => .int (i * 2 ^ j.toNat)) okPow
theorem okPow_c {i j : Int} (h : okPow i j = true) : CPow i j := by
  unfold okPow at h
  simp only [Bool.and_eq_true, decide_eq_true_eq] at h
  exact ⟨h.1.1, h.1.2, h.2⟩
section
variable {X : Cx} {a b : Expr} {f g : M D} {pos : Pos}
theorem de_add (ha : DE X a f) (hb : DE X b g) : DE X (.BinOp a .Add b pos) (mOp2 dAdd f g) :=
  de_bin (op_add.or (op_cat.or op_catA)) ((op2_int0 fun _ _ _ => .int _).or (op2_catL.or op2_catT)) ha hb
theorem de_sub (ha : DE X a f) (hb : DE X b g) : DE X (.BinOp a .Sub b pos) (mOp2 dSub f g) := de_bin op_sub (op2_int0 fun _ _ _ => .int _) ha hb
theorem de_floor (ha : DE X a f) (hb : DE X b g) : DE X (.BinOp a .FloorDiv b pos) (mOp2 dFloor f g) := de_bin op_fdivW (op2_int (fun i j h => by
  simp only [Bool.and_eq_true, decide_eq_true_eq] at h
  exact ⟨h.1, h.2⟩) fun _ _ _ => .int _) ha hb
theorem de_mod (ha : DE X a f) (hb : DE X b g) : DE X (.BinOp a .Mod b pos) (mOp2 dMod f g) := de_bin op_mod (op2_int (fun i j h => of_decide_eq_true h) fun _ _ _ => .int _) ha hb
theorem de_pow (ha : DE X a f) (hb : DE X b g) : DE X (.BinOp a .Pow b pos) (mOp2 dPow f g) := de_bin op_pow (op2_int (fun _ _ => okPow_c) fun _ _ _ => .int _) ha hb
theorem de_shl (ha : DE X a f) (hb : DE X b g) : DE X (.BinOp a .LShift b pos) (mOp2 dShl f g) := de_bin op_shl (op2_int (fun _ _ => okPow_c) fun _ _ _ => .int _) ha hb
def dNeg (x : D) : Option D := (iOf x).map fun i => .int (-i)
theorem op1_neg : Op1 (rU fun i => .int (-i)) dNeg := by
  intro x dx d F H Q e s rx k
  obtain ⟨i, h1, rfl⟩ := Option.map_eq_some_iff.mp e
  obtain rfl := iOf_some h1
  cases rx
  exact ⟨i, rfl, k F H _ (.refl s) (.int _)⟩
theorem de_neg (ha : DE X a f) : DE X (.UnaryOp .USub a pos) (mOp1 dNeg f) := de_un un_neg op1_neg ha

/-! ### == and the order of ints -/
def okEq (x y : D) : Bool := SeqAt.shaped x && SeqAt.shaped y
def dEq (x y : D) : Option D := if okEq x y = true then some (.bool (PyData.eqv x y)) else none
def dNe (x y : D) : Option D := if okEq x y = true then some (.bool (!PyData.eqv x y)) else none
theorem lay_of {x : D} (h : SeqAt.shaped x = true) : x.canLay0 = true := SeqAt.canLay_of_shaped h
theorem op2_eq {K : PySem.W.Frag} : Op2 (rEqD K) dEq := by
  intro x y dx dy d F H Q e s rx ry k
  unfold dEq at e
  split at e
  · rename_i h
    cases e
    unfold okEq at h
    rw [Bool.and_eq_true] at h
    exact ⟨dx, dy, Rp.dp _ _ (lay_of h.1) (Rp.mono s _ _ rx), Rp.dp _ _ (lay_of h.2) (Rp.mono s _ _ ry), h.1, h.2, k F H _ (.refl s) (.bl _)⟩
  · cases e
theorem op2_ne {K : PySem.W.Frag} : Op2 (rNeD K) dNe := by
  intro x y dx dy d F H Q e s rx ry k
  unfold dNe at e
  split at e
  · rename_i h
    cases e
    unfold okEq at h
    rw [Bool.and_eq_true] at h
    exact ⟨dx, dy, Rp.dp _ _ (lay_of h.1) (Rp.mono s _ _ rx), Rp.dp _ _ (lay_of h.2) (Rp.mono s _ _ ry), h.1, h.2, k F H _ (.refl s) (.bl _)⟩
  · cases e
def dLt : D → D → Option D := dI (fun i j => .bool (decide (i < j))) fun _ _ => true
def dLe : D → D → Option D := dI (fun i j => .bool (decide (i ≤ j))) fun _ _ => true
def dGt : D → D → Option D := dI (fun i j => .bool (decide (j < i))) fun _ _ => true
def dGe : D → D → Option D := dI (fun i j => .bool (decide (j ≤ i))) fun _ _ => true
/-! ### in -/
def dIn (x y : D) : Option D := match seqOf y with
  | some ds => if okEq x y = true then some (.bool (ds.any fun z => PyData.eqv z x)) else none
  | none => none
def dNotIn (x y : D) : Option D := match seqOf y with
  | some ds => if okEq x y = true then some (.bool (!ds.any fun z => PyData.eqv z x)) else none
  | none => none
def rInS (K : PySem.W.Frag) : R2 := fun x y H Q => ∃ d c ds, Dp K H x d ∧ Dp K H y c ∧ seqOf c = some ds ∧ SeqAt.shaped d = true ∧ SeqAt.shaped c = true ∧ Q (.bl (ds.any fun z => PyData.eqv z d)) H
def rNotInS (K : PySem.W.Frag) : R2 := fun x y H Q => ∃ d c ds, Dp K H x d ∧ Dp K H y c ∧ seqOf c = some ds ∧ SeqAt.shaped d = true ∧ SeqAt.shaped c = true ∧ Q (.bl (!ds.any fun z => PyData.eqv z d)) H
theorem op_inS (hu : X.A.units + 65 < cLine) : OpR X (compareOp .In) (rInS X.K) := by
  intro pins s σ H x y v u Q I rx ry h
  obtain ⟨d, c, ds, hd, he, hs, sd, se, q⟩ := h
  obtain ⟨as, r1⟩ := Dp.reads I d x v hd rx
  obtain ⟨bs, r2⟩ := Dp.reads I c y u he ry
  cases c <;> simp only [seqOf, Option.some.injEq, reduceCtorEq] at hs
  · subst hs
    exact SeqAt.in_list_reads r2 r1 (SeqAt.canLay_of_shaped se) (SeqAt.canLay_of_shaped sd) (room_in_shaped sd hu) ⟨.bl _, H, I, rfl, q⟩
  · subst hs
    exact SeqAt.in_tuple_reads r2 r1 (SeqAt.canLay_of_shaped se) (SeqAt.canLay_of_shaped sd) (room_in_shaped sd hu) ⟨.bl _, H, I, rfl, q⟩
theorem op_notInS (hu : X.A.units + 65 < cLine) : OpR X (compareOp .NotIn) (rNotInS X.K) := by
  intro pins s σ H x y v u Q I rx ry h
  obtain ⟨d, c, ds, hd, he, hs, sd, se, q⟩ := h
  obtain ⟨as, r1⟩ := Dp.reads I d x v hd rx
  obtain ⟨bs, r2⟩ := Dp.reads I c y u he ry
  cases c <;> simp only [seqOf, Option.some.injEq, reduceCtorEq] at hs
  · subst hs
    exact SeqAt.notIn_list_reads r2 r1 (SeqAt.canLay_of_shaped se) (SeqAt.canLay_of_shaped sd) (room_in_shaped sd hu) ⟨.bl _, H, I, rfl, q⟩
  · subst hs
    exact SeqAt.notIn_tuple_reads r2 r1 (SeqAt.canLay_of_shaped se) (SeqAt.canLay_of_shaped sd) (room_in_shaped sd hu) ⟨.bl _, H, I, rfl, q⟩
theorem op2_in {K : PySem.W.Frag} : Op2 (rInS K) dIn := by
  intro x y dx dy d F H Q e s rx ry k
  unfold dIn at e
  split at e
  · rename_i ds hds
    split at e
    · rename_i h
      cases e
      unfold okEq at h
      rw [Bool.and_eq_true] at h
      exact ⟨dx, dy, ds, Rp.dp _ _ (lay_of h.1) (Rp.mono s _ _ rx), Rp.dp _ _ (lay_of h.2) (Rp.mono s _ _ ry), hds, h.1, h.2, k F H _ (.refl s) (.bl _)⟩
    · cases e
  · cases e
theorem op2_notIn {K : PySem.W.Frag} : Op2 (rNotInS K) dNotIn := by
  intro x y dx dy d F H Q e s rx ry k
  unfold dNotIn at e
  split at e
  · rename_i ds hds
    split at e
    · rename_i h
      cases e
      unfold okEq at h
      rw [Bool.and_eq_true] at h
      exact ⟨dx, dy, ds, Rp.dp _ _ (lay_of h.1) (Rp.mono s _ _ rx), Rp.dp _ _ (lay_of h.2) (Rp.mono s _ _ ry), hds, h.1, h.2, k F H _ (.refl s) (.bl _)⟩
    · cases e
  · cases e
/-! ### is None -/
def isN : D → Bool
  | .none => true
  | _ => false
def dIsN (x y : D) : Option D := if isN y = true then some (.bool (isN x)) else none
def dNotN (x y : D) : Option D := if isN y = true then some (.bool (!isN x)) else none
theorem isN_rp {F : Hp} {v : V} {d : D} (r : Rp F v d) : decide (v = .non) = isN d := by cases r <;> simp [isN]
theorem isN_v {F : Hp} {v : V} {d : D} (r : Rp F v d) (h : isN d = true) : v = .non := by
  have := isN_rp r
  rw [h] at this
  exact of_decide_eq_true this
theorem op2_isN : Op2 (fun x y H Q => y = .non ∧ Q (.bl (decide (x = .non))) H) dIsN := by
  intro x y dx dy d F H Q e s rx ry k
  unfold dIsN at e
  split at e
  · rename_i h
    cases e
    exact ⟨isN_v ry h, by rw [isN_rp rx]; exact k F H _ (.refl s) (.bl _)⟩
  · cases e
theorem op2_notN : Op2 (fun x y H Q => y = .non ∧ Q (.bl (!decide (x = .non))) H) dNotN := by
  intro x y dx dy d F H Q e s rx ry k
  unfold dNotN at e
  split at e
  · rename_i h
    cases e
    exact ⟨isN_v ry h, by rw [isN_rp rx]; exact k F H _ (.refl s) (.bl _)⟩
  · cases e
end

/-! ### and, or, not, if else -/
def mAnd (f g : M Bool) : M Bool := mBind f fun b => if b = true then g else mPure false
def mOr (f g : M Bool) : M Bool := mBind f fun b => if b = true then mPure true else g
def mNot (f : M Bool) : M Bool := mBind f fun b => mPure (!b)
def mIf {α : Type} (c : M Bool) (f g : M α) : M α := mBind c fun b => if b = true then f else g
def mAndV (f g : M D) : M D := mBind (mBool f) fun b => if b = true then g else mPure (.bool false)
def mOrV (f g : M D) : M D := mBind (mBool f) fun b => if b = true then mPure (.bool true) else g
def mNotV (f : M D) : M D := mBind (mBool f) fun b => mPure (.bool (!b))
theorem mBool_some {f : M D} {η : EnvD} {τ τ' : Src} {b : Bool} (h : mBool f η τ = some (b, τ')) : f η τ = some (.bool b, τ') := by
  unfold mBool at h
  obtain ⟨x, τ1, e1, e2⟩ := mBind_some h
  obtain ⟨e3, rfl⟩ := mLift_some e2
  rw [bOf_some e3] at e1
  exact e1
section
variable {X : Cx} {a b c : Expr} {rest : List Expr} {f g : M Bool} {u v : M D} {pos : Pos}
theorem dw_and1 (ha : DT X a f) : DW X (.BoolOp .And [a] pos) f := pw_and1 ha
theorem dw_or1 (ha : DT X a f) : DW X (.BoolOp .Or [a] pos) f := pw_or1 ha
theorem dw_and (ha : DT X a f) (hb : DW X (.BoolOp .And (b :: rest) pos) g) : DW X (.BoolOp .And (a :: b :: rest) pos) (mAnd f g) := by
  refine pw_w (pw_and ha hb) ?_
  rintro σ H Q ⟨F, sa, η, τ, d, τ', w, e, k⟩
  obtain ⟨x, τ1, e1, e2⟩ := mBind_some e
  refine tT.go w e1 fun F1 H1 x1 w1 => ?_
  cases x with
  | true => exact iteT (tT.go w1 e2 fun F2 H2 x2 w2 => k F2 H2 (x1.trans x2) w2)
  | false => cases e2; exact iteF (k F1 H1 x1 w1)
theorem dw_or (ha : DT X a f) (hb : DW X (.BoolOp .Or (b :: rest) pos) g) : DW X (.BoolOp .Or (a :: b :: rest) pos) (mOr f g) := by
  refine pw_w (pw_or ha hb) ?_
  rintro σ H Q ⟨F, sa, η, τ, d, τ', w, e, k⟩
  obtain ⟨x, τ1, e1, e2⟩ := mBind_some e
  refine tT.go w e1 fun F1 H1 x1 w1 => ?_
  cases x with
  | false => exact iteF (tT.go w1 e2 fun F2 H2 x2 w2 => k F2 H2 (x1.trans x2) w2)
  | true => cases e2; exact iteT (k F1 H1 x1 w1)
theorem dt_w (h : DW X a f) : DT X a f := h.pt
theorem dt_not (ha : DT X a f) : DT X (.UnaryOp .Not a pos) (mNot f) := by
  refine pt_w (pt_not ha) ?_
  rintro σ H Q ⟨F, sa, η, τ, d, τ', w, e, k⟩
  obtain ⟨x, τ1, e1, e2⟩ := mBind_some e
  cases e2
  exact tT.go w e1 fun F1 H1 x1 w1 => k F1 H1 x1 w1
theorem de_one {op : BoolOp} (h : DE X a u) : DE X (.BoolOp op [a] pos) u := pe_one h
theorem de_and (ha : DE X a u) (hb : DE X (.BoolOp .And (b :: rest) pos) v) : DE X (.BoolOp .And (a :: b :: rest) pos) (mAndV u v) := by
  refine pe_w (pe_and ha hb) ?_
  rintro σ H Q ⟨F, sa, η, τ, d, τ', w, e, k⟩
  obtain ⟨x, τ1, e1, e2⟩ := mBind_some e
  refine tE.go w (mBool_some e1) fun F1 H1 z x1 w1 r1 => ?_
  cases r1
  refine ⟨x, rfl, ?_⟩
  cases x with
  | true => exact iteT (tE.go w1 e2 fun F2 H2 z x2 w2 r2 => k F2 H2 z (x1.trans x2) w2 r2)
  | false => cases e2; exact iteF (k F1 H1 _ x1 w1 (.bl _))
theorem de_or (ha : DE X a u) (hb : DE X (.BoolOp .Or (b :: rest) pos) v) : DE X (.BoolOp .Or (a :: b :: rest) pos) (mOrV u v) := by
  refine pe_w (pe_or ha hb) ?_
  rintro σ H Q ⟨F, sa, η, τ, d, τ', w, e, k⟩
  obtain ⟨x, τ1, e1, e2⟩ := mBind_some e
  refine tE.go w (mBool_some e1) fun F1 H1 z x1 w1 r1 => ?_
  cases r1
  refine ⟨x, rfl, ?_⟩
  cases x with
  | false => exact iteF (tE.go w1 e2 fun F2 H2 z x2 w2 r2 => k F2 H2 z (x1.trans x2) w2 r2)
  | true => cases e2; exact iteT (k F1 H1 _ x1 w1 (.bl _))
theorem de_not (ha : DE X a u) : DE X (.UnaryOp .Not a pos) (mNotV u) := by
  refine pe_w (pe_not ha) ?_
  rintro σ H Q ⟨F, sa, η, τ, d, τ', w, e, k⟩
  obtain ⟨x, τ1, e1, e2⟩ := mBind_some e
  cases e2
  refine tE.go w (mBool_some e1) fun F1 H1 z x1 w1 r1 => ?_
  cases r1
  exact ⟨x, rfl, k F1 H1 _ x1 w1 (.bl _)⟩
theorem de_if (hc : DT X c f) (ha : DE X a u) (hb : DE X b v) : DE X (.IfExp c a b pos) (mIf f u v) := by
  refine pe_w (pe_ifExp hc ha hb) ?_
  rintro σ H Q ⟨F, sa, η, τ, d, τ', w, e, k⟩
  obtain ⟨x, τ1, e1, e2⟩ := mBind_some e
  refine tT.go w e1 fun F1 H1 x1 w1 => ?_
  cases x with
  | true => exact iteT (tE.go w1 e2 fun F2 H2 z x2 w2 r2 => k F2 H2 z (x1.trans x2) w2 r2)
  | false => exact iteF (tE.go w1 e2 fun F2 H2 z x2 w2 r2 => k F2 H2 z (x1.trans x2) w2 r2)
/-! ### chains: a < b < c -/
def mChain (o o' : D → D → Option D) (p q r : M D) : M D := mBind p fun x => mBind q fun y => mBind (mLift ((o x y).bind bOf)) fun k => if k = true then mBind r fun z => mLift (o' y z) else mPure (.bool false)
end

/-! ### items, slices -/
def dIx (x y : D) : Option D := match seqOf x, y with
  | some ds, .int i => atI ds i
  | _, _ => none
theorem rpA_atI {F : Hp} {vs : List V} {ds : List D} {i : Int} {d : D} (r : RpA F vs ds) (h : atI ds i = some d) : ∃ v, atI vs i = some v ∧ Rp F v d := by
  unfold atI at h ⊢
  rw [r.length]
  cases e : ixN ds.length i with
  | none => rw [e] at h; cases h
  | some j => rw [e] at h; exact r.get h
theorem op2_ix {K : PySem.W.Frag} : Op2 (rIx K) dIx := by
  intro x y dx dy d F H Q e s rx ry k
  unfold dIx at e
  split at e
  · rename_i ds i hds
    cases ry
    cases dx <;> simp only [seqOf, Option.some.injEq, reduceCtorEq] at hds
    · subst hds
      cases rx with
      | lst h1 h2 h3 =>
        obtain ⟨v, hv, rv⟩ := rpA_atI h3 e
        exact .inl ⟨_, _, i, v, rfl, rfl, .of (s _ _ h1), hv, k F H v (.refl s) rv⟩
    · subst hds
      cases rx with
      | tup h1 h2 h3 =>
        obtain ⟨v, hv, rv⟩ := rpA_atI h3 e
        exact .inr (.inl ⟨_, _, i, v, rfl, rfl, .of (s _ _ h1), hv, k F H v (.refl s) rv⟩)
  · cases e
def cutD (ds : List D) (lo hi : Option Int) : List D := (ds.drop (HT.sIx ds.length 0 lo)).take (HT.sIx ds.length ds.length hi - HT.sIx ds.length 0 lo)
theorem rpA_cut {F : Hp} {vs : List V} {ds : List D} {lo hi : Option Int} (r : RpA F vs ds) : RpA F (cutV vs lo hi) (cutD ds lo hi) := by
  unfold cutV cutD
  rw [r.length]
  exact (r.drop _).take _
theorem cutD_whole {ds : List D} {lo hi : Option Int} (h : HT.sIx ds.length 0 lo = 0 ∧ HT.sIx ds.length ds.length hi = ds.length) : cutD ds lo hi = ds := by
  unfold cutD
  rw [h.1, h.2, List.drop_zero, Nat.sub_zero, List.take_length]
def mNoPart : M (Option Int) := mPure none
def mPart (f : M D) : M (Option Int) := mBind f fun x => mLift ((iOf x).map some)
def tO (f : M (Option Int)) : TO := fun σ H Q => ∃ F sa η τ d τ', View F sa σ H η τ ∧ f η τ = some (d, τ') ∧ ∀ F' H', Ext sa F H F' H' → View F' sa σ H' η τ' → Q d H'
abbrev DO (X : Cx) (e : Option Expr) (f : M (Option Int)) : Prop := PO X e (tO f)
def dCut (x : D) (lo hi : Option Int) : Option D := match x with
  | .tuple ds => some (.tuple (cutD ds lo hi))
  | .list ds => some (.list (cutD ds lo hi))
  | _ => none
def mSlice (f : M D) (l h : M (Option Int)) : M D := mBind f fun x => mBind l fun lo => mBind h fun hi => mLift (dCut x lo hi)
section
variable {X : Cx} {a b : Expr} {lo hi : Option Expr} {f g : M D} {l h : M (Option Int)} {pos p2 : Pos}
theorem de_ix (ha : DE X a f) (hb : DE X b g) (hs : PlainIx b) : DE X (.Subscript a b pos) (mOp2 dIx f g) := pe_w (pe_ix ix_seq ha hb hs) (tOp_of op2_ix)
theorem do_none : DO X none mNoPart := by
  refine ⟨fun pins s σ H Q I hw => ?_⟩
  obtain ⟨F, sa, η, τ, d, τ', w, e, k⟩ := hw
  cases e
  exact po_none.run pins s σ H Q I (k F H .refl w)
theorem do_some (he : DE X a f) : DO X (some a) (mPart f) := by
  refine ⟨fun pins s σ H Q I hw => (po_some he).run pins s σ H Q I ?_⟩
  obtain ⟨F, sa, η, τ, d, τ', w, e, k⟩ := hw
  obtain ⟨x, τ1, e1, e2⟩ := mBind_some e
  obtain ⟨e3, rfl⟩ := mLift_some e2
  obtain ⟨i, e4, rfl⟩ := Option.map_eq_some_iff.mp e3
  obtain rfl := iOf_some e4
  refine tE.go w e1 fun F1 H1 z x1 w1 r1 => ?_
  cases r1
  exact ⟨i, rfl, k F1 H1 x1 w1⟩
theorem cut_ok {K : PySem.W.Frag} {x : V} {dx d : D} {lo hi : Option Int} {F H : Hp} {Q : VK} (e : dCut dx lo hi = some d) (s : Same F H) (rx : Rp F x dx) (k : ∀ F' H' v, Grow F H F' H' → Rp F' v d → Q v H') : rSlL K x lo hi H Q ∨ rSlA K x lo hi H Q := by
  unfold dCut at e
  split at e
  · cases e
    cases rx with
    | @tup pa vs _ h1 h2 h3 =>
      refine .inr ⟨_, _, rfl, .of (s _ _ h1), fun hw => ?_, fun hw p hp => ?_⟩
      · rw [h3.length] at hw
        rw [cutD_whole hw] at k
        exact k F H _ (.refl s) (.tup h1 h2 h3)
      · have gr := Grow.alloc s hp (.tup (cutV vs lo hi))
        exact k _ _ _ gr (.tup upd_same (Nat.le_trans (cutV_length _ _ _) h2) (RpA.mono gr.ff _ _ (rpA_cut h3)))
  · cases e
    cases rx with
    | @lst pa vs _ h1 h2 h3 =>
      refine .inl ⟨_, _, rfl, .of (s _ _ h1), fun p hp => ?_⟩
      have gr := Grow.alloc s hp (.lst (cutV vs lo hi))
      exact k _ _ _ gr (.lst upd_same (Nat.le_trans (cutV_length _ _ _) h2) (RpA.mono gr.ff _ _ (rpA_cut h3)))
  · cases e
theorem de_slice (he : DE X a f) (hl : DO X lo l) (hh : DO X hi h) : DE X (.Subscript a (.Slice lo hi none p2) pos) (mSlice f l h) := by
  refine pe_w (pe_slice (sl_list.or sl_tupA) he hl hh) ?_
  rintro σ H Q ⟨F, sa, η, τ, d, τ', w, e, k⟩
  obtain ⟨x, τ1, e1, ea⟩ := mBind_some e
  obtain ⟨i, τ2, e2, eb⟩ := mBind_some ea
  obtain ⟨j, τ3, e3, ec⟩ := mBind_some eb
  obtain ⟨e4, rfl⟩ := mLift_some ec
  refine tE.go w e1 fun F1 H1 z x1 w1 r1 => ⟨F1, sa, η, τ1, i, τ2, w1, e2, fun F2 H2 x2 w2 => ⟨F2, sa, η, τ2, j, τ', w2, e3, fun F3 H3 x3 w3 => ?_⟩⟩
  exact cut_ok e4 w3.fh (Rp.mono (x2.ff.trans x3.ff) _ _ r1) fun F4 H4 v gr rv => k F4 H4 v ((x1.trans (x2.trans x3)).trans gr.ext) (w3.grow gr) rv
/-- a slice of a list as a new list -/
def lOf : D → Option (List D)
  | .list ds => some ds
  | _ => none
def mSliceN (f : M D) (l h : M (Option Int)) : M (List D) := mBind f fun x => mBind (mLift (lOf x)) fun ds => mBind l fun lo => mBind h fun hi => mPure (cutD ds lo hi)
theorem lOf_some {x : D} {ds : List D} (h : lOf x = some ds) : x = .list ds := by
  cases x <;> simp only [lOf, Option.some.injEq, reduceCtorEq] at h; subst h; rfl
theorem dn_slice (he : DE X a f) (hl : DO X lo l) (hh : DO X hi h) : DN X (.Subscript a (.Slice lo hi none p2) pos) (mSliceN f l h) := by
  refine pe_w (pe_slice sl_list he hl hh) ?_
  rintro σ H Q ⟨F, sa, η, τ, d, τ', w, e, k⟩
  obtain ⟨x, τ1, e1, ea⟩ := mBind_some e
  obtain ⟨ds, τ0, e0, ea'⟩ := mBind_some ea
  obtain ⟨e9, rfl⟩ := mLift_some e0
  obtain rfl := lOf_some e9
  obtain ⟨i, τ2, e2, eb⟩ := mBind_some ea'
  obtain ⟨j, τ3, e3, ec⟩ := mBind_some eb
  cases ec
  refine tE.go w e1 fun F1 H1 z x1 w1 r1 => ⟨F1, sa, η, _, i, τ2, w1, e2, fun F2 H2 x2 w2 => ⟨F2, sa, η, τ2, j, τ', w2, e3, fun F3 H3 x3 w3 => ?_⟩⟩
  have r1' := Rp.mono (x2.ff.trans x3.ff) _ _ r1
  cases r1' with
  | @lst pa vs _ h1 h2 h3 =>
    refine ⟨_, _, rfl, .of (w3.fh _ _ h1), fun p hp => ?_⟩
    have gr := Grow.own w3.fh hp (.lst (cutV vs i j))
    have xx := x1.trans (x2.trans x3)
    have hp0 : H p = none := by
      cases z : H p with
      | none => rfl
      | some o => exact absurd hp (xx.nn p (nn_of z))
    exact k _ _ _ _ (xx.trans gr.ext) (w3.grow gr) hp0 (w3.fh.free hp) upd_same (Nat.le_trans (cutV_length _ _ _) h2) (notSrc_new w3.src hp) (rpA_cut h3)
end
end DL

/-! DLc: calls of built-ins, what is walked, comprehensions. -/
namespace DL
open PySem PySem.Spec PyProof.Rows L2

section
variable {X : Cx} {a b : Expr} {f g : M D} {pos : Pos}
theorem de_eq (hu : X.A.units + 65 < cLine) (ha : DE X a f) (hb : DE X b g) : DE X (.Compare a [.Eq] [b] pos) (mOp2 dEq f g) := de_cmp (op_eqD (by omega)) op2_eq ha hb (nomark _)
theorem de_ne (hu : X.A.units + 65 < cLine) (ha : DE X a f) (hb : DE X b g) : DE X (.Compare a [.NotEq] [b] pos) (mOp2 dNe f g) := de_cmp (op_neD (by omega)) op2_ne ha hb (nomark _)
theorem de_lt (ha : DE X a f) (hb : DE X b g) : DE X (.Compare a [.Lt] [b] pos) (mOp2 dLt f g) := de_cmp op_lt (op2_int0 fun _ _ _ => .bl _) ha hb (nomark _)
theorem de_le (ha : DE X a f) (hb : DE X b g) : DE X (.Compare a [.LtE] [b] pos) (mOp2 dLe f g) := de_cmp op_le (op2_int0 fun _ _ _ => .bl _) ha hb (nomark _)
theorem de_gt (ha : DE X a f) (hb : DE X b g) : DE X (.Compare a [.Gt] [b] pos) (mOp2 dGt f g) := de_cmp op_gt (op2_int0 fun _ _ _ => .bl _) ha hb (nomark _)
theorem de_ge (ha : DE X a f) (hb : DE X b g) : DE X (.Compare a [.GtE] [b] pos) (mOp2 dGe f g) := de_cmp op_ge (op2_int0 fun _ _ _ => .bl _) ha hb (nomark _)
theorem de_in (hu : X.A.units + 65 < cLine) (ha : DE X a f) (hb : DE X b g) (hm : behindInMarks .In b = false := by rfl) : DE X (.Compare a [.In] [b] pos) (mOp2 dIn f g) := de_cmp (op_inS hu) op2_in ha hb hm
theorem de_notIn (hu : X.A.units + 65 < cLine) (ha : DE X a f) (hb : DE X b g) (hm : behindInMarks .NotIn b = false := by rfl) : DE X (.Compare a [.NotIn] [b] pos) (mOp2 dNotIn f g) := de_cmp (op_notInS hu) op2_notIn ha hb hm
theorem de_is (ha : DE X a f) (hb : DE X b g) : DE X (.Compare a [.Is] [b] pos) (mOp2 dIsN f g) := de_cmp op_isN op2_isN ha hb (nomark _)
theorem de_isnot (ha : DE X a f) (hb : DE X b g) : DE X (.Compare a [.IsNot] [b] pos) (mOp2 dNotN f g) := de_cmp op_notN op2_notN ha hb (nomark _)
theorem dt_eq (hu : X.A.units + 65 < cLine) (ha : DE X a f) (hb : DE X b g) : DT X (.Compare a [.Eq] [b] pos) (mBool (mOp2 dEq f g)) := dt_cmp (op_eqD (by omega)) op2_eq ha hb (nomark _)
theorem dt_ne (hu : X.A.units + 65 < cLine) (ha : DE X a f) (hb : DE X b g) : DT X (.Compare a [.NotEq] [b] pos) (mBool (mOp2 dNe f g)) := dt_cmp (op_neD (by omega)) op2_ne ha hb (nomark _)
theorem dt_lt (ha : DE X a f) (hb : DE X b g) : DT X (.Compare a [.Lt] [b] pos) (mBool (mOp2 dLt f g)) := dt_cmp op_lt (op2_int0 fun _ _ _ => .bl _) ha hb (nomark _)
theorem dt_le (ha : DE X a f) (hb : DE X b g) : DT X (.Compare a [.LtE] [b] pos) (mBool (mOp2 dLe f g)) := dt_cmp op_le (op2_int0 fun _ _ _ => .bl _) ha hb (nomark _)
theorem dt_gt (ha : DE X a f) (hb : DE X b g) : DT X (.Compare a [.Gt] [b] pos) (mBool (mOp2 dGt f g)) := dt_cmp op_gt (op2_int0 fun _ _ _ => .bl _) ha hb (nomark _)
theorem dt_ge (ha : DE X a f) (hb : DE X b g) : DT X (.Compare a [.GtE] [b] pos) (mBool (mOp2 dGe f g)) := dt_cmp op_ge (op2_int0 fun _ _ _ => .bl _) ha hb (nomark _)
theorem dt_in (hu : X.A.units + 65 < cLine) (ha : DE X a f) (hb : DE X b g) (hm : behindInMarks .In b = false := by rfl) : DT X (.Compare a [.In] [b] pos) (mBool (mOp2 dIn f g)) := dt_cmp (op_inS hu) op2_in ha hb hm
theorem dt_notIn (hu : X.A.units + 65 < cLine) (ha : DE X a f) (hb : DE X b g) (hm : behindInMarks .NotIn b = false := by rfl) : DT X (.Compare a [.NotIn] [b] pos) (mBool (mOp2 dNotIn f g)) := dt_cmp (op_notInS hu) op2_notIn ha hb hm
theorem dt_is (ha : DE X a f) (hb : DE X b g) : DT X (.Compare a [.Is] [b] pos) (mBool (mOp2 dIsN f g)) := dt_cmp op_isN op2_isN ha hb (nomark _)
theorem dt_isnot (ha : DE X a f) (hb : DE X b g) : DT X (.Compare a [.IsNot] [b] pos) (mBool (mOp2 dNotN f g)) := dt_cmp op_notN op2_notN ha hb (nomark _)
end

/-! ### built-in functions and types by name -/
section
variable {X : Cx} {x : Str} {p pos : Pos} {e : Expr} {es : List Expr} {g : M (List D)} {id T : String} {r : List V → Hp → VK → Prop} {o : List D → Option D}
theorem tCB_of (h : OpL r o) : ∀ σ H Q, tE (mOpL o g) σ H Q → tCB r (tL g) σ H Q := by
  rintro σ H Q ⟨F, sa, η, τ, d, τ', w, e, k⟩
  obtain ⟨xs, τ1, e1, ea⟩ := mBind_some e
  obtain ⟨e3, rfl⟩ := mLift_some ea
  exact tL.go w e1 fun F' H' u x1 w1 r1 => h u xs d F' H' Q e3 w1.fh r1 fun F2 H2 z gr rz => k F2 H2 z (x1.trans gr.ext) (w1.grow gr) rz
theorem de_callB (hc : CallR X (.builtin id) r) (h : OpL r o) (hg : Gl X x) (hm : X.mg x = none) (hv : bootBuiltins x = some (.builtin id)) (ha : DA X (e :: es) g) (hn : x ≠ "__name__" := by decide) (hdb : (x == ("__debug__" : Str)) = false := by decide)
    (he : starEach (e :: es) X.env = (false, eval e X.env) :: starEach es X.env := by rfl) (hpl : (backTo pos (starEach es X.env)).any (·.1) = false := by rfl) : DE X (.Call (.Name x p) (e :: es) [] pos) (mOpL o g) :=
  pe_w (pe_callB hc hg hm hv ha hn hdb he hpl) (tCB_of h)
theorem de_callTy (hc : CallR X (.type T) r) (h : OpL r o) (hg : Gl X x) (hm : X.mg x = none) (hv : bootBuiltins x = some (.type T)) (ha : DA X (e :: es) g) (hn : x ≠ "__name__" := by decide) (hdb : (x == ("__debug__" : Str)) = false := by decide)
    (he : starEach (e :: es) X.env = (false, eval e X.env) :: starEach es X.env := by rfl) (hpl : (backTo pos (starEach es X.env)).any (·.1) = false := by rfl) : DE X (.Call (.Name x p) (e :: es) [] pos) (mOpL o g) :=
  pe_w (pe_callTy hc hg hm hv ha hn hdb he hpl) (tCB_of h)
theorem rpA_nil {F : Hp} {vs : List V} (r : RpA F vs []) : vs = [] := by cases r; rfl
theorem rpA_one {F : Hp} {vs : List V} {d : D} (r : RpA F vs [d]) : ∃ v, vs = [v] ∧ Rp F v d := by
  cases r with | cons h t => cases t; exact ⟨_, rfl, h⟩
theorem rpA_two {F : Hp} {vs : List V} {d d' : D} (r : RpA F vs [d, d']) : ∃ v v', vs = [v, v'] ∧ Rp F v d ∧ Rp F v' d' := by
  cases r with | cons h t => obtain ⟨v, rfl, h2⟩ := rpA_one t; exact ⟨_, _, rfl, h, h2⟩
theorem OpL.or {r r' : List V → Hp → VK → Prop} {o o' : List D → Option D} (h : OpL r o) (h' : OpL r' o') : OpL (fun xs H Q => r xs H Q ∨ r' xs H Q) (fun ds => match o ds with
    | some d => some d
    | none => o' ds) := by
  intro x dx d F H Q e s rx k
  simp only at e
  split at e
  · rename_i z hz
    cases e
    exact .inl (h x dx d F H Q hz s rx k)
  · exact .inr (h' x dx d F H Q e s rx k)
/-- len -/
def dLen : List D → Option D
  | [x] => (seqOf x).map fun ds => .int (ds.length : Nat)
  | _ => none
theorem opl_len {K : PySem.W.Frag} : OpL (fun xs H Q => ∃ p ys, xs = [.ref p] ∧ (SqL K H p ys ∨ SqT K H p ys) ∧ Q (.int ys.length) H) dLen := by
  intro x dx d F H Q e s rx k
  unfold dLen at e
  split at e
  · obtain ⟨v, rfl, r1⟩ := rpA_one rx
    obtain ⟨ds, h1, rfl⟩ := Option.map_eq_some_iff.mp e
    obtain ⟨p, xs, rfl, hq, _, hr⟩ := seq_at (K := K) s h1 r1
    exact ⟨p, xs, rfl, hq.symm, by rw [hr.length]; exact k F H _ (.refl s) (.int _)⟩
  · cases e
theorem de_len (hg : Gl X "len") (hm : X.mg "len" = none) (ha : DA X (e :: es) g) (he : starEach (e :: es) X.env = (false, eval e X.env) :: starEach es X.env := by rfl) (hpl : (backTo pos (starEach es X.env)).any (·.1) = false := by rfl) : DE X (.Call (.Name "len" p) (e :: es) [] pos) (mOpL dLen g) :=
  de_callB call_len_seq opl_len hg hm PySem.boot_len ha (by decide) (by decide) he hpl
/-- of ints alone -/
def dL1 (h : Int → D) : List D → Option D
  | [x] => (iOf x).map h
  | _ => none
def dL2 (h : Int → Int → D) : List D → Option D
  | [x, y] => (iOf x).bind fun i => (iOf y).map fun j => h i j
  | _ => none
theorem dL1_some {h : Int → D} {ds : List D} {d : D} (e : dL1 h ds = some d) : ∃ i, ds = [.int i] ∧ d = h i := by
  unfold dL1 at e
  split at e
  · obtain ⟨i, h1, rfl⟩ := Option.map_eq_some_iff.mp e
    exact ⟨i, by rw [iOf_some h1], rfl⟩
  · cases e
theorem dL2_some {h : Int → Int → D} {ds : List D} {d : D} (e : dL2 h ds = some d) : ∃ i j, ds = [.int i, .int j] ∧ d = h i j := by
  unfold dL2 at e
  split at e
  · obtain ⟨i, h1, e2⟩ := Option.bind_eq_some_iff.mp e
    obtain ⟨j, h2, rfl⟩ := Option.map_eq_some_iff.mp e2
    exact ⟨i, j, by rw [iOf_some h1, iOf_some h2], rfl⟩
  · cases e
def dAbs : List D → Option D := dL1 fun i => .int (if i < 0 then -i else i)
def dInt : List D → Option D := dL1 .int
def dMin2 : List D → Option D := dL2 fun i j => .int (if j < i then j else i)
def dMax2 : List D → Option D := dL2 fun i j => .int (if j > i then j else i)
theorem opl_1 {h : Int → Int} : OpL (fun xs H Q => ∃ i, xs = [.int i] ∧ Q (.int (h i)) H) (dL1 fun i => .int (h i)) := by
  intro x dx d F H Q e s rx k
  obtain ⟨i, rfl, rfl⟩ := dL1_some e
  obtain ⟨v, rfl, r1⟩ := rpA_one rx
  cases r1
  exact ⟨i, rfl, k F H _ (.refl s) (.int _)⟩
theorem opl_2 {h : Int → Int → Int} : OpL (fun xs H Q => ∃ i j, xs = [.int i, .int j] ∧ Q (.int (h i j)) H) (dL2 fun i j => .int (h i j)) := by
  intro x dx d F H Q e s rx k
  obtain ⟨i, j, rfl, rfl⟩ := dL2_some e
  obtain ⟨v, v', rfl, r1, r2⟩ := rpA_two rx
  cases r1
  cases r2
  exact ⟨i, j, rfl, k F H _ (.refl s) (.int _)⟩
theorem de_abs (hg : Gl X "abs") (hm : X.mg "abs" = none) (ha : DA X [e] g) (he : starEach [e] X.env = (false, eval e X.env) :: starEach [] X.env := by rfl) : DE X (.Call (.Name "abs" p) [e] [] pos) (mOpL dAbs g) :=
  de_callB call_abs opl_1 hg hm (by decide +kernel) ha (by decide) (by decide) he rfl
theorem de_intC (hg : Gl X "int") (hm : X.mg "int" = none) (ha : DA X [e] g) (he : starEach [e] X.env = (false, eval e X.env) :: starEach [] X.env := by rfl) : DE X (.Call (.Name "int" p) [e] [] pos) (mOpL dInt g) :=
  de_callTy call_int1 (fun x dx d F H Q e s rx k => .inl (opl_1 (h := id) x dx d F H Q e s rx k)) hg hm (by decide +kernel) ha (by decide) (by decide) he rfl
theorem de_min2 {e2 : Expr} (hc : X.calm = true) (hg : Gl X "min") (hm : X.mg "min" = none) (ha : DA X [e, e2] g) (he : starEach [e, e2] X.env = (false, eval e X.env) :: starEach [e2] X.env := by rfl) (hpl : (backTo pos (starEach [e2] X.env)).any (·.1) = false := by rfl) : DE X (.Call (.Name "min" p) [e, e2] [] pos) (mOpL dMin2 g) :=
  de_callB (call_min2 hc) opl_2 hg hm (by decide +kernel) ha (by decide) (by decide) he hpl
theorem de_max2 {e2 : Expr} (hc : X.calm = true) (hg : Gl X "max") (hm : X.mg "max" = none) (ha : DA X [e, e2] g) (he : starEach [e, e2] X.env = (false, eval e X.env) :: starEach [e2] X.env := by rfl) (hpl : (backTo pos (starEach [e2] X.env)).any (·.1) = false := by rfl) : DE X (.Call (.Name "max" p) [e, e2] [] pos) (mOpL dMax2 g) :=
  de_callB (call_max2 hc) opl_2 hg hm (by decide +kernel) ha (by decide) (by decide) he hpl
/-! lists of ints, of bools -/
def intsOf : List D → Option (List Int)
  | [] => some []
  | .int i :: r => (intsOf r).map (i :: ·)
  | _ :: _ => none
theorem intsOf_some : ∀ {ds : List D} {ns : List Int}, intsOf ds = some ns → ds = ns.map PyData.int
  | [], ns, h => by cases h; rfl
  | d :: r, ns, h => by
    cases d <;> simp only [intsOf, reduceCtorEq] at h
    obtain ⟨ms, h1, rfl⟩ := Option.map_eq_some_iff.mp h
    rw [intsOf_some h1]; rfl
theorem intsOf_map : ∀ ns : List Int, intsOf (ns.map PyData.int) = some ns
  | [] => rfl
  | n :: ns => by simp only [List.map_cons, intsOf, intsOf_map ns, Option.map_some]
def boolsOf : List D → Option (List Bool)
  | [] => some []
  | .bool i :: r => (boolsOf r).map (i :: ·)
  | _ :: _ => none
theorem boolsOf_some : ∀ {ds : List D} {ns : List Bool}, boolsOf ds = some ns → ds = ns.map PyData.bool
  | [], ns, h => by cases h; rfl
  | d :: r, ns, h => by
    cases d <;> simp only [boolsOf, reduceCtorEq] at h
    obtain ⟨ms, h1, rfl⟩ := Option.map_eq_some_iff.mp h
    rw [boolsOf_some h1]; rfl
theorem boolsOf_map : ∀ ns : List Bool, boolsOf (ns.map PyData.bool) = some ns
  | [] => rfl
  | n :: ns => by simp only [List.map_cons, boolsOf, boolsOf_map ns, Option.map_some]
/-- one list of ints -/
def dInts (h : List Int → Option D) : List D → Option D
  | [.list ds] => (intsOf ds).bind h
  | _ => none
theorem dInts_some {h : List Int → Option D} {ds : List D} {d : D} (e : dInts h ds = some d) : ∃ ns, ds = [.list (ns.map PyData.int)] ∧ h ns = some d := by
  unfold dInts at e
  split at e
  · obtain ⟨ns, h1, h2⟩ := Option.bind_eq_some_iff.mp e
    exact ⟨ns, by rw [intsOf_some h1], h2⟩
  · cases e
def dSum : List D → Option D := dInts fun ns => some (.int ns.sum)
def minI : List Int → Option Int
  | [] => none
  | n :: ns => some (ns.foldl min n)
def maxI : List Int → Option Int
  | [] => none
  | n :: ns => some (ns.foldl max n)
theorem foldl_min (ns : List Int) : ∀ n : Int, (ns.foldl min n ∈ n :: ns) ∧ ∀ y ∈ n :: ns, ns.foldl min n ≤ y := by
  induction ns with
  | nil => intro n; simp
  | cons m ns ih =>
    intro n
    obtain ⟨h1, h2⟩ := ih (min n m)
    rw [List.foldl_cons]
    constructor
    · rcases List.mem_cons.mp h1 with h | h
      · rw [h]
        have : min n m = n ∨ min n m = m := by omega
        rcases this with e | e <;> rw [e] <;> simp
      · exact List.mem_cons_of_mem _ (List.mem_cons_of_mem _ h)
    · intro y hy
      have hm := h2 (min n m) List.mem_cons_self
      rcases List.mem_cons.mp hy with e | hy
      · subst e; omega
      · rcases List.mem_cons.mp hy with e | hy
        · subst e; omega
        · exact h2 y (List.mem_cons_of_mem _ hy)
theorem foldl_max (ns : List Int) : ∀ n : Int, (ns.foldl max n ∈ n :: ns) ∧ ∀ y ∈ n :: ns, y ≤ ns.foldl max n := by
  induction ns with
  | nil => intro n; simp
  | cons m ns ih =>
    intro n
    obtain ⟨h1, h2⟩ := ih (max n m)
    rw [List.foldl_cons]
    constructor
    · rcases List.mem_cons.mp h1 with h | h
      · rw [h]
        have : max n m = n ∨ max n m = m := by omega
        rcases this with e | e <;> rw [e] <;> simp
      · exact List.mem_cons_of_mem _ (List.mem_cons_of_mem _ h)
    · intro y hy
      have hm := h2 (max n m) List.mem_cons_self
      rcases List.mem_cons.mp hy with e | hy
      · subst e; omega
      · rcases List.mem_cons.mp hy with e | hy
        · subst e; omega
        · exact h2 y (List.mem_cons_of_mem _ hy)
theorem minI_spec {ns : List Int} {m : Int} (h : minI ns = some m) : m ∈ ns ∧ ∀ y ∈ ns, m ≤ y := by
  cases ns with
  | nil => cases h
  | cons n ns => cases h; exact foldl_min ns n
theorem maxI_spec {ns : List Int} {m : Int} (h : maxI ns = some m) : m ∈ ns ∧ ∀ y ∈ ns, y ≤ m := by
  cases ns with
  | nil => cases h
  | cons n ns => cases h; exact foldl_max ns n
def dMinL : List D → Option D := dInts fun ns => (minI ns).map .int
def dMaxL : List D → Option D := dInts fun ns => (maxI ns).map .int
theorem rp_ints {F H : Hp} {K : PySem.W.Frag} {v : V} {ns : List Int} (s : Same F H) (r : Rp F v (.list (ns.map PyData.int))) : ∃ a, v = .ref a ∧ SqL K H a (ns.map V.int) := by
  cases r with | lst h1 h2 h3 => rw [RpA.intsE h3] at h1; exact ⟨_, rfl, .of (s _ _ h1)⟩
theorem rp_bools {F H : Hp} {K : PySem.W.Frag} {v : V} {ns : List Bool} (s : Same F H) (r : Rp F v (.list (ns.map PyData.bool))) : ∃ a, v = .ref a ∧ SqL K H a (ns.map V.bl) := by
  cases r with | lst h1 h2 h3 => rw [RpA.boolsE h3] at h1; exact ⟨_, rfl, .of (s _ _ h1)⟩
theorem opl_sum {K : PySem.W.Frag} : OpL (rSum K) dSum := by
  intro x dx d F H Q e s rx k
  obtain ⟨ns, rfl, h⟩ := dInts_some e
  cases h
  obtain ⟨v, rfl, r1⟩ := rpA_one rx
  obtain ⟨a, rfl, h⟩ := rp_ints (K := K) s r1
  exact ⟨a, ns, rfl, h, k F H _ (.refl s) (.int _)⟩
theorem opl_min {K : PySem.W.Frag} : OpL (rMin K) dMinL := by
  intro x dx d F H Q e s rx k
  obtain ⟨ns, rfl, h⟩ := dInts_some e
  obtain ⟨m, hm, rfl⟩ := Option.map_eq_some_iff.mp h
  obtain ⟨v, rfl, r1⟩ := rpA_one rx
  obtain ⟨a, rfl, h⟩ := rp_ints (K := K) s r1
  obtain ⟨h1, h2⟩ := minI_spec hm
  refine ⟨a, ns, rfl, h, List.length_pos_of_mem h1, fun z z1 z2 => ?_⟩
  have : z = m := by have := z2 m h1; have := h2 z z1; omega
  subst this
  exact k F H _ (.refl s) (.int _)
theorem opl_max {K : PySem.W.Frag} : OpL (rMax K) dMaxL := by
  intro x dx d F H Q e s rx k
  obtain ⟨ns, rfl, h⟩ := dInts_some e
  obtain ⟨m, hm, rfl⟩ := Option.map_eq_some_iff.mp h
  obtain ⟨v, rfl, r1⟩ := rpA_one rx
  obtain ⟨a, rfl, h⟩ := rp_ints (K := K) s r1
  obtain ⟨h1, h2⟩ := maxI_spec hm
  refine ⟨a, ns, rfl, h, List.length_pos_of_mem h1, fun z z1 z2 => ?_⟩
  have : z = m := by have := z2 m h1; have := h2 z z1; omega
  subst this
  exact k F H _ (.refl s) (.int _)
def dBools (h : List Bool → D) : List D → Option D
  | [.list ds] => (boolsOf ds).map h
  | _ => none
def dAny : List D → Option D := dBools fun bs => .bool (bs.any fun b => b)
def dAll : List D → Option D := dBools fun bs => .bool (bs.all fun b => b)
theorem dBools_some {h : List Bool → D} {ds : List D} {d : D} (e : dBools h ds = some d) : ∃ ns, ds = [.list (ns.map PyData.bool)] ∧ h ns = d := by
  unfold dBools at e
  split at e
  · obtain ⟨ns, h1, h2⟩ := Option.map_eq_some_iff.mp e
    exact ⟨ns, by rw [boolsOf_some h1], h2⟩
  · cases e
theorem opl_any {K : PySem.W.Frag} : OpL (rAny K) dAny := by
  intro x dx d F H Q e s rx k
  obtain ⟨ns, rfl, rfl⟩ := dBools_some e
  obtain ⟨v, rfl, r1⟩ := rpA_one rx
  obtain ⟨a, rfl, h⟩ := rp_bools (K := K) s r1
  exact ⟨a, ns, rfl, h, k F H _ (.refl s) (.bl _)⟩
theorem opl_all {K : PySem.W.Frag} : OpL (rAll K) dAll := by
  intro x dx d F H Q e s rx k
  obtain ⟨ns, rfl, rfl⟩ := dBools_some e
  obtain ⟨v, rfl, r1⟩ := rpA_one rx
  obtain ⟨a, rfl, h⟩ := rp_bools (K := K) s r1
  exact ⟨a, ns, rfl, h, k F H _ (.refl s) (.bl _)⟩
theorem de_sum (hc : X.calm = true) (hg : Gl X "sum") (hm : X.mg "sum" = none) (ha : DA X [e] g) (he : starEach [e] X.env = (false, eval e X.env) :: starEach [] X.env := by rfl) : DE X (.Call (.Name "sum" p) [e] [] pos) (mOpL dSum g) :=
  de_callB (cr_sum hc) opl_sum hg hm (by decide +kernel) ha (by decide) (by decide) he rfl
theorem de_minI (hc : X.calm = true) (hg : Gl X "min") (hm : X.mg "min" = none) (ha : DA X [e] g) (he : starEach [e] X.env = (false, eval e X.env) :: starEach [] X.env := by rfl) : DE X (.Call (.Name "min" p) [e] [] pos) (mOpL dMinL g) :=
  de_callB (cr_min hc) opl_min hg hm (by decide +kernel) ha (by decide) (by decide) he rfl
theorem de_maxI (hc : X.calm = true) (hg : Gl X "max") (hm : X.mg "max" = none) (ha : DA X [e] g) (he : starEach [e] X.env = (false, eval e X.env) :: starEach [] X.env := by rfl) : DE X (.Call (.Name "max" p) [e] [] pos) (mOpL dMaxL g) :=
  de_callB (cr_max hc) opl_max hg hm (by decide +kernel) ha (by decide) (by decide) he rfl
theorem de_any (hc : X.calm = true) (hg : Gl X "any") (hm : X.mg "any" = none) (ha : DA X [e] g) (he : starEach [e] X.env = (false, eval e X.env) :: starEach [] X.env := by rfl) : DE X (.Call (.Name "any" p) [e] [] pos) (mOpL dAny g) :=
  de_callB (cr_any hc) opl_any hg hm (by decide +kernel) ha (by decide) (by decide) he rfl
theorem de_all (hc : X.calm = true) (hg : Gl X "all") (hm : X.mg "all" = none) (ha : DA X [e] g) (he : starEach [e] X.env = (false, eval e X.env) :: starEach [] X.env := by rfl) : DE X (.Call (.Name "all" p) [e] [] pos) (mOpL dAll g) :=
  de_callB (cr_all hc) opl_all hg hm (by decide +kernel) ha (by decide) (by decide) he rfl
/-! tuple(x), list(x) -/
def dTuple : List D → Option D
  | [x] => (seqOf x).map .tuple
  | _ => none
theorem opl_tuple {K : PySem.W.Frag} : OpL (fun xs H Q => ∃ p ys, xs = [.ref p] ∧ ((SqL K H p ys ∧ ∀ l, H l = none → Q (.ref l) (upd H l (.tup ys))) ∨ (SqT K H p ys ∧ Q (.ref p) H))) dTuple := by
  intro x dx d F H Q e s rx k
  unfold dTuple at e
  split at e
  · rename_i y
    obtain ⟨v, rfl, r1⟩ := rpA_one rx
    obtain ⟨ds, h1, rfl⟩ := Option.map_eq_some_iff.mp e
    cases y <;> simp only [seqOf, Option.some.injEq, reduceCtorEq] at h1
    · subst h1
      cases r1 with
      | @lst pa vs _ h1 h2 h3 =>
        refine ⟨_, _, rfl, .inl ⟨.of (s _ _ h1), fun q hq => ?_⟩⟩
        have gr := Grow.alloc s hq (.tup vs)
        exact k _ _ _ gr (.tup upd_same h2 (RpA.mono gr.ff _ _ h3))
    · subst h1
      cases r1 with
      | @tup pa vs _ h1 h2 h3 => exact ⟨_, _, rfl, .inr ⟨.of (s _ _ h1), k F H _ (.refl s) (.tup h1 h2 h3)⟩⟩
  · cases e
theorem de_tuple (hg : Gl X "tuple") (hm : X.mg "tuple" = none) (ha : DA X [e] g) (he : starEach [e] X.env = (false, eval e X.env) :: starEach [] X.env := by rfl) : DE X (.Call (.Name "tuple" p) [e] [] pos) (mOpL dTuple g) :=
  de_callTy call_tuple_of opl_tuple hg hm (by decide +kernel) ha (by decide) (by decide) he rfl
def mListOf (f : M D) : M (List D) := mBind f fun x => mLift (seqOf x)
theorem dn_list {f : M D} (hg : Gl X "list") (hm : X.mg "list" = none) (ha : DE X e f) (he : starEach [e] X.env = (false, eval e X.env) :: starEach [] X.env := by rfl) : DN X (.Call (.Name "list" p) [e] [] pos) (mListOf f) := by
  refine pe_w (pe_callTy call_list_of hg hm (by decide +kernel) (pa_cons ha pa_nil he) (by decide) (by decide) he rfl) ?_
  rintro σ H Q ⟨F, sa, η, τ, d, τ', w, e, k⟩
  obtain ⟨x, τ1, e1, ea⟩ := mBind_some e
  obtain ⟨e2, rfl⟩ := mLift_some ea
  refine tE.go w e1 fun F1 H1 u x1 w1 r1 => ?_
  obtain ⟨q, vs, rfl, hq, hl, hr⟩ := seq_at (K := X.K) w1.fh e2 r1
  refine ⟨q, vs, rfl, hq.symm, fun l hp => ?_⟩
  have gr := Grow.own w1.fh hp (.lst vs)
  have hp0 : H l = none := by
    cases z : H l with
    | none => rfl
    | some o => exact absurd hp (x1.nn l (nn_of z))
  exact k _ _ _ _ (x1.trans gr.ext) (w1.grow gr) hp0 (w1.fh.free hp) upd_same hl (notSrc_new w1.src hp) hr
end

/-! ### what is walked -/
/-- an iterator over the data ds, at a frozen heap F -/
def ItOf (J : It) (F : Hp) (ds : List D) : Prop := ds.length ≤ sizeLine ∧ ∃ (G : Hp → Prop) (Y : Nat → Hp → V → Hp → Prop), Walk J ds.length G Y ∧ (∀ H, Same F H → G H) ∧
  ∀ i H x H' F1, i < ds.length → Same F F1 → Same F1 H → Y i H x H' → ∃ F2 d, ds[i]? = some d ∧ Grow F1 H F2 H' ∧ Rp F2 x d
def tI (f : M (List D)) : TI := fun σ H R => ∃ F sa η τ d τ', View F sa σ H η τ ∧ f η τ = some (d, τ') ∧ ∀ F' H' J, Ext sa F H F' H' → View F' sa σ H' η τ' → ItOf J F' d → R J H'
abbrev DI (X : Cx) (tg e : Expr) (f : M (List D)) : Prop := PI X tg e (tI f)
theorem pi_w {X : Cx} {tg e : Expr} {t t' : TI} (h : PI X tg e t) (w : ∀ σ H Q, t' σ H Q → t σ H Q) : PI X tg e t' := ⟨fun pins s σ H Q I k => h.run pins s σ H Q I (w σ H Q k)⟩
theorem itOf_list {K : PySem.W.Frag} {F : Hp} {a : Addr} {vs : List V} {ds : List D} (h1 : F a = some (.lst vs)) (h2 : vs.length ≤ sizeLine) (h3 : RpA F vs ds) : ItOf (Itl K a) F ds := by
  have W : Walk (Itl K a) vs.length (fun H => SqL K H a vs) (YAt vs) := walk_list
  rw [h3.length] at W h2
  refine ⟨h2, _, _, W, fun H s => .of (s _ _ h1), fun i H x H' F1 hi s1 s2 hy => ?_⟩
  obtain ⟨rfl, hx⟩ := hy
  obtain ⟨d, hd, r⟩ := h3.get' hx
  exact ⟨F1, d, hd, .refl s2, Rp.mono s1 _ _ r⟩
theorem itOf_tup {K : PySem.W.Frag} {F : Hp} {a : Addr} {vs : List V} {ds : List D} (h1 : F a = some (.tup vs)) (h2 : vs.length ≤ sizeLine) (h3 : RpA F vs ds) : ItOf (Itt K a) F ds := by
  have W : Walk (Itt K a) vs.length (fun H => SqT K H a vs) (YAt vs) := walk_tup
  rw [h3.length] at W h2
  refine ⟨h2, _, _, W, fun H s => .of (s _ _ h1), fun i H x H' F1 hi s1 s2 hy => ?_⟩
  obtain ⟨rfl, hx⟩ := hy
  obtain ⟨d, hd, r⟩ := h3.get' hx
  exact ⟨F1, d, hd, .refl s2, Rp.mono s1 _ _ r⟩
/-- a list or a tuple -/
def iSeq (K : PySem.W.Frag) (tl : TE) : TI := fun σ H R => tl σ H fun x H1 => ∃ a, x = .ref a ∧ (((∃ xs, SqL K H1 a xs) ∧ R (Itl K a) H1) ∨ ((∃ xs, SqT K H1 a xs) ∧ R (Itt K a) H1))
theorem pi_seq {X : Cx} {tg l : Expr} {tl : TE} (hl : PE X l tl) : PI X tg l (iSeq X.K tl) := by
  refine ⟨fun pins s σ H R I h => ?_⟩
  refine thn (hl.run pins s σ H _ I h) fun v s1 ⟨x, H1, I1, r1, q1⟩ => ?_
  obtain ⟨a, rfl, q1⟩ := q1
  cases r1
  rcases q1 with ⟨⟨xs, hq⟩, q⟩ | ⟨⟨xs, hq⟩, q⟩
  · obtain ⟨its, rv, p, hz⟩ := I1.list hq
    refine wpAny_pyIter_list p.isList ⟨s1.heap.objs.size, [s1.heap.objs.size], _, _, H1, rfl, I1.kept (t' := s1.toks) fun b o e => Heap.get?_push_of_some _ e, turn_list a _, ⟨_, Heap.get?_push_size _ rfl, rfl, rfl⟩, fun b hb => ?_, q⟩
    obtain rfl : b = s1.heap.objs.size := by simpa using hb
    exact I1.fpOk (Nat.le_refl _) (I1.hok.fresh (Nat.le_refl _))
  · obtain ⟨its, rv, p, hz⟩ := I1.tuple hq
    refine wpAny_pyIter_tuple (show s1.heap.IsTuple a its.toArray from p) ⟨s1.heap.objs.size, [s1.heap.objs.size], _, _, H1, rfl, I1.kept (t' := s1.toks) fun b o e => Heap.get?_push_of_some _ e, turn_tuple a _, ⟨_, Heap.get?_push_size _ rfl, rfl, rfl⟩, fun b hb => ?_, q⟩
    obtain rfl : b = s1.heap.objs.size := by simpa using hb
    exact I1.fpOk (Nat.le_refl _) (I1.hok.fresh (Nat.le_refl _))
def mItems (f : M D) : M (List D) := mBind f fun x => mLift (seqOf x)
theorem di_seq {X : Cx} {tg l : Expr} {f : M D} (hl : DE X l f) : DI X tg l (mItems f) := by
  refine pi_w (pi_seq hl) ?_
  rintro σ H R ⟨F, sa, η, τ, d, τ', w, e, k⟩
  obtain ⟨x, τ1, e1, ea⟩ := mBind_some e
  obtain ⟨e2, rfl⟩ := mLift_some ea
  refine tE.go w e1 fun F1 H1 u x1 w1 r1 => ?_
  cases x <;> simp only [seqOf, Option.some.injEq, reduceCtorEq] at e2
  · subst e2
    cases r1 with
    | lst h1 h2 h3 => exact ⟨_, rfl, .inl ⟨⟨_, .of (w1.fh _ _ h1)⟩, k F1 H1 _ x1 w1 (itOf_list h1 h2 h3)⟩⟩
  · subst e2
    cases r1 with
    | tup h1 h2 h3 => exact ⟨_, rfl, .inr ⟨⟨_, .of (w1.fh _ _ h1)⟩, k F1 H1 _ x1 w1 (itOf_tup h1 h2 h3)⟩⟩
/-- range -/
noncomputable def rangeD (lo hi : Int) : Option (List D) := @ite _ (-(2 ^ 62) ≤ lo ∧ lo < 2 ^ 62 ∧ -(2 ^ 62) ≤ hi ∧ hi < 2 ^ 62 ∧ (hi - lo).toNat ≤ 2 ^ 24) (Classical.propDecidable _) (some ((List.range (hi - lo).toNat).map fun i => .int (lo + (i : Nat)))) none
noncomputable def mRange1 (f : M D) : M (List D) := mBind f fun x => mLift ((iOf x).bind fun n => rangeD 0 n)
noncomputable def mRange2 (f g : M D) : M (List D) := mBind f fun x => mBind g fun y => mLift ((iOf x).bind fun i => (iOf y).bind fun j => rangeD i j)
theorem line24 : sizeLine = 2 ^ 24 := by rw [sizeLine_eq]
theorem itOf_range {F : Hp} {lo hi : Int} (h : (hi - lo).toNat ≤ 2 ^ 24) : ItOf (Itr lo (hi - lo).toNat) F ((List.range (hi - lo).toNat).map fun i => .int (lo + (i : Nat))) := by
  have e : ((List.range (hi - lo).toNat).map fun (i : Nat) => PyData.int (lo + (i : Nat))).length = (hi - lo).toNat := by rw [List.length_map, List.length_range]
  refine ⟨by rw [e, line24]; exact h, _, _, by rw [e]; exact walk_range, fun _ _ => trivial, fun i H x H' F1 hi s1 s2 hy => ?_⟩
  obtain ⟨rfl, rfl⟩ := hy
  rw [e] at hi
  exact ⟨F1, _, by rw [List.getElem?_map, List.getElem?_range hi]; rfl, .refl s2, .int _⟩
section
variable {X : Cx} {tg a b : Expr} {f g : M D} {p pos : Pos}
theorem di_range1 (hg : Gl X "range") (hm : X.mg "range" = none) (ha : DE X a f) (hs : starEach [a] X.env = [(false, eval a X.env)] := by rfl) : DI X tg (.Call (.Name "range" p) [a] [] pos) (mRange1 f) := by
  refine pi_w (pi_range1 hg hm (pa_cons ha pa_nil hs) hs) ?_
  rintro σ H R ⟨F, sa, η, τ, d, τ', w, e, k⟩
  obtain ⟨x, τ1, e1, ea⟩ := mBind_some e
  obtain ⟨e2, rfl⟩ := mLift_some ea
  obtain ⟨n, e3, e4⟩ := Option.bind_eq_some_iff.mp e2
  obtain rfl := iOf_some e3
  unfold rangeD at e4
  split at e4
  · rename_i hr
    cases e4
    refine tE.go w e1 fun F1 H1 u x1 w1 r1 => ?_
    cases r1
    have := k F1 H1 _ x1 w1 (itOf_range hr.2.2.2.2)
    rw [Int.sub_zero] at this
    exact ⟨n, rfl, hr.2.2.1, hr.2.2.2.1, this⟩
  · cases e4
theorem di_range2 (hg : Gl X "range") (hm : X.mg "range" = none) (ha : DE X a f) (hb : DE X b g) (hs : starEach [a, b] X.env = [(false, eval a X.env), (false, eval b X.env)] := by rfl) (hs2 : starEach [b] X.env = [(false, eval b X.env)] := by rfl) : DI X tg (.Call (.Name "range" p) [a, b] [] pos) (mRange2 f g) := by
  refine pi_w (pi_range2 hg hm (pa_cons ha (pa_cons hb pa_nil hs2) (by rw [hs, hs2])) hs hs2) ?_
  rintro σ H R ⟨F, sa, η, τ, d, τ', w, e, k⟩
  obtain ⟨x, τ1, e1, ea⟩ := mBind_some e
  obtain ⟨y, τ2, e2, eb⟩ := mBind_some ea
  obtain ⟨ec, rfl⟩ := mLift_some eb
  obtain ⟨i, e3, ed⟩ := Option.bind_eq_some_iff.mp ec
  obtain ⟨j, e4, ee⟩ := Option.bind_eq_some_iff.mp ed
  obtain rfl := iOf_some e3
  obtain rfl := iOf_some e4
  unfold rangeD at ee
  split at ee
  · rename_i hr
    cases ee
    refine tE.go w e1 fun F1 H1 u x1 w1 r1 => tE.go w1 e2 fun F2 H2 v x2 w2 r2 => ?_
    cases r1
    cases r2
    exact ⟨i, j, rfl, ⟨hr.1, hr.2.1, hr.2.2.1, hr.2.2.2.1⟩, k F2 H2 _ (x1.trans x2) w2 (itOf_range hr.2.2.2.2)⟩
  · cases ee
end

/-! ### targets -/
inductive Tgt where
  | nm (i : Nat)
  | tp (ts : List Tgt)
mutual
def bindT : Tgt → D → Option (List (Nat × D))
  | .nm i, d => some [(i, d)]
  | .tp ts, .tuple ds => bindTs ts ds
  | .tp _, _ => none
def bindTs : List Tgt → List D → Option (List (Nat × D))
  | [], [] => some []
  | t :: ts, d :: ds => match bindT t d, bindTs ts ds with
    | some a, some b => some (a ++ b)
    | _, _ => none
  | _, _ => none
end
def setV (σ : L2.St) (ws : List (Nat × V)) : L2.St := ws.foldl (fun σ w => σ.set w.1 (some w.2)) σ
def setD (η : EnvD) (ws : List (Nat × D)) : EnvD := ws.foldl (fun η w => η.set w.1 (some w.2)) η
inductive RpW (F : Hp) : List (Nat × V) → List (Nat × D) → Prop
  | nil : RpW F [] []
  | cons {i : Nat} {v : V} {d : D} {ws : List (Nat × V)} {as : List (Nat × D)} : Rp F v d → RpW F ws as → RpW F ((i, v) :: ws) ((i, d) :: as)
theorem RpW.append {F : Hp} : ∀ {ws ws2 : List (Nat × V)} {as as2 : List (Nat × D)}, RpW F ws as → RpW F ws2 as2 → RpW F (ws ++ ws2) (as ++ as2)
  | _, _, _, _, .nil, s => s
  | _, _, _, _, .cons r t, s => .cons r (RpW.append t s)
theorem setV_append (σ : L2.St) (a b : List (Nat × V)) : setV σ (a ++ b) = setV (setV σ a) b := by unfold setV; rw [List.foldl_append]
def tG (b : Tgt) : TG := fun v σ H Q => ∃ F d as, Same F H ∧ Rp F v d ∧ bindT b d = some as ∧ ∀ ws, RpW F ws as → Q (setV σ ws) H
def tGs (b : List Tgt) : TGs := fun vs σ H Q => ∃ F ds as, Same F H ∧ RpA F vs ds ∧ bindTs b ds = some as ∧ ∀ ws, RpW F ws as → Q (setV σ ws) H
abbrev DG (X : Cx) (tg : Expr) (b : Tgt) : Prop := PG X tg (tG b)
abbrev DGs (X : Cx) (tg : List Expr) (b : List Tgt) : Prop := PGs X tg (tGs b)
theorem pg_w {X : Cx} {tg : Expr} {t t' : TG} (h : PG X tg t) (w : ∀ v σ H Q, t' v σ H Q → t v σ H Q) : PG X tg t' := ⟨fun pins s σ H v u Q I r k => h.run pins s σ H v u Q I r (w v σ H Q k)⟩
theorem pgs_w {X : Cx} {tg : List Expr} {t t' : TGs} (h : PGs X tg t) (w : ∀ v σ H Q, t' v σ H Q → t v σ H Q) : PGs X tg t' := ⟨fun pins s σ H v u Q I r k => h.run pins s σ H v u Q I r (w v σ H Q k)⟩
section
variable {X : Cx} {pos : Pos}
theorem dg_name {i : Nat} {x : Str} (hN : X.N.Nodup) (hi : X.N[i]? = some x) (hx : Loc X.env.scope x) (hf : X.fn x = true ∨ X.env.scope.names.lookup x = some .local := by first | exact .inl rfl | exact .inr rfl | assumption) : DG X (.Name x pos) (.nm i) := by
  refine pg_w (pg_name hN hi hx hf) ?_
  rintro v σ H Q ⟨F, d, as, s, r, e, k⟩
  simp only [bindT, Option.some.injEq] at e
  subst e
  exact k [(i, v)] (.cons r .nil)
theorem dgs_nil : DGs X [] [] := by
  refine pgs_w pgs_nil ?_
  rintro vs σ H Q ⟨F, ds, as, s, r, e, k⟩
  cases ds with
  | nil => simp only [bindTs, Option.some.injEq] at e; subst e; exact ⟨rpA_nil r, k [] .nil⟩
  | cons _ _ => simp [bindTs] at e
theorem dgs_cons {e : Expr} {es : List Expr} {t : Tgt} {u : List Tgt} (h1 : DG X e t) (h2 : DGs X es u)
    (hs : (assignEach (e :: es) X.env).map (·.2) = assign e X.env :: (assignEach es X.env).map (·.2) := by rfl) : DGs X (e :: es) (t :: u) := by
  refine pgs_w (pgs_cons h1 h2 hs) ?_
  rintro vs σ H Q ⟨F, ds, as, s, r, e, k⟩
  cases ds with
  | nil => simp [bindTs] at e
  | cons d ds =>
    cases r with
    | cons r1 r2 =>
      simp only [bindTs] at e
      split at e
      · rename_i a b ea eb
        cases e
        exact ⟨_, _, rfl, F, d, a, s, r1, ea, fun ws hw => ⟨F, ds, b, s, r2, eb, fun ws2 hw2 => by rw [← setV_append]; exact k _ (hw.append hw2)⟩⟩
      · cases e
theorem dg_tup {es : List Expr} {k : Nat} {t : List Tgt} (hc : X.calm = true) (h : DGs X es t) (hl : t.length = es.length) (hn : (assignEach es X.env).length = es.length := by rfl) (hst : (assignEach es X.env).findIdx? (·.1) = none := by rfl) : DG X (.Tuple es k pos) (.tp t) := by
  refine pg_w (pg_tup (n := es.length) hc h hn hst) ?_
  rintro v σ H Q ⟨F, d, as, s, r, e, k⟩
  cases d <;> simp only [bindT, reduceCtorEq] at e
  rename_i ds
  have hlen : ∀ (ts : List Tgt) (ds : List D) (as : List (Nat × D)), bindTs ts ds = some as → ts.length = ds.length := by
    intro ts
    induction ts with
    | nil => intro ds as h; cases ds with
      | nil => rfl
      | cons _ _ => simp [bindTs] at h
    | cons t ts ih => intro ds as h; cases ds with
      | nil => simp [bindTs] at h
      | cons d ds =>
        simp only [bindTs] at h
        split at h
        · rename_i a b ea eb
          rw [List.length_cons, List.length_cons, ih ds b eb]
        · cases h
  cases r with
  | tup h1 h2 h3 => exact ⟨_, _, rfl, .of (s _ _ h1), by rw [h3.length, ← hlen _ _ _ e, hl], F, ds, as, s, h3, e, k⟩
end
end DL

/-! DLd: comprehensions; what a def promises; calls. -/
namespace DL
open PySem PySem.Spec PyProof.Rows L2

/-! ### comprehensions -/
def wipeD (η : EnvD) : List Nat → EnvD
  | [] => η
  | v :: vs => (wipeD η vs).set v none
theorem wipeD_some {η : EnvD} {i : Nat} {x : D} : ∀ {vs : List Nat}, (wipeD η vs)[i]? = some (some x) → η[i]? = some (some x) ∧ i ∉ vs
  | [], h => ⟨h, by simp⟩
  | v :: vs, h => by
    unfold wipeD at h
    by_cases hi : v = i
    · subst hi
      rw [List.getElem?_set] at h
      split at h
      · split at h <;> cases h
      · rename_i hn; exact absurd rfl hn
    · rw [List.getElem?_set_ne hi] at h
      obtain ⟨h1, h2⟩ := wipeD_some h
      exact ⟨h1, by simp only [List.mem_cons, not_or]; exact ⟨fun e => hi e.symm, h2⟩⟩
theorem wipeD_length (η : EnvD) : ∀ vs : List Nat, (wipeD η vs).length = η.length
  | [] => rfl
  | v :: vs => by unfold wipeD; rw [List.length_set, wipeD_length η vs]
theorem wipe_keep {σ : L2.St} {i : Nat} : ∀ {vs : List Nat}, i ∉ vs → (wipe σ vs)[i]? = σ[i]?
  | [], _ => rfl
  | v :: vs, h => by
    obtain ⟨h1, h2⟩ := not_or.mp (fun z => h (List.mem_cons.mpr z))
    unfold wipe
    rw [List.getElem?_set_ne (Ne.symm h1)]
    exact wipe_keep h2
theorem View.wiped {F H : Hp} {sa : SA} {σ : L2.St} {η : EnvD} {τ : Src} {vs : List Nat} (w : View F sa σ H η τ) (hv : ∀ i ∈ vs, 2 ≤ i) : View F sa (wipe σ vs) H (wipeD η vs) τ :=
  ⟨w.fh, fun i d e => by
    obtain ⟨h1, h2⟩ := wipeD_some e
    rw [wipe_keep h2]
    exact w.var i d h1, w.src, by rw [wipe_length, wipeD_length]; exact w.len, w.flag, fun i p c e => by
    obtain ⟨h1, h2⟩ := w.slot i p c e
    exact ⟨h1, by rw [wipe_keep fun hm => absurd (hv i hm) (by omega)]; exact h2⟩⟩
theorem wipe_set {σ : L2.St} {i : Nat} {x : Option V} : ∀ {vs : List Nat}, i ∈ vs → wipe (σ.set i x) vs = wipe σ vs
  | v :: vs, h => by
    unfold wipe
    by_cases hi : i ∈ vs
    · rw [wipe_set hi]
    · have e : v = i := by
        rcases List.mem_cons.mp h with e | e
        · exact e.symm
        · exact absurd e hi
      subst e
      have : ∀ us : List Nat, v ∉ us → wipe (σ.set v x) us = (wipe σ us).set v x := by
        intro us
        induction us with
        | nil => intro _; rfl
        | cons u us ih =>
          intro hu
          obtain ⟨h1, h2⟩ := not_or.mp (fun z => hu (List.mem_cons.mpr z))
          unfold wipe
          rw [ih h2, List.set_comm _ _ h1]
      rw [this vs hi, List.set_set]
mutual
def tgtSlots : Tgt → List Nat
  | .nm i => [i]
  | .tp ts => tgtSlotsL ts
def tgtSlotsL : List Tgt → List Nat
  | [] => []
  | t :: ts => tgtSlots t ++ tgtSlotsL ts
end
mutual
theorem bindT_slots : ∀ (t : Tgt) (d : D) (as : List (Nat × D)), bindT t d = some as → as.map (·.1) = tgtSlots t
  | .nm i, d, as, h => by simp only [bindT, Option.some.injEq] at h; subst h; rfl
  | .tp ts, d, as, h => by
    cases d <;> simp only [bindT, reduceCtorEq] at h
    simp only [tgtSlots]
    exact bindTs_slots ts _ as h
theorem bindTs_slots : ∀ (ts : List Tgt) (ds : List D) (as : List (Nat × D)), bindTs ts ds = some as → as.map (·.1) = tgtSlotsL ts
  | [], [], as, h => by simp only [bindTs, Option.some.injEq] at h; subst h; rfl
  | [], _ :: _, as, h => by simp [bindTs] at h
  | _ :: _, [], as, h => by simp [bindTs] at h
  | t :: ts, d :: ds, as, h => by
    simp only [bindTs] at h
    split at h
    · rename_i a b ea eb
      cases h
      simp only [tgtSlotsL, List.map_append, bindT_slots t d a ea, bindTs_slots ts ds b eb]
    · cases h
end
theorem RpW.slots {F : Hp} : ∀ {ws : List (Nat × V)} {as : List (Nat × D)}, RpW F ws as → ws.map (·.1) = as.map (·.1)
  | _, _, .nil => rfl
  | _, _, .cons _ t => by simp only [List.map_cons, RpW.slots t]
theorem RpW.mono {F G : Hp} (s : Same F G) : ∀ {ws : List (Nat × V)} {as : List (Nat × D)}, RpW F ws as → RpW G ws as
  | _, _, .nil => .nil
  | _, _, .cons r t => .cons (Rp.mono s _ _ r) (RpW.mono s t)
theorem wipe_setV {vs : List Nat} : ∀ (ws : List (Nat × V)) (σ : L2.St), (∀ w ∈ ws, w.1 ∈ vs) → wipe (setV σ ws) vs = wipe σ vs
  | [], σ, _ => rfl
  | w :: ws, σ, h => by
    have e : setV σ (w :: ws) = setV (σ.set w.1 (some w.2)) ws := rfl
    rw [e, wipe_setV ws _ fun x hx => h x (List.mem_cons_of_mem _ hx), wipe_set (h w List.mem_cons_self)]
theorem wipe_wipe {σ : L2.St} : ∀ {us vs : List Nat}, (∀ u ∈ us, u ∈ vs) → wipe (wipe σ us) vs = wipe σ vs
  | [], vs, _ => rfl
  | u :: us, vs, h => by
    show wipe ((wipe σ us).set u none) vs = _
    rw [wipe_set (h u List.mem_cons_self), wipe_wipe fun x hx => h x (List.mem_cons_of_mem _ hx)]
theorem View.set1 {F H : Hp} {sa : SA} {σ : L2.St} {η : EnvD} {τ : Src} {i : Nat} {v : V} {d : D} (w : View F sa σ H η τ) (hi : 2 ≤ i) (r : Rp F v d) : View F sa (σ.set i (some v)) H (η.set i (some d)) τ :=
  ⟨w.fh, fun j x e => by
    by_cases hj : i = j
    · subst hj
      have hl := w.len
      rw [List.getElem?_set] at e
      split at e
      · split at e
        · cases e
          exact ⟨v, by rw [List.getElem?_set_self (by omega)], r⟩
        · cases e
      · rename_i hn; exact absurd rfl hn
    · rw [List.getElem?_set_ne hj] at e ⊢
      exact w.var j x e, w.src, by rw [List.length_set, List.length_set]; exact w.len, w.flag, fun j p c e => by
    obtain ⟨h1, h2⟩ := w.slot j p c e
    exact ⟨h1, by rw [List.getElem?_set_ne (by omega)]; exact h2⟩⟩
theorem View.sets {F H : Hp} {sa : SA} {τ : Src} {ws : List (Nat × V)} {as : List (Nat × D)} (r : RpW F ws as) : ∀ {σ : L2.St} {η : EnvD}, View F sa σ H η τ → (∀ a ∈ as, 2 ≤ a.1) → View F sa (setV σ ws) H (setD η as) τ := by
  induction r with
  | nil => intro σ η w _; exact w
  | cons r t ih => intro σ η w h; exact ih (w.set1 (h _ List.mem_cons_self) r) fun a ha => h a (List.mem_cons_of_mem _ ha)

/-- a comprehension's turns -/
def compGo (b : Tgt) (tt : M Bool) (te : M D) (η : EnvD) : List D → Src → Option (List D × Src)
  | [], τ => some ([], τ)
  | d :: ds, τ => match bindT b d with
    | none => none
    | some as => match tt (setD η as) τ with
      | none => none
      | some (false, τ1) => compGo b tt te η ds τ1
      | some (true, τ1) => match te (setD η as) τ1 with
        | none => none
        | some (y, τ2) => match compGo b tt te η ds τ2 with
          | none => none
          | some (ys, τ3) => some (y :: ys, τ3)
def mComp (fi : M (List D)) (vs : List Nat) (b : Tgt) (tt : M Bool) (te : M D) : M (List D) := mBind fi fun ds η τ => compGo b tt te (wipeD η vs) ds τ
def mTrue : M Bool := mPure true
abbrev DTs (X : Cx) (ifs : List Expr) (f : M Bool) : Prop := PTs X ifs (tT f)
theorem dts_nil {X : Cx} : DTs X [] mTrue := ⟨fun pins s σ H Q I h => by
  obtain ⟨F, sa, η, τ, d, τ', w, e, k⟩ := h
  cases e
  exact pts_nil.run pins s σ H Q I (k F H .refl w)⟩
theorem dts_one {X : Cx} {c : Expr} {f : M Bool} (h : DT X c f) : DTs X [c] f := pts_one h
theorem mem_slots {b : Tgt} {d : D} {as : List (Nat × D)} {a : Nat × D} (e : bindT b d = some as) (h : a ∈ as) : a.1 ∈ tgtSlots b := by
  rw [← bindT_slots b d as e]
  exact List.mem_map_of_mem h
theorem tLc_of {K : PySem.W.Frag} {fi : M (List D)} {vs : List Nat} {b : Tgt} {tt : M Bool} {te : M D} (hv : ∀ i ∈ vs, 2 ≤ i) (hb : ∀ i ∈ tgtSlots b, i ∈ vs) : ∀ σ H Q, tN (mComp fi vs b tt te) σ H Q → tLc (tI fi) (tG b) (tT tt) (tE te) vs σ H Q := by
  rintro σ H Q ⟨F, sa, η0, τ, d, τ', w0, e, k⟩
  obtain ⟨ds, τ1, e1, e2⟩ := mBind_some e
  refine ⟨F, sa, η0, τ, ds, τ1, w0, e1, fun F1 H1 J x1 w1 it L hD => ?_⟩
  obtain ⟨hlen, G, Y, W, hG, hY⟩ := it
  have hD0 : H L = none := by
    cases z : H L with
    | none => rfl
    | some o => exact absurd hD (x1.nn L (nn_of z))
  have nD : NotSrc sa L := notSrc_new w1.src hD
  refine lc_it W (fun i Hc => ∃ F2 τi acc done rest, Ext sa F1 H1 F2 Hc ∧ View F2 sa (wipe σ vs) Hc (wipeD η0 vs) τi ∧ Hc L = some (.lst acc) ∧ F2 L = none ∧ acc.length ≤ i ∧ RpA F2 acc done ∧
    compGo b tt te (wipeD η0 vs) (ds.drop i) τi = some (rest, τ') ∧ d = done ++ rest) ?_ ?_ ?_ ?_
  · have gr := Grow.own w1.fh hD (.lst [])
    exact ⟨F1, τ1, [], [], d, gr.ext, (w1.grow gr).wiped hv, upd_same, w1.fh.free hD, Nat.le_refl _, .nil, e2, rfl⟩
  · rintro i Hc hi ⟨F2, τi, acc, done, rest, x2, w2, _⟩
    exact hG Hc (x2.ff.trans w2.fh)
  · rintro i x Hc H' hi ⟨F2, τi, acc, done, rest, x2, w2, hacc, hFD, hle, hra, hgo, hd⟩ hy
    obtain ⟨F3, dd, hdd, gr, rx⟩ := hY i Hc x H' F2 hi x2.ff w2.fh hy
    have hdrop : ds.drop i = dd :: ds.drop (i + 1) := by
      obtain ⟨hi', hz⟩ := List.getElem?_eq_some_iff.mp hdd
      rw [List.drop_eq_getElem_cons hi', hz]
    rw [hdrop] at hgo
    unfold compGo at hgo
    split at hgo
    · cases hgo
    rename_i as hbs
    have w3 := w2.grow gr
    have s2 : ∀ a ∈ as, 2 ≤ a.1 := fun a ha => hv _ (hb _ (mem_slots hbs ha))
    have hF3 : F3 L = none := gr.nf L hFD (nn_of hacc)
    have hH3 : H' L = some (.lst acc) := gr.hh _ _ hacc
    refine ⟨F3, dd, as, gr.fh, rx, hbs, fun ws hw => ⟨?_, ?_⟩⟩
    · rw [wipe_setV ws _ fun y hy => ?_, wipe_wipe fun u hu => hu]
      have : y.1 ∈ as.map (·.1) := by rw [← hw.slots]; exact List.mem_map_of_mem hy
      rw [bindT_slots b dd as hbs] at this
      exact hb _ this
    have wv : View F3 sa (setV (wipe σ vs) ws) H' (setD (wipeD η0 vs) as) τi := View.sets hw w3 s2
    split at hgo
    · cases hgo
    · rename_i τ2 ht
      refine tT.go wv ht fun F4 H4 x4 w4 => iteF ?_
      exact ⟨F4, τ2, acc, done, rest, x2.trans (gr.ext.trans x4), w3.back x4.ff w4.fh w4.src w4.flag, x4.hh _ _ hH3 nD, x4.nf L hF3 (nn_of hH3), by omega, RpA.mono (gr.ff.trans x4.ff) _ _ hra, hgo, hd⟩
    · rename_i τ2 ht
      split at hgo
      · cases hgo
      rename_i y τ3 hte
      split at hgo
      · cases hgo
      rename_i ys τ4 hrest
      cases hgo
      refine tT.go wv ht fun F4 H4 x4 w4 => iteT (tE.go w4 hte fun F5 H5 v x5 w5 r5 => ?_)
      have xx := x4.trans x5
      have hF5 : F5 L = none := xx.nf L hF3 (nn_of hH3)
      have hH5 : H5 L = some (.lst acc) := xx.hh _ _ hH3 nD
      have sF : Same F5 (upd H5 L (.lst (acc ++ [v]))) := fun c o z => by
        have hc : c ≠ L := ne_of_none z hF5
        rw [upd_ne hc]; exact w5.fh c o z
      have xu : Ext sa F5 H5 F5 (upd H5 L (.lst (acc ++ [v]))) → Ext sa F1 H1 F5 (upd H5 L (.lst (acc ++ [v]))) := fun z => x2.trans (gr.ext.trans (xx.trans z))
      refine ⟨acc, hH5, by omega, F5, τ3, acc ++ [v], done ++ [y], ys, ?_, ?_, upd_same, hF5, by rw [List.length_append]; simp; omega, (RpA.mono (gr.ff.trans xx.ff) _ _ hra).append (.cons r5 .nil), hrest, by rw [hd, List.append_assoc]; rfl⟩
      · have x15 : Ext sa F1 H1 F5 H5 := x2.trans (gr.ext.trans xx)
        refine ⟨x15.ff, fun c o z n => ?_, fun c z => ?_, x15.nf⟩
        · rw [upd_ne (ne_of_none z hD)]; exact x15.hh c o z n
        · by_cases hc : c = L
          · rw [hc, upd_same]; simp
          · rw [upd_ne hc]; exact x15.nn c z
      · refine w3.back xx.ff sF (fun j p c z => ?_) w5.flag
        obtain ⟨h1, h2, h3, h4, h5⟩ := w5.src j p c z
        obtain ⟨n1, n2⟩ := nD j p c z
        exact ⟨by rw [upd_ne (Ne.symm n1)]; exact h1, by rw [upd_ne (Ne.symm n2)]; exact h2, h3, h4, h5⟩
  · rintro Hc ⟨F2, τi, acc, done, rest, x2, w2, hacc, hFD, hle, hra, hgo, hd⟩
    rw [List.drop_eq_nil_of_le (Nat.le_refl _)] at hgo
    cases hgo
    rw [List.append_nil] at hd
    subst hd
    exact k F2 Hc L acc (x1.trans x2) (w1.back x2.ff w2.fh w2.src w2.flag |> fun z => ⟨z.fh, fun j q e => let ⟨v, h1, h2⟩ := w0.var j q e; ⟨v, h1, Rp.mono (x1.ff.trans x2.ff) _ _ h2⟩, z.src, w0.len, z.flag, w0.slot⟩) hD0 hFD hacc (by omega) nD hra
section
variable {X : Cx} {elt tg iter : Expr} {ifs : List Expr} {scope : Scope} {own : List (Str × Nat)} {pos : Pos} {fi : M (List D)} {b : Tgt} {tt : M Bool} {te : M D}
theorem dn_lc (own : List (Str × Nat)) (hc : X.calm = true) (hN : X.N.Nodup) (hi : DI X tg iter fi) (ok : BlkOk X.N X.env.scope scope own) (hv : ∀ i ∈ own.map (·.2), 2 ≤ i) (hb : ∀ i ∈ tgtSlots b, i ∈ own.map (·.2))
    (hg : ∀ (s : Shared) (H : Hp) (C : Addr) (cl : List (Str × Addr)) (fp : List Addr), DG (X.blk s H scope (compEnvC scope cl C X.env) fp) tg b) (ht : ∀ (s : Shared) (H : Hp) (C : Addr) (cl : List (Str × Addr)) (fp : List Addr), DTs (X.blk s H scope (compEnvC scope cl C X.env) fp) ifs tt)
    (he : ∀ (s : Shared) (H : Hp) (C : Addr) (cl : List (Str × Addr)) (fp : List Addr), DE (X.blk s H scope (compEnvC scope cl C X.env) fp) elt te) (hs : ∀ x, foldedSetIterable iter X.env x = pure x := by intro _; rfl) :
    DN X (.ListComp elt [⟨tg, iter, ifs, 0⟩] scope pos) (mComp fi (own.map (·.2)) b tt te) := pe_w (pe_lc hc hN hi ok hg ht he hs) (tLc_of (K := X.K) hv hb)
end
end DL

/-! DLe: a def's promise where no repr is under way; calls. -/
namespace DL
open PySem PySem.Spec PyProof.Rows L2

/-- FnOk, told of calls with no guarded built-in under way (repr asks it); nothing is raised -/
structure FnG (P : Program) (w : World) (K : PySem.W.Frag) (mg : Str → Option Value) (base : Heap) (k : Nat) (f : Addr) (fd : FuncData) (ps : List Str) (sp : Sp) : Prop where
  len : ∀ vs H Q, sp vs H Q E0 → vs.length = ps.length
  run : ∀ (A : Around) (outer : List Env) (s : Shared) (H : Hp) (args : Args) (us : List Value) (vs : List V) (Q : VK), Room k A → A.guards = some [] →
    Env0 P w K mg base A outer s H → BindsTo s fd args (ps.zip us) → Vals vs us → sp vs H Q E0 →
    codeAny (model P w) A (.call (.ref f) args) (CR CX0 outer P w H s Q E0) s
section
variable {P : Program} {w : World} {K : PySem.W.Frag} {mg : Str → Option Value} {base : Heap} {k : Nat} {f : Addr} {fd : FuncData} {ps : List Str} {sp : Sp}
theorem FnG.mono {j : Nat} (F : FnG P w K mg base j f fd ps sp) (h : j ≤ k) : FnG P w K mg base k f fd ps sp :=
  ⟨F.len, fun A outer s H args us vs Q r => F.run A outer s H args us vs Q (Room.mono r h)⟩
theorem FnG.of (F : FnOk P w K mg base CX0 k f fd ps sp) : FnG P w K mg base k f fd ps sp :=
  ⟨fun vs H Q h => F.len vs H Q E0 h, fun A outer s H args us vs Q r _ => F.run A outer s H args us vs Q E0 r⟩
end

section
variable {X : Cx} {k : Nat} {f : Addr} {fd : FuncData} {ps : List Str} {sp : Sp} {x : Str} {p pos : Pos} {e : Expr} {es : List Expr} {t : TA}
theorem runG {pins : List (Addr × Obj)} {σ : L2.St} {H : Hp} {s : Shared} {Q : VK} {us : List Value} {vs : List V}
    (F : FnG X.prog X.w X.K X.mg X.base k f fd ps sp) (hr : Room k X.A) (hd : X.A.guards = some []) (hb : Binds X.K fd ps [])
    (I : Inv X pins σ H s) (r : Vals vs us) (h : sp vs H Q E0) : wpAny (model X.prog X.w) X.A (call (.ref f) us) (EP X pins σ Q) X.xe s := by
  have hl : (us ++ []).length = ps.length := by
    rw [List.append_nil, ← r.length]
    exact F.len vs H Q h
  have hbs := hb s us I.kIn hl
  rw [List.append_nil] at hbs
  have code := F.run X.A X.stack s H ⟨us, []⟩ us vs Q hr hd I.env0 hbs r h
  refine wpAny_call (codeAny_mono code fun rr s' hq => ?_)
  match rr, hq with
  | .error _, hq => exact hq.elim
  | .ok (.ret u), hq => exact I.after hq
  | .ok .next, hq => exact hq.elim
  | .ok .brk, hq => exact hq.elim
  | .ok .cont, hq => exact hq.elim
theorem pe_callG (F : FnG X.prog X.w X.K X.mg X.base k f fd ps sp) (hr : Room k X.A) (hd : X.A.guards = some []) (hg : Gl X x) (hm : X.mg x = some (.ref f))
    (hk : PySem.W.keepIn X.K (.ref f) = true) (hb : Binds X.K fd ps []) (ha : PA X (e :: es) t) (hdb : (x == ("__debug__" : Str)) = false := by decide)
    (he : starEach (e :: es) X.env = (false, eval e X.env) :: starEach es X.env := by rfl)
    (hpl : (backTo pos (starEach es X.env)).any (·.1) = false := by rfl) :
    PE X (.Call (.Name x p) (e :: es) [] pos) (tCall sp [] E0 t) := by
  refine ⟨fun pins s σ H Q I hw => ?_⟩
  have step : wpAny (model X.prog X.w) X.A (spliced (backTo pos (starEach (e :: es) X.env))) (fun us s1 => X.K.In s1.heap ∧ wpAny (model X.prog X.w) X.A (call (.ref f) us) (EP X pins σ Q) X.xe s1) X.xe s :=
    thn (ha.run pos pins s σ H _ I hw) fun us s1 q => by
      obtain ⟨vs, H1, I1, r, q⟩ := q
      rw [List.append_nil] at q
      exact ⟨I1.kIn, runG F hr hd hb I1 r q⟩
  exact wpAny_Call_Name_kw (ld_glob I hg hm (PySem.W.callWith_K (h₀ := X.base) I.ok.mod.kin hk step he hpl) hdb)
end

/-- a def of the text keeps a promise, by its body -/
theorem fnG_of {P : Program} {w : World} {K : PySem.W.Frag} {mg : Str → Option Value} {base : Heap} {k : Nat} {f : Addr} {fd : FuncData} {N ps : List Str} {sp : Sp} {x qual : Str} {st : Stmt}
    (F : Fun K x qual st f fd) (S : FnScope N ps (defScope st)) (len : ∀ vs H Q, sp vs H Q E0 → vs.length = ps.length)
    (body : ∀ (cdv : Value) (A : Around) (outer : List Env) (s : Shared) (H : Hp) (vs : List V) (Q : VK), Room k (A.deeper (envOfC qual (defScope st) s.heap.objs.size f cdv)) →
      A.guards = some [] → sp vs H Q E0 →
      ∃ t, PSs (cxOf CX0 P w K mg base N qual (defScope st) f cdv A outer s H E0).nox (defBody st) t ∧ t { nx := fun _ H' => Q .non H', rt := Q } (start N vs) H) :
    FnG P w K mg base (k + 1) f fd ps sp := by
  obtain ⟨oc, od, kV, doc, pm, an, cdv, ct, osl, rfl, lk, hcd⟩ := F.ex
  refine ⟨len, fun A outer s H args us vs Q hr hg e0 hb r hsp => ?_⟩
  have KX : K.In s.heap := e0.mod.kin.keeps fun b o e => (e0.bs b o e).1
  have lim : s.heap.NoLimit := e0.mod.nolimit.keeps fun b o e => (e0.bs b o e).1
  have names : ∀ y ∈ ps.zip us, (defScope st).names.lookup y.1 = some .local ∨ ((defScope st).names.lookup y.1 = some .cell ∧ ((cellsFrom (s.heap.objs.size + 1) (defScope st).names []).lookup y.1).isSome = true) := by
    rintro ⟨n, v⟩ hy
    refine (S.par n (List.of_mem_zip hy).1).imp id fun q => ⟨q, PySem.W.cellsFrom_some _ _ _ (.inl q)⟩
  have enter := PySem.W.codeRec_of KX hcd
  refine codeAny_call_function hr.depth (KX _ _ lk) rfl S.co S.gen rfl enter (hb _ _ _ _ (wpAny_newFunctionEnv_cells S.kind names fun env he s1 xx => ?_))
  subst he
  obtain ⟨t, ht, hq⟩ := body cdv A outer s H vs Q (hr.deeper _) hg hsp
  have I : Inv (cxOf CX0 P w K mg base N qual (defScope st) f cdv A outer s H E0) [] (start N vs) H s1 := inv_start S hr.hd e0 (len _ _ _ hsp) r xx
  refine ⟨lim.keeps xx.toInCall.keep, codeAny_func (wpAny_mono (ht.nox.run [] s1 (start N vs) H _ I hq) (fun fl s' hs => ?_) fun e s' hs => hs)⟩
  match fl, hs with
  | .ret u, ⟨v, σ', H', J, rv, q⟩ => exact ⟨v, H', J.os, J.bare, J.base, J.hok, rv, q⟩
  | .next, ⟨σ', H', J, q⟩ => exact ⟨V.non, H', J.os, J.bare, J.base, J.hok, rfl, q⟩
  | .brk, ⟨_, _, _, q⟩ => exact q.elim
  | .cont, ⟨_, _, _, q⟩ => exact q.elim

/-! ### promises by mirrors -/
/-- a def over data -/
def spP (n : Nat) (m : List D → Option D) : Sp := fun vs H Q _ => ∃ F ds d, vs.length = n ∧ Same F H ∧ RpA F vs ds ∧ m ds = some d ∧ ∀ F' H' v, Grow F H F' H' → Rp F' v d → Q v H'
abbrev MS := List D → Src → Option (D × Src)
/-- a def whose first argument is the source -/
def spS (n : Nat) (m : MS) : Sp := fun vs H Q _ => ∃ F p c us ds τ d τ', vs = .ref p :: us ∧ us.length + 1 = n ∧ Same F H ∧ SrcOk (some (0, p, c)) F H τ ∧ τ.slot = some 0 ∧ RpA F us ds ∧ m ds τ = some (d, τ') ∧
  ∀ F' H' v, Ext (some (0, p, c)) F H F' H' → Same F' H' → SrcOk (some (0, p, c)) F' H' τ' → Rp F' v d → Q v H'
def callS (m : MS) (ds : List D) (τ : Src) : Option (D × Src) := match m ds { τ with slot := some 0 } with
  | some (d, τ') => some (d, { τ' with slot := τ.slot })
  | none => none
def mCallS (i : Nat) (m : MS) (g : M (List D)) : M D := fun η τ => if τ.slot = some i then mBind g (fun ds _ τ => callS m ds τ) η τ else none
theorem opl_P {n : Nat} {m : List D → Option D} (len : ∀ ds d, m ds = some d → ds.length = n) : OpL (fun vs H Q => spP n m vs H Q E0) m := by
  intro x dx d F H Q e s rx k
  exact ⟨F, dx, d, by rw [rx.length]; exact len _ _ e, s, rx, e, k⟩
theorem Ext.reslot {i j : Nat} {p c : Addr} {F H F' H' : Hp} (x : Ext (some (i, p, c)) F H F' H') : Ext (some (j, p, c)) F H F' H' :=
  ⟨x.ff, fun a o e n => x.hh a o e fun i' p' c' z => by cases z; exact n j p c rfl, x.nn, x.nf⟩
theorem SrcOk.reslot {i j : Nat} {p c : Addr} {F H : Hp} {τ : Src} (x : SrcOk (some (i, p, c)) F H τ) {o : Option Nat} : SrcOk (some (j, p, c)) F H { τ with slot := o } := fun i' p' c' z => by
  cases z; exact x i p c rfl
section
variable {X : Cx} {k : Nat} {f : Addr} {fd : FuncData} {ps : List Str} {x : Str} {p pos : Pos} {e : Expr} {es : List Expr} {g : M (List D)}
theorem de_call {m : List D → Option D} (F : FnG X.prog X.w X.K X.mg X.base k f fd ps (spP ps.length m)) (len : ∀ ds d, m ds = some d → ds.length = ps.length) (hr : Room k X.A) (hd : X.A.guards = some []) (hg : Gl X x) (hm : X.mg x = some (.ref f))
    (hk : PySem.W.keepIn X.K (.ref f) = true) (hb : Binds X.K fd ps []) (ha : DA X (e :: es) g) (hdb : (x == ("__debug__" : Str)) = false := by decide)
    (he : starEach (e :: es) X.env = (false, eval e X.env) :: starEach es X.env := by rfl) (hpl : (backTo pos (starEach es X.env)).any (·.1) = false := by rfl) :
    DE X (.Call (.Name x p) (e :: es) [] pos) (mOpL m g) := by
  refine pe_w (pe_callG F hr hd hg hm hk hb ha hdb he hpl) fun σ H Q h => ?_
  have h2 := tCB_of (opl_P len) σ H Q h
  obtain ⟨F0, sa, η, τ, d, τ', w, e, kk⟩ := h2
  refine ⟨F0, sa, η, τ, d, τ', w, e, fun F' H' v a b c => ?_⟩
  show spP ps.length m (v ++ []) H' Q E0
  rw [List.append_nil]
  exact kk F' H' v a b c
theorem de_callS (i : Nat) {y : Str} {py : Pos} {m : MS} (F : FnG X.prog X.w X.K X.mg X.base k f fd ps (spS ps.length m)) (len : ∀ ds τ d τ', m ds τ = some (d, τ') → ds.length + 1 = ps.length) (hr : Room k X.A) (hd : X.A.guards = some []) (hg : Gl X x) (hm : X.mg x = some (.ref f))
    (hk : PySem.W.keepIn X.K (.ref f) = true) (hb : Binds X.K fd ps []) (hv : PE X (.Name y py) (tVar i)) (ha : DA X es g) (hdb : (x == ("__debug__" : Str)) = false := by decide)
    (he : starEach (.Name y py :: es) X.env = (false, eval (.Name y py) X.env) :: starEach es X.env := by rfl) (hpl : (backTo pos (starEach es X.env)).any (·.1) = false := by rfl) :
    DE X (.Call (.Name x p) (.Name y py :: es) [] pos) (mCallS i m g) := by
  refine pe_w (pe_callG F hr hd hg hm hk hb (pa_cons hv ha he) hdb he hpl) ?_
  rintro σ H Q ⟨F0, sa, η, τ, d, τ', w, e, kk⟩
  unfold mCallS at e
  split at e
  · rename_i hs
    obtain ⟨ds, τ1, e1, e2⟩ := mBind_some e
    unfold callS at e2
    split at e2
    · rename_i d2 τ2 hm2
      cases e2
      cases sa with
      | none =>
        have hx : (none : Option Nat) = τ.slot := w.flag
        rw [hs] at hx
        cases hx
      | some t =>
        obtain ⟨j, q, c⟩ := t
        have hx : some j = τ.slot := w.flag
        rw [hs] at hx
        cases hx
        obtain ⟨_, hq⟩ := w.slot i q c rfl
        refine ⟨.ref q, hq, tL.go w e1 fun F1 H1 vs x1 w1 r1 => ?_⟩
        show spS ps.length m ((.ref q :: vs) ++ []) H1 Q E0
        rw [List.append_nil]
        refine ⟨F1, q, c, vs, ds, _, d, τ2, rfl, by rw [r1.length]; exact len _ _ _ _ hm2, w1.fh, w1.src.reslot, rfl, r1, hm2, fun F2 H2 v x2 s2 k2 r2 => ?_⟩
        have x2' : Ext (some (i, q, c)) F1 H1 F2 H2 := x2.reslot
        exact kk F2 H2 v (x1.trans x2') (w1.back x2.ff s2 k2.reslot w1.flag) r2
    · cases e2
  · cases e
end
end DL

/-! DLf: statements. -/
namespace DL
open PySem PySem.Spec PyProof.Rows L2

/-- what a slot holds: nothing known; data; an object of the frame's own that may be changed; the source -/
inductive Sl where
  | no
  | dat (d : D)
  | own (d : D)
  | src
abbrev EnvS := List Sl
def see (b : Bool) : Sl → Option D
  | .dat d => some d
  | .own d => if b = true then some d else none
  | _ => none
def view (b : Bool) (ρ : EnvS) : EnvD := ρ.map (see b)
mutual
def pureD : D → Bool
  | .none | .bool _ | .int _ | .str _ => true
  | .tuple ds => pureA ds
  | .list _ | .dict _ => false
def pureA : List D → Bool
  | [] => true
  | d :: ds => pureD d && pureA ds
end
def okD (b : Bool) (d : D) : Bool := !b || pureD d
def okA (b : Bool) (d : List D) : Bool := !b || pureA d
mutual
theorem Rp.tups {F G : Hp} (h : ∀ a xs, F a = some (.tup xs) → G a = some (.tup xs)) : ∀ (d : D) (v : V), pureD d = true → Rp F v d → Rp G v d
  | .none, _, _, r => by cases r; exact .non
  | .bool b, _, _, r => by cases r; exact .bl _
  | .int i, _, _, r => by cases r; exact .int _
  | .str x, _, _, r => by cases r; exact .str _
  | .list ds, _, p, _ => by simp [pureD] at p
  | .tuple ds, _, p, r => by cases r with | tup h1 h2 h3 => exact .tup (h _ _ h1) h2 (RpA.tups h ds _ (by simpa [pureD] using p) h3)
  | .dict ds, _, p, _ => by simp [pureD] at p
theorem RpA.tups {F G : Hp} (h : ∀ a xs, F a = some (.tup xs) → G a = some (.tup xs)) : ∀ (ds : List D) (vs : List V), pureA ds = true → RpA F vs ds → RpA G vs ds
  | [], _, _, r => by cases r; exact .nil
  | d :: ds, _, p, r => by
    have p' : pureD d = true ∧ pureA ds = true := by simpa [pureA] using p
    cases r with | cons r1 r2 => exact .cons (Rp.tups h d _ p'.1 r1) (RpA.tups h ds _ p'.2 r2)
end
/-- an own object's content is data -/
def OwnO (F : Hp) : HO → D → Prop
  | .lst xs, .list ds => xs.length ≤ sizeLine ∧ RpA F xs ds
  | .dK kvs, .dict ds => RpK F kvs ds
  | _, _ => False
theorem OwnO.mono {F G : Hp} (s : Same F G) : ∀ {o : HO} {d : D}, OwnO F o d → OwnO G o d := by
  intro o d h
  cases o <;> cases d <;> first | exact h.elim | exact ⟨h.1, RpA.mono s _ _ h.2⟩ | exact RpK.mono s _ _ h
theorem OwnO.rp {F : Hp} {a : Addr} {o : HO} {d : D} (h : OwnO F o d) (e : F a = some o) : Rp F (.ref a) d := by
  cases o <;> cases d <;> first | exact h.elim | exact .lst e h.1 h.2 | exact .dct e h
theorem OwnO.notTup {F : Hp} {xs : List V} {d : D} (h : OwnO F (.tup xs) d) : False := by cases d <;> exact h

structure Hold (F0 H0 F : Hp) (sa : SA) (σ : L2.St) (H : Hp) (ρ : EnvS) (τ : Src) : Prop where
  ext : Ext sa F0 H0 F H
  fh : Same F H
  len : ρ.length = σ.length
  dat : ∀ (i : Nat) (d : D), ρ[i]? = some (.dat d) → ∃ v, σ[i]? = some (some v) ∧ Rp F v d
  own : ∀ (i : Nat) (d : D), ρ[i]? = some (.own d) → ∃ a o, σ[i]? = some (some (.ref a)) ∧ H a = some o ∧ OwnO F o d ∧ F a = none ∧ H0 a = none ∧ NotSrc sa a
  sep : ∀ (i j : Nat) (d e : D) (a : Addr), i ≠ j → ρ[i]? = some (.own d) → ρ[j]? = some (.own e) → σ[i]? = some (some (.ref a)) → σ[j]? = some (some (.ref a)) → False
  src : SrcOk sa F H τ
  flag : sa.map (·.1) = τ.slot
  slot : ∀ (i : Nat) (p c : Addr), sa = some (i, p, c) → i < 2 ∧ σ[i]? = some (some (.ref p)) ∧ ρ[i]? = some .src

section
variable {F0 H0 F H : Hp} {sa : SA} {σ : L2.St} {ρ : EnvS} {τ τ' : Src}
theorem view_get {b : Bool} {i : Nat} {d : D} (h : (view b ρ)[i]? = some (some d)) : ρ[i]? = some (.dat d) ∨ (b = true ∧ ρ[i]? = some (.own d)) := by
  unfold view at h
  rw [List.getElem?_map] at h
  obtain ⟨s, h1, h2⟩ := Option.map_eq_some_iff.mp h
  rw [h1]
  cases s <;> simp only [see, reduceCtorEq, Option.some.injEq] at h2
  · subst h2; exact .inl rfl
  · split at h2
    · cases h2; exact .inr ⟨by assumption, rfl⟩
    · cases h2
def IsOwn (ρ : EnvS) (σ : L2.St) (a : Addr) : Prop := ∃ (i : Nat) (d : D), ρ[i]? = some (.own d) ∧ σ[i]? = some (some (.ref a))
open Classical in
noncomputable def plus (F H : Hp) (ρ : EnvS) (σ : L2.St) : Hp := fun a => if IsOwn ρ σ a then H a else F a
open Classical in
noncomputable def less (F : Hp) (ρ : EnvS) (σ : L2.St) : Hp := fun a => if IsOwn ρ σ a then none else F a
theorem plus_own {a : Addr} (h : IsOwn ρ σ a) : plus F H ρ σ a = H a := by unfold plus; rw [if_pos h]
theorem plus_not {a : Addr} (h : ¬ IsOwn ρ σ a) : plus F H ρ σ a = F a := by unfold plus; rw [if_neg h]
theorem less_own {a : Addr} (h : IsOwn ρ σ a) : less F ρ σ a = none := by unfold less; rw [if_pos h]
theorem less_not {a : Addr} (h : ¬ IsOwn ρ σ a) : less F ρ σ a = F a := by unfold less; rw [if_neg h]
theorem Hold.isOwn (h : Hold F0 H0 F sa σ H ρ τ) {a : Addr} (o : IsOwn ρ σ a) : ∃ ob d, H a = some ob ∧ OwnO F ob d ∧ F a = none ∧ H0 a = none ∧ NotSrc sa a := by
  obtain ⟨i, d, h1, h2⟩ := o
  obtain ⟨b, ob, h3, h4, h5, h6, h7, h8⟩ := h.own i d h1
  rw [h2] at h3
  cases h3
  exact ⟨ob, d, h4, h5, h6, h7, h8⟩
theorem Hold.same_plus (h : Hold F0 H0 F sa σ H ρ τ) : Same F (plus F H ρ σ) := fun a o e => by
  rw [plus_not fun z => by
    obtain ⟨_, _, _, _, h1, _⟩ := h.isOwn z
    rw [e] at h1; cases h1]
  exact e
theorem Hold.step0 {F' H' : Hp} (h : Hold F0 H0 F sa σ H ρ τ) (x : Ext sa F H F' H') (s : Same F' H') (k : SrcOk sa F' H' τ') (fl : sa.map (·.1) = τ'.slot) : Hold F0 H0 F' sa σ H' ρ τ' :=
  ⟨h.ext.trans x, s, h.len, fun i d e => let ⟨v, h1, h2⟩ := h.dat i d e; ⟨v, h1, Rp.mono x.ff _ _ h2⟩, fun i d e => by
    obtain ⟨a, o, h1, h2, h3, h4, h5, h6⟩ := h.own i d e
    exact ⟨a, o, h1, x.hh _ _ h2 h6, h3.mono x.ff, x.nf a h4 (nn_of h2), h5, h6⟩, h.sep, k, fl, h.slot⟩
/-- an expression is evaluated: what is seen, and how the state goes on -/
theorem Hold.run (h : Hold F0 H0 F sa σ H ρ τ) (b : Bool) : ∃ Fb, View Fb sa σ H (view b ρ) τ ∧ (∀ F' H', Ext sa Fb H F' H' → Ext sa F0 H0 F' H') ∧
    ∀ F' H' τ', Ext sa Fb H F' H' → Same F' H' → SrcOk sa F' H' τ' → sa.map (·.1) = τ'.slot →
      ∃ F2, Hold F0 H0 F2 sa σ H' ρ τ' ∧ Same F2 F' ∧ (∀ d v, okD b d = true → Rp F' v d → Rp F2 v d) ∧ (∀ d v, okA b d = true → RpA F' v d → RpA F2 v d) := by
  cases b with
  | false =>
    refine ⟨F, ⟨h.fh, fun i d e => ?_, h.src, by unfold view; rw [List.length_map, h.len]; exact Nat.le_refl _, h.flag, fun i p c e => let ⟨a, b, _⟩ := h.slot i p c e; ⟨a, b⟩⟩, fun F' H' x => h.ext.trans x, fun F' H' τ' x s k fl => ?_⟩
    · rcases view_get e with e | ⟨e, _⟩
      · exact h.dat i d e
      · cases e
    · exact ⟨F', h.step0 x s k fl, Same.refl _, fun _ _ _ r => r, fun _ _ _ r => r⟩
  | true =>
    have sp := h.same_plus
    have ph : Same (plus F H ρ σ) H := fun a o e => by
      by_cases z : IsOwn ρ σ a
      · rw [plus_own z] at e; exact e
      · rw [plus_not z] at e; exact h.fh a o e
    refine ⟨plus F H ρ σ, ⟨ph, fun i d e => ?_, fun i p c e => ?_, by unfold view; rw [List.length_map, h.len]; exact Nat.le_refl _, h.flag, fun i p c e => let ⟨a, b, _⟩ := h.slot i p c e; ⟨a, b⟩⟩, fun F' H' x => ?_, fun F' H' τ' x s k fl => ?_⟩
    · rcases view_get e with e | ⟨_, e⟩
      · obtain ⟨v, h1, h2⟩ := h.dat i d e
        exact ⟨v, h1, Rp.mono sp _ _ h2⟩
      · obtain ⟨a, o, h1, h2, h3, _⟩ := h.own i d e
        exact ⟨.ref a, h1, (h3.mono sp).rp (by rw [plus_own ⟨i, d, e, h1⟩]; exact h2)⟩
    · obtain ⟨h1, h2, h3, h4, h5⟩ := h.src i p c e
      refine ⟨h1, h2, h3, ?_, ?_⟩
      · rw [plus_not fun z => by
          obtain ⟨_, _, _, _, _, _, n⟩ := h.isOwn z
          exact (n i p c e).1 rfl]
        exact h4
      · rw [plus_not fun z => by
          obtain ⟨_, _, _, _, _, _, n⟩ := h.isOwn z
          exact (n i p c e).2 rfl]
        exact h5
    · refine ⟨h.ext.ff.trans (sp.trans x.ff), fun a o e n => x.hh a o (h.ext.hh a o e n) n, fun a e => x.nn a (h.ext.nn a e), fun a e1 e2 => x.nf a ?_ (h.ext.nn a e2)⟩
      rw [plus_not fun z => by
        obtain ⟨_, _, _, _, _, z0, _⟩ := h.isOwn z
        exact e2 z0]
      exact h.ext.nf a e1 e2
    · -- the own objects are not frozen behind it
      have lF : Same (less F' ρ σ) F' := fun a o e => by
        by_cases z : IsOwn ρ σ a
        · rw [less_own z] at e; cases e
        · rw [less_not z] at e; exact e
      have fl2 : Same F (less F' ρ σ) := fun a o e => by
        rw [less_not fun z => by
          obtain ⟨_, _, _, _, h1, _⟩ := h.isOwn z
          rw [e] at h1; cases h1]
        exact x.ff a o (sp a o e)
      have tup : ∀ a xs, F' a = some (.tup xs) → less F' ρ σ a = some (.tup xs) := fun a xs e => by
        rw [less_not fun z => by
          obtain ⟨ob, d, h1, h2, _⟩ := h.isOwn z
          have := x.ff a ob (by rw [plus_own z]; exact h1)
          rw [e] at this
          cases this
          exact h2.notTup]
        exact e
      refine ⟨less F' ρ σ, ⟨⟨h.ext.ff.trans fl2, fun a o e n => x.hh a o (h.ext.hh a o e n) n, fun a e => x.nn a (h.ext.nn a e), fun a e1 e2 => ?_⟩, lF.trans s, h.len, fun i d e => let ⟨v, h1, h2⟩ := h.dat i d e; ⟨v, h1, Rp.mono fl2 _ _ h2⟩, fun i d e => ?_, h.sep, fun i p c e => ?_, fl, h.slot⟩, lF, fun d v p r => Rp.tups tup d v (by simpa [okD] using p) r, fun d v p r => RpA.tups tup d v (by simpa [okA] using p) r⟩
      · by_cases z : IsOwn ρ σ a
        · exact less_own z
        · rw [less_not z]
          exact x.nf a (by rw [plus_not z]; exact h.ext.nf a e1 e2) (h.ext.nn a e2)
      · obtain ⟨a, o, h1, h2, h3, h4, h5, h6⟩ := h.own i d e
        exact ⟨a, o, h1, x.hh _ _ h2 h6, h3.mono fl2, less_own ⟨i, d, e, h1⟩, h5, h6⟩
      · obtain ⟨h1, h2, h3, h4, h5⟩ := k i p c e
        refine ⟨h1, h2, h3, ?_, ?_⟩
        · by_cases z : IsOwn ρ σ p
          · exact less_own z
          · rw [less_not z]; exact h4
        · by_cases z : IsOwn ρ σ c
          · exact less_own z
          · rw [less_not z]; exact h5

/-! a slot is stored -/
def okSet (ρ : EnvS) (i : Nat) : Bool := match ρ[i]? with
  | some .src => false
  | some _ => true
  | none => false
theorem okSet_lt {i : Nat} (h : okSet ρ i = true) : i < ρ.length := by
  unfold okSet at h
  cases e : ρ[i]? with
  | none => rw [e] at h; cases h
  | some _ => exact (List.getElem?_eq_some_iff.mp e).1
theorem okSet_src {i : Nat} (h : okSet ρ i = true) : ρ[i]? ≠ some .src := by
  unfold okSet at h
  intro e
  rw [e] at h
  cases h
theorem get_set {α : Type} {l : List α} {i j : Nat} {x y : α} (h : (l.set i x)[j]? = some y) : (i = j ∧ y = x) ∨ (i ≠ j ∧ l[j]? = some y) := by
  by_cases e : i = j
  · subst e
    rw [List.getElem?_set] at h
    split at h
    · split at h
      · cases h; exact .inl ⟨rfl, rfl⟩
      · cases h
    · rename_i hn; exact absurd rfl hn
  · rw [List.getElem?_set_ne e] at h
    exact .inr ⟨e, h⟩
theorem Hold.set_dat (h : Hold F0 H0 F sa σ H ρ τ) {i : Nat} {v : V} {d : D} (ok : okSet ρ i = true) (r : Rp F v d) : Hold F0 H0 F sa (σ.set i (some v)) H (ρ.set i (.dat d)) τ := by
  have hi := okSet_lt ok
  have hs := h.len
  refine ⟨h.ext, h.fh, by rw [List.length_set, List.length_set]; exact hs, fun j e hj => ?_, fun j e hj => ?_, fun j l e e' a hn h1 h2 h3 h4 => ?_, h.src, h.flag, fun j p c e => ?_⟩
  · rcases get_set hj with ⟨rfl, q⟩ | ⟨n, q⟩
    · cases q; exact ⟨v, by rw [List.getElem?_set_self (by omega)], r⟩
    · rw [List.getElem?_set_ne n]; exact h.dat j e q
  · rcases get_set hj with ⟨rfl, q⟩ | ⟨n, q⟩
    · cases q
    · rw [List.getElem?_set_ne n]; exact h.own j e q
  · rcases get_set h1 with ⟨rfl, q⟩ | ⟨n, q⟩
    · cases q
    · rcases get_set h2 with ⟨rfl, q2⟩ | ⟨n2, q2⟩
      · cases q2
      · rw [List.getElem?_set_ne n] at h3
        rw [List.getElem?_set_ne n2] at h4
        exact h.sep j l e e' a hn q q2 h3 h4
  · obtain ⟨h1, h2, h3⟩ := h.slot j p c e
    have n : i ≠ j := fun z => okSet_src ok (by rw [z]; exact h3)
    exact ⟨h1, by rw [List.getElem?_set_ne n]; exact h2, by rw [List.getElem?_set_ne n]; exact h3⟩
theorem Hold.set_own (h : Hold F0 H0 F sa σ H ρ τ) {i : Nat} {a : Addr} {o : HO} {d : D} (ok : okSet ρ i = true) (hH : H a = some o) (r : OwnO F o d) (hF : F a = none) (h0 : H0 a = none) (n : NotSrc sa a)
    (fresh : ∀ (j : Nat) (e : D), ρ[j]? = some (.own e) → σ[j]? ≠ some (some (.ref a))) : Hold F0 H0 F sa (σ.set i (some (.ref a))) H (ρ.set i (.own d)) τ := by
  have hi := okSet_lt ok
  have hs := h.len
  refine ⟨h.ext, h.fh, by rw [List.length_set, List.length_set]; exact hs, fun j e hj => ?_, fun j e hj => ?_, fun j l e e' b hn h1 h2 h3 h4 => ?_, h.src, h.flag, fun j p c e => ?_⟩
  · rcases get_set hj with ⟨rfl, q⟩ | ⟨n, q⟩
    · cases q
    · rw [List.getElem?_set_ne n]; exact h.dat j e q
  · rcases get_set hj with ⟨rfl, q⟩ | ⟨n, q⟩
    · cases q; exact ⟨a, o, by rw [List.getElem?_set_self (by omega)], hH, r, hF, h0, n⟩
    · rw [List.getElem?_set_ne n]; exact h.own j e q
  · rcases get_set h1 with ⟨rfl, q⟩ | ⟨n, q⟩
    · rw [List.getElem?_set_self (by omega)] at h3
      cases h3
      rcases get_set h2 with ⟨rfl, q2⟩ | ⟨n2, q2⟩
      · exact hn rfl
      · rw [List.getElem?_set_ne n2] at h4
        exact fresh l e' q2 h4
    · rw [List.getElem?_set_ne n] at h3
      rcases get_set h2 with ⟨rfl, q2⟩ | ⟨n2, q2⟩
      · rw [List.getElem?_set_self (by omega)] at h4
        cases h4
        exact fresh j e q h3
      · rw [List.getElem?_set_ne n2] at h4
        exact h.sep j l e e' b hn q q2 h3 h4
  · obtain ⟨h1, h2, h3⟩ := h.slot j p c e
    have n : i ≠ j := fun z => okSet_src ok (by rw [z]; exact h3)
    exact ⟨h1, by rw [List.getElem?_set_ne n]; exact h2, by rw [List.getElem?_set_ne n]; exact h3⟩
/-- an own object is changed -/
theorem Hold.write (h : Hold F0 H0 F sa σ H ρ τ) {i : Nat} {a : Addr} {o : HO} {d0 d : D} (hr : ρ[i]? = some (.own d0)) (hs : σ[i]? = some (some (.ref a))) (r : OwnO F o d) : Hold F0 H0 F sa σ (upd H a o) (ρ.set i (.own d)) τ := by
  obtain ⟨b, o1, g1, g2, g3, g4, g5, g6⟩ := h.own i d0 hr
  rw [hs] at g1
  cases g1
  have hi := (List.getElem?_eq_some_iff.mp hr).1
  have hl := h.len
  refine ⟨⟨h.ext.ff, fun c q e n => ?_, fun c e => ?_, h.ext.nf⟩, fun c q e => ?_, by rw [List.length_set]; exact hl, fun j e hj => ?_, fun j e hj => ?_, fun j l e e' b' hn h1 h2 h3 h4 => ?_, fun j p c e => ?_, h.flag, fun j p c e => ?_⟩
  · rw [upd_ne (ne_of_none e g5)]; exact h.ext.hh c q e n
  · by_cases hc : c = a
    · rw [hc, upd_same]; simp
    · rw [upd_ne hc]; exact h.ext.nn c e
  · rw [upd_ne (ne_of_none e g4)]; exact h.fh c q e
  · rcases get_set hj with ⟨rfl, q⟩ | ⟨n, q⟩
    · cases q
    · exact h.dat j e q
  · rcases get_set hj with ⟨rfl, q⟩ | ⟨n, q⟩
    · cases q; exact ⟨a, o, hs, upd_same, r, g4, g5, g6⟩
    · obtain ⟨c, o2, k1, k2, k3, k4, k5, k6⟩ := h.own j e q
      have hc : c ≠ a := fun z => h.sep i j d0 e a n hr q hs (by rw [← z]; exact k1)
      exact ⟨c, o2, k1, by rw [upd_ne hc]; exact k2, k3, k4, k5, k6⟩
  · rcases get_set h1 with ⟨rfl, q⟩ | ⟨n, q⟩
    · rcases get_set h2 with ⟨rfl, q2⟩ | ⟨n2, q2⟩
      · exact hn rfl
      · exact h.sep i l d0 e' b' hn hr q2 h3 h4
    · rcases get_set h2 with ⟨rfl, q2⟩ | ⟨n2, q2⟩
      · exact h.sep j i e d0 b' hn q hr h3 h4
      · exact h.sep j l e e' b' hn q q2 h3 h4
  · obtain ⟨h1, h2, h3, h4, h5⟩ := h.src j p c e
    obtain ⟨n1, n2⟩ := g6 j p c e
    exact ⟨by rw [upd_ne (Ne.symm n1)]; exact h1, by rw [upd_ne (Ne.symm n2)]; exact h2, h3, h4, h5⟩
  · obtain ⟨h1, h2, h3⟩ := h.slot j p c e
    have n : i ≠ j := fun z => by rw [← z, hr] at h3; cases h3
    exact ⟨h1, h2, by rw [List.getElem?_set_ne n]; exact h3⟩
theorem Hold.own_new (h : Hold F0 H0 F sa σ H ρ τ) {a : Addr} (n : H a = none) (j : Nat) (e : D) (hj : ρ[j]? = some (.own e)) : σ[j]? ≠ some (some (.ref a)) := fun z => by
  obtain ⟨b, o, h1, h2, _⟩ := h.own j e hj
  rw [z] at h1
  cases h1
  rw [n] at h2
  cases h2
end

/-! ### the mirror of a statement -/
inductive Out where
  | nx
  | bk
  | ct
  | rt (d : D)
abbrev Stm := EnvS → Src → Option (Out × EnvS × Src)
def Fin (F0 H0 : Hp) (sa : SA) (E : Ends) : Out → EnvS → Src → Prop
  | .nx, ρ, τ => ∀ F σ H, Hold F0 H0 F sa σ H ρ τ → E.nx σ H
  | .bk, ρ, τ => ∀ F σ H, Hold F0 H0 F sa σ H ρ τ → E.bk σ H
  | .ct, ρ, τ => ∀ F σ H, Hold F0 H0 F sa σ H ρ τ → E.ct σ H
  | .rt d, _, τ => ∀ F H v, Ext sa F0 H0 F H → Same F H → SrcOk sa F H τ → Rp F v d → E.rt v H
def tS (g : Stm) : TS := fun E σ H => ∃ F0 H0 F sa ρ τ o ρ' τ', Hold F0 H0 F sa σ H ρ τ ∧ g ρ τ = some (o, ρ', τ') ∧ Fin F0 H0 sa E o ρ' τ'
abbrev DS (X : Cx) (st : Stmt) (g : Stm) : Prop := PS X st (tS g)
abbrev DSs (X : Cx) (st : List Stmt) (g : Stm) : Prop := PSs X st (tS g)
theorem ps_w {X : Cx} {st : Stmt} {t t' : TS} (h : PS X st t) (w : ∀ E σ H, t' E σ H → t E σ H) : PS X st t' := ⟨fun pins s σ H E I k => h.run pins s σ H E I (w E σ H k)⟩
theorem pss_w {X : Cx} {st : List Stmt} {t t' : TS} (h : PSs X st t) (w : ∀ E σ H, t' E σ H → t E σ H) : PSs X st t' := ⟨fun pins s σ H E I k => h.run pins s σ H E I (w E σ H k)⟩
def mSkip : Stm := fun ρ τ => some (.nx, ρ, τ)
def mSeq (g h : Stm) : Stm := fun ρ τ => match g ρ τ with
  | some (.nx, ρ1, τ1) => h ρ1 τ1
  | r => r
def mSet (b : Bool) (i : Nat) (f : M D) : Stm := fun ρ τ => match f (view b ρ) τ with
  | some (d, τ') => if okSet ρ i && okD b d then some (.nx, ρ.set i (.dat d), τ') else none
  | none => none
def mSetN (b : Bool) (i : Nat) (f : M (List D)) : Stm := fun ρ τ => match f (view b ρ) τ with
  | some (d, τ') => if okSet ρ i && okA b d then some (.nx, ρ.set i (.own (.list d)), τ') else none
  | none => none
def mApp (b : Bool) (i : Nat) (f : M D) : Stm := fun ρ τ => match f (view b ρ) τ with
  | some (d, τ') => match ρ[i]? with
    | some (.own (.list ds)) => if okD b d && decide (ds.length < sizeLine) then some (.nx, ρ.set i (.own (.list (ds ++ [d]))), τ') else none
    | _ => none
  | none => none
def mExt (b : Bool) (i : Nat) (f : M D) : Stm := fun ρ τ => match f (view b ρ) τ with
  | some (.list es, τ') => match ρ[i]? with
    | some (.own (.list ds)) => if okA b es && decide (ds.length + es.length ≤ sizeLine) then some (.nx, ρ.set i (.own (.list (ds ++ es))), τ') else none
    | _ => none
  | _ => none
def mSetIx (b : Bool) (i : Nat) (f k : M D) : Stm := fun ρ τ => match f (view b ρ) τ with
  | some (d, τ1) => match k (view b ρ) τ1 with
    | some (.int n, τ2) => match ρ[i]? with
      | some (.own (.list ds)) => match ixN ds.length n with
        | some j => if okD b d then some (.nx, ρ.set i (.own (.list (ds.set j d))), τ2) else none
        | none => none
      | _ => none
    | _ => none
  | none => none
def mRet (f : M D) : Stm := fun ρ τ => match f (view true ρ) τ with
  | some (d, τ') => some (.rt d, ρ, τ')
  | none => none
def mIfS (c : M Bool) (g h : Stm) : Stm := fun ρ τ => match c (view true ρ) τ with
  | some (b, τ') => if b = true then g ρ τ' else h ρ τ'
  | none => none
def mDrop (f : M D) : Stm := fun ρ τ => match f (view true ρ) τ with
  | some (_, τ') => some (.nx, ρ, τ')
  | none => none
def frz (ρ : EnvS) (i : Nat) : EnvS := match ρ[i]? with
  | some (.own d) => ρ.set i (.dat d)
  | _ => ρ
def mFrz (i : Nat) (g : Stm) : Stm := fun ρ τ => g (frz ρ i) τ
def whileGo (c : M Bool) (g : Stm) : Nat → Stm
  | 0 => fun _ _ => none
  | n + 1 => fun ρ τ => match c (view true ρ) τ with
    | none => none
    | some (false, τ1) => some (.nx, ρ, τ1)
    | some (true, τ1) => match g ρ τ1 with
      | some (.nx, ρ2, τ2) => whileGo c g n ρ2 τ2
      | some (.ct, ρ2, τ2) => whileGo c g n ρ2 τ2
      | some (.bk, ρ2, τ2) => some (.nx, ρ2, τ2)
      | some (.rt d, ρ2, τ2) => some (.rt d, ρ2, τ2)
      | none => none
def fuel : Nat := 1000000
def mWhile (c : M Bool) (g : Stm) : Stm := whileGo c g fuel
def setSl (ρ : EnvS) (as : List (Nat × D)) : EnvS := as.foldl (fun ρ w => ρ.set w.1 (.dat w.2)) ρ
def okSets (ρ : EnvS) (as : List (Nat × D)) : Bool := as.all fun a => okSet ρ a.1
def forGo (b : Tgt) (g : Stm) : List D → Stm
  | [] => fun ρ τ => some (.nx, ρ, τ)
  | d :: ds => fun ρ τ => match bindT b d with
    | none => none
    | some as => if okSets ρ as = true then (match g (setSl ρ as) τ with
      | some (.nx, ρ2, τ2) => forGo b g ds ρ2 τ2
      | some (.ct, ρ2, τ2) => forGo b g ds ρ2 τ2
      | some (.bk, ρ2, τ2) => some (.nx, ρ2, τ2)
      | some (.rt d, ρ2, τ2) => some (.rt d, ρ2, τ2)
      | none => none) else none
def mFor (fi : M (List D)) (b : Tgt) (g : Stm) : Stm := fun ρ τ => match fi (view false ρ) τ with
  | some (ds, τ1) => forGo b g ds ρ τ1
  | none => none
def mAsgT (v : Bool) (b : Tgt) (f : M D) : Stm := fun ρ τ => match f (view v ρ) τ with
  | some (d, τ1) => match bindT b d with
    | some as => if okSets ρ as && okD v d then some (.nx, setSl ρ as, τ1) else none
    | none => none
  | none => none

section
variable {X : Cx} {st : Stmt} {rest : List Stmt} {g h : Stm} {e : Expr} {f : M D} {pos : Pos}
theorem dss_nil : DSs X [] mSkip := pss_w pss_nil fun E σ H h => by
  obtain ⟨F0, H0, F, sa, ρ, τ, o, ρ', τ', hh, e, k⟩ := h
  cases e
  exact k F σ H hh
theorem dss_one (h1 : DS X st g) : DSs X [st] g := pss_one h1
theorem dss_cons (h1 : DS X st g) (h2 : DSs X rest h) : DSs X (st :: rest) (mSeq g h) := by
  refine pss_w (pss_cons h1 h2) ?_
  rintro E σ H ⟨F0, H0, F, sa, ρ, τ, o, ρ', τ', hh, e, k⟩
  unfold mSeq at e
  split at e
  · rename_i ρ1 τ1 e1
    exact ⟨F0, H0, F, sa, ρ, τ, .nx, ρ1, τ1, hh, e1, fun F2 σ2 H2 h2 => ⟨F0, H0, F2, sa, ρ1, τ1, o, ρ', τ', h2, e, k⟩⟩
  · rename_i hn
    refine ⟨F0, H0, F, sa, ρ, τ, o, ρ', τ', hh, e, ?_⟩
    cases o with
    | nx => exact absurd e (hn _ _)
    | bk => exact k
    | ct => exact k
    | rt d => exact k
theorem ds_pass : DS X (.Pass pos) mSkip := ps_w ps_pass fun E σ H h => by
  obtain ⟨F0, H0, F, sa, ρ, τ, o, ρ', τ', hh, e, k⟩ := h
  cases e
  exact k F σ H hh
def mBreak : Stm := fun ρ τ => some (.bk, ρ, τ)
def mCont : Stm := fun ρ τ => some (.ct, ρ, τ)
theorem ds_break : DS X (.Break pos) mBreak := ps_w ps_break fun E σ H h => by
  obtain ⟨F0, H0, F, sa, ρ, τ, o, ρ', τ', hh, e, k⟩ := h
  cases e
  exact k F σ H hh
theorem ds_cont : DS X (.Continue pos) mCont := ps_w ps_continue fun E σ H h => by
  obtain ⟨F0, H0, F, sa, ρ, τ, o, ρ', τ', hh, e, k⟩ := h
  cases e
  exact k F σ H hh
/-- x = e -/
theorem set_of {b : Bool} {i : Nat} : ∀ E σ H, tS (mSet b i f) E σ H → tAsg (tE f) (gName i) E σ H := by
  rintro E σ H ⟨F0, H0, F, sa, ρ, τ, o, ρ', τ', hh, e, k⟩
  unfold mSet at e
  split at e
  · rename_i d τ1 e1
    split at e
    · rename_i ok
      cases e
      rw [Bool.and_eq_true] at ok
      obtain ⟨Fb, w, _, go⟩ := hh.run b
      refine tE.go w e1 fun F1 H1 v x1 w1 r1 => ?_
      obtain ⟨F2, h2, _, rp, _⟩ := go F1 H1 _ x1 w1.fh w1.src w1.flag
      exact k F2 _ H1 (h2.set_dat ok.1 (rp d v ok.2 r1))
    · cases e
  · cases e
theorem ds_set (b : Bool) {i : Nat} {x : Str} {pos' : Pos} (hN : X.N.Nodup) (hi : X.N[i]? = some x) (hx : Loc X.env.scope x) (he : DE X e f) (hs : swapsWith e (some (.Name x pos')) pos.line X.env = pure false := by rfl) (hf : X.fn x = true ∨ X.env.scope.names.lookup x = some .local := by first | exact .inl rfl | exact .inr rfl | assumption) :
    DS X (.Assign [.Name x pos'] e pos) (mSet b i f) := ps_w (ps_set hN hi hx he hs hf) set_of
/-- x = a new list -/
theorem setN_of {g : M (List D)} {b : Bool} {i : Nat} : ∀ E σ H, tS (mSetN b i g) E σ H → tAsg (tN g) (gName i) E σ H := by
  rintro E σ H ⟨F0, H0, F, sa, ρ, τ, o, ρ', τ', hh, e, k⟩
  unfold mSetN at e
  split at e
  · rename_i d τ1 e1
    split at e
    · rename_i ok
      cases e
      rw [Bool.and_eq_true] at ok
      obtain ⟨Fb, w, _, go⟩ := hh.run b
      refine tN.go w e1 fun F1 H1 a vs x1 w1 n0 nF hH hl ns r1 => ?_
      obtain ⟨F2, h2, sf, _, rp⟩ := go F1 H1 _ x1 w1.fh w1.src w1.flag
      have h00 : H0 a = none := by
        cases z : H0 a with
        | none => rfl
        | some q => exact absurd n0 (hh.ext.nn a (nn_of z))
      refine k F2 _ H1 (h2.set_own ok.1 hH ⟨hl, rp d vs ok.2 r1⟩ (sf.free nF) h00 ns fun j q hj z => hh.own_new n0 j q hj z)
    · cases e
  · cases e
theorem ds_setN (b : Bool) {g : M (List D)} {i : Nat} {x : Str} {pos' : Pos} (hN : X.N.Nodup) (hi : X.N[i]? = some x) (hx : Loc X.env.scope x) (he : DN X e g) (hs : swapsWith e (some (.Name x pos')) pos.line X.env = pure false := by rfl) (hf : X.fn x = true ∨ X.env.scope.names.lookup x = some .local := by first | exact .inl rfl | exact .inr rfl | assumption) :
    DS X (.Assign [.Name x pos'] e pos) (mSetN b i g) := ps_w (ps_set hN hi hx he hs hf) setN_of
theorem ds_ret (he : DE X e f) : DS X (.Return (some e) pos) (mRet f) := by
  refine ps_w (ps_ret he) ?_
  rintro E σ H ⟨F0, H0, F, sa, ρ, τ, o, ρ', τ', hh, e, k⟩
  unfold mRet at e
  split at e
  · rename_i d τ1 e1
    cases e
    obtain ⟨Fb, w, x0, _⟩ := hh.run true
    exact tE.go w e1 fun F1 H1 v x1 w1 r1 => k F1 H1 v (x0 F1 H1 x1) w1.fh w1.src r1
  · cases e
theorem ds_if {c : Expr} {p q : List Stmt} {tc : M Bool} (hc : DT X c tc) (ha : DSs X p g) (hb : DSs X q h) : DS X (.If c p q pos) (mIfS tc g h) := by
  refine ps_w (ps_if hc ha hb) ?_
  rintro E σ H ⟨F0, H0, F, sa, ρ, τ, o, ρ', τ', hh, e, k⟩
  unfold mIfS at e
  split at e
  · rename_i d τ1 e1
    obtain ⟨Fb, w, _, go⟩ := hh.run true
    refine tT.go w e1 fun F1 H1 x1 w1 => ?_
    obtain ⟨F2, h2, _⟩ := go F1 H1 _ x1 w1.fh w1.src w1.flag
    cases d with
    | true => exact iteT ⟨F0, H0, F2, sa, ρ, τ1, o, ρ', τ', h2, e, k⟩
    | false => exact iteF ⟨F0, H0, F2, sa, ρ, τ1, o, ρ', τ', h2, e, k⟩
  · cases e
theorem ds_drop (he : DE X e f) (hs : swapsWith e none pos.line X.env = pure false := by rfl) : DS X (.Expr e pos) (mDrop f) := by
  refine ps_w (ps_expr he hs) ?_
  rintro E σ H ⟨F0, H0, F, sa, ρ, τ, o, ρ', τ', hh, e, k⟩
  unfold mDrop at e
  split at e
  · rename_i d τ1 e1
    cases e
    obtain ⟨Fb, w, _, go⟩ := hh.run true
    refine tE.go w e1 fun F1 H1 v x1 w1 r1 => ?_
    obtain ⟨F2, h2, _⟩ := go F1 H1 _ x1 w1.fh w1.src w1.flag
    exact k F2 σ H1 h2
  · cases e
/-- an own object is data from here on -/
theorem Hold.frz {F0 H0 F H : Hp} {sa : SA} {σ : L2.St} {ρ : EnvS} {τ : Src} (hh : Hold F0 H0 F sa σ H ρ τ) (i : Nat) : ∃ F', Hold F0 H0 F' sa σ H (frz ρ i) τ := by
  unfold DL.frz
  split
  · rename_i d hd
    obtain ⟨a, o, g1, g2, g3, g4, g5, g6⟩ := hh.own i d hd
    have hi := (List.getElem?_eq_some_iff.mp hd).1
    have sf : Same F (upd F a o) := same_new g4
    refine ⟨upd F a o, ⟨hh.ext.ff.trans sf, hh.ext.hh, hh.ext.nn, fun b e1 e2 => ?_⟩, fun b q e => ?_, by rw [List.length_set]; exact hh.len, fun j e hj => ?_, fun j e hj => ?_, fun j l e e' b hn h1 h2 h3 h4 => ?_, fun j p c e => ?_, hh.flag, fun j p c e => ?_⟩
    · rw [upd_ne fun z => e2 (by rw [z]; exact g5)]; exact hh.ext.nf b e1 e2
    · by_cases hb : b = a
      · subst hb; rw [upd_same] at e; cases e; exact g2
      · rw [upd_ne hb] at e; exact hh.fh b q e
    · rcases get_set hj with ⟨rfl, q⟩ | ⟨n, q⟩
      · cases q; exact ⟨.ref a, g1, (g3.mono sf).rp upd_same⟩
      · obtain ⟨v, k1, k2⟩ := hh.dat j e q
        exact ⟨v, k1, Rp.mono sf _ _ k2⟩
    · rcases get_set hj with ⟨rfl, q⟩ | ⟨n, q⟩
      · cases q
      · obtain ⟨b, o2, k1, k2, k3, k4, k5, k6⟩ := hh.own j e q
        have hb : b ≠ a := fun z => hh.sep i j d e a n hd q g1 (by rw [← z]; exact k1)
        exact ⟨b, o2, k1, k2, k3.mono sf, by rw [upd_ne hb]; exact k4, k5, k6⟩
    · rcases get_set h1 with ⟨rfl, q⟩ | ⟨n, q⟩
      · cases q
      · rcases get_set h2 with ⟨rfl, q2⟩ | ⟨n2, q2⟩
        · cases q2
        · exact hh.sep j l e e' b hn q q2 h3 h4
    · obtain ⟨h1, h2, h3, h4, h5⟩ := hh.src j p c e
      obtain ⟨n1, n2⟩ := g6 j p c e
      exact ⟨h1, h2, h3, by rw [upd_ne (Ne.symm n1)]; exact h4, by rw [upd_ne (Ne.symm n2)]; exact h5⟩
    · obtain ⟨h1, h2, h3⟩ := hh.slot j p c e
      have n : i ≠ j := fun z => by rw [← z, hd] at h3; cases h3
      exact ⟨h1, h2, by rw [List.getElem?_set_ne n]; exact h3⟩
  · exact ⟨F, hh⟩
theorem ds_frz (i : Nat) (h1 : DS X st g) : DS X st (mFrz i g) := by
  refine ps_w h1 ?_
  rintro E σ H ⟨F0, H0, F, sa, ρ, τ, o, ρ', τ', hh, e, k⟩
  obtain ⟨F', h2⟩ := hh.frz i
  exact ⟨F0, H0, F', sa, _, τ, o, ρ', τ', h2, e, k⟩
end
end DL

/-! DLg: methods of own lists, loops, several targets, a def's body. -/
namespace DL
open PySem PySem.Spec PyProof.Rows L2

section
variable {X : Cx} {f : M D} {pos pos' p1 p2 : Pos} {x : Str} {e : Expr}
theorem own_at {F0 H0 F H : Hp} {sa : SA} {σ : L2.St} {ρ : EnvS} {τ : Src} (hh : Hold F0 H0 F sa σ H ρ τ) {i : Nat} {ds : List D} (h : ρ[i]? = some (.own (.list ds))) : ∃ a vs, σ[i]? = some (some (.ref a)) ∧ H a = some (.lst vs) ∧ vs.length ≤ sizeLine ∧ RpA F vs ds := by
  obtain ⟨a, o, h1, h2, h3, _⟩ := hh.own i _ h
  cases o <;> first | exact h3.elim | exact ⟨a, _, h1, h2, h3.1, h3.2⟩
/-- x.append(e) -/
theorem ds_app (b : Bool) (i : Nat) (hv : PE X (.Name x p1) (tVar i)) (he : DE X e f) (hs : swapsWith (.Call (.Attribute (.Name x p1) "append" p2) [e] [] pos) none pos'.line X.env = pure false := by rfl)
    (hbase : attributeBase (.Name x p1) "append" X.env (eval (.Name x p1) X.env) = eval (.Name x p1) X.env := by rfl)
    (hfew : ((backTo pos (starEach [e] X.env)).all (fun x => !x.1) && (backToKw pos (keywordEach [] X.env)).all (fun x => x.1.isSome)
      && decide (([e] : List Expr).length + ([] : List Keyword).length + (if ([] : List Keyword).isEmpty then 0 else 1) < 30)) = true := by rfl)
    (hline : (p2.endLine == pos.line) = true := by rfl) (hs1 : starEach [e] X.env = (false, eval e X.env) :: starEach [] X.env := by rfl)
    (hpl : (backTo pos (starEach [] X.env)).any (·.1) = false := by rfl) :
    DS X (.Expr (.Call (.Attribute (.Name x p1) "append" p2) [e] [] pos) pos') (mApp b i f) := by
  refine ps_w (ps_expr (pe_bm PySem.F.plainAttrs_list PySem.F.slot_list_append PySem.F.type_list_append mt_append hv (pa_cons he pa_nil hs1) hbase hfew hline hs1 hpl) hs) ?_
  rintro E σ H ⟨F0, H0, F, sa, ρ, τ, o, ρ', τ', hh, e, k⟩
  unfold mApp at e
  split at e
  · rename_i d τ1 e1
    split at e
    · rename_i ds hds
      split at e
      · rename_i ok
        cases e
        rw [Bool.and_eq_true] at ok
        have hlt := of_decide_eq_true ok.2
        obtain ⟨a, vs, h1, h2, h3, h4⟩ := own_at hh hds
        obtain ⟨Fb, w, _, go⟩ := hh.run b
        refine ⟨.ref a, h1, .inl ⟨rfl, _, .of h2⟩, tE.go w e1 fun F1 H1 v x1 w1 r1 => ?_⟩
        obtain ⟨F2, hh2, sf, rp, _⟩ := go F1 H1 _ x1 w1.fh w1.src w1.flag
        obtain ⟨a', vs', h1', h2', h3', h4'⟩ := own_at hh2 hds
        rw [h1] at h1'
        cases h1'
        have hl := h4'.length
        exact ⟨a, vs', v, rfl, rfl, h2', by omega, k F2 σ _ (hh2.write hds h1 ⟨by rw [List.length_append]; simp; omega, h4'.append (.cons (rp d v ok.1 r1) .nil)⟩)⟩
      · cases e
    · cases e
  · cases e
/-- x.extend(e) -/
theorem ds_ext (b : Bool) (i : Nat) (hv : PE X (.Name x p1) (tVar i)) (he : DE X e f) (hs : swapsWith (.Call (.Attribute (.Name x p1) "extend" p2) [e] [] pos) none pos'.line X.env = pure false := by rfl)
    (hbase : attributeBase (.Name x p1) "extend" X.env (eval (.Name x p1) X.env) = eval (.Name x p1) X.env := by rfl)
    (hfew : ((backTo pos (starEach [e] X.env)).all (fun x => !x.1) && (backToKw pos (keywordEach [] X.env)).all (fun x => x.1.isSome)
      && decide (([e] : List Expr).length + ([] : List Keyword).length + (if ([] : List Keyword).isEmpty then 0 else 1) < 30)) = true := by rfl)
    (hline : (p2.endLine == pos.line) = true := by rfl) (hs1 : starEach [e] X.env = (false, eval e X.env) :: starEach [] X.env := by rfl)
    (hpl : (backTo pos (starEach [] X.env)).any (·.1) = false := by rfl) :
    DS X (.Expr (.Call (.Attribute (.Name x p1) "extend" p2) [e] [] pos) pos') (mExt b i f) := by
  refine ps_w (ps_expr (pe_bm PySem.F.plainAttrs_list PySem.F.slot_list_extend PySem.F.type_list_extend mt_extend hv (pa_cons he pa_nil hs1) hbase hfew hline hs1 hpl) hs) ?_
  rintro E σ H ⟨F0, H0, F, sa, ρ, τ, o, ρ', τ', hh, e, k⟩
  unfold mExt at e
  split at e
  · rename_i es τ1 e1
    split at e
    · rename_i ds hds
      split at e
      · rename_i ok
        cases e
        rw [Bool.and_eq_true] at ok
        have hlt := of_decide_eq_true ok.2
        obtain ⟨a, vs, h1, h2, h3, h4⟩ := own_at hh hds
        obtain ⟨Fb, w, _, go⟩ := hh.run b
        refine ⟨.ref a, h1, .inl ⟨rfl, _, .of h2⟩, tE.go w e1 fun F1 H1 v x1 w1 r1 => ?_⟩
        obtain ⟨F2, hh2, sf, _, rp⟩ := go F1 H1 _ x1 w1.fh w1.src w1.flag
        obtain ⟨a', vs', h1', h2', h3', h4'⟩ := own_at hh2 hds
        rw [h1] at h1'
        cases h1'
        cases r1 with
        | @lst q zs _ g1 g2 g3 =>
          have hl := h4'.length
          have hl2 := g3.length
          exact ⟨a, q, vs', zs, rfl, rfl, h2', w1.fh _ _ g1, by omega, k F2 σ _ (hh2.write hds h1 ⟨by rw [List.length_append]; omega, h4'.append (rp es zs ok.1 g3)⟩)⟩
      · cases e
    · cases e
  · cases e
/-- x[k] = e -/
theorem ds_setIx (b : Bool) (i : Nat) {ik : Expr} {fk : M D} (hv : PE X (.Name x p1) (tVar i)) (he : DE X e f) (hk : DE X ik fk)
    (ha : ∀ v, assign (.Subscript (.Name x p1) ik p2) X.env v = (do
      let ov ← holding [v] (eval (.Name x p1) X.env)
      let iv ← holding [v, ov] (eval ik X.env)
      standAt p2
      holding [v, ov, iv] (setItem ov iv v)
      release [v, ov, iv] []) := by intro _; rfl)
    (hs : swapsWithSole [.Subscript (.Name x p1) ik p2] e pos.line X.env = pure false := by rfl) (hw : swappedStores [.Subscript (.Name x p1) ik p2] e X.env = pure none := by rfl)
    (h1 : (assignEach [.Subscript (.Name x p1) ik p2] X.env).map (·.2) = [assign (.Subscript (.Name x p1) ik p2) X.env] := by rfl) :
    DS X (.Assign [.Subscript (.Name x p1) ik p2] e pos) (mSetIx b i f fk) := by
  refine ps_w (ps_asg he (pg_sub hv hk set_list ha) hs hw h1) ?_
  rintro E σ H ⟨F0, H0, F, sa, ρ, τ, o, ρ', τ', hh, e, k⟩
  unfold mSetIx at e
  split at e
  · rename_i d τ1 e1
    split at e
    · rename_i n τ2 e2
      split at e
      · rename_i ds hds
        split at e
        · rename_i j hj
          split at e
          · rename_i ok
            cases e
            obtain ⟨a, vs, h1, h2, h3, h4⟩ := own_at hh hds
            obtain ⟨Fb, w, _, go⟩ := hh.run b
            refine tE.go w e1 fun F1 H1 v x1 w1 r1 => ⟨.ref a, h1, tE.go w1 e2 fun F2 H2 v2 x2 w2 r2 => ?_⟩
            cases r2
            obtain ⟨F3, hh3, sf, rp, _⟩ := go F2 H2 _ (x1.trans x2) w2.fh w2.src w2.flag
            obtain ⟨a', vs', h1', h2', h3', h4'⟩ := own_at hh3 hds
            rw [h1] at h1'
            cases h1'
            have hl := h4'.length
            exact ⟨a, vs', n, j, rfl, rfl, h2', by rw [hl]; exact hj, k F3 σ _ (hh3.write hds h1 ⟨by rw [List.length_set]; exact h3', h4'.set j (rp d v ok (Rp.mono x2.ff _ _ r1))⟩)⟩
          · cases e
        · cases e
      · cases e
    · cases e
  · cases e
end

/-! ### loops -/
section
variable {X : Cx} {g : Stm} {pos : Pos}
theorem ds_while {c : Expr} {body : List Stmt} {tc : M Bool} (hp : PassesOwn (model X.prog X.w) X.A X.env X.xe) (hc : DT X c tc) (hb : DSs X body g) : DS X (.While c body [] pos) (mWhile tc g) := by
  refine ps_w (ps_while hp hc hb) ?_
  rintro E σ H ⟨F0, H0, F, sa, ρ, τ, o, ρ', τ', hh, e, k⟩
  refine ⟨fun m σ H => ∃ F ρ τ, Hold F0 H0 F sa σ H ρ τ ∧ whileGo tc g m ρ τ = some (o, ρ', τ'), ⟨fuel, F, ρ, τ, hh, e⟩, ?_⟩
  rintro m σ H ⟨F, ρ, τ, hh, e⟩
  cases m with
  | zero => cases e
  | succ m =>
    unfold whileGo at e
    obtain ⟨Fb, w, _, go⟩ := hh.run true
    split at e
    · cases e
    · rename_i τ1 e1
      cases e
      refine tT.go w e1 fun F1 H1 x1 w1 => iteF ?_
      obtain ⟨F2, h2, _⟩ := go F1 H1 _ x1 w1.fh w1.src w1.flag
      exact k F2 σ H1 h2
    · rename_i τ1 e1
      refine tT.go w e1 fun F1 H1 x1 w1 => iteT ?_
      obtain ⟨F2, h2, _⟩ := go F1 H1 _ x1 w1.fh w1.src w1.flag
      refine ⟨fun σ' H' => ∃ F ρ τ, Hold F0 H0 F sa σ' H' ρ τ ∧ whileGo tc g m ρ τ = some (o, ρ', τ'), fun σ' H' q => ⟨m, Nat.lt_succ_self m, q⟩, ?_⟩
      split at e
      · rename_i ρ2 τ2 e2
        exact ⟨F0, H0, F2, sa, ρ, τ1, .nx, ρ2, τ2, h2, e2, fun F3 σ3 H3 h3 => ⟨F3, ρ2, τ2, h3, e⟩⟩
      · rename_i ρ2 τ2 e2
        exact ⟨F0, H0, F2, sa, ρ, τ1, .ct, ρ2, τ2, h2, e2, fun F3 σ3 H3 h3 => ⟨F3, ρ2, τ2, h3, e⟩⟩
      · rename_i ρ2 τ2 e2
        cases e
        exact ⟨F0, H0, F2, sa, ρ, τ1, .bk, _, _, h2, e2, fun F3 σ3 H3 h3 => k F3 σ3 H3 h3⟩
      · rename_i d ρ2 τ2 e2
        cases e
        exact ⟨F0, H0, F2, sa, ρ, τ1, .rt d, _, _, h2, e2, k⟩
      · cases e
theorem Hold.sets {F0 H0 F H : Hp} {sa : SA} {τ : Src} {ws : List (Nat × V)} {as : List (Nat × D)} (r : RpW F ws as) : ∀ {σ : L2.St} {ρ : EnvS}, Hold F0 H0 F sa σ H ρ τ → okSets ρ as = true → Hold F0 H0 F sa (setV σ ws) H (setSl ρ as) τ := by
  induction r with
  | nil => intro σ ρ h _; exact h
  | @cons i v d ws as r t ih =>
    intro σ ρ h ok
    unfold okSets at ok
    rw [List.all_cons, Bool.and_eq_true] at ok
    refine ih (h.set_dat ok.1 r) ?_
    unfold okSets
    rw [List.all_eq_true] at ok ⊢
    intro a ha
    have h1 := ok.2 a ha
    unfold okSet at h1 ⊢
    by_cases hn : i = a.1
    · rw [← hn, List.getElem?_set_self (okSet_lt ok.1)]
    · rw [List.getElem?_set_ne hn]; exact h1
theorem Hold.view0 {F0 H0 F H : Hp} {sa : SA} {σ : L2.St} {ρ : EnvS} {τ : Src} (h : Hold F0 H0 F sa σ H ρ τ) : View F sa σ H (view false ρ) τ :=
  ⟨h.fh, fun i d e => by
    rcases view_get e with e | ⟨e, _⟩
    · exact h.dat i d e
    · (cases e), h.src, (by unfold view; rw [List.length_map, h.len]; exact Nat.le_refl _), h.flag, fun i p c e => let ⟨a, b, _⟩ := h.slot i p c e; ⟨a, b⟩⟩
/-- the frozen part at some later place as the base -/
theorem Hold.rebase {F0 H0 F H : Hp} {sa : SA} {σ : L2.St} {ρ : EnvS} {τ : Src} (h : Hold F0 H0 F sa σ H ρ τ) : Hold F H0 F sa σ H ρ τ :=
  ⟨⟨Same.refl _, h.ext.hh, h.ext.nn, fun _ e _ => e⟩, h.fh, h.len, h.dat, h.own, h.sep, h.src, h.flag, h.slot⟩
theorem ext_up {F0 H0 F1 F H : Hp} {sa : SA} (ff : Same F0 F1) (nf : ∀ a, F0 a = none → H0 a ≠ none → F1 a = none) (x : Ext sa F1 H0 F H) : Ext sa F0 H0 F H :=
  ⟨ff.trans x.ff, x.hh, x.nn, fun a e1 e2 => x.nf a (nf a e1 e2) e2⟩
theorem Hold.up {F0 H0 F1 F H : Hp} {sa : SA} {σ : L2.St} {ρ : EnvS} {τ : Src} (ff : Same F0 F1) (nf : ∀ a, F0 a = none → H0 a ≠ none → F1 a = none) (h : Hold F1 H0 F sa σ H ρ τ) : Hold F0 H0 F sa σ H ρ τ :=
  ⟨ext_up ff nf h.ext, h.fh, h.len, h.dat, h.own, h.sep, h.src, h.flag, h.slot⟩
theorem Fin.up {F0 H0 F1 : Hp} {sa : SA} {E : Ends} {o : Out} {ρ : EnvS} {τ : Src} (ff : Same F0 F1) (nf : ∀ a, F0 a = none → H0 a ≠ none → F1 a = none) (k : Fin F0 H0 sa E o ρ τ) : Fin F1 H0 sa E o ρ τ := by
  cases o with
  | nx => exact fun F σ H h => k F σ H (h.up ff nf)
  | bk => exact fun F σ H h => k F σ H (h.up ff nf)
  | ct => exact fun F σ H h => k F σ H (h.up ff nf)
  | rt d => exact fun F H v x s c r => k F H v (ext_up ff nf x) s c r
/-- the loop itself, from an iterator over ds -/
theorem for_go {F0 H0 F1 H1 : Hp} {sa : SA} {σ : L2.St} {ρ ρ' : EnvS} {τ1 τ' : Src} {o : Out} {E : Ends} {b : Tgt} {ds : List D} {J : It} (h2 : Hold F0 H0 F1 sa σ H1 ρ τ1) (it : ItOf J F1 ds) (e : forGo b g ds ρ τ1 = some (o, ρ', τ')) (k : Fin F0 H0 sa E o ρ' τ') :
    ∃ W : Nat → Nat → L2.St → Hp → Prop, (∃ m, W 0 m σ H1) ∧ ∀ i m σ H, W i m σ H →
      (J.stop i H ∧ E.nx σ H) ∨ (J.go i H ∧ ∃ N : L2.St → Hp → Prop, (∀ σ' H', N σ' H' → ∃ m', m' < m ∧ W (i + 1) m' σ' H') ∧ ∀ x H', J.yld i H x H' → tG b x σ H' fun σ2 H2 => tS g { E with nx := N, ct := N, bk := E.nx } σ2 H2) := by
  have kk := k.up h2.ext.ff h2.ext.nf
  obtain ⟨hlen, G, Y, W, hG, hY⟩ := it
  refine ⟨fun i m σ H => m = ds.length - i ∧ i ≤ ds.length ∧ ∃ F2 ρ2 τ2, Hold F1 H0 F2 sa σ H ρ2 τ2 ∧ forGo b g (ds.drop i) ρ2 τ2 = some (o, ρ', τ'), ⟨ds.length, by simp, Nat.zero_le _, F1, ρ, τ1, h2.rebase, e⟩, ?_⟩
  rintro i m σ H ⟨rfl, hi, F2, ρ2, τ2, hh, e⟩
  have hGi : G H := hG H (hh.ext.ff.trans hh.fh)
  by_cases hlt : i < ds.length
  · have hdrop : ds.drop i = ds[i] :: ds.drop (i + 1) := List.drop_eq_getElem_cons hlt
    rw [hdrop] at e
    unfold forGo at e
    split at e
    · cases e
    rename_i as has
    split at e
    · rename_i ok
      let N : L2.St → Hp → Prop := fun σ' H' => ∃ F2 ρ2 τ2, Hold F1 H0 F2 sa σ' H' ρ2 τ2 ∧ forGo b g (ds.drop (i + 1)) ρ2 τ2 = some (o, ρ', τ')
      refine .inr ⟨W.goes i H hlt hGi, N, fun σ' H' hn => ⟨ds.length - (i + 1), by omega, rfl, hlt, hn⟩, fun x H' hy => ?_⟩
      obtain ⟨F3, d, hd, gr, rx⟩ := hY i H x H' F2 hlt hh.ext.ff hh.fh (W.yields i H x H' hlt hGi hy)
      have hde : d = ds[i] := by rw [List.getElem?_eq_getElem hlt] at hd; exact (Option.some.inj hd).symm
      subst hde
      have h3 : Hold F1 H0 F3 sa σ H' ρ2 τ2 := hh.step0 gr.ext gr.fh (hh.src.grow gr) hh.flag
      refine ⟨F3, _, as, gr.fh, rx, has, fun ws hw => ?_⟩
      have h4 := Hold.sets hw h3 ok
      split at e
      · rename_i ρ4 τ4 e4
        exact ⟨F1, H0, F3, sa, _, τ2, .nx, ρ4, τ4, h4, e4, fun F5 σ5 H5 h5 => ⟨F5, ρ4, τ4, h5, e⟩⟩
      · rename_i ρ4 τ4 e4
        exact ⟨F1, H0, F3, sa, _, τ2, .ct, ρ4, τ4, h4, e4, fun F5 σ5 H5 h5 => ⟨F5, ρ4, τ4, h5, e⟩⟩
      · rename_i ρ4 τ4 e4
        cases e
        exact ⟨F1, H0, F3, sa, _, τ2, .bk, _, _, h4, e4, fun F5 σ5 H5 h5 => kk F5 σ5 H5 h5⟩
      · rename_i d4 ρ4 τ4 e4
        cases e
        exact ⟨F1, H0, F3, sa, _, τ2, .rt d4, _, _, h4, e4, kk⟩
      · cases e
    · cases e
  · have hi' : i = ds.length := by omega
    subst hi'
    rw [List.drop_eq_nil_of_le (Nat.le_refl _)] at e
    cases e
    exact .inl ⟨W.stops H hGi, kk F2 σ H hh⟩
theorem ds_for {tg iter : Expr} {body : List Stmt} {fi : M (List D)} {b : Tgt} (hp : PassesOwn (model X.prog X.w) X.A X.env X.xe) (hc : X.calm = true) (hi : DI X tg iter fi) (hg : DG X tg b) (hb : DSs X body g)
    (hs : ∀ x, foldedSetIterable iter X.env x = pure x := by intro _; rfl) : DS X (.For tg iter body [] pos) (mFor fi b g) := by
  refine ps_w (ps_for hp hc hi hg hb hs) ?_
  rintro E σ H ⟨F0, H0, F, sa, ρ, τ, o, ρ', τ', hh, e, k⟩
  unfold mFor at e
  split at e
  · rename_i ds τ1 e1
    refine ⟨F, sa, _, τ, ds, τ1, hh.view0, e1, fun F1 H1 J x1 w1 it => ?_⟩
    exact for_go (hh.step0 x1 w1.fh w1.src w1.flag) it e k
  · cases e
/-- for over a new list of plain data -/
theorem ds_forN {tg iter : Expr} {body : List Stmt} {fi : M (List D)} {b : Tgt} (hp : PassesOwn (model X.prog X.w) X.A X.env X.xe) (hc : X.calm = true) (hi : DN X iter fi) (hg : DG X tg b) (hb : DSs X body g)
    (hs : ∀ x, foldedSetIterable iter X.env x = pure x := by intro _; rfl) : DS X (.For tg iter body [] pos) (fun ρ τ => match fi (view true ρ) τ with
      | some (ds, τ1) => if pureA ds = true then forGo b g ds ρ τ1 else none
      | none => none) := by
  refine ps_w (ps_for hp hc (pi_list hi) hg hb hs) ?_
  rintro E σ H ⟨F0, H0, F, sa, ρ, τ, o, ρ', τ', hh, e, k⟩
  simp only at e
  split at e
  · rename_i ds τ1 e1
    split at e
    · rename_i hpu
      obtain ⟨Fb, w, _, go⟩ := hh.run true
      unfold tFor iList
      refine tN.go w e1 fun F1 H1 a vs x1 w1 n0 nF hH hl ns r1 => ⟨a, rfl, ⟨vs, .of hH⟩, ?_⟩
      obtain ⟨F2, h2, sf, _, rp⟩ := go F1 H1 _ x1 w1.fh w1.src w1.flag
      have r2 := rp ds vs (by simpa [okA] using hpu) r1
      have nF2 : F2 a = none := sf.free nF
      have s3 : Same F2 (upd F2 a (.lst vs)) := same_new nF2
      have h00 : H0 a = none := by
        cases z : H0 a with
        | none => rfl
        | some q => exact absurd n0 (hh.ext.nn a (nn_of z))
      have x2 : Ext sa F2 H1 (upd F2 a (.lst vs)) H1 → True := fun _ => trivial
      have h3 : Hold F0 H0 (upd F2 a (.lst vs)) sa σ H1 ρ τ1 := by
        refine ⟨⟨h2.ext.ff.trans s3, h2.ext.hh, h2.ext.nn, fun c e1 e2 => ?_⟩, fun c q z => ?_, h2.len, fun i d e => let ⟨v, k1, k2⟩ := h2.dat i d e; ⟨v, k1, Rp.mono s3 _ _ k2⟩, fun i d e => ?_, h2.sep, fun i p c e => ?_, h2.flag, h2.slot⟩
        · rw [upd_ne fun z => e2 (by rw [z]; exact h00)]; exact h2.ext.nf c e1 e2
        · by_cases hc : c = a
          · subst hc; rw [upd_same] at z; cases z; exact hH
          · rw [upd_ne hc] at z; exact h2.fh c q z
        · obtain ⟨c, q, k1, k2, k3, k4, k5, k6⟩ := h2.own i d e
          have hc : c ≠ a := fun z => hh.own_new n0 i d e (by rw [← z]; exact k1)
          exact ⟨c, q, k1, k2, k3.mono s3, by rw [upd_ne hc]; exact k4, k5, k6⟩
        · obtain ⟨k1, k2, k3, k4, k5⟩ := h2.src i p c e
          obtain ⟨n1, n2⟩ := ns i p c e
          exact ⟨k1, k2, k3, by rw [upd_ne (Ne.symm n1)]; exact k4, by rw [upd_ne (Ne.symm n2)]; exact k5⟩
      exact for_go h3 (itOf_list upd_same hl (RpA.mono s3 _ _ r2)) e k
    · cases e
  · cases e
end

/-! ### targets from a value -/
section
variable {X : Cx} {f : M D} {pos : Pos}
theorem ds_asgT (v : Bool) {tg e : Expr} {b : Tgt} (he : DE X e f) (hg : DG X tg b) (hs : swapsWithSole [tg] e pos.line X.env = pure false := by rfl) (hw : swappedStores [tg] e X.env = pure none := by rfl)
    (h1 : (assignEach [tg] X.env).map (·.2) = [assign tg X.env] := by rfl) : DS X (.Assign [tg] e pos) (mAsgT v b f) := by
  refine ps_w (ps_asg he hg hs hw h1) ?_
  rintro E σ H ⟨F0, H0, F, sa, ρ, τ, o, ρ', τ', hh, e, k⟩
  unfold mAsgT at e
  split at e
  · rename_i d τ1 e1
    split at e
    · rename_i as has
      split at e
      · rename_i ok
        cases e
        rw [Bool.and_eq_true] at ok
        obtain ⟨Fb, w, _, go⟩ := hh.run v
        refine tE.go w e1 fun F1 H1 x x1 w1 r1 => ?_
        obtain ⟨F2, h2, sf, rp, _⟩ := go F1 H1 _ x1 w1.fh w1.src w1.flag
        exact ⟨F2, d, as, h2.fh, rp d x ok.2 r1, has, fun ws hw => k F2 _ H1 (Hold.sets hw h2 ok.1)⟩
      · cases e
    · cases e
  · cases e
end

/-! ### a def's body -/
def noSrc : Src := ⟨none, [], 0, 0, 0⟩
/-- the slots at the start -/
def enter (n : Nat) (ds : List D) : EnvS := ds.map Sl.dat ++ List.replicate (n - ds.length) .no
def outOf : Option (Out × EnvS × Src) → Option D
  | some (.rt d, _, _) => some d
  | some (.nx, _, _) => some .none
  | _ => none
/-- np parameters, n slots -/
def runP (np n : Nat) (g : Stm) (ds : List D) : Option D := if ds.length = np then outOf (g (enter n ds) noSrc) else none
theorem runP_len {np n : Nat} {g : Stm} {ds : List D} {d : D} (h : runP np n g ds = some d) : ds.length = np := by
  unfold runP at h
  split at h
  · assumption
  · cases h
def outOfS : Option (Out × EnvS × Src) → Option (D × Src)
  | some (.rt d, _, τ) => some (d, τ)
  | some (.nx, _, τ) => some (.none, τ)
  | _ => none
def runS (np n : Nat) (g : Stm) (ds : List D) (τ : Src) : Option (D × Src) := if ds.length + 1 = np then outOfS (g (.src :: enter (n - 1) ds) τ) else none
theorem runS_len {np n : Nat} {g : Stm} {ds : List D} {d : D} {τ τ' : Src} (h : runS np n g ds τ = some (d, τ')) : ds.length + 1 = np := by
  unfold runS at h
  split at h
  · assumption
  · cases h
theorem enter_dat {n : Nat} {ds : List D} {i : Nat} {d : D} (h : (enter n ds)[i]? = some (.dat d)) : ds[i]? = some d := by
  unfold enter at h
  by_cases hi : i < ds.length
  · rw [List.getElem?_append_left (by simpa using hi), List.getElem?_map] at h
    obtain ⟨x, h1, h2⟩ := Option.map_eq_some_iff.mp h
    cases h2
    exact h1
  · rw [List.getElem?_append_right (by simpa using hi), List.getElem?_replicate] at h
    split at h <;> cases h
theorem enter_only {n : Nat} {ds : List D} {i : Nat} {s : Sl} (h : (enter n ds)[i]? = some s) : s = .no ∨ ∃ d, s = .dat d := by
  unfold enter at h
  by_cases hi : i < ds.length
  · rw [List.getElem?_append_left (by simpa using hi), List.getElem?_map] at h
    obtain ⟨x, h1, h2⟩ := Option.map_eq_some_iff.mp h
    exact .inr ⟨x, h2.symm⟩
  · rw [List.getElem?_append_right (by simpa using hi), List.getElem?_replicate] at h
    split at h
    · cases h; exact .inl rfl
    · cases h
theorem start_get {N : List Str} {vs : List V} {i : Nat} {v : V} (h : vs[i]? = some v) : (L2.start N vs)[i]? = some (some v) := by
  unfold L2.start
  have hi := (List.getElem?_eq_some_iff.mp h).1
  rw [List.getElem?_append_left (by simpa using hi), List.getElem?_map, h] <;> rfl
section
variable {P : Program} {w : World} {K : PySem.W.Frag} {mg : Str → Option Value} {base : Heap} {k : Nat} {f : Addr} {fd : FuncData} {N ps : List Str} {x qual : Str} {st : Stmt} {g : Stm}
theorem fn_P (F : Fun K x qual st f fd) (S : FnScope N ps (defScope st))
    (body : ∀ (cdv : Value) (A : Around) (outer : List Env) (s : Shared) (H : Hp), Room k (A.deeper (envOfC qual (defScope st) s.heap.objs.size f cdv)) → A.guards = some [] →
      DSs (cxOf CX0 P w K mg base N qual (defScope st) f cdv A outer s H E0).nox (defBody st) g) :
    FnG P w K mg base (k + 1) f fd ps (spP ps.length (runP ps.length N.length g)) := by
  refine fnG_of F S (fun vs H Q h => ?_) fun cdv A outer s H vs Q hr hg hsp => ⟨_, body cdv A outer s H hr hg, ?_⟩
  · obtain ⟨_, _, _, h, _⟩ := h
    exact h
  obtain ⟨F, ds, d, hl, sm, r, e, q⟩ := hsp
  unfold runP at e
  split at e
  · rename_i hds
    have grow : ∀ {F' H' : Hp}, Ext none F H F' H' → Same F' H' → Grow F H F' H' := fun x s => ⟨x.ff, fun a o e => x.hh a o e (fun i p c z => by cases z), s, x.nf⟩
    have hold : Hold F H F none (L2.start N vs) H (enter N.length ds) noSrc := by
      refine ⟨.refl, sm, ?_, fun i d h => ?_, fun i d h => ?_, fun i j d e a _ h => ?_, fun i p c z => (by cases z), rfl, fun i p c z => (by cases z)⟩
      · unfold L2.start enter
        rw [List.length_append, List.length_append, List.length_map, List.length_map, List.length_replicate, List.length_replicate, r.length]
      · obtain ⟨v, h1, h2⟩ := r.get (enter_dat h)
        exact ⟨v, start_get h1, h2⟩
      · rcases enter_only h with z | ⟨_, z⟩ <;> cases z
      · rcases enter_only h with z | ⟨_, z⟩ <;> cases z
    cases hr' : g (enter N.length ds) noSrc with
    | none => rw [hr'] at e; cases e
    | some t =>
      obtain ⟨o, ρ', τ'⟩ := t
      rw [hr'] at e
      refine ⟨F, H, F, none, _, noSrc, o, ρ', τ', hold, hr', ?_⟩
      cases o with
      | nx => cases e; exact fun F1 σ1 H1 h1 => q F1 H1 _ (grow h1.ext h1.fh) .non
      | bk => cases e
      | ct => cases e
      | rt d' => cases e; exact fun F1 H1 v x1 s1 k1 r1 => q F1 H1 v (grow x1 s1) r1
  · cases e
theorem fn_S (F : Fun K x qual st f fd) (S : FnScope N ps (defScope st)) (hN : 1 ≤ N.length)
    (body : ∀ (cdv : Value) (A : Around) (outer : List Env) (s : Shared) (H : Hp), Room k (A.deeper (envOfC qual (defScope st) s.heap.objs.size f cdv)) → A.guards = some [] →
      DSs (cxOf CX0 P w K mg base N qual (defScope st) f cdv A outer s H E0).nox (defBody st) g) :
    FnG P w K mg base (k + 1) f fd ps (spS ps.length (runS ps.length N.length g)) := by
  refine fnG_of F S (fun vs H Q h => ?_) fun cdv A outer s H vs Q hr hg hsp => ⟨_, body cdv A outer s H hr hg, ?_⟩
  · obtain ⟨_, _, _, us, _, _, _, _, rfl, h, _⟩ := h
    exact h
  obtain ⟨F, p, c, us, ds, τ, d, τ2, rfl, hl, sm, ks, hslot, r, e, q⟩ := hsp
  unfold runS at e
  split at e
  · rename_i hds
    have hold : Hold F H F (some (0, p, c)) (L2.start N (.ref p :: us)) H (.src :: enter (N.length - 1) ds) τ := by
      refine ⟨.refl, sm, ?_, fun i d h => ?_, fun i d h => ?_, fun i j d e a _ h => ?_, ks, hslot.symm, fun i p' c' z => ?_⟩
      · unfold L2.start enter
        rw [List.length_cons, List.length_append, List.length_append, List.length_map, List.length_map, List.length_replicate, List.length_replicate, List.length_cons, r.length]
        omega
      · cases i with
        | zero => cases h
        | succ i =>
          rw [List.getElem?_cons_succ] at h
          obtain ⟨v, h1, h2⟩ := r.get (enter_dat h)
          exact ⟨v, start_get (by rw [List.getElem?_cons_succ]; exact h1), h2⟩
      · cases i with
        | zero => cases h
        | succ i =>
          rw [List.getElem?_cons_succ] at h
          rcases enter_only h with z | ⟨_, z⟩ <;> cases z
      · cases i with
        | zero => cases h
        | succ i =>
          rw [List.getElem?_cons_succ] at h
          rcases enter_only h with z | ⟨_, z⟩ <;> cases z
      · cases z
        exact ⟨by omega, start_get rfl, rfl⟩
    cases hr' : g (.src :: enter (N.length - 1) ds) τ with
    | none => rw [hr'] at e; cases e
    | some t =>
      obtain ⟨o, ρ', τ'⟩ := t
      rw [hr'] at e
      refine ⟨F, H, F, some (0, p, c), _, τ, o, ρ', τ', hold, hr', ?_⟩
      cases o with
      | nx => cases e; exact fun F1 σ1 H1 h1 => q F1 H1 _ h1.ext h1.fh h1.src .non
      | bk => cases e
      | ct => cases e
      | rt d' => cases e; exact fun F1 H1 v x1 s1 k1 r1 => q F1 H1 v x1 s1 k1 r1
  · cases e
end
end DL

/-! DLh: several targets at once with new lists among the values; a comprehension stored. -/
namespace DL
open PySem PySem.Spec PyProof.Rows L2

/-- the values of a display: data, or new lists; Hb: the heap ahead of it -/
inductive RpV (F H : Hp) (sa : SA) (Hb : Hp) : List V → List Sl → Prop
  | nil : RpV F H sa Hb [] []
  | dat {v : V} {d : D} {vs : List V} {ss : List Sl} : Rp F v d → RpV F H sa Hb vs ss → RpV F H sa Hb (v :: vs) (.dat d :: ss)
  | own {a : Addr} {xs : List V} {ds : List D} {vs : List V} {ss : List Sl} : Hb a = none → F a = none → H a = some (.lst xs) → xs.length ≤ sizeLine → RpA F xs ds → NotSrc sa a → V.ref a ∉ vs → RpV F H sa Hb vs ss → RpV F H sa Hb (.ref a :: vs) (.own (.list ds) :: ss)
theorem RpV.mono {F H F' H' Hb : Hp} {sa : SA} (x : Ext sa F H F' H') : ∀ {vs : List V} {ss : List Sl}, RpV F H sa Hb vs ss → RpV F' H' sa Hb vs ss
  | _, _, .nil => .nil
  | _, _, .dat r t => .dat (Rp.mono x.ff _ _ r) (RpV.mono x t)
  | _, _, .own h1 h2 h3 h4 h5 h6 h7 t => .own h1 (x.nf _ h2 (nn_of h3)) (x.hh _ _ h3 h6) h4 (RpA.mono x.ff _ _ h5) h6 h7 (RpV.mono x t)
theorem rp_ref {F : Hp} {a : Addr} {d : D} (r : Rp F (.ref a) d) : F a ≠ none := by
  cases r with
  | lst h _ _ => exact nn_of h
  | tup h _ _ => exact nn_of h
  | dct h _ => exact nn_of h
/-- nothing old but frozen data is among them -/
theorem RpV.old {F H Hb : Hp} {sa : SA} : ∀ {vs : List V} {ss : List Sl}, RpV F H sa Hb vs ss → ∀ a, Hb a ≠ none → F a = none → V.ref a ∉ vs
  | _, _, .nil, _, _, _ => List.not_mem_nil
  | _, _, .dat r t, a, h1, h2 => fun hm => by
    rcases List.mem_cons.mp hm with e | hm
    · rw [← e] at r; exact rp_ref r h2
    · exact RpV.old t a h1 h2 hm
  | _, _, .own g1 _ _ _ _ _ _ t, a, h1, h2 => fun hm => by
    rcases List.mem_cons.mp hm with e | hm
    · cases e; exact h1 g1
    · exact RpV.old t a h1 h2 hm
/-- the heap ahead may be an earlier one -/
theorem RpV.early {F H Hb Hc : Hp} {sa : SA} (h : ∀ a, Hc a ≠ none → Hb a ≠ none) : ∀ {vs : List V} {ss : List Sl}, RpV F H sa Hb vs ss → RpV F H sa Hc vs ss
  | _, _, .nil => .nil
  | _, _, .dat r t => .dat r (RpV.early h t)
  | _, _, .own h1 h2 h3 h4 h5 h6 h7 t => .own (by
      cases z : Hc _ with
      | none => rfl
      | some o => exact absurd h1 (h _ (nn_of z))) h2 h3 h4 h5 h6 h7 (RpV.early h t)
def mVNil : M (List Sl) := mPure []
def mVDat (f : M D) (g : M (List Sl)) : M (List Sl) := mBind f fun x => mBind g fun xs => mPure (.dat x :: xs)
def mVOwn (f : M (List D)) (g : M (List Sl)) : M (List Sl) := mBind f fun x => mBind g fun xs => mPure (.own (.list x) :: xs)
def tV (f : M (List Sl)) : TA := fun σ H Q => ∃ F sa η τ d τ', View F sa σ H η τ ∧ f η τ = some (d, τ') ∧ ∀ F' H' v, Ext sa F H F' H' → View F' sa σ H' η τ' → RpV F' H' sa H v d → Q v H'
abbrev DV (X : Cx) (es : List Expr) (f : M (List Sl)) : Prop := PA X es (tV f)
section
variable {X : Cx} {e : Expr} {es : List Expr} {f : M D} {fl : M (List D)} {g : M (List Sl)} {pos : Pos}
theorem dv_nil : DV X [] mVNil := by
  refine pa_w pa_nil ?_
  rintro σ H Q ⟨F, sa, η, τ, d, τ', w, e, k⟩
  cases e
  exact k F H [] .refl w .nil
theorem dv_dat (he : DE X e f) (hr : DV X es g) (hs : starEach (e :: es) X.env = (false, eval e X.env) :: starEach es X.env := by rfl) : DV X (e :: es) (mVDat f g) := by
  refine pa_w (pa_cons he hr hs) ?_
  rintro σ H Q ⟨F, sa, η, τ, d, τ', w, e, k⟩
  obtain ⟨x, τ1, e1, ea⟩ := mBind_some e
  obtain ⟨xs, τ2, e2, eb⟩ := mBind_some ea
  cases eb
  exact tE.go w e1 fun F1 H1 u x1 w1 r1 => ⟨F1, sa, η, τ1, xs, τ', w1, e2, fun F2 H2 us x2 w2 r2 => k F2 H2 _ (x1.trans x2) w2 (.dat (Rp.mono x2.ff _ _ r1) (r2.early x1.nn))⟩
theorem dv_own (he : DN X e fl) (hr : DV X es g) (hs : starEach (e :: es) X.env = (false, eval e X.env) :: starEach es X.env := by rfl) : DV X (e :: es) (mVOwn fl g) := by
  refine pa_w (pa_cons he hr hs) ?_
  rintro σ H Q ⟨F, sa, η, τ, d, τ', w, e, k⟩
  obtain ⟨x, τ1, e1, ea⟩ := mBind_some e
  obtain ⟨xs, τ2, e2, eb⟩ := mBind_some ea
  cases eb
  refine tN.go w e1 fun F1 H1 a vs x1 w1 n0 nF hH hl ns r1 => ⟨F1, sa, η, τ1, xs, τ', w1, e2, fun F2 H2 us x2 w2 r2 => k F2 H2 _ (x1.trans x2) w2 ?_⟩
  exact .own n0 (x2.nf a nF (nn_of hH)) (x2.hh _ _ hH ns) hl (RpA.mono x2.ff _ _ r1) ns (r2.old a (nn_of hH) (x2.nf a nF (nn_of hH))) (r2.early x1.nn)
end
/-! stored -/
def okV (b : Bool) : List Sl → Bool
  | [] => true
  | .dat d :: ss => okD b d && okV b ss
  | .own (.list ds) :: ss => okA b ds && okV b ss
  | _ :: _ => false
def okSlots (ρ : EnvS) (is : List Nat) : Bool := is.all fun i => okSet ρ i
def putV : L2.St → List Nat → List V → L2.St
  | σ, i :: is, v :: vs => putV (σ.set i (some v)) is vs
  | σ, _, _ => σ
def putS : EnvS → List Nat → List Sl → EnvS
  | ρ, i :: is, s :: ss => putS (ρ.set i s) is ss
  | ρ, _, _ => ρ
theorem okSet_set {ρ : EnvS} {i j : Nat} {s : Sl} (hi : okSet ρ i = true) (hs : s ≠ .src) (hj : okSet ρ j = true) : okSet (ρ.set i s) j = true := by
  unfold okSet at hj ⊢
  by_cases h : i = j
  · subst h
    rw [List.getElem?_set_self (okSet_lt hi)]
    cases s <;> first | rfl | exact absurd rfl hs
  · rw [List.getElem?_set_ne h]; exact hj
theorem Hold.puts {F0 H0 F H Hb : Hp} {sa : SA} {τ : Src} {vs : List V} {ss : List Sl} (r : RpV F H sa Hb vs ss) (h0 : ∀ a, H0 a ≠ none → Hb a ≠ none) : ∀ {is : List Nat} {σ : L2.St} {ρ : EnvS}, Hold F0 H0 F sa σ H ρ τ → okSlots ρ is = true →
    (∀ (j : Nat) (e : D) (a : Addr), ρ[j]? = some (.own e) → σ[j]? = some (some (.ref a)) → V.ref a ∉ vs) → Hold F0 H0 F sa (putV σ is vs) H (putS ρ is ss) τ := by
  induction r with
  | nil =>
    intro is σ ρ h _ _
    cases is <;> exact h
  | @dat v d vs ss r t ih =>
    intro is σ ρ h ok np
    cases is with
    | nil => exact h
    | cons i is =>
      unfold okSlots at ok
      rw [List.all_cons, Bool.and_eq_true] at ok
      refine ih (h.set_dat ok.1 r) ?_ fun j e a hj hs hm => ?_
      · unfold okSlots
        rw [List.all_eq_true] at ok ⊢
        exact fun j hj => okSet_set ok.1 (by simp) (ok.2 j hj)
      · rcases get_set hj with ⟨rfl, q⟩ | ⟨n, q⟩
        · cases q
        · rw [List.getElem?_set_ne n] at hs
          exact np j e a q hs (List.mem_cons_of_mem _ hm)
  | @own a xs ds vs ss g1 g2 g3 g4 g5 g6 g7 t ih =>
    intro is σ ρ h ok np
    cases is with
    | nil => exact h
    | cons i is =>
      unfold okSlots at ok
      rw [List.all_cons, Bool.and_eq_true] at ok
      have hlt := okSet_lt ok.1
      have hlen := h.len
      have h00 : H0 a = none := by
        cases z : H0 a with
        | none => rfl
        | some o => exact absurd g1 (h0 a (nn_of z))
      refine ih (h.set_own ok.1 g3 ⟨g4, g5⟩ g2 h00 g6 fun j e hj hs => np j e a hj hs List.mem_cons_self) ?_ fun j e b hj hs hm => ?_
      · unfold okSlots
        rw [List.all_eq_true] at ok ⊢
        exact fun j hj => okSet_set ok.1 (by simp) (ok.2 j hj)
      · rcases get_set hj with ⟨rfl, q⟩ | ⟨n, q⟩
        · rw [List.getElem?_set_self (by omega)] at hs
          cases hs
          exact g7 hm
        · rw [List.getElem?_set_ne n] at hs
          exact np j e b q hs (List.mem_cons_of_mem _ hm)
theorem RpV.less {F F2 H Hb : Hp} {sa : SA} {b : Bool} (sf : Same F2 F) (rp : ∀ d v, okD b d = true → Rp F v d → Rp F2 v d) (ra : ∀ d v, okA b d = true → RpA F v d → RpA F2 v d) : ∀ {vs : List V} {ss : List Sl}, RpV F H sa Hb vs ss → okV b ss = true → RpV F2 H sa Hb vs ss
  | _, _, .nil, _ => .nil
  | _, _, .dat r t, ok => by
    simp only [okV, Bool.and_eq_true] at ok
    exact .dat (rp _ _ ok.1 r) (RpV.less sf rp ra t ok.2)
  | _, _, .own h1 h2 h3 h4 h5 h6 h7 t, ok => by
    simp only [okV, Bool.and_eq_true] at ok
    exact .own h1 (sf.free h2) h3 h4 (ra _ _ ok.1 h5) h6 h7 (RpV.less sf rp ra t ok.2)
def mPar (b : Bool) (is : List Nat) (f : M (List Sl)) : Stm := fun ρ τ => match f (view b ρ) τ with
  | some (ss, τ') => if okSlots ρ is && okV b ss && decide (ss.length = is.length) then some (.nx, putS ρ is ss, τ') else none
  | none => none
theorem RpV.length {F H Hb : Hp} {sa : SA} : ∀ {vs : List V} {ss : List Sl}, RpV F H sa Hb vs ss → vs.length = ss.length
  | _, _, .nil => rfl
  | _, _, .dat _ t => congrArg (· + 1) (RpV.length t)
  | _, _, .own _ _ _ _ _ _ _ t => congrArg (· + 1) (RpV.length t)
theorem par_of {b : Bool} {is : List Nat} {f : M (List Sl)} : ∀ E σ H, tS (mPar b is f) E σ H → tV f σ H fun vs H1 => vs.length = is.length ∧ E.nx (putV σ is vs) H1 := by
  rintro E σ H ⟨F0, H0, F, sa, ρ, τ, o, ρ', τ', hh, e, k⟩
  unfold mPar at e
  split at e
  · rename_i ss τ1 e1
    split at e
    · rename_i ok
      cases e
      simp only [Bool.and_eq_true, decide_eq_true_eq] at ok
      obtain ⟨⟨ok1, ok2⟩, ok3⟩ := ok
      obtain ⟨Fb, w, _, go⟩ := hh.run b
      refine ⟨Fb, sa, _, τ, ss, τ', w, e1, fun F1 H1 vs x1 w1 r1 => ⟨by rw [r1.length]; exact ok3, ?_⟩⟩
      obtain ⟨F2, h2, sf, rp, ra⟩ := go F1 H1 _ x1 w1.fh w1.src w1.flag
      have r2 := r1.less sf rp ra ok2
      refine k F2 _ H1 (h2.puts r2 hh.ext.nn ok1 fun j e a hj hs => ?_)
      obtain ⟨c, q, z1, z2, z3, z4, z5, z6⟩ := h2.own j e hj
      rw [hs] at z1
      cases z1
      obtain ⟨c', q', y1, y2, _⟩ := hh.own j e hj
      rw [hs] at y1
      cases y1
      exact r2.old a (nn_of y2) z4
    · cases e
  · cases e
section
variable {X : Cx} {pos : Pos}
theorem ds_par {i j : Nat} {x y : Str} {a c : Expr} {f : M (List Sl)} {px py pt : Pos} {kt k2 pt2} (b : Bool) (hc : X.calm = true) (hN : X.N.Nodup) (hi : X.N[i]? = some x) (hj : X.N[j]? = some y) (hij : i ≠ j)
    (hx : X.env.scope.names.lookup x = some .local) (hy : X.env.scope.names.lookup y = some .local) (ha : DV X [a, c] f)
    (hw : swappedStores [.Tuple [.Name x px, .Name y py] kt pt] (.Tuple [a, c] k2 pt2) X.env = pure (some [x, y]))
    (hs : swapsWithSole [.Tuple [.Name x px, .Name y py] kt pt] (.Tuple [a, c] k2 pt2) pos.line X.env = pure false := by rfl) :
    DS X (.Assign [.Tuple [.Name x px, .Name y py] kt pt] (.Tuple [a, c] k2 pt2) pos) (mPar b [i, j] f) := by
  refine ps_w (ps_par hc hN hi hj hij hx hy ha hw hs) fun E σ H h => ?_
  obtain ⟨F, sa, η, τ, d, τ', w, e, k⟩ := par_of E σ H h
  refine ⟨F, sa, η, τ, d, τ', w, e, fun F' H' vs x1 w1 r1 => ?_⟩
  obtain ⟨hl, q⟩ := k F' H' vs x1 w1 r1
  match vs, hl with
  | [u, v], _ => exact ⟨u, v, rfl, q⟩
theorem ds_par3 {i j l : Nat} {x y z : Str} {a c e : Expr} {f : M (List Sl)} {px py pz pt : Pos} {kt k2 pt2} (b : Bool) (hc : X.calm = true) (hN : X.N.Nodup) (hi : X.N[i]? = some x) (hj : X.N[j]? = some y) (hl : X.N[l]? = some z) (hij : i ≠ j) (hil : i ≠ l) (hjl : j ≠ l)
    (hx : X.env.scope.names.lookup x = some .local) (hy : X.env.scope.names.lookup y = some .local) (hz : X.env.scope.names.lookup z = some .local) (ha : DV X [a, c, e] f)
    (hw : swappedStores [.Tuple [.Name x px, .Name y py, .Name z pz] kt pt] (.Tuple [a, c, e] k2 pt2) X.env = pure (some [x, y, z]))
    (hs : swapsWithSole [.Tuple [.Name x px, .Name y py, .Name z pz] kt pt] (.Tuple [a, c, e] k2 pt2) pos.line X.env = pure false := by rfl) :
    DS X (.Assign [.Tuple [.Name x px, .Name y py, .Name z pz] kt pt] (.Tuple [a, c, e] k2 pt2) pos) (mPar b [i, j, l] f) := by
  refine ps_w (ps_par3 hc hN hi hj hl hij hil hjl hx hy hz ha hw hs) fun E σ H h => ?_
  obtain ⟨F, sa, η, τ, d, τ', w, e, k⟩ := par_of E σ H h
  refine ⟨F, sa, η, τ, d, τ', w, e, fun F' H' vs x1 w1 r1 => ?_⟩
  obtain ⟨hl, q⟩ := k F' H' vs x1 w1 r1
  match vs, hl with
  | [u, v, w'], _ => exact ⟨u, v, w', rfl, q⟩
end

/-! four and more plain names: by a tuple that is thrown away -/
section
variable {X : Cx} {pos : Pos}
/-- names at slots, one after another -/
inductive NmAt (X : Cx) : List Expr → List Nat → Prop
  | nil : NmAt X [] []
  | cons {i : Nat} {x : Str} {p : Pos} {es : List Expr} {is : List Nat} : X.N[i]? = some x → Loc X.env.scope x → (X.fn x = true ∨ X.env.scope.names.lookup x = some .local) → NmAt X es is →
      ((assignEach (.Name x p :: es) X.env).map (·.2) = assign (.Name x p) X.env :: (assignEach es X.env).map (·.2)) → NmAt X (.Name x p :: es) (i :: is)
def gPut (is : List Nat) : TGs := fun vs σ H Q => vs.length = is.length ∧ Q (putV σ is vs) H
theorem pgs_put (hN : X.N.Nodup) : ∀ {es : List Expr} {is : List Nat}, NmAt X es is → PGs X es (gPut is)
  | _, _, .nil => pgs_w pgs_nil fun vs σ H Q h => by
    obtain ⟨hl, q⟩ := h
    cases vs with
    | nil => exact ⟨rfl, q⟩
    | cons _ _ => cases hl
  | _, _, .cons h1 h2 h3 t h4 => pgs_w (pgs_cons (pg_name hN h1 h2 h3) (pgs_put hN t) h4) fun vs σ H Q h => by
    obtain ⟨hl, q⟩ := h
    cases vs with
    | nil => cases hl
    | cons v vs => exact ⟨v, vs, rfl, by simpa using hl, q⟩
theorem ds_parN {ts es : List Expr} {is : List Nat} {f : M (List Sl)} {kt k2 pt pt2} (b : Bool) (hc : X.calm = true) (hN : X.N.Nodup) (hn : NmAt X ts is) (ha : DV X es f) (hlen : is.length ≤ sizeLine)
    (hw : swappedStores [.Tuple ts kt pt] (.Tuple es k2 pt2) X.env = pure none := by rfl)
    (hs : swapsWithSole [.Tuple ts kt pt] (.Tuple es k2 pt2) pos.line X.env = pure false := by rfl)
    (h1 : (assignEach [.Tuple ts kt pt] X.env).map (·.2) = [assign (.Tuple ts kt pt) X.env] := by rfl)
    (hl1 : (assignEach ts X.env).length = is.length := by rfl) (hst : (assignEach ts X.env).findIdx? (·.1) = none := by rfl) :
    DS X (.Assign [.Tuple ts kt pt] (.Tuple es k2 pt2) pos) (mPar b is f) := by
  refine ps_w (ps_asg (pe_tup ha) (pg_tup hc (pgs_put hN hn) hl1 hst) hs hw h1) ?_
  rintro E σ H ⟨F0, H0, F, sa, ρ, τ, o, ρ', τ', hh, e, k⟩
  -- the state behind it, with one more tuple that nobody sees
  have k2 : tV f σ H fun vs H1 => vs.length = is.length ∧ ∀ p, H1 p = none → E.nx (putV σ is vs) (upd H1 p (.tup vs)) := by
    unfold mPar at e
    split at e
    · rename_i ss τ1 e1
      split at e
      · rename_i ok
        cases e
        simp only [Bool.and_eq_true, decide_eq_true_eq] at ok
        obtain ⟨⟨ok1, ok2⟩, ok3⟩ := ok
        obtain ⟨Fb, w, _, go⟩ := hh.run b
        refine ⟨Fb, sa, _, τ, ss, τ', w, e1, fun F1 H1 vs x1 w1 r1 => ⟨by rw [r1.length]; exact ok3, fun p hp => ?_⟩⟩
        obtain ⟨F2, h2, sf, rp, ra⟩ := go F1 H1 _ x1 w1.fh w1.src w1.flag
        have gr : Grow F2 H1 F2 (upd H1 p (.tup vs)) := Grow.own h2.fh hp _
        have h3 : Hold F0 H0 F2 sa σ (upd H1 p (.tup vs)) ρ τ' := h2.step0 gr.ext gr.fh (h2.src.grow gr) h2.flag
        have r2 := (r1.less sf rp ra ok2).mono gr.ext
        refine k F2 _ _ (h3.puts r2 hh.ext.nn ok1 fun j e a hj hs => ?_)
        obtain ⟨c, q, z1, z2, z3, z4, z5, z6⟩ := h3.own j e hj
        rw [hs] at z1
        cases z1
        obtain ⟨c', q', y1, y2, _⟩ := hh.own j e hj
        rw [hs] at y1
        cases y1
        exact r2.old a (nn_of y2) z4
      · cases e
    · cases e
  obtain ⟨Fb, sa', η, τ1, ss, τ2, w, e1, kk⟩ := k2
  refine ⟨Fb, sa', η, τ1, ss, τ2, w, e1, fun F1 H1 vs x1 w1 r1 => ?_⟩
  obtain ⟨hl, q⟩ := kk F1 H1 vs x1 w1 r1
  exact ⟨by rw [hl]; exact hlen, fun p hp => ⟨p, vs, rfl, .of upd_same, hl, hl, q p hp⟩⟩
end

/-! a comprehension stored at once -/
section
variable {X : Cx} {elt tg iter : Expr} {ifs : List Expr} {scope : Scope} {pos spos py : Pos} {fi : M (List D)} {b : Tgt} {tt : M Bool} {te : M D} {i : Nat} {y : Str}
theorem ds_setLc (v : Bool) (own : List (Str × Nat)) (hc : X.calm = true) (hN : X.N.Nodup) (hy : X.N[i]? = some y) (hyl : X.env.scope.names.lookup y = some .local)
    (hsw : swapsWith (.ListComp elt [⟨tg, iter, ifs, 0⟩] scope pos) (some (.Name y py)) spos.line X.env = pure true) (hi : DI X tg iter fi) (ok : BlkOk X.N X.env.scope scope own) (hv : ∀ i ∈ own.map (·.2), 2 ≤ i) (hb : ∀ i ∈ tgtSlots b, i ∈ own.map (·.2))
    (hg : ∀ (s : Shared) (H : Hp) (C : Addr) (cl : List (Str × Addr)) (fp : List Addr), DG (X.blk s H scope (compEnvC scope cl C X.env) fp) tg b) (ht : ∀ (s : Shared) (H : Hp) (C : Addr) (cl : List (Str × Addr)) (fp : List Addr), DTs (X.blk s H scope (compEnvC scope cl C X.env) fp) ifs tt)
    (he : ∀ (s : Shared) (H : Hp) (C : Addr) (cl : List (Str × Addr)) (fp : List Addr), DE (X.blk s H scope (compEnvC scope cl C X.env) fp) elt te) (hs : ∀ x, foldedSetIterable iter X.env x = pure x := by intro _; rfl) :
    DS X (.Assign [.Name y py] (.ListComp elt [⟨tg, iter, ifs, 0⟩] scope pos) spos) (mSetN v i (mComp fi (own.map (·.2)) b tt te)) := by
  refine ps_w (ps_setLc hc hN hy hyl hsw hi ok hg ht he hs) fun E σ H h => ?_
  exact tLc_of (K := X.K) hv hb σ H _ (setN_of E σ H h)
end
end DL

/-! DLi: enumerate and zip over lists and tuples in any mix; ranges as values; repetition. -/
namespace DL
open PySem PySem.Spec PyProof.Rows L2

/-! ### a list (true) or a tuple (false) -/
def kObj (b : Bool) (a : Addr) : Obj := match b with
  | true => { cls := .type "list_iterator", data := .fields #[.ref a, .int 0 0] }
  | false => { cls := .type "tuple_iterator", data := .fields #[.ref a, .int 0 0] }
def kHas (b : Bool) (h : Heap) (a : Addr) (its : Array Value) : Prop := match b with
  | true => h.IsList a its
  | false => h.IsTuple a its
def kIt (b : Bool) (h : Heap) (it a : Addr) (i : Nat) : Prop := match b with
  | true => h.IsListIter it a i
  | false => h.IsTupleIter it a i
def SqX (b : Bool) (K : PySem.W.Frag) (H : Hp) (a : Addr) (xs : List V) : Prop := match b with
  | true => SqL K H a xs
  | false => SqT K H a xs
theorem kBegins (b : Bool) (a : Addr) (its : Array Value) : Begins (.ref a) (kObj b a) fun h => kHas b h a its := by
  cases b
  · exact begins_tuple a its
  · exact begins_list a its
theorem kDraws {prog : Program} {w : World} {A : Around} (b : Bool) (hh : A.handled = none) (it a : Addr) (hne : a ≠ it) (its : Array Value) :
    Draws prog w A it [it, a] its.size (fun i v => its[i]? = some v) (fun i h => kIt b h it a i ∧ kHas b h a its) := by
  cases b
  · exact Draws.tuple hh it a hne its
  · exact Draws.list hh it a hne its
theorem kIt_start {b : Bool} {h : Heap} {it a : Addr} (e : h.get? it = some (kObj b a)) : kIt b h it a 0 := by
  cases b
  · exact ⟨_, e, rfl, rfl⟩
  · exact ⟨_, e, rfl, rfl⟩
theorem kIt.keep {b : Bool} {h h' : Heap} {it a : Addr} {i : Nat} (x : kIt b h it a i) (e : ∀ o, h.get? it = some o → h'.get? it = some o) : kIt b h' it a i := by
  cases b
  · exact Heap.IsTupleIter.at x e
  · exact Heap.IsListIter.at x e
theorem kIt.live {b : Bool} {h : Heap} {it a : Addr} {i : Nat} (x : kIt b h it a i) : ∃ o, h.get? it = some o ∧ ∀ v, o.data ≠ .cell v := by
  cases b
  · obtain ⟨o, ho, _, hd⟩ := x
    exact ⟨o, ho, fun v z => by rw [hd] at z; cases z⟩
  · obtain ⟨o, ho, _, hd⟩ := x
    exact ⟨o, ho, fun v z => by rw [hd] at z; cases z⟩
theorem kSeq {X : Cx} {pins : List (Addr × Obj)} {σ : L2.St} {H : Hp} {s : Shared} {b : Bool} {a : Addr} {xs : List V} (I : Inv X pins σ H s) (h : SqX b X.K H a xs) : ∃ its : List Value, Vals xs its ∧ kHas b s.heap a its.toArray ∧ xs.length ≤ sizeLine := by
  cases b
  · obtain ⟨its, r, p, z⟩ := I.tuple h
    exact ⟨its, r, p, z⟩
  · obtain ⟨its, r, p, z⟩ := I.list h
    exact ⟨its, r, p.isList, z⟩
theorem kSeq_inj {X : Cx} {pins : List (Addr × Obj)} {σ : L2.St} {H : Hp} {s : Shared} {b : Bool} {a : Addr} {xs ys : List V} (I : Inv X pins σ H s) (h : SqX b X.K H a xs) (h' : SqX b X.K H a ys) : xs = ys := by
  cases b
  · exact I.tuple_inj h h'
  · exact I.list_inj h h'

/-! ### enumerate -/
def ItE (b : Bool) (K : PySem.W.Frag) (a : Addr) : It :=
  ⟨fun i H => ∃ (xs : List V) (x : V), SqX b K H a xs ∧ xs[i]? = some x, fun i H v H' => ∃ T x, v = .ref T ∧ H T = none ∧ H' = upd H T (.tup [.int (i : Nat), x]) ∧ ∀ xs, SqX b K H a xs → xs[i]? = some x, fun i H => ∃ xs : List V, SqX b K H a xs ∧ xs.length = i⟩
theorem turn_enumX {P : Program} {w : World} {K : PySem.W.Frag} {elts : List Expr} {kk : Nat} {tpos : Pos} (b : Bool) (a e it : Addr) :
    Turn P w K (.Tuple elts kk tpos) (ItE b K a) [e, it] e (fun i h => (∃ old, IsEnum h e it ((i : Nat) : Int) old) ∧ kIt b h it a i ∧ e ≠ it ∧ e ≠ a ∧ a ≠ it) where
  mem := by simp
  obj := fun i h st c hc => by
    obtain ⟨⟨old, he⟩, hi, _⟩ := st
    have e' : c = e ∨ c = it := by simpa using hc
    rcases e' with z | z
    · rw [z]; exact ⟨_, he, fun v q => nomatch q⟩
    · rw [z]; exact hi.live
  keep := fun i h h' st k => let ⟨⟨old, he⟩, hi, hne⟩ := st; ⟨⟨old, k e (by simp) _ he⟩, hi.keep fun o q => k it (by simp) o q, hne⟩
  item := by
    intro X hP hw hK hc i pins s σ H E I hf st hg
    subst hP hw hK
    obtain ⟨⟨old, he⟩, hit, n1, n2, n3⟩ := st
    obtain ⟨xs, x, hq, hx⟩ := hg
    obtain ⟨its, rv, p, hz⟩ := kSeq I hq
    obtain ⟨u, hu, ru⟩ := rv.get hx
    have hd : X.A.in1.handled = none := I.ok.hd hc
    have G := GoesN.enumFrom (elts := elts) (x1 := kk) (pos := tpos) 0 (kDraws (prog := X.prog) (w := X.w) b hd it a n3 its.toArray) e n1 (by simp [n1, n2]) (by simp)
    have hlt : i < its.toArray.size := by
      have := (List.getElem?_eq_some_iff.mp hu).1
      simpa using this
    refine wpAny_mono (G.goes i s (fun v s2 => ∃ x' H', Inv X pins σ H' s2 ∧ RelV x' v ∧ (ItE b X.K a).yld i H x' H' ∧ ((∃ old, IsEnum s2.heap e it ((i + 1 : Nat) : Int) old) ∧ kIt b s2.heap it a (i + 1) ∧ e ≠ it ∧ e ≠ a ∧ a ≠ it) ∧ ∀ c ∈ [e, it], H' c = none) E hlt ⟨⟨old, by rw [Int.zero_add]; exact he⟩, hit, p⟩ fun v h' tk hY st' hk _ => ?_) (fun r s1 q => q) fun _ _ q => q
    obtain ⟨T, t, y, rfl, hT, hy, hTup⟩ := hY
    have hyu : y = u := by
      have h1 : its.toArray[i]? = some u := by simpa using hu
      rw [h1] at hy
      exact (Option.some.inj hy).symm
    subst hyu
    rw [Int.zero_add] at hTup
    obtain ⟨⟨old', he'⟩, hit', _⟩ := st'
    have new : ObjOk X.prog X.w (upd H T (.tup [.int (i : Nat), x])) h' T (.tup [.int (i : Nat), x]) :=
      ⟨by show 2 ≤ sizeLine; decide, [.int i t, y], .cons ⟨_, rfl⟩ (.cons ru .nil), hTup⟩
    have I1 : Inv X pins σ (upd H T (.tup [.int (i : Nat), x])) { s with heap := h', toks := tk } := I.turnedNew (ch := [e, it]) hk hf hT new
    refine ⟨.ref T, _, I1, rfl, ⟨T, x, rfl, I.hok.fresh hT, rfl, fun ys hy => by rw [kSeq_inj I hy hq]; exact hx⟩, ⟨⟨old', ?_⟩, hit', n1, n2, n3⟩, fun c hc => ?_⟩
    · have e1 : ((i + 1 : Nat) : Int) = 0 + ((i + 1 : Nat) : Int) := by omega
      rw [e1]; exact he'
    · have hb' : c < s.heap.objs.size := by
        have e' : c = e ∨ c = it := by simpa using hc
        rcases e' with z | z
        · rw [z]; exact Heap.lt_size he
        · rw [z]; obtain ⟨o, ho, _⟩ := hit.live; exact Heap.lt_size ho
      rw [upd_ne (Nat.ne_of_lt (Nat.lt_of_lt_of_le hb' hT))]
      exact (hf c hc).1
  done := by
    intro X hP hw hK hc i pins s σ H E I hf st hg
    subst hP hw hK
    obtain ⟨⟨old, he⟩, hit, n1, n2, n3⟩ := st
    obtain ⟨xs, hq, hx⟩ := hg
    obtain ⟨its, rv, p, hz⟩ := kSeq I hq
    have hd : X.A.in1.handled = none := I.ok.hd hc
    have G := GoesN.enumFrom (elts := elts) (x1 := kk) (pos := tpos) 0 (kDraws (prog := X.prog) (w := X.w) b hd it a n3 its.toArray) e n1 (by simp [n1, n2]) (by simp)
    have hsz : its.toArray.size = i := by rw [List.size_toArray, ← rv.length]; exact hx
    exact G.stops s (fun s1 => Inv X pins σ H s1) E (by rw [hsz]; exact ⟨⟨old, by rw [Int.zero_add]; exact he⟩, hit, p⟩) fun h' tk hk _ => I.turnedL hk hf
  self := fun A i s Q E st h => let ⟨⟨_, he⟩, _⟩ := st; wpAny_pyIter_enum he h
theorem meets_enum1 {v : Value} {o : Obj} {G : Heap → Prop} (B : Begins v o G) :
    Meets (Builtin.«enumerate.__new__» ⟨[.type "enumerate", v], []⟩) (fun _ R s => G s.heap ∧
      R (.ok (.ret (.ref (s.heap.push o).objs.size))) { s with heap := (s.heap.push o).push { cls := .type "enumerate", data := .fields #[.none, .bool false, .ref s.heap.objs.size, rawInt 0, .none, .none] } }) :=
  .of_wp fun prog w A R s h => by
    obtain ⟨hp, g, d, tk, os⟩ := s
    obtain ⟨h1, h⟩ := h
    have hsub := sub_enumerate
    have q1 : ∀ {A' : Around} {E : Value → Shared → Prop} {Q : Value → Shared → Prop}, Q (.ref hp.objs.size) ⟨hp.push o, g, d, tk, os⟩ → wpAny (model prog w) A' (pyIter v) Q E ⟨hp, g, d, tk, os⟩ :=
      fun q => B.iter prog w _ _ ⟨hp, g, d, tk, os⟩ _ h1 q
    wp_walk
    refine wpAny_stack_any fun st => wpAny_pure ?_
    split
    · rename_i c _ _ _ _ _
      cases (c == Value.type "enumerate") <;> (wp_walk using q1; exact ⟨_, rfl, h⟩)
    · wp_walk using q1
      exact ⟨_, rfl, h⟩
theorem call_enum1 {prog : Program} {w : World} {A : Around} {E : Value → Shared → Prop} {s : Shared} {v : Value} {o : Obj} {G : Heap → Prop} {Q : Value → Shared → Prop} (B : Begins v o G) (h1 : G s.heap)
    (h : ∀ h', IsEnum h' (s.heap.objs.size + 1) s.heap.objs.size 0 .none → h'.get? s.heap.objs.size = some o → (∀ b o, s.heap.get? b = some o → h'.get? b = some o) → Q (.ref (s.heap.objs.size + 1)) { s with heap := h' }) :
    wpAny (model prog w) A (call (.type "enumerate") [v]) Q E s := by
  refine callType_new F.called_enumerate (by decide) (F.typeCall_enumerate_1 _) (F.newCall_enumerate_1 _) (fun obj => F.args_object_init_2 obj _) F.entry_enumerate_new (meets_enum1 B) ⟨h1, ?_⟩
  have hz : (s.heap.push o).objs.size = s.heap.objs.size + 1 := Heap.size_push ..
  have he : IsEnum ((s.heap.push o).push { cls := .type "enumerate", data := .fields #[.none, .bool false, .ref s.heap.objs.size, rawInt 0, .none, .none] }) (s.heap.objs.size + 1) s.heap.objs.size 0 .none := by
    have z := Heap.get?_push_size (s.heap.push o) (o := { cls := .type "enumerate", data := .fields #[.none, .bool false, .ref s.heap.objs.size, rawInt 0, .none, .none] }) rfl
    rw [hz] at z
    exact z
  show _ ∧ _
  rw [hz]
  exact ⟨⟨_, he, rfl⟩, h _ he (Heap.get?_push_of_some _ (Heap.get?_push_size _ B.free)) fun b o y => Heap.get?_push_of_some _ (Heap.get?_push_of_some _ y)⟩
theorem kHas_lt {b : Bool} {h : Heap} {a : Addr} {its : Array Value} (x : kHas b h a its) : a < h.objs.size := by
  cases b
  · obtain ⟨_, e, _⟩ := x; exact Heap.lt_size e
  · obtain ⟨_, e, _⟩ := x; exact Heap.lt_size e
def iEnumX (K : PySem.W.Frag) (ta : TA) : TI := fun σ H R => ta σ H fun vs H1 => ∃ b a xs, vs = [.ref a] ∧ SqX b K H1 a xs ∧ R (ItE b K a) H1
theorem pi_enumX {X : Cx} {e : Expr} {ta : TA} {p pos tpos : Pos} {elts : List Expr} {kk : Nat} (hg : Gl X "enumerate") (hm : X.mg "enumerate" = none) (ha : PA X [e] ta) (hs : starEach [e] X.env = [(false, eval e X.env)] := by rfl) :
    PI X (.Tuple elts kk tpos) (.Call (.Name "enumerate" p) [e] [] pos) (iEnumX X.K ta) := by
  refine ⟨fun pins s σ H R I h => ?_⟩
  refine Call_ (ld_blt I hg hm boot_enumerate (PyProof.Rows.callWith_type1 (thn (ha.run pos pins s σ H _ I h) fun us s1 ⟨vs, H1, I1, r1, q1⟩ => ?_) hs rfl))
  obtain ⟨b, a, xs, ex, hq, q⟩ := q1
  subst ex
  obtain rfl := Vals.ref1 r1
  obtain ⟨its, rv, p', hz⟩ := kSeq I1 hq
  have hal := kHas_lt p'
  refine call_enum1 (kBegins b a its.toArray) p' fun h' he hit hk => wpAny_pyIter_enum he ?_
  have I2 : Inv X pins σ H1 { s1 with heap := h' } := I1.kept (t' := s1.toks) hk
  refine ⟨s1.heap.objs.size + 1, [s1.heap.objs.size + 1, s1.heap.objs.size], _, _, H1, rfl, I2, turn_enumX b a (s1.heap.objs.size + 1) s1.heap.objs.size, ⟨⟨.none, he⟩, kIt_start hit, Nat.succ_ne_self _, Nat.ne_of_gt (Nat.lt_succ_of_lt hal), Nat.ne_of_lt hal⟩, fun c hc => ?_, q⟩
  have e' : c = s1.heap.objs.size + 1 ∨ c = s1.heap.objs.size := by simpa using hc
  have hle : s1.heap.objs.size ≤ c := by
    rcases e' with z | z
    · rw [z]; exact Nat.le_add_right _ _
    · rw [z]; exact Nat.le_refl _
  exact I1.fpOk hle (I1.hok.fresh hle)
def enumD : Nat → List D → List D
  | _, [] => []
  | n, d :: ds => .tuple [.int (n : Nat), d] :: enumD (n + 1) ds
theorem enumD_length : ∀ (n : Nat) (ds : List D), (enumD n ds).length = ds.length
  | _, [] => rfl
  | n, d :: ds => congrArg (· + 1) (enumD_length (n + 1) ds)
theorem enumD_get : ∀ (n : Nat) (ds : List D) (i : Nat) (d : D), ds[i]? = some d → (enumD n ds)[i]? = some (.tuple [.int ((n + i : Nat) : Int), d])
  | _, [], _, _, h => by simp at h
  | n, x :: ds, 0, d, h => by simp at h; subst h; simp [enumD]
  | n, x :: ds, i + 1, d, h => by
    have := enumD_get (n + 1) ds i d (by simpa using h)
    rw [show n + 1 + i = n + (i + 1) by omega] at this
    simpa [enumD] using this
def mEnum (f : M D) : M (List D) := mBind f fun x => mLift ((seqOf x).map (enumD 0))
theorem seq_kind {F : Hp} {x : D} {v : V} {ds : List D} (h : seqOf x = some ds) (r : Rp F v x) : ∃ b a vs, v = .ref a ∧ (∀ K H, Same F H → SqX b K H a vs) ∧ vs.length ≤ sizeLine ∧ RpA F vs ds := by
  cases x <;> simp only [seqOf, Option.some.injEq, reduceCtorEq] at h
  · subst h; cases r with | lst h1 h2 h3 => exact ⟨true, _, _, rfl, fun K H s => SqL.of (s _ _ h1), h2, h3⟩
  · subst h; cases r with | tup h1 h2 h3 => exact ⟨false, _, _, rfl, fun K H s => SqT.of (s _ _ h1), h2, h3⟩
theorem di_enum {X : Cx} {e : Expr} {f : M D} {p pos tpos : Pos} {elts : List Expr} {kk : Nat} (hg : Gl X "enumerate") (hm : X.mg "enumerate" = none) (ha : DE X e f) (hs : starEach [e] X.env = [(false, eval e X.env)] := by rfl) :
    DI X (.Tuple elts kk tpos) (.Call (.Name "enumerate" p) [e] [] pos) (mEnum f) := by
  refine pi_w (pi_enumX hg hm (pa_cons ha pa_nil hs) hs) ?_
  rintro σ H R ⟨F, sa, η, τ, d, τ', w, e, k⟩
  obtain ⟨x, τ1, e1, ea⟩ := mBind_some e
  obtain ⟨e2, rfl⟩ := mLift_some ea
  obtain ⟨ds, e3, rfl⟩ := Option.map_eq_some_iff.mp e2
  refine tE.go w e1 fun F1 H1 u x1 w1 r1 => ?_
  obtain ⟨b, a, vs, rfl, hsq, hl, hr⟩ := seq_kind e3 r1
  refine ⟨b, a, vs, rfl, hsq _ _ w1.fh, k F1 H1 _ x1 w1 ⟨by rw [enumD_length, ← hr.length]; exact hl, fun H => SqX b X.K H a vs, fun i H v H' => ∃ T x, v = .ref T ∧ H T = none ∧ H' = upd H T (.tup [.int (i : Nat), x]) ∧ vs[i]? = some x, ?_, fun H s => hsq _ _ s, ?_⟩⟩
  · rw [enumD_length, ← hr.length]
    refine ⟨fun i H hi q => ⟨vs, vs[i], q, by simp [hi]⟩, fun H q => ⟨vs, q, rfl⟩, fun i H x H' hi q y => ?_⟩
    obtain ⟨T, z, h1, h2, h3, h4⟩ := y
    exact ⟨T, z, h1, h2, h3, h4 vs q⟩
  · rintro i H v H' F2 hi s1 s2 ⟨T, z, rfl, hT, rfl, hz⟩
    obtain ⟨d, hd, rd⟩ := hr.get' hz
    have gr := Grow.alloc s2 hT (.tup [.int (i : Nat), z])
    have := enumD_get 0 ds i d hd
    rw [Nat.zero_add] at this
    exact ⟨_, _, this, gr, .tup upd_same (by show 2 ≤ sizeLine; decide) (.cons (.int _) (.cons (Rp.mono (s1.trans gr.ff) _ _ rd) .nil))⟩

/-! ### zip -/
def ItZ (b c : Bool) (K : PySem.W.Frag) (p q : Addr) : It :=
  ⟨fun i H => ∃ (xs ys : List V) (x y : V), SqX b K H p xs ∧ SqX c K H q ys ∧ xs[i]? = some x ∧ ys[i]? = some y,
   fun i H v H' => ∃ T x y, v = .ref T ∧ H T = none ∧ H' = upd H T (.tup [x, y]) ∧ (∀ xs, SqX b K H p xs → xs[i]? = some x) ∧ ∀ ys, SqX c K H q ys → ys[i]? = some y,
   fun i H => ∃ xs ys : List V, SqX b K H p xs ∧ SqX c K H q ys ∧ min xs.length ys.length = i⟩
theorem turn_zipX {P : Program} {w : World} {K : PySem.W.Frag} {elts : List Expr} {kk : Nat} {tpos : Pos} (b c : Bool) {p q z TI TO i1 i2 : Addr} (hp : p ≠ i1) (hq : q ≠ i2) (S : ZipSep2 z TI TO i1 i2 [i1, p] [i2, q]) :
    Turn P w K (.Tuple elts kk tpos) (ItZ b c K p q) [z, TI, TO, i1, i2] z (fun i h => IsZip h z TI TO .none ∧ IsTupOf2 h TI (.ref i1) (.ref i2) ∧ (∃ a1 a2, IsTupOf2 h TO a1 a2) ∧ kIt b h i1 p i ∧ kIt c h i2 q i) where
  mem := by simp
  obj := fun i h st d hd => by
    obtain ⟨h1, h2, ⟨a1, a2, h3⟩, h4, h5⟩ := st
    have e' : d = z ∨ d = TI ∨ d = TO ∨ d = i1 ∨ d = i2 := by simpa using hd
    rcases e' with r | r | r | r | r
    · rw [r]; exact ⟨_, h1, fun v x => nomatch x⟩
    · rw [r]; exact ⟨_, h2, fun v x => nomatch x⟩
    · rw [r]; exact ⟨_, h3, fun v x => nomatch x⟩
    · rw [r]; exact h4.live
    · rw [r]; exact h5.live
  keep := fun i h h' st k => by
    obtain ⟨h1, h2, ⟨a1, a2, h3⟩, h4, h5⟩ := st
    exact ⟨k z (by simp) _ h1, k TI (by simp) _ h2, ⟨a1, a2, k TO (by simp) _ h3⟩, h4.keep fun o e => k i1 (by simp) o e, h5.keep fun o e => k i2 (by simp) o e⟩
  item := by
    intro X hP hw hK hc i pins s σ H E I hf st hg
    subst hP hw hK
    obtain ⟨h1, h2, ⟨a1, a2, h3⟩, h4, h5⟩ := st
    obtain ⟨xs, ys, x, y, hx, hy, gx, gy⟩ := hg
    obtain ⟨its, rv, px, _⟩ := kSeq I hx
    obtain ⟨jts, rw', py, _⟩ := kSeq I hy
    obtain ⟨u, hu, ru⟩ := rv.get gx
    obtain ⟨v, hv, rv2⟩ := rw'.get gy
    have hd : X.A.in1.handled = none := I.ok.hd hc
    have G := GoesN.zip2 (elts := elts) (x1 := kk) (pos := tpos) S (kDraws (prog := X.prog) (w := X.w) b hd i1 p hp its.toArray) (kDraws c hd i2 q hq jts.toArray)
    have l1 := (List.getElem?_eq_some_iff.mp hu).1
    have l2 := (List.getElem?_eq_some_iff.mp hv).1
    refine wpAny_mono (G.goes i s (fun v s2 => ∃ x' H', Inv X pins σ H' s2 ∧ RelV x' v ∧ (ItZ b c X.K p q).yld i H x' H' ∧ (IsZip s2.heap z TI TO .none ∧ IsTupOf2 s2.heap TI (.ref i1) (.ref i2) ∧ (∃ a1 a2, IsTupOf2 s2.heap TO a1 a2) ∧ kIt b s2.heap i1 p (i + 1) ∧ kIt c s2.heap i2 q (i + 1)) ∧ ∀ d ∈ [z, TI, TO, i1, i2], H' d = none) E (by rw [List.size_toArray, List.size_toArray]; omega) ⟨h1, h2, ⟨a1, a2, h3⟩, ⟨h4, px⟩, ⟨h5, py⟩⟩ fun v' h' tk hY st' hk _ => ?_) (fun r s1 q => q) fun _ _ q => q
    obtain ⟨T, x', y', rfl, hT, hx', hy', hTup⟩ := hY
    obtain rfl : x' = u := by
      have e1 : its.toArray[i]? = some u := by simpa using hu
      rw [e1] at hx'
      exact (Option.some.inj hx').symm
    obtain rfl : y' = v := by
      have e1 : jts.toArray[i]? = some v := by simpa using hv
      rw [e1] at hy'
      exact (Option.some.inj hy').symm
    obtain ⟨g1, g2, g3, ⟨g4, _⟩, ⟨g5, _⟩⟩ := st'
    have new : ObjOk X.prog X.w (upd H T (.tup [x, y])) h' T (.tup [x, y]) := ⟨by show 2 ≤ sizeLine; decide, [x', y'], .cons ru (.cons rv2 .nil), hTup⟩
    have I1 : Inv X pins σ (upd H T (.tup [x, y])) { s with heap := h', toks := tk } := I.turnedNew (ch := [z, TI, TO, i1, i2]) (fun b o hb e => hk b o (fun hm => hb (by
      have : b = z ∨ b = TO ∨ b = i1 ∨ b = i2 := by simpa using hm
      rcases this with r | r | r | r <;> simp [r])) e) hf hT new
    refine ⟨.ref T, _, I1, rfl, ⟨T, x, y, rfl, I.hok.fresh hT, rfl, fun xs' h => by rw [kSeq_inj I h hx]; exact gx, fun ys' h => by rw [kSeq_inj I h hy]; exact gy⟩, ⟨g1, g2, g3, g4, g5⟩, fun d hd => ?_⟩
    have hb' : d < s.heap.objs.size := by
      have e' : d = z ∨ d = TI ∨ d = TO ∨ d = i1 ∨ d = i2 := by simpa using hd
      rcases e' with r | r | r | r | r
      · rw [r]; exact Heap.lt_size h1
      · rw [r]; exact Heap.lt_size h2
      · rw [r]; exact Heap.lt_size h3
      · rw [r]; obtain ⟨o, ho, _⟩ := h4.live; exact Heap.lt_size ho
      · rw [r]; obtain ⟨o, ho, _⟩ := h5.live; exact Heap.lt_size ho
    rw [upd_ne (Nat.ne_of_lt (Nat.lt_of_lt_of_le hb' hT))]
    exact (hf d hd).1
  done := by
    intro X hP hw hK hc i pins s σ H E I hf st hg
    subst hP hw hK
    obtain ⟨h1, h2, ⟨a1, a2, h3⟩, h4, h5⟩ := st
    obtain ⟨xs, ys, hx, hy, hmin⟩ := hg
    obtain ⟨its, rv, px, _⟩ := kSeq I hx
    obtain ⟨jts, rw', py, _⟩ := kSeq I hy
    have hd : X.A.in1.handled = none := I.ok.hd hc
    have G := GoesN.zip2 (elts := elts) (x1 := kk) (pos := tpos) S (kDraws (prog := X.prog) (w := X.w) b hd i1 p hp its.toArray) (kDraws c hd i2 q hq jts.toArray)
    have hsz : min its.toArray.size jts.toArray.size = i := by rw [List.size_toArray, List.size_toArray, ← rv.length, ← rw'.length]; exact hmin
    exact G.stops s (fun s1 => Inv X pins σ H s1) E (by rw [hsz]; exact ⟨h1, h2, ⟨a1, a2, h3⟩, ⟨h4, px⟩, ⟨h5, py⟩⟩) fun h' tk hk _ => I.turnedL (ch := [z, TI, TO, i1, i2]) (fun b o hb e => hk b o (fun hm => hb (by
      have : b = z ∨ b = TO ∨ b = i1 ∨ b = i2 := by simpa using hm
      rcases this with r | r | r | r <;> simp [r])) e) hf
  self := fun A i s Q E st h => wpAny_pyIter_zip st.1 h
def iZipX (K : PySem.W.Frag) (ta : TA) : TI := fun σ H R => ta σ H fun vs H1 => ∃ b c p q xs ys, vs = [.ref p, .ref q] ∧ SqX b K H1 p xs ∧ SqX c K H1 q ys ∧ R (ItZ b c K p q) H1
theorem pi_zipX {X : Cx} {e e2 : Expr} {ta : TA} {p pos tpos : Pos} {elts : List Expr} {kk : Nat} (hg : Gl X "zip") (hm : X.mg "zip" = none) (ha : PA X [e, e2] ta) (hs : starEach [e, e2] X.env = (false, eval e X.env) :: starEach [e2] X.env := by rfl)
    (hs2 : (backTo pos (starEach [e2] X.env)).any (·.1) = false := by rfl) :
    PI X (.Tuple elts kk tpos) (.Call (.Name "zip" p) [e, e2] [] pos) (iZipX X.K ta) := by
  refine ⟨fun pins s σ H R I h => ?_⟩
  refine Call_ (ld_blt I hg hm boot_zip (PyProof.Rows.callWith_type1 (thn (ha.run pos pins s σ H _ I h) fun us s1 ⟨vs, H1, I1, r1, q1⟩ => ?_) hs hs2))
  obtain ⟨b, c, p1, p2, xs, ys, ex, hx, hy, q⟩ := q1
  subst ex
  obtain ⟨u, v, rfl, ru, rv'⟩ := Vals.two r1
  obtain rfl : u = .ref p1 := ru
  obtain rfl : v = .ref p2 := rv'
  obtain ⟨its, rv, px, _⟩ := kSeq I1 hx
  obtain ⟨jts, rw', py, _⟩ := kSeq I1 hy
  have l1 := kHas_lt px
  have l2 := kHas_lt py
  refine zip_begins2 (kBegins b p1 its.toArray) (kBegins c p2 jts.toArray) px py fun h' hz hTI hTO g1 g2 _ hk => wpAny_pyIter_zip hz ?_
  have I2 : Inv X pins σ H1 { s1 with heap := h' } := I1.kept (t' := s1.toks) hk
  refine ⟨s1.heap.objs.size + 4, [s1.heap.objs.size + 4, s1.heap.objs.size + 2, s1.heap.objs.size + 3, s1.heap.objs.size, s1.heap.objs.size + 1], _, _, H1, rfl, I2,
    turn_zipX b c (Nat.ne_of_lt l1) (Nat.ne_of_lt (Nat.lt_succ_of_lt l2)) (zip_sep2 (fun d hd => by
      obtain rfl : d = p1 := by simpa using hd
      exact l1) fun d hd => by
      obtain rfl : d = p2 := by simpa using hd
      exact l2), ⟨hz, hTI, ⟨_, _, hTO⟩, kIt_start g1, kIt_start g2⟩, fun d hd => ?_, q⟩
  have hle : s1.heap.objs.size ≤ d := by
    have e' : d = s1.heap.objs.size + 4 ∨ d = s1.heap.objs.size + 2 ∨ d = s1.heap.objs.size + 3 ∨ d = s1.heap.objs.size ∨ d = s1.heap.objs.size + 1 := by simpa using hd
    rcases e' with r | r | r | r | r <;> rw [r] <;> first | exact Nat.le_add_right _ _ | exact Nat.le_refl _
  exact I1.fpOk hle (I1.hok.fresh hle)
def zipD : List D → List D → List D
  | x :: xs, y :: ys => .tuple [x, y] :: zipD xs ys
  | _, _ => []
theorem zipD_length : ∀ xs ys : List D, (zipD xs ys).length = min xs.length ys.length
  | [], _ => by simp [zipD]
  | _ :: _, [] => by simp [zipD]
  | x :: xs, y :: ys => by
    simp only [zipD, List.length_cons, zipD_length xs ys]
    omega
theorem zipD_get : ∀ (xs ys : List D) (i : Nat) (x y : D), xs[i]? = some x → ys[i]? = some y → (zipD xs ys)[i]? = some (.tuple [x, y])
  | [], _, _, _, _, h, _ => by simp at h
  | _ :: _, [], _, _, _, _, h => by simp at h
  | a :: xs, b :: ys, 0, x, y, h, h2 => by simp at h h2; subst h h2; simp [zipD]
  | a :: xs, b :: ys, i + 1, x, y, h, h2 => by
    have := zipD_get xs ys i x y (by simpa using h) (by simpa using h2)
    simpa [zipD] using this
def mZip (f g : M D) : M (List D) := mBind f fun x => mBind g fun y => mLift ((seqOf x).bind fun xs => (seqOf y).map fun ys => zipD xs ys)
theorem di_zip {X : Cx} {e e2 : Expr} {f g : M D} {p pos tpos : Pos} {elts : List Expr} {kk : Nat} (hg : Gl X "zip") (hm : X.mg "zip" = none) (ha : DE X e f) (hb : DE X e2 g) (hs : starEach [e, e2] X.env = (false, eval e X.env) :: starEach [e2] X.env := by rfl)
    (hs1 : starEach [e2] X.env = (false, eval e2 X.env) :: starEach [] X.env := by rfl) (hs2 : (backTo pos (starEach [e2] X.env)).any (·.1) = false := by rfl) :
    DI X (.Tuple elts kk tpos) (.Call (.Name "zip" p) [e, e2] [] pos) (mZip f g) := by
  refine pi_w (pi_zipX hg hm (pa_cons ha (pa_cons hb pa_nil hs1) hs) hs hs2) ?_
  rintro σ H R ⟨F, sa, η, τ, d, τ', w, e, k⟩
  obtain ⟨x, τ1, e1, ea⟩ := mBind_some e
  obtain ⟨y, τ2, e2', eb⟩ := mBind_some ea
  obtain ⟨ec, rfl⟩ := mLift_some eb
  obtain ⟨xs, e3, ed⟩ := Option.bind_eq_some_iff.mp ec
  obtain ⟨ys, e4, rfl⟩ := Option.map_eq_some_iff.mp ed
  refine tE.go w e1 fun F1 H1 u x1 w1 r1 => tE.go w1 e2' fun F2 H2 v x2 w2 r2 => ?_
  obtain ⟨b, p1, vs, rfl, hs1, hl1, hr1⟩ := seq_kind e3 (Rp.mono x2.ff _ _ r1)
  obtain ⟨c, p2, us, rfl, hs2, hl2, hr2⟩ := seq_kind e4 r2
  refine ⟨b, c, p1, p2, vs, us, rfl, hs1 _ _ w2.fh, hs2 _ _ w2.fh, k F2 H2 _ (x1.trans x2) w2 ⟨by rw [zipD_length, ← hr1.length, ← hr2.length]; omega, fun H => SqX b X.K H p1 vs ∧ SqX c X.K H p2 us, fun i H v H' => ∃ T x y, v = .ref T ∧ H T = none ∧ H' = upd H T (.tup [x, y]) ∧ vs[i]? = some x ∧ us[i]? = some y, ?_, fun H s => ⟨hs1 _ _ s, hs2 _ _ s⟩, ?_⟩⟩
  · rw [zipD_length, ← hr1.length, ← hr2.length]
    refine ⟨fun i H hi q => ⟨vs, us, vs[i]'(by omega), us[i]'(by omega), q.1, q.2, by simp, by simp⟩, fun H q => ⟨vs, us, q.1, q.2, rfl⟩, fun i H x H' hi q y => ?_⟩
    obtain ⟨T, z, z2, h1, h2, h3, h4, h5⟩ := y
    exact ⟨T, z, z2, h1, h2, h3, h4 vs q.1, h5 us q.2⟩
  · rintro i H v H' F3 hi s1 s2 ⟨T, z, z2, rfl, hT, rfl, hz, hz2⟩
    obtain ⟨d, hd, rd⟩ := hr1.get' hz
    obtain ⟨d2, hd2, rd2⟩ := hr2.get' hz2
    have gr := Grow.alloc s2 hT (.tup [z, z2])
    exact ⟨_, _, zipD_get xs ys i d d2 hd hd2, gr, .tup upd_same (by show 2 ≤ sizeLine; decide) (.cons (Rp.mono (s1.trans gr.ff) _ _ rd) (.cons (Rp.mono (s1.trans gr.ff) _ _ rd2) .nil))⟩
end DL

/-! DLj: tuple * int, any int; ranges as values. -/
namespace DL
open PySem PySem.Spec PyProof.Rows L2
open PySem.AutoSeq1 (wpAny_loadPart')
theorem tuple_mul_same (l : Addr) (items : Array Value) (n : Nat) (dd : Option Addr) (sl : Array (Option Value)) (x : Int) (u : Tok) (c0 : (decide (x < -(2 ^ 63)) || decide (x ≥ 2 ^ 63)) = false) (c1 : (items.isEmpty || x == 1) = true) :
    Meets (Builtin.«tuple.__mul__» ⟨[.ref l, .int x u], []⟩) (fun _ R s => s.heap.get? l = some { cls := .type "tuple", dict := dd, data := .seq items n, slots := sl } ∧ R (.ok (.ret (Value.ref l))) s) :=
  .of_wp fun prog w A R s h => by
    obtain ⟨hp, g, d, tk, os⟩ := s
    obtain ⟨hl, h⟩ := h
    have f1 := AutoSeq1.idx_int
    wp_walk using wpAny_loadPart' hl
    repeat (first
      | (refine wpAny_ite_false (decide_eq_false (by rw [c0]; exact Bool.false_ne_true)) ?_; wp_walk using wpAny_loadPart' hl)
      | (refine wpAny_ite_true (decide_eq_true c1) ?_; wp_walk using wpAny_loadPart' hl))
    exact ⟨_, rfl, h⟩
theorem tuple_mul_none (l : Addr) (items : Array Value) (n : Nat) (dd : Option Addr) (sl : Array (Option Value)) (x : Int) (u : Tok) (c0 : (decide (x < -(2 ^ 63)) || decide (x ≥ 2 ^ 63)) = false) (c1 : (items.isEmpty || x == 1) = false) (c2 : (decide (x ≤ 0) || items.isEmpty) = true) :
    Meets (Builtin.«tuple.__mul__» ⟨[.ref l, .int x u], []⟩) (fun _ R s => s.heap.get? l = some { cls := .type "tuple", dict := dd, data := .seq items n, slots := sl } ∧
      R (.ok (.ret (Value.ref s.heap.objs.size))) { s with heap := s.heap.push { cls := Value.type "tuple", data := Data.seq #[] }, toks := s.toks }) :=
  .of_wp fun prog w A R s h => by
    obtain ⟨hp, g, d, tk, os⟩ := s
    obtain ⟨hl, h⟩ := h
    have f1 := AutoSeq1.idx_int
    wp_walk using wpAny_loadPart' hl
    repeat (first
      | (refine wpAny_ite_false (decide_eq_false (by rw [c0]; exact Bool.false_ne_true)) ?_; wp_walk using wpAny_loadPart' hl)
      | (refine wpAny_ite_false (decide_eq_false (by rw [c1]; exact Bool.false_ne_true)) ?_; wp_walk using wpAny_loadPart' hl)
      | (refine wpAny_ite_true (decide_eq_true c2) ?_; wp_walk using wpAny_loadPart' hl))
    exact ⟨_, rfl, h⟩
def rRepA (K : PySem.W.Frag) : R2 := fun x y H Q => ∃ l k xs, x = .ref l ∧ y = .int k ∧ SqT K H l xs ∧ -(2 ^ 63) ≤ k ∧ k < 2 ^ 63 ∧ xs.length * k.toNat ≤ sizeLine ∧ ((xs = [] ∨ k = 1) → Q (.ref l) H) ∧
  (¬ (xs = [] ∨ k = 1) → ∀ p, H p = none → Q (.ref p) (upd H p (.tup (List.replicate k.toNat xs).flatten)))
theorem op_repA {X : Cx} : OpR X (binaryOp .Mult) (rRepA X.K) := by
  intro pins s σ H x y v u Q I rx ry h
  obtain ⟨l, k, xs, rfl, rfl, hT, hk1, hk2, hz, q1, q2⟩ := h
  cases rx
  obtain ⟨t, rfl⟩ := ry
  obtain ⟨its, r, ⟨⟨cls, dd, data, sl⟩, ho, hc, n, hd⟩, hs⟩ := I.tuple hT
  simp only at hc hd
  subst hc hd
  have hle : its.length = xs.length := r.length.symm
  have hnil : its.toArray.isEmpty = xs.isEmpty := by cases r <;> rfl
  have c0 : (decide (k < -(2 ^ 63)) || decide (k ≥ 2 ^ 63)) = false := by
    rw [decide_eq_false (by omega), decide_eq_false (by omega)] <;> rfl
  have go : ∀ {Q' : Value → Shared → Prop} {S : Around → (Result → Shared → Prop) → Shared → Prop}, Meets (Builtin.«tuple.__mul__» ⟨[.ref l, .int k t], []⟩) S → (∀ A, S A (fun r s' => ∃ v, r = .ok (.ret v) ∧ Q' v s') s) → True := fun _ _ => trivial
  by_cases hx : xs = [] ∨ k = 1
  · have c1 : (its.toArray.isEmpty || k == 1) = true := by
      rw [hnil, Bool.or_eq_true]
      rcases hx with e | e
      · left; rw [e]; rfl
      · right; rw [e]; rfl
    refine wpAny_binaryOp_repeat_ref (T := "tuple") (U := "int") (by decide) ⟨_, ho, rfl⟩ (fun s' => typeIs_int s' k t) noFill_tuple_mul F.fills_int_mul F.slot_int_rmul repeat_tuple F.slot_int_index.lookup
      (call_meets F.slot_int_rmul (typeIs_int s k t) F.entry_int_rmul (F.args_int_rmul_2 _ _) (int_rmul_tuple k t l its.toArray n dd sl)
        ⟨ho, rfl, ⟨_, ho, rfl⟩, call_meets F.slot_tuple_mul ⟨_, ho, rfl⟩ F.entry_tuple_mul (F.args_tuple_mul_2 _ _) (tuple_mul_same l its.toArray n dd sl k t c0 c1) ⟨ho, ?_⟩⟩)
    exact ⟨.ref l, H, I, rfl, q1 hx⟩
  · have hne : xs ≠ [] := fun e => hx (.inl e)
    have hk : k ≠ 1 := fun e => hx (.inr e)
    have he : xs.isEmpty = false := by cases xs with
      | nil => exact absurd rfl hne
      | cons _ _ => rfl
    have c1 : (its.toArray.isEmpty || k == 1) = false := by
      rw [hnil, he, Bool.false_or]
      exact beq_eq_false_iff_ne.mpr hk
    have fl : (List.replicate k.toNat xs).flatten.length ≤ sizeLine := by
      rw [PyProof.Rows.lm_len_rep_flat, Nat.mul_comm]; exact hz
    by_cases h0 : k ≤ 0
    · have c2 : (decide (k ≤ 0) || its.toArray.isEmpty) = true := by rw [decide_eq_true h0, Bool.true_or]
      refine wpAny_binaryOp_repeat_ref (T := "tuple") (U := "int") (by decide) ⟨_, ho, rfl⟩ (fun s' => typeIs_int s' k t) noFill_tuple_mul F.fills_int_mul F.slot_int_rmul repeat_tuple F.slot_int_index.lookup
        (call_meets F.slot_int_rmul (typeIs_int s k t) F.entry_int_rmul (F.args_int_rmul_2 _ _) (int_rmul_tuple k t l its.toArray n dd sl)
          ⟨ho, rfl, ⟨_, ho, rfl⟩, call_meets F.slot_tuple_mul ⟨_, ho, rfl⟩ F.entry_tuple_mul (F.args_tuple_mul_2 _ _) (tuple_mul_none l its.toArray n dd sl k t c0 c1 c2) ⟨ho, ?_⟩⟩)
      have e0 : k.toNat = 0 := by omega
      have q := q2 hx _ (I.hok.fresh (Nat.le_refl _))
      rw [e0] at q
      exact ⟨.ref s.heap.objs.size, _, I.laid (t' := s.toks) (o := .tup []) (fun b ob q => Heap.get?_push_of_some _ q) (Nat.le_refl _) ⟨Nat.zero_le _, [], .nil, IsTup.new _ _⟩, rfl, q⟩
    · have c2 : (decide (k ≤ 0) || its.toArray.isEmpty) = false := by rw [hnil, he, decide_eq_false h0]; rfl
      have hm : ((its.toArray.size : Nat) : Int) * k ≤ (sizeLine : Nat) := by
        rw [List.size_toArray, hle]
        have hkk : ((k.toNat : Nat) : Int) = k := Int.toNat_of_nonneg (by omega)
        rw [← hkk]
        exact_mod_cast hz
      rw [sizeLine_eq] at hm
      have c4 : Builtin.Tuple.tupleTooMany (((its.toArray.size : Nat) : Int) * k) = false := by
        unfold Builtin.Tuple.tupleTooMany
        rw [sizeLine_eq]
        exact decide_eq_false (by omega)
      have fl2 : (List.replicate k.toNat its).flatten.length ≤ sizeLine := by
        rw [PyProof.Rows.lm_len_rep_flat, Nat.mul_comm, hle]; exact hz
      refine wpAny_binaryOp_repeat_ref (T := "tuple") (U := "int") (by decide) ⟨_, ho, rfl⟩ (fun s' => typeIs_int s' k t) noFill_tuple_mul F.fills_int_mul F.slot_int_rmul repeat_tuple F.slot_int_index.lookup
        (call_meets F.slot_int_rmul (typeIs_int s k t) F.entry_int_rmul (F.args_int_rmul_2 _ _) (int_rmul_tuple k t l its.toArray n dd sl)
          ⟨ho, rfl, ⟨_, ho, rfl⟩, call_meets F.slot_tuple_mul ⟨_, ho, rfl⟩ F.entry_tuple_mul (F.args_tuple_mul_2 _ _) (tuple_mulW l its.toArray n dd sl k t c0 c1 c2 (by omega) c4 (by rw [size_rep, List.size_toArray]; exact fl2)) ⟨ho, ?_⟩⟩)
      rw [size_rep]
      exact ⟨.ref s.heap.objs.size, _, I.laid (t' := s.toks) (o := .tup (List.replicate k.toNat xs).flatten) (fun b ob q => Heap.get?_push_of_some _ q) (Nat.le_refl _) ⟨fl, _, r.rep k.toNat, IsTup.new _ _⟩, rfl, q2 hx _ (I.hok.fresh (Nat.le_refl _))⟩
/-! the mirror -/
def okRep (n : Nat) (k : Int) : Bool := decide (k.natAbs < 2 ^ 62) && decide (n * k.toNat ≤ sizeLine)
def dRepL : D → D → Option D
  | .list ds, .int k => if okRep ds.length k then some (.list (List.replicate k.toNat ds).flatten) else none
  | _, _ => none
def dRepT : D → D → Option D
  | .tuple ds, .int k => if okRep ds.length k then some (.tuple (List.replicate k.toNat ds).flatten) else none
  | _, _ => none
theorem rep_length {α : Type} (l : List α) (k : Nat) : (List.replicate k l).flatten.length = k * l.length := PyProof.Rows.lm_len_rep_flat ..
theorem op2_repL : Op2 rRep dRepL := by
  intro x y dx dy d F H Q e s rx ry k
  unfold dRepL at e
  split at e
  · rename_i ds n
    split at e
    · rename_i ok
      cases e
      simp only [okRep, Bool.and_eq_true, decide_eq_true_eq] at ok
      cases ry
      cases rx with
      | @lst pa vs _ h1 h2 h3 =>
        have hl := h3.length
        refine ⟨_, n, vs, rfl, rfl, s _ _ h1, (by have := ok.1; omega), (by have := ok.1; omega), by rw [hl]; exact ok.2, fun p hp => ?_⟩
        have gr := Grow.alloc s hp (.lst (List.replicate n.toNat vs).flatten)
        exact k _ _ _ gr (.lst upd_same (by rw [rep_length, hl, Nat.mul_comm]; exact ok.2) (RpA.mono gr.ff _ _ (h3.rep _)))
    · cases e
  · cases e
theorem op2_repT {K : PySem.W.Frag} : Op2 (rRepA K) dRepT := by
  intro x y dx dy d F H Q e s rx ry k
  unfold dRepT at e
  split at e
  · rename_i ds n
    split at e
    · rename_i ok
      cases e
      simp only [okRep, Bool.and_eq_true, decide_eq_true_eq] at ok
      cases ry
      cases rx with
      | @tup pa vs _ h1 h2 h3 =>
        have hl := h3.length
        refine ⟨_, n, vs, rfl, rfl, .of (s _ _ h1), (by have := ok.1; omega), (by have := ok.1; omega), by rw [hl]; exact ok.2, fun hx => ?_, fun hx p hp => ?_⟩
        · have e : (List.replicate n.toNat ds).flatten = ds := by
            rcases hx with e | e
            · subst e; cases h3; simp
            · subst e; simp
          rw [e] at k
          exact k F H _ (.refl s) (.tup h1 h2 h3)
        · have gr := Grow.alloc s hp (.tup (List.replicate n.toNat vs).flatten)
          exact k _ _ _ gr (.tup upd_same (by rw [rep_length, hl, Nat.mul_comm]; exact ok.2) (RpA.mono gr.ff _ _ (h3.rep _)))
    · cases e
  · cases e
def okMul (i j : Int) : Bool := decide (i.natAbs.log2 + j.natAbs.log2 < 100000000)
def dMul : D → D → Option D := dOr (dI (fun i j => .int (i * j)) okMul) (dOr dRepL dRepT)
section
variable {X : Cx} {a b : Expr} {f g : M D} {pos p : Pos}
theorem de_mul (ha : DE X a f) (hb : DE X b g) : DE X (.BinOp a .Mult b pos) (mOp2 dMul f g) :=
  de_bin (op_mulX.or (op_rep.or op_repA)) ((op2_int (fun i j h => by
    unfold okMul at h
    have h := of_decide_eq_true h
    exact mulx_ok Nat.lt_log2_self Nat.lt_log2_self (by omega)) fun _ _ _ => .int _).or (op2_repL.or op2_repT)) ha hb
/-- a list repeated, as a new list -/
def mRepN (f g : M D) : M (List D) := mBind f fun x => mBind (mLift (lOf x)) fun ds => mBind g fun y => mLift ((iOf y).bind fun k => if okRep ds.length k = true then some (List.replicate k.toNat ds).flatten else none)
theorem dn_rep (ha : DE X a f) (hb : DE X b g) : DN X (.BinOp a .Mult b pos) (mRepN f g) := by
  refine pe_w (pe_op op_rep ha hb) ?_
  rintro σ H Q ⟨F, sa, η, τ, d, τ', w, e, k⟩
  obtain ⟨x, τ1, e1, ea⟩ := mBind_some e
  obtain ⟨ds, τ0, e0, eb⟩ := mBind_some ea
  obtain ⟨e9, rfl⟩ := mLift_some e0
  obtain rfl := lOf_some e9
  obtain ⟨y, τ2, e2, ec⟩ := mBind_some eb
  obtain ⟨e3, rfl⟩ := mLift_some ec
  obtain ⟨n, e4, e5⟩ := Option.bind_eq_some_iff.mp e3
  obtain rfl := iOf_some e4
  split at e5
  · rename_i ok
    cases e5
    simp only [okRep, Bool.and_eq_true, decide_eq_true_eq] at ok
    refine tE.go w e1 fun F1 H1 u x1 w1 r1 => tE.go w1 e2 fun F2 H2 v x2 w2 r2 => ?_
    cases r2
    have r1' := Rp.mono x2.ff _ _ r1
    cases r1' with
    | @lst pa vs _ h1 h2 h3 =>
      have hl := h3.length
      refine ⟨_, n, vs, rfl, rfl, w2.fh _ _ h1, (by have := ok.1; omega), (by have := ok.1; omega), by rw [hl]; exact ok.2, fun p hp => ?_⟩
      have gr := Grow.own w2.fh hp (.lst (List.replicate n.toNat vs).flatten)
      have xx := x1.trans x2
      have hp0 : H p = none := by
        cases z : H p with
        | none => rfl
        | some o => exact absurd hp (xx.nn p (nn_of z))
      exact k _ _ _ _ (xx.trans gr.ext) (w2.grow gr) hp0 (w2.fh.free hp) upd_same (by rw [rep_length, hl, Nat.mul_comm]; exact ok.2) (notSrc_new w2.src hp) (h3.rep _)
  · cases e5
/-- two lists, as a new list -/
def mCatN (f g : M D) : M (List D) := mBind f fun x => mBind (mLift (lOf x)) fun ds => mBind g fun y => mLift ((lOf y).bind fun es => okLen (ds ++ es))
theorem dn_cat (ha : DE X a f) (hb : DE X b g) : DN X (.BinOp a .Add b pos) (mCatN f g) := by
  refine pe_w (pe_op op_cat ha hb) ?_
  rintro σ H Q ⟨F, sa, η, τ, d, τ', w, e, k⟩
  obtain ⟨x, τ1, e1, ea⟩ := mBind_some e
  obtain ⟨ds, τ0, e0, eb⟩ := mBind_some ea
  obtain ⟨e9, rfl⟩ := mLift_some e0
  obtain rfl := lOf_some e9
  obtain ⟨y, τ2, e2, ec⟩ := mBind_some eb
  obtain ⟨e3, rfl⟩ := mLift_some ec
  obtain ⟨es, e4, e5⟩ := Option.bind_eq_some_iff.mp e3
  obtain rfl := lOf_some e4
  obtain ⟨rfl, hlen⟩ := okLen_some e5
  refine tE.go w e1 fun F1 H1 u x1 w1 r1 => tE.go w1 e2 fun F2 H2 v x2 w2 r2 => ?_
  have r1' := Rp.mono x2.ff _ _ r1
  cases r1' with
  | @lst pa vs _ h1 h2 h3 =>
    cases r2 with
    | @lst pb us _ g1 g2 g3 =>
      have hl := h3.length
      have hl2 := g3.length
      rw [List.length_append] at hlen
      refine ⟨_, _, vs, us, rfl, rfl, w2.fh _ _ h1, w2.fh _ _ g1, by omega, fun p hp => ?_⟩
      have gr := Grow.own w2.fh hp (.lst (vs ++ us))
      have xx := x1.trans x2
      have hp0 : H p = none := by
        cases z : H p with
        | none => rfl
        | some o => exact absurd hp (xx.nn p (nn_of z))
      exact k _ _ _ _ (xx.trans gr.ext) (w2.grow gr) hp0 (w2.fh.free hp) upd_same (by rw [List.length_append]; omega) (notSrc_new w2.src hp) (h3.append g3)
/-! ### tuple(range(..)), list(range(..)) -/
def tR (f : M (Int × Int)) : L2.St → Hp → (Int → Int → Hp → Prop) → Prop := fun σ H Q => ∃ F sa η τ d τ', View F sa σ H η τ ∧ f η τ = some (d, τ') ∧ ∀ F' H', Ext sa F H F' H' → View F' sa σ H' η τ' → Q d.1 d.2 H'
abbrev DR (X : Cx) (e : Expr) (f : M (Int × Int)) : Prop := PRg X e (tR f)
def mRg1 (f : M D) : M (Int × Int) := mBind f fun x => mLift ((iOf x).map fun n => (0, n))
def mRg2 (f g : M D) : M (Int × Int) := mBind f fun x => mBind g fun y => mLift ((iOf x).bind fun i => (iOf y).map fun j => (i, j))
theorem dr_1 (hg : Gl X "range") (hm : X.mg "range" = none) (ha : DE X a f) (na : starEach [a] X.env = (false, eval a X.env) :: starEach [] X.env := by rfl) : DR X (.Call (.Name "range" p) [a] [] pos) (mRg1 f) := by
  intro pins s σ H Q I h
  refine prg_1 hg hm ha na pins s σ H Q I ?_
  obtain ⟨F, sa, η, τ, d, τ', w, e, k⟩ := h
  obtain ⟨x, τ1, e1, ea⟩ := mBind_some e
  obtain ⟨e2, rfl⟩ := mLift_some ea
  obtain ⟨n, e3, rfl⟩ := Option.map_eq_some_iff.mp e2
  obtain rfl := iOf_some e3
  refine tE.go w e1 fun F1 H1 u x1 w1 r1 => ?_
  cases r1
  exact ⟨n, rfl, k F1 H1 x1 w1⟩
theorem dr_2 (hg : Gl X "range") (hm : X.mg "range" = none) (ha : DE X a f) (hb : DE X b g) (na : starEach [a, b] X.env = (false, eval a X.env) :: starEach [b] X.env := by rfl)
    (nb : starEach [b] X.env = (false, eval b X.env) :: starEach [] X.env := by rfl) (hp : (backTo pos (starEach [b] X.env)).any (·.1) = false := by rfl) : DR X (.Call (.Name "range" p) [a, b] [] pos) (mRg2 f g) := by
  intro pins s σ H Q I h
  refine prg_2 hg hm ha hb na nb hp pins s σ H Q I ?_
  obtain ⟨F, sa, η, τ, d, τ', w, e, k⟩ := h
  obtain ⟨x, τ1, e1, ea⟩ := mBind_some e
  obtain ⟨y, τ2, e2, eb⟩ := mBind_some ea
  obtain ⟨ec, rfl⟩ := mLift_some eb
  obtain ⟨i, e3, ed⟩ := Option.bind_eq_some_iff.mp ec
  obtain ⟨j, e4, rfl⟩ := Option.map_eq_some_iff.mp ed
  obtain rfl := iOf_some e3
  obtain rfl := iOf_some e4
  refine tE.go w e1 fun F1 H1 u x1 w1 r1 => tE.go w1 e2 fun F2 H2 v x2 w2 r2 => ?_
  cases r1
  cases r2
  exact ⟨i, j, rfl, rfl, k F2 H2 (x1.trans x2) w2⟩
noncomputable def mTupRg (r : M (Int × Int)) : M D := mBind r fun x => mLift ((rangeD x.1 x.2).map .tuple)
noncomputable def mLstRg (r : M (Int × Int)) : M (List D) := mBind r fun x => mLift (rangeD x.1 x.2)
theorem rangeD_some {lo hi : Int} {ds : List D} (h : rangeD lo hi = some ds) : RgOk lo hi ∧ ds = (List.range (hi - lo).toNat).map fun i => .int (lo + (i : Nat)) := by
  unfold rangeD at h
  split at h
  · rename_i hr
    cases h
    exact ⟨⟨hr.1, hr.2.1, hr.2.2.1, hr.2.2.2.1, hr.2.2.2.2⟩, rfl⟩
  · cases h
theorem rgV_rp {F : Hp} {lo hi : Int} : RpA F (rgV lo hi) ((List.range (hi - lo).toNat).map fun i => PyData.int (lo + (i : Nat))) := by
  unfold rgV
  induction (List.range (hi - lo).toNat) with
  | nil => exact .nil
  | cons i is ih => exact .cons (.int _) ih
theorem rgV_len {lo hi : Int} (h : RgOk lo hi) : (rgV lo hi).length ≤ sizeLine := by
  rw [rgV_length, line24]
  exact h.2.2.2.2
theorem de_tupRg {e : Expr} {r : M (Int × Int)} (hc : X.calm = true) (hg : Gl X "tuple") (hm : X.mg "tuple" = none) (he : DR X e r) (na : starEach [e] X.env = (false, eval e X.env) :: starEach [] X.env := by rfl) : DE X (.Call (.Name "tuple" p) [e] [] pos) (mTupRg r) := by
  refine pe_w (pe_tupRg hc hg hm he na) ?_
  rintro σ H Q ⟨F, sa, η, τ, d, τ', w, e, k⟩
  obtain ⟨x, τ1, e1, ea⟩ := mBind_some e
  obtain ⟨e2, rfl⟩ := mLift_some ea
  obtain ⟨ds, e3, rfl⟩ := Option.map_eq_some_iff.mp e2
  obtain ⟨ok, rfl⟩ := rangeD_some e3
  refine ⟨F, sa, η, τ, x, _, w, e1, fun F1 H1 x1 w1 => ⟨ok, fun q hq => ?_⟩⟩
  have gr := Grow.alloc w1.fh hq (.tup (rgV x.1 x.2))
  exact k _ _ _ (x1.trans gr.ext) (w1.grow gr) (.tup upd_same (rgV_len ok) rgV_rp)
theorem dn_lstRg {e : Expr} {r : M (Int × Int)} (hc : X.calm = true) (hg : Gl X "list") (hm : X.mg "list" = none) (he : DR X e r) (na : starEach [e] X.env = (false, eval e X.env) :: starEach [] X.env := by rfl) : DN X (.Call (.Name "list" p) [e] [] pos) (mLstRg r) := by
  refine pe_w (pe_listRg hc hg hm he na) ?_
  rintro σ H Q ⟨F, sa, η, τ, d, τ', w, e, k⟩
  obtain ⟨x, τ1, e1, ea⟩ := mBind_some e
  obtain ⟨e2, rfl⟩ := mLift_some ea
  obtain ⟨ok, rfl⟩ := rangeD_some e2
  refine ⟨F, sa, η, τ, x, _, w, e1, fun F1 H1 x1 w1 => ⟨ok, fun q hq => ?_⟩⟩
  have gr := Grow.own w1.fh hq (.lst (rgV x.1 x.2))
  have hp0 : H q = none := by
    cases z : H q with
    | none => rfl
    | some o => exact absurd hq (x1.nn q (nn_of z))
  exact k _ _ _ _ (x1.trans gr.ext) (w1.grow gr) hp0 (w1.fh.free hq) upd_same (rgV_len ok) (notSrc_new w1.src hq) rgV_rp
end
end DL

/-! DLk: the order of data (ints, tuples of them, at any depth); min of a list of such. -/
namespace DL
open PySem PySem.Spec PyProof.Rows L2

/-! ### the order -/
mutual
/-- x < y, where it is told -/
def ltD : D → D → Option Bool
  | .int i, .int j => some (decide (i < j))
  | .tuple xs, .tuple ys => ltA xs ys
  | _, _ => none
/-- by the first pair that differs; each pair must be equal or told -/
def ltA : List D → List D → Option Bool
  | [], [] => some false
  | [], _ :: _ => some true
  | _ :: _, [] => some false
  | x :: xs, y :: ys => match ltA xs ys with
    | none => none
    | some r => if PyData.eqv x y = true then some r else ltD x y
end
theorem rc_of {op : CmpOp} {A : Around} {s : Shared} {x y : Value} {b : Bool} (h : Ob.RcOp op A s x y b) {c : Bool} (e : b = c) : Ob.RcOp op A s x y c := e ▸ h
/-- how the mirror of the pairs comes to the library's -/
theorem lexAt_ltA {xs ys : List D} {r : Bool} (h : ltA xs ys = some r) : ∀ (n i : Nat), n = min xs.length ys.length - i → i ≤ min xs.length ys.length → ltA (xs.drop i) (ys.drop i) = some (Ob.lexAt (fun j => PyData.eqv (xs.getD j .none) (ys.getD j .none)) (fun j => (ltD (xs.getD j .none) (ys.getD j .none)).getD false) (decide (xs.length < ys.length)) i n) := by
  have all : ∀ (m : Nat) (us vs : List D) (q : Bool), ltA us vs = some q → m ≤ min us.length vs.length → ∃ q', ltA (us.drop m) (vs.drop m) = some q' := by
    intro m
    induction m with
    | zero => intro us vs q h _; exact ⟨q, h⟩
    | succ m ih =>
      intro us vs q h hm
      cases us with
      | nil => simp at hm
      | cons u us =>
        cases vs with
        | nil => simp at hm
        | cons v vs =>
          unfold ltA at h
          split at h
          · cases h
          · rename_i q2 e2
            exact ih us vs q2 e2 (by simp only [List.length_cons] at hm; omega)
  intro n
  induction n with
  | zero =>
    intro i hn hi
    have hi' : i = min xs.length ys.length := by omega
    subst hi'
    rw [Ob.lexAt_zero]
    rcases Nat.lt_or_ge xs.length ys.length with hl | hl
    · have e1 : min xs.length ys.length = xs.length := by omega
      rw [e1, List.drop_eq_nil_of_le (Nat.le_refl _), decide_eq_true hl]
      have : ys.drop xs.length ≠ [] := fun z => by
        have := congrArg List.length z
        rw [List.length_drop] at this
        simp at this
        omega
      cases hy : ys.drop xs.length with
      | nil => exact absurd hy this
      | cons _ _ => rfl
    · have e1 : min xs.length ys.length = ys.length := by omega
      rw [e1, List.drop_eq_nil_of_le (Nat.le_refl ys.length), decide_eq_false (by omega)]
      cases hx : xs.drop ys.length <;> rfl
  | succ n ih =>
    intro i hn hi
    have h1 : i < xs.length := by omega
    have h2 : i < ys.length := by omega
    have step := ih (i + 1) (by omega) (by omega)
    rw [Ob.lexAt_succ]
    rw [List.drop_eq_getElem_cons h1, List.drop_eq_getElem_cons h2]
    have g1 : xs.getD i .none = xs[i] := by rw [List.getD_eq_getElem?_getD, List.getElem?_eq_getElem h1]; rfl
    have g2 : ys.getD i .none = ys[i] := by rw [List.getD_eq_getElem?_getD, List.getElem?_eq_getElem h2]; rfl
    obtain ⟨q', hq⟩ := all i xs ys r h hi
    rw [List.drop_eq_getElem_cons h1, List.drop_eq_getElem_cons h2] at hq
    unfold ltA at hq ⊢
    rw [step] at hq ⊢
    simp only [g1, g2] at hq ⊢
    by_cases he : PyData.eqv xs[i] ys[i] = true
    · simp only [he, if_true]
    · simp only [he, if_false, Bool.false_eq_true] at hq ⊢
      rw [hq]; rfl
theorem lay_get {xs : List D} (h : PyData.canLayAll0 xs = true) : ∀ (j : Nat) (d : D), xs[j]? = some d → d.canLay0 = true := by
  induction xs with
  | nil => intro j d e; simp at e
  | cons x xs ih =>
    have h' : x.canLay0 = true ∧ PyData.canLayAll0 xs = true := by simpa [PyData.canLayAll0] using h
    intro j d e
    cases j with
    | zero => simp at e; subst e; exact h'.1
    | succ j => exact ih h'.2 j d (by simpa using e)
theorem readsAll_get {h : Heap} : ∀ {vs : List Value} {ds : List D} {as : List Addr}, ReadsAll h vs ds as → ∀ (j : Nat) (d : D), ds[j]? = some d → ∃ v bs, vs[j]? = some v ∧ Reads h v d bs
  | _, _, _, .nil, j, d, e => by simp at e
  | _, _, _, .cons r t, 0, d, e => by simp at e; subst e; exact ⟨_, _, rfl, r⟩
  | _, _, _, .cons r t, j + 1, d, e => by
    obtain ⟨v, bs, h1, h2⟩ := readsAll_get t j d (by simpa using e)
    exact ⟨v, bs, by simpa using h1, h2⟩
theorem ltA_get : ∀ (xs ys : List D) (r : Bool), ltA xs ys = some r → ∀ (j : Nat) (x y : D), xs[j]? = some x → ys[j]? = some y → PyData.eqv x y = false → ∃ q, ltD x y = some q
  | [], _, _, _, j, x, y, h, _, _ => by simp at h
  | _ :: _, [], _, _, j, x, y, _, h, _ => by simp at h
  | a :: xs, b :: ys, r, e, j, x, y, h1, h2, hne => by
    unfold ltA at e
    split at e
    · cases e
    · rename_i r2 e2
      cases j with
      | zero =>
        simp at h1 h2
        subst h1 h2
        rw [hne] at e
        exact ⟨r, by simpa using e⟩
      | succ j => exact ltA_get xs ys r2 e2 j x y (by simpa using h1) (by simpa using h2) hne
mutual
theorem rc_ltD : ∀ (dx dy : D) (A : Around) (s : Shared) (x y : Value) (as bs : List Addr) (r : Bool), Reads s.heap x dx as → Reads s.heap y dy bs → dx.canLay0 = true → dy.canLay0 = true → A.units + dx.depth + 1 < cLine → ltD dx dy = some r → Ob.RcOp .Lt A s x y r
  | .int i, .int j, A, s, _, _, _, _, r, .int _ t, .int _ u, _, _, _, e => by
    simp only [ltD, Option.some.injEq] at e
    subst e
    exact Ob.RcOp.lt_int i j t u
  | .tuple xs, .tuple ys, A, s, _, _, _, _, r, .tuple h1 h2 h3 h4, .tuple k1 k2 k3 k4, c1, c2, hu, e => by
    rename_i a oa va na b ob vb nb
    simp only [ltD] at e
    simp only [PyData.depth] at hu
    have c1' : PyData.canLayAll0 xs = true := by simpa [PyData.canLay0] using c1
    have c2' : PyData.canLayAll0 ys = true := by simpa [PyData.canLay0] using c2
    have l1 : va.toList.length = xs.length := SeqAt.ReadsAll.length xs va.toList _ h4
    have l2 : vb.toList.length = ys.length := SeqAt.ReadsAll.length ys vb.toList _ k4
    have s1 : va.size = xs.length := by rw [← Array.length_toList]; exact l1
    have s2 : vb.size = ys.length := by rw [← Array.length_toList]; exact l2
    have ll := lexAt_ltA e (min xs.length ys.length) 0 (by omega) (Nat.zero_le _)
    rw [List.drop_zero, List.drop_zero, e] at ll
    have R := Ob.RcOp.tuples_lt (A := A) (s := s) (e := fun j => PyData.eqv (xs.getD j .none) (ys.getD j .none)) (r := fun j => (ltD (xs.getD j .none) (ys.getD j .none)).getD false)
      (show s.heap.IsTuple a va from ⟨oa, h1, h2, na, h3⟩) (show s.heap.IsTuple b vb from ⟨ob, k1, k2, nb, k3⟩) (by omega) (fun j j1 j2 => ?_) (fun j j1 j2 hne => ?_)
    · rw [s1, s2] at R
      exact rc_of R (Option.some.inj ll).symm
    · have q1 : xs[j]? = some (xs.getD j .none) := by rw [List.getD_eq_getElem?_getD, List.getElem?_eq_getElem (by omega : j < xs.length)]; rfl
      have q2 : ys[j]? = some (ys.getD j .none) := by rw [List.getD_eq_getElem?_getD, List.getElem?_eq_getElem (by omega : j < ys.length)]; rfl
      obtain ⟨v, as', g1, r1⟩ := readsAll_get h4 j _ q1
      obtain ⟨u, bs', g2, r2⟩ := readsAll_get k4 j _ q2
      have ev : va[j] = v := by
        rw [List.getElem?_eq_getElem (by omega : j < va.toList.length)] at g1
        simpa using Option.some.inj g1
      have eu : vb[j] = u := by
        rw [List.getElem?_eq_getElem (by omega : j < vb.toList.length)] at g2
        simpa using Option.some.inj g2
      rw [ev, eu]
      have hdep : (xs.getD j .none).depth ≤ PyData.depthAll xs := depth_get xs j _ q1
      exact SeqAt.eqAt_reads _ _ A.in1 s v u as' bs' r1 r2 (lay_get c1' j _ q1) (lay_get c2' j _ q2) (by show A.units + 1 + _ < _; omega)
    · have q1 : xs[j]? = some (xs.getD j .none) := by rw [List.getD_eq_getElem?_getD, List.getElem?_eq_getElem (by omega : j < xs.length)]; rfl
      have q2 : ys[j]? = some (ys.getD j .none) := by rw [List.getD_eq_getElem?_getD, List.getElem?_eq_getElem (by omega : j < ys.length)]; rfl
      obtain ⟨q, hq⟩ := ltA_get xs ys r e j _ _ q1 q2 hne
      have := rc_ltA xs ys A.in1 s va.toList vb.toList _ _ h4 k4 c1' c2' (by show A.units + 1 + _ + 1 < _; omega) j q (by omega) (by omega) _ _ q1 q2 hq
      refine rc_of (by simpa using this) ?_
      rw [hq]; rfl
  | .none, _, _, _, _, _, _, _, _, _, _, _, _, _, e => by simp [ltD] at e
  | .bool _, _, _, _, _, _, _, _, _, _, _, _, _, _, e => by simp [ltD] at e
  | .str _, _, _, _, _, _, _, _, _, _, _, _, _, _, e => by simp [ltD] at e
  | .list _, _, _, _, _, _, _, _, _, _, _, _, _, _, e => by simp [ltD] at e
  | .dict _, _, _, _, _, _, _, _, _, _, _, _, _, _, e => by simp [ltD] at e
  | .int _, .none, _, _, _, _, _, _, _, _, _, _, _, _, e => by simp [ltD] at e
  | .int _, .bool _, _, _, _, _, _, _, _, _, _, _, _, _, e => by simp [ltD] at e
  | .int _, .str _, _, _, _, _, _, _, _, _, _, _, _, _, e => by simp [ltD] at e
  | .int _, .list _, _, _, _, _, _, _, _, _, _, _, _, _, e => by simp [ltD] at e
  | .int _, .tuple _, _, _, _, _, _, _, _, _, _, _, _, _, e => by simp [ltD] at e
  | .int _, .dict _, _, _, _, _, _, _, _, _, _, _, _, _, e => by simp [ltD] at e
  | .tuple _, .none, _, _, _, _, _, _, _, _, _, _, _, _, e => by simp [ltD] at e
  | .tuple _, .bool _, _, _, _, _, _, _, _, _, _, _, _, _, e => by simp [ltD] at e
  | .tuple _, .str _, _, _, _, _, _, _, _, _, _, _, _, _, e => by simp [ltD] at e
  | .tuple _, .list _, _, _, _, _, _, _, _, _, _, _, _, _, e => by simp [ltD] at e
  | .tuple _, .int _, _, _, _, _, _, _, _, _, _, _, _, _, e => by simp [ltD] at e
  | .tuple _, .dict _, _, _, _, _, _, _, _, _, _, _, _, _, e => by simp [ltD] at e
theorem rc_ltA : ∀ (xs ys : List D) (A : Around) (s : Shared) (vs us : List Value) (as bs : List Addr), ReadsAll s.heap vs xs as → ReadsAll s.heap us ys bs → PyData.canLayAll0 xs = true → PyData.canLayAll0 ys = true → A.units + PyData.depthAll xs + 1 < cLine →
    ∀ (j : Nat) (r : Bool) (h1 : j < vs.length) (h2 : j < us.length) (x y : D), xs[j]? = some x → ys[j]? = some y → ltD x y = some r → Ob.RcOp .Lt A s vs[j] us[j] r
  | [], _, _, _, _, _, _, _, _, _, _, _, _, j, r, _, _, x, y, e, _, _ => by simp at e
  | _ :: _, [], _, _, _, _, _, _, _, _, _, _, _, j, r, _, _, x, y, _, e, _ => by simp at e
  | a :: xs, b :: ys, A, s, _, _, _, _, .cons r1 t1, .cons r2 t2, c1, c2, hu, j, r, h1, h2, x, y, e1, e2, e => by
    have c1' : a.canLay0 = true ∧ PyData.canLayAll0 xs = true := by simpa [PyData.canLayAll0] using c1
    have c2' : b.canLay0 = true ∧ PyData.canLayAll0 ys = true := by simpa [PyData.canLayAll0] using c2
    simp only [PyData.depthAll] at hu
    cases j with
    | zero =>
      simp at e1 e2
      subst e1 e2
      exact rc_ltD a b A s _ _ _ _ r r1 r2 c1'.1 c2'.1 (by omega) e
    | succ j => exact rc_ltA xs ys A s _ _ _ _ t1 t2 c1'.2 c2'.2 (by omega) j r (Nat.lt_of_succ_lt_succ h1) (Nat.lt_of_succ_lt_succ h2) x y (by simpa using e1) (by simpa using e2) e
theorem depth_get : ∀ (xs : List D) (j : Nat) (d : D), xs[j]? = some d → d.depth ≤ PyData.depthAll xs
  | [], j, d, e => by simp at e
  | x :: xs, 0, d, e => by simp at e; subst e; simp only [PyData.depthAll]; omega
  | x :: xs, j + 1, d, e => by
    have := depth_get xs j d (by simpa using e)
    simp only [PyData.depthAll]
    omega
end
end DL

/-! DLl: x < y of data; min of a list of data. -/
namespace DL
open PySem PySem.Spec PyProof.Rows L2

def okLt (x y : D) : Bool := SeqAt.shaped x && SeqAt.shaped y
/-- x < y: ints, tuples of ints and of tuples -/
def dLtD (x y : D) : Option D := if okLt x y = true then (ltD x y).map .bool else none
def rLtD (K : PySem.W.Frag) : R2 := fun x y H Q => ∃ d e b, Dp K H x d ∧ Dp K H y e ∧ SeqAt.shaped d = true ∧ SeqAt.shaped e = true ∧ ltD d e = some b ∧ Q (.bl b) H
theorem depth_shaped {d : D} (h : SeqAt.shaped d = true) : d.depth ≤ 64 := by
  unfold SeqAt.shaped at h
  rw [Bool.and_eq_true] at h
  exact of_decide_eq_true h.2
theorem op_ltD {X : Cx} (hu : X.A.units + 66 < cLine) : OpR X (compareOp .Lt) (rLtD X.K) := by
  intro pins s σ H x y v u Q I rx ry h
  obtain ⟨d, e, b, hd, he, sd, se, hl, q⟩ := h
  obtain ⟨as, r1⟩ := Dp.reads I d x v hd rx
  obtain ⟨bs, r2⟩ := Dp.reads I e y u he ry
  have hdep := depth_shaped sd
  have R := rc_ltD d e X.A s v u as bs b r1 r2 (SeqAt.canLay_of_shaped sd) (SeqAt.canLay_of_shaped se) (by omega) hl
  have z : wpAny (model X.prog X.w) X.A (compareOp .Lt v u) (EP X pins σ Q) X.xe s := R X.prog X.w X.xe (EP X pins σ Q) ⟨.bl _, H, I, rfl, q⟩
  exact z
theorem op2_ltD {K : PySem.W.Frag} : Op2 (rLtD K) dLtD := by
  intro x y dx dy d F H Q e s rx ry k
  unfold dLtD at e
  split at e
  · rename_i h
    unfold okLt at h
    rw [Bool.and_eq_true] at h
    obtain ⟨b, hb, rfl⟩ := Option.map_eq_some_iff.mp e
    exact ⟨dx, dy, b, Rp.dp _ _ (lay_of h.1) (Rp.mono s _ _ rx), Rp.dp _ _ (lay_of h.2) (Rp.mono s _ _ ry), h.1, h.2, hb, k F H _ (.refl s) (.bl _)⟩
  · cases e
section
variable {X : Cx} {a b : Expr} {f g : M D} {pos : Pos}
theorem de_ltD (hu : X.A.units + 66 < cLine) (ha : DE X a f) (hb : DE X b g) : DE X (.Compare a [.Lt] [b] pos) (mOp2 dLtD f g) := de_cmp (op_ltD hu) op2_ltD ha hb (nomark _)
theorem dt_ltD (hu : X.A.units + 66 < cLine) (ha : DE X a f) (hb : DE X b g) : DT X (.Compare a [.Lt] [b] pos) (mBool (mOp2 dLtD f g)) := dt_cmp (op_ltD hu) op2_ltD ha hb (nomark _)
end

/-! ### min's loop, the items compared where a base stands -/
/-- comparing the i-th with the j-th gives bt, wherever what stood in g outside ws stands -/
def CmpIn (prog : Program) (w : World) (A : Around) (op : CmpOp) (g : Heap) (ws : List Addr) (P : Nat → Value → Prop) (bt : Nat → Nat → Bool) : Prop :=
  ∀ (i j : Nat) (vi vj : Value) (s : Shared) (Q : Value → Shared → Prop) (E : Value → Shared → Prop), P i vi → P j vj → (∀ b o, b ∉ ws → g.get? b = some o → s.heap.get? b = some o) → Q (.bool (bt i j)) s → wpAny (model prog w) A (richCompare op vi vj) Q E s
section
variable {prog : Program} {w : World} {A : Around} {R : Result → Shared → Prop} {I S : Addr} {fp wr : List Addr} {n : Nat} {P : Nat → Value → Prop} {St : Nat → Heap → Prop} {g : Heap}
theorem minloop_name : (toString "min" ++ toString ".loop" : String) = "min.loop" := by decide
theorem min_loopIn (W : Walks prog w A.in1 I fp wr n P St) (bt : Nat → Nat → Bool) (cmp : CmpIn prog w A.in1 .Lt g (S :: wr) P bt) (nS : S ∉ fp) :
    ∀ (k j : Nat) (s : Shared) (vb : Value) (c : Nat), n - (j + 1) = k → j + 1 ≤ n → St (j + 1) s.heap → P (argBest bt j) vb → (∀ b o, b ∉ S :: wr → g.get? b = some o → s.heap.get? b = some o) →
    s.heap.get? S = some { cls := .type "list", dict := none, data := .seq #[vb, vb] c, slots := #[] } →
    (∀ v h' tk, P (argBest bt (n - 1)) v → (∀ b o, b ∉ S :: wr → s.heap.get? b = some o → h'.get? b = some o) → R (.ok (.ret v)) { s with heap := h', toks := tk }) →
    codeAny (model prog w) A (.builtin "min.loop" ⟨[.ref I, .none, .ref S], []⟩) R s := by
  have nw : S ∉ wr := fun z => nS (W.sub S z)
  have apart : ∀ {b : Addr}, b ∉ S :: wr → b ≠ S ∧ b ∉ wr := fun h => ⟨fun e => h (e ▸ List.mem_cons_self), fun e => h (List.mem_cons_of_mem _ e)⟩
  intro k
  induction k with
  | zero =>
    intro j s vb c hk hj hst hPb hg hS hR
    have hn : j + 1 = n := by omega
    refine codeAny_builtin F.entry_min_loop (by rw [Around.under_plainId F.plain_min_loop _]; show wpAny _ A.in1 (seqItems? (.ref S) >>= _) _ _ s; exact wpAny_bind (wpAny_seqItems hS rfl (by
      show wpAny _ A.in1 (tryCatch (pyNext (.ref I)) _ >>= _) _ _ s
      exact wpAny_bind (wpAny_tryCatch (W.done s _ _ (hn ▸ hst) fun h' tk hk' => (by
        show wpAny _ A.in1 (updateSeq S (fun _ => #[]) >>= _) _ _ _
        exact wpAny_bind (wpAny_updateSeq (hk' S _ nw hS) rfl (wpAny_bind (wpAny_letGo (wpAny_pure (hR vb _ tk (by rw [← hn]; exact hPb) fun b o hb e => (Heap.get?_update_other _ _ (Ne.symm (apart hb).1)).trans (hk' b o (apart hb).2 e))))))))))))
  | succ k ih =>
    intro j s vb c hk hj hst hPb hg hS hR
    have hlt : j + 1 < n := by omega
    refine codeAny_builtin F.entry_min_loop ?_; rw [Around.under_plainId F.plain_min_loop _]; show wpAny _ A.in1 (seqItems? (.ref S) >>= _) _ _ s; refine wpAny_bind (wpAny_seqItems (s := s) hS rfl ?_)
    show wpAny _ A.in1 (tryCatch (pyNext (.ref I)) _ >>= _) _ _ s
    refine wpAny_bind (wpAny_tryCatch (W.item (j + 1) s _ _ hlt hst fun v h' tk hP st' kp => ?_))
    have hS2 := kp S _ nw hS
    have hg2 : ∀ b o, b ∉ S :: wr → g.get? b = some o → h'.get? b = some o := fun b o hb e => kp b o (apart hb).2 (hg b o hb e)
    show wpAny _ A.in1 (tryCatch (holding [v, v] (richCompare .Lt v vb >>= _)) _ >>= _) _ _ _
    refine wpAny_bind (wpAny_tryCatch (wpAny_holding (wpAny_bind (cmp (j + 1) (argBest bt j) v vb { s with heap := h', toks := tk } _ _ hP hPb hg2 (wpAny_bind (wpAny_holding (wpAny_truthy_bool (wpAny_bind (wpAny_letGo (wpAny_pure ?_))))))))))
    cases hb : bt (j + 1) (argBest bt j) with
    | true =>
      simp only [if_true]
      refine wpAny_bind (wpAny_updateSeq hS2 rfl (wpAny_bind (wpAny_letGo ?_)))
      rw [minloop_name]
      refine wpAny_pure ⟨plainId_quiet F.plain_min_loop _, ih (j + 1) _ v _ (by omega) hlt (W.frame _ _ _ st' fun b hbf o e => (Heap.get?_update_other _ _ (fun z : S = b => nS (z ▸ hbf))).trans e) (by simp only [argBest, hb, if_true]; exact hP) (fun b o hb e => (Heap.get?_update_other _ _ (Ne.symm (apart hb).1)).trans (hg2 b o hb e)) (Heap.get?_update_self _ hS2 rfl) fun v' h2 tk2 hP' kp2 => ?_⟩
      exact hR v' h2 tk2 hP' fun b o hb e => kp2 b o hb ((Heap.get?_update_other _ _ (Ne.symm (apart hb).1)).trans (kp b o (apart hb).2 e))
    | false =>
      simp only [Bool.false_eq_true, if_false]
      refine wpAny_bind (wpAny_letGo ?_)
      rw [minloop_name]
      refine wpAny_pure ⟨plainId_quiet F.plain_min_loop _, ih (j + 1) _ vb c (by omega) hlt st' (by simp only [argBest, hb, Bool.false_eq_true, if_false]; exact hPb) hg2 hS2 fun v' h2 tk2 hP' kp2 => ?_⟩
      exact hR v' h2 tk2 hP' fun b o hb e => kp2 b o hb (kp b o (apart hb).2 e)
theorem min_firstIn (W : Walks prog w A.in1 I fp wr n P St) (bt : Nat → Nat → Bool) (cmp : CmpIn prog w A.in1 .Lt g (S :: wr) P bt) (nS : S ∉ fp) (hn : 0 < n) {s : Shared} {c : Nat} (hst : St 0 s.heap)
    (hg : ∀ b o, b ∉ S :: wr → g.get? b = some o → s.heap.get? b = some o)
    (hS : s.heap.get? S = some { cls := .type "list", dict := none, data := .seq #[] c, slots := #[] })
    (hR : ∀ v h' tk, P (argBest bt (n - 1)) v → (∀ b o, b ∉ S :: wr → s.heap.get? b = some o → h'.get? b = some o) → R (.ok (.ret v)) { s with heap := h', toks := tk }) :
    codeAny (model prog w) A (.builtin "min.loop" ⟨[.ref I, .none, .ref S], []⟩) R s := by
  have nw : S ∉ wr := fun z => nS (W.sub S z)
  have apart : ∀ {b : Addr}, b ∉ S :: wr → b ≠ S ∧ b ∉ wr := fun h => ⟨fun e => h (e ▸ List.mem_cons_self), fun e => h (List.mem_cons_of_mem _ e)⟩
  refine codeAny_builtin F.entry_min_loop ?_; rw [Around.under_plainId F.plain_min_loop _]; show wpAny _ A.in1 (seqItems? (.ref S) >>= _) _ _ s; refine wpAny_bind (wpAny_seqItems (s := s) hS rfl ?_)
  show wpAny _ A.in1 (tryCatch (pyNext (.ref I)) _ >>= _) _ _ s
  refine wpAny_bind (wpAny_tryCatch (W.item 0 s _ _ hn hst fun v h' tk hP st' kp => ?_))
  have hS2 := kp S _ nw hS
  show wpAny _ A.in1 (updateSeq S (fun _ => #[v, v]) >>= _) _ _ _
  refine wpAny_bind (wpAny_updateSeq hS2 rfl ?_)
  rw [minloop_name]
  refine wpAny_pure ⟨plainId_quiet F.plain_min_loop _, min_loopIn W bt cmp nS _ 0 _ v _ rfl hn (W.frame _ _ _ st' fun b hbf o e => (Heap.get?_update_other _ _ (fun z : S = b => nS (z ▸ hbf))).trans e) hP (fun b o hb e => (Heap.get?_update_other _ _ (Ne.symm (apart hb).1)).trans (kp b o (apart hb).2 (hg b o hb e))) (Heap.get?_update_self _ hS2 rfl) fun v' h2 tk2 hP' kp2 => ?_⟩
  exact hR v' h2 tk2 hP' fun b o hb e => kp2 b o hb ((Heap.get?_update_other _ _ (Ne.symm (apart hb).1)).trans (kp b o (apart hb).2 e))
end
/-- min of a list -/
theorem call_minIn {prog : Program} {w : World} {A : Around} {E : Value → Shared → Prop} {s : Shared} {l : Addr} {its : Array Value} {bt : Nat → Nat → Bool} {Q : Value → Shared → Prop} (hh : A.handled = none) (hl : s.heap.IsList l its) (hn : 0 < its.size)
    (cmp : ∀ ws : List Addr, (∀ b ∈ ws, s.heap.objs.size ≤ b) → CmpIn prog w A.in1 .Lt s.heap ws (fun i v => its[i]? = some v) bt)
    (hQ : ∀ v h' tk, its[argBest bt (its.size - 1)]? = some v → (∀ b o, s.heap.get? b = some o → h'.get? b = some o) → Q v { s with heap := h', toks := tk }) :
    wpAny (model prog w) A (call (.builtin "min") [.ref l]) Q E s := by
  refine call_function_tree F.kind_min F.plain_min F.entry_min (F.args_min1 _) ?_
  show wpAny _ A.in1 (Builtin.Builtins.bindParams "min" ["key", "default"] 0 ⟨[], []⟩ >>= _) _ _ s
  refine wpAny_bind (wpAny_of_eq (show Builtin.Builtins.bindParams "min" ["key", "default"] 0 ⟨[], []⟩ = pure [none, none] from rfl) (wpAny_bind (wpAny_pure (wpAny_bind ?_))))
  refine iter_any hl fun s2 e2 st hne => ?_
  subst e2
  refine wpAny_bind (wpAny_newObj_type ?_)
  have hlt : l < s.heap.objs.size := by obtain ⟨_, e, _⟩ := hl; exact Heap.lt_size e
  generalize hI : s.heap.objs.size = I0 at *
  have hSsz : (s.heap.push { cls := .type "list_iterator", data := .fields #[.ref l, .int 0 0] }).objs.size = I0 + 1 := by rw [Heap.size_push, hI]
  have W := Walks.list (prog := prog) (w := w) (A := A.in1) hh I0 l hne its
  rw [minloop_name]
  have kp0 : ∀ b o, s.heap.get? b = some o → ((s.heap.push { cls := .type "list_iterator", data := .fields #[.ref l, .int 0 0] }).push { cls := .type "list", data := .seq #[] }).get? b = some o := fun b o e => Heap.get?_push_of_some _ (Heap.get?_push_of_some _ e)
  refine wpAny_pure ⟨plainId_quiet F.plain_min_loop _, min_firstIn (g := s.heap) W bt (cmp _ fun b hb => ?_) (show _ ∉ [I0, l] from ?_) hn (W.frame 0 _ _ st fun b _ o e => Heap.get?_push_of_some _ e) (fun b o _ e => kp0 b o e) (Heap.get?_push_size _ rfl) fun v h' tk hP kp => ?_⟩
  · rcases List.mem_cons.mp hb with z | z
    · rw [z]; show I0 ≤ (s.heap.push { cls := .type "list_iterator", data := .fields #[.ref l, .int 0 0] }).objs.size; rw [hSsz]; exact Nat.le_succ _
    · rw [List.mem_singleton.mp z]; exact Nat.le_refl _
  · show (s.heap.push { cls := .type "list_iterator", data := .fields #[.ref l, .int 0 0] }).objs.size ∉ [I0, l]
    rw [hSsz]
    intro z
    rcases List.mem_cons.mp z with z | z
    · exact absurd z (Nat.succ_ne_self _)
    · have z2 : (I0 + 1 : Nat) = l := List.mem_singleton.mp z
      rw [← z2] at hlt; exact absurd hlt (Nat.not_lt_of_le (Nat.le_succ I0))
  · refine hQ v h' tk hP fun b o e => kp b o (fun z => ?_) (kp0 b o e)
    have hb : b < I0 := by rw [← hI]; exact Heap.lt_size e
    rcases List.mem_cons.mp z with z | z
    · have z2 : b = (s.heap.push { cls := .type "list_iterator", data := .fields #[.ref l, .int 0 0] }).objs.size := z
      rw [z2, hSsz] at hb; exact absurd hb (Nat.not_lt_of_le (Nat.le_succ I0))
    · rw [List.mem_singleton.mp z] at hb; exact absurd hb (Nat.lt_irrefl _)
/-- the least of a list of data, by its own order: the first such -/
def minGo : D → List D → Option D
  | m, [] => some m
  | m, x :: xs => match ltD x m with
    | some true => minGo x xs
    | some false => minGo m xs
    | none => none
/-- each pair must be told -/
def allLt (xs : List D) : Bool := xs.all fun x => xs.all fun y => (ltD x y).isSome
def dMinD : List D → Option D
  | [.list (x :: xs)] => if SeqAt.shaped (.list (x :: xs)) && allLt (x :: xs) then minGo x xs else none
  | _ => none
def rMinD (K : PySem.W.Frag) : List V → Hp → VK → Prop := fun vs H Q => ∃ (a : Addr) (xs : List V) (ds : List D) (m : D), vs = [.ref a] ∧ SqL K H a xs ∧ DpAll K H xs ds ∧ SeqAt.shaped (.list ds) = true ∧ allLt ds = true ∧ (∃ x r, ds = x :: r ∧ minGo x r = some m) ∧
  ∀ (i : Nat) (v : V), xs[i]? = some v → ds[i]? = some m → Q v H
theorem minGo_arg {ds : List D} (bt : Nat → Nat → Bool) (hbt : ∀ i j x y, ds[i]? = some x → ds[j]? = some y → ltD x y = some (bt i j)) : ∀ (n k : Nat) (m r : D), ds.length = k + 1 + n → ds[argBest bt k]? = some m → minGo m (ds.drop (k + 1)) = some r → ds[argBest bt (k + n)]? = some r := by
  intro n
  induction n with
  | zero =>
    intro k m r hl hm h
    rw [List.drop_eq_nil_of_le (by omega)] at h
    cases h
    exact hm
  | succ n ih =>
    intro k m r hl hm h
    have hk : k + 1 < ds.length := by omega
    rw [List.drop_eq_getElem_cons hk] at h
    have hx : ds[k + 1]? = some ds[k + 1] := List.getElem?_eq_getElem hk
    have hlt := hbt (k + 1) (argBest bt k) _ _ hx hm
    unfold minGo at h
    rw [hlt] at h
    rw [show k + (n + 1) = (k + 1) + n by omega]
    cases hb : bt (k + 1) (argBest bt k) with
    | true =>
      rw [hb] at h
      exact ih (k + 1) _ r (by omega) (by simp only [argBest, hb, if_true]; exact hx) h
    | false =>
      rw [hb] at h
      exact ih (k + 1) m r (by omega) (by simp only [argBest, hb, Bool.false_eq_true, if_false]; exact hm) h
theorem allLt_get {ds : List D} (h : allLt ds = true) {i j : Nat} {x y : D} (h1 : ds[i]? = some x) (h2 : ds[j]? = some y) : ∃ b, ltD x y = some b := by
  unfold allLt at h
  rw [List.all_eq_true] at h
  have := h x (List.mem_of_getElem? h1)
  rw [List.all_eq_true] at this
  exact Option.isSome_iff_exists.mp (this y (List.mem_of_getElem? h2))
theorem dpAll_lay {ds : List D} (h : SeqAt.shaped (.list ds) = true) : PyData.canLayAll0 ds = true := by
  have := SeqAt.canLay_of_shaped h
  simpa [PyData.canLay0] using this
theorem cr_minD {X : Cx} (hc : X.calm = true) (hu : X.A.units + 70 < cLine) : CallR X (.builtin "min") (rMinD X.K) := by
  intro pins s σ H vs us Q I r h
  obtain ⟨a, xs, ds, m, rfl, hs, hd, sd, hall, ⟨x0, r0, rfl, hmin⟩, q⟩ := h
  obtain ⟨its, rv, pl, hz⟩ := I.list hs
  rw [Vals.ref1 r]
  obtain ⟨as, hreads⟩ := Dp.readsAll I _ xs its hd rv
  have hlay := dpAll_lay sd
  have hdep := depth_shaped sd
  simp only [PyData.depth] at hdep
  have hn : its.length = (x0 :: r0).length := SeqAt.ReadsAll.length _ its as hreads
  let ds := x0 :: r0
  let bt : Nat → Nat → Bool := fun i j => (ltD (ds.getD i .none) (ds.getD j .none)).getD false
  have hbt : ∀ i j x y, ds[i]? = some x → ds[j]? = some y → ltD x y = some (bt i j) := by
    intro i j x y h1 h2
    obtain ⟨b, hb⟩ := allLt_get hall h1 h2
    have e : bt i j = b := by
      show (ltD (ds.getD i .none) (ds.getD j .none)).getD false = b
      rw [List.getD_eq_getElem?_getD, List.getD_eq_getElem?_getD, h1, h2]
      show (ltD x y).getD false = b
      rw [hb]; rfl
    rw [e]; exact hb
  have hsz : its.toArray.size = r0.length + 1 := by rw [List.size_toArray, hn]; rfl
  refine call_minIn (bt := bt) (I.ok.hd hc) pl.isList (by rw [hsz]; omega) (fun ws hws => ?_) fun v h' tk hv hk => ?_
  · intro i j vi vj s' Q' E' hi hj keep hq
    have keep' : ∀ b o, s.heap.get? b = some o → s'.heap.get? b = some o := fun b o e => keep b o (fun hm => absurd (Heap.lt_size e) (Nat.not_lt_of_le (hws b hm))) e
    have hi' : its[i]? = some vi := by simpa using hi
    have hj' : its[j]? = some vj := by simpa using hj
    have li := (List.getElem?_eq_some_iff.mp hi').1
    have lj := (List.getElem?_eq_some_iff.mp hj').1
    have di : ds[i]? = some (ds[i]'(by rw [← hn]; exact li)) := List.getElem?_eq_getElem _
    have dj : ds[j]? = some (ds[j]'(by rw [← hn]; exact lj)) := List.getElem?_eq_getElem _
    obtain ⟨v1, b1, g1, r1⟩ := readsAll_get hreads i _ di
    obtain ⟨v2, b2, g2, r2⟩ := readsAll_get hreads j _ dj
    rw [hi'] at g1
    rw [hj'] at g2
    cases g1
    cases g2
    have d1 : _ ≤ PyData.depthAll (x0 :: r0) := depth_get ds i _ di
    have R := rc_ltD _ _ X.A.in1 s' _ _ b1 b2 (bt i j) (Reads.keeps keep' r1) (Reads.keeps keep' r2) (lay_get hlay i _ di) (lay_get hlay j _ dj) (by show X.A.units + 1 + _ + 1 < _; omega) (hbt i j _ _ di dj)
    exact R X.prog X.w E' Q' hq
  · have hm := minGo_arg bt hbt r0.length 0 x0 m (show (x0 :: r0).length = 0 + 1 + r0.length by simp; omega) rfl hmin
    rw [hsz] at hv
    rw [Nat.zero_add] at hm
    have hv' : its[argBest bt r0.length]? = some v := by simpa using hv
    have lx : argBest bt r0.length < xs.length := by
      rw [rv.length]; exact (List.getElem?_eq_some_iff.mp hv').1
    have gx : xs[argBest bt r0.length]? = some xs[argBest bt r0.length] := List.getElem?_eq_getElem lx
    obtain ⟨u, hu', ru⟩ := rv.get gx
    rw [hv'] at hu'
    cases hu'
    exact ⟨_, H, I.kept hk, ru, q _ _ gx hm⟩
theorem opl_minD {K : PySem.W.Frag} : OpL (rMinD K) dMinD := by
  intro x dx d F H Q e s rx k
  unfold dMinD at e
  split at e
  · rename_i y ys
    split at e
    · rename_i ok
      rw [Bool.and_eq_true] at ok
      obtain ⟨v, rfl, r1⟩ := rpA_one rx
      cases r1 with
      | @lst pa vs _ h1 h2 h3 =>
        exact ⟨pa, vs, y :: ys, d, rfl, .of (s _ _ h1), RpA.dp _ _ (dpAll_lay ok.1) (RpA.mono s _ _ h3), ok.1, ok.2, ⟨y, ys, rfl, e⟩, fun i v hv hd => by
          obtain ⟨d', hd', rd⟩ := h3.get' hv
          rw [hd] at hd'
          cases hd'
          exact k F H v (.refl s) rd⟩
    · cases e
  · cases e
section
variable {X : Cx} {e : Expr} {g : M (List D)} {p pos : Pos}
theorem de_minD (hc : X.calm = true) (hu : X.A.units + 70 < cLine) (hg : Gl X "min") (hm : X.mg "min" = none) (ha : DA X [e] g) (he : starEach [e] X.env = (false, eval e X.env) :: starEach [] X.env := by rfl) : DE X (.Call (.Name "min" p) [e] [] pos) (mOpL dMinD g) :=
  de_callB (cr_minD hc hu) opl_minD hg hm (by decide +kernel) ha (by decide) (by decide) he rfl
end
end DL

/-! DLm: comprehensions with two clauses; sorted; repr. -/
namespace DL
open PySem PySem.Spec PyProof.Rows L2

/-! ### two clauses -/
def compGo2 (b : Tgt) (tt : M Bool) (f1 : M (List D)) (vs1 : List Nat) (b1 : Tgt) (tt1 : M Bool) (te : M D) (η : EnvD) : List D → Src → Option (List D × Src)
  | [], τ => some ([], τ)
  | d :: ds, τ => match bindT b d with
    | none => none
    | some as => match tt (setD η as) τ with
      | none => none
      | some (false, τ1) => compGo2 b tt f1 vs1 b1 tt1 te η ds τ1
      | some (true, τ1) => match f1 (setD η as) τ1 with
        | none => none
        | some (es, τ2) => match compGo b1 tt1 te (wipeD (setD η as) vs1) es τ2 with
          | none => none
          | some (ys, τ3) => match compGo2 b tt f1 vs1 b1 tt1 te η ds τ3 with
            | none => none
            | some (zs, τ4) => some (ys ++ zs, τ4)
def mComp2 (fi : M (List D)) (vs : List Nat) (b : Tgt) (tt : M Bool) (f1 : M (List D)) (vs1 : List Nat) (b1 : Tgt) (tt1 : M Bool) (te : M D) : M (List D) := mBind fi fun ds => mBind (fun η τ => compGo2 b tt f1 vs1 b1 tt1 te (wipeD η vs) ds τ) fun d => mLift (okLen d)
/-- the new list at L while the comprehension runs -/
structure Acc (F1 H1 : Hp) (sa : SA) (L : Addr) (F2 Hc : Hp) (acc : List V) (done : List D) : Prop where
  ext : Ext sa F1 H1 F2 Hc
  fh : Same F2 Hc
  at_ : Hc L = some (.lst acc)
  nF : F2 L = none
  rp : RpA F2 acc done
theorem Acc.go {F1 H1 : Hp} {sa : SA} {L : Addr} {F2 Hc F3 H3 : Hp} {acc : List V} {done : List D} (a : Acc F1 H1 sa L F2 Hc acc done) (nD : NotSrc sa L) (x : Ext sa F2 Hc F3 H3) (s : Same F3 H3) : Acc F1 H1 sa L F3 H3 acc done :=
  ⟨a.ext.trans x, s, x.hh _ _ a.at_ nD, x.nf L a.nF (nn_of a.at_), RpA.mono x.ff _ _ a.rp⟩
theorem Acc.put {F1 H1 : Hp} {sa : SA} {L : Addr} {F2 Hc : Hp} {acc : List V} {done : List D} {v : V} {d : D} (a : Acc F1 H1 sa L F2 Hc acc done) (hL : H1 L = none) (r : Rp F2 v d) : Acc F1 H1 sa L F2 (upd Hc L (.lst (acc ++ [v]))) (acc ++ [v]) (done ++ [d]) :=
  ⟨⟨a.ext.ff, fun c o e n => by rw [upd_ne (ne_of_none e hL)]; exact a.ext.hh c o e n, fun c e => by
    by_cases hc : c = L
    · rw [hc, upd_same]; simp
    · rw [upd_ne hc]; exact a.ext.nn c e, a.ext.nf⟩, fun c o e => by rw [upd_ne (ne_of_none e a.nF)]; exact a.fh c o e, upd_same, a.nF, a.rp.append (.cons r .nil)⟩
theorem SrcOk.put {F H : Hp} {sa : SA} {τ : Src} {L : Addr} {o : HO} (k : SrcOk sa F H τ) (n : NotSrc sa L) : SrcOk sa F (upd H L o) τ := fun i p c e => by
  obtain ⟨h1, h2, h3, h4, h5⟩ := k i p c e
  obtain ⟨n1, n2⟩ := n i p c e
  exact ⟨by rw [upd_ne (Ne.symm n1)]; exact h1, by rw [upd_ne (Ne.symm n2)]; exact h2, h3, h4, h5⟩
theorem tLc2_of {fi : M (List D)} {vs : List Nat} {b : Tgt} {tt : M Bool} {f1 : M (List D)} {vs1 : List Nat} {b1 : Tgt} {tt1 : M Bool} {te : M D} (hv : ∀ i ∈ vs, 2 ≤ i) (hb : ∀ i ∈ tgtSlots b, i ∈ vs) (hv1 : ∀ i ∈ vs1, i ∈ vs) (hb1 : ∀ i ∈ tgtSlots b1, i ∈ vs1) :
    ∀ σ H Q, tN (mComp2 fi vs b tt f1 vs1 b1 tt1 te) σ H Q → tLc2 (tI fi) (tG b) (tT tt) (tI f1) (tG b1) (tT tt1) (tE te) vs vs1 σ H Q := by
  rintro σ H Q ⟨F, sa, η0, τ, d, τ', w0, e, k⟩
  obtain ⟨ds, τ1, e1, e2⟩ := mBind_some e
  obtain ⟨d', τz, e2, ez⟩ := mBind_some e2
  obtain ⟨ey, rfl⟩ := mLift_some ez
  obtain ⟨rfl, hdl⟩ := okLen_some ey
  refine ⟨F, sa, η0, τ, ds, τ1, w0, e1, fun F1 H1 J x1 w1 it L hD => ?_⟩
  obtain ⟨_, G, Y, W, hG, hY⟩ := it
  have hD0 : H L = none := by
    cases z : H L with
    | none => rfl
    | some o => exact absurd hD (x1.nn L (nn_of z))
  have nD : NotSrc sa L := notSrc_new w1.src hD
  have W0 : View F1 sa (wipe σ vs) H1 (wipeD η0 vs) τ1 := w1.wiped hv
  -- the outer word
  let Pv : Nat → Hp → Prop := fun i Hc => ∃ F2 τi acc done rest, Acc F1 H1 sa L F2 Hc acc done ∧ View F2 sa (wipe σ vs) Hc (wipeD η0 vs) τi ∧ compGo2 b tt f1 vs1 b1 tt1 te (wipeD η0 vs) (ds.drop i) τi = some (rest, τ') ∧ d = done ++ rest
  refine ⟨fun i m Hc => m = ds.length - i ∧ i ≤ ds.length ∧ Pv i Hc, ⟨ds.length, by simp, Nat.zero_le _, ?_⟩, ?_⟩
  · have gr := Grow.own w1.fh hD (.lst [])
    exact ⟨F1, τ1, [], [], d, ⟨gr.ext, gr.fh, upd_same, w1.fh.free hD, .nil⟩, W0.grow gr, e2, rfl⟩
  rintro i m Hc ⟨rfl, hi, F2, τi, acc, done, rest, A, w2, hgo, hd⟩
  have hGi : G Hc := hG Hc (A.ext.ff.trans w2.fh)
  by_cases hlt : i < ds.length
  · refine .inr ⟨W.goes i Hc hlt hGi, Pv (i + 1), fun H' p' => ⟨ds.length - (i + 1), by omega, rfl, hlt, p'⟩, fun x H' y => ?_⟩
    obtain ⟨F3, dd, hdd, gr, rx⟩ := hY i Hc x H' F2 hlt A.ext.ff w2.fh (W.yields i Hc x H' hlt hGi y)
    have hdrop : ds.drop i = dd :: ds.drop (i + 1) := by
      obtain ⟨hi', hz⟩ := List.getElem?_eq_some_iff.mp hdd
      rw [List.drop_eq_getElem_cons hi', hz]
    rw [hdrop] at hgo
    unfold compGo2 at hgo
    split at hgo
    · cases hgo
    rename_i as hbs
    have w3 := w2.grow gr
    have A3 := A.go nD gr.ext gr.fh
    have s2 : ∀ a ∈ as, 2 ≤ a.1 := fun a ha => hv _ (hb _ (mem_slots hbs ha))
    refine ⟨F3, dd, as, gr.fh, rx, hbs, fun ws hw => ⟨?_, ?_⟩⟩
    · rw [wipe_setV ws _ fun y hy => ?_, wipe_wipe fun u hu => hu]
      have : y.1 ∈ as.map (·.1) := by rw [← hw.slots]; exact List.mem_map_of_mem hy
      rw [bindT_slots b dd as hbs] at this
      exact hb _ this
    have wv : View F3 sa (setV (wipe σ vs) ws) H' (setD (wipeD η0 vs) as) τi := View.sets hw w3 s2
    split at hgo
    · cases hgo
    · rename_i τ2 ht
      refine tT.go wv ht fun F4 H4 x4 w4 => iteF ?_
      exact ⟨F4, τ2, acc, done, rest, A3.go nD x4 w4.fh, w3.back x4.ff w4.fh w4.src w4.flag, hgo, hd⟩
    · rename_i τ2 ht
      refine tT.go wv ht fun F4 H4 x4 w4 => iteT ?_
      split at hgo
      · cases hgo
      rename_i es τ3 hf
      split at hgo
      · cases hgo
      rename_i ys τ4 hinner
      split at hgo
      · cases hgo
      rename_i zs τ5 hrest
      cases hgo
      refine ⟨F4, sa, _, τ2, es, τ3, w4, hf, fun F5 H5 J1 x5 w5 it1 => ?_⟩
      have A5 := (A3.go nD x4 w4.fh).go nD x5 w5.fh
      obtain ⟨_, G1, Y1, W1, hG1, hY1⟩ := it1
      have wv5 : View F5 sa (setV (wipe σ vs) ws) H5 (setD (wipeD η0 vs) as) τ3 := w5
      have ww : View F5 sa (wipe (setV (wipe σ vs) ws) vs1) H5 (wipeD (setD (wipeD η0 vs) as) vs1) τ3 := wv5.wiped fun i hi => hv i (hv1 i hi)
      let Pw : Nat → Hp → Prop := fun j Hk => ∃ F6 τj acc2 part rest2, Acc F1 H1 sa L F6 Hk acc2 (done ++ part) ∧ Same F5 F6 ∧ View F6 sa (wipe (setV (wipe σ vs) ws) vs1) Hk (wipeD (setD (wipeD η0 vs) as) vs1) τj ∧
        compGo b1 tt1 te (wipeD (setD (wipeD η0 vs) as) vs1) (es.drop j) τj = some (rest2, τ4) ∧ ys = part ++ rest2
      refine ⟨fun j m Hk => m = es.length - j ∧ j ≤ es.length ∧ Pw j Hk, ⟨es.length, by simp, Nat.zero_le _, F5, τ3, acc, [], ys, by rw [List.append_nil]; exact A5, Same.refl _, ww, hinner, rfl⟩, ?_⟩
      rintro j m Hk ⟨rfl, hj, F6, τj, acc2, part, rest2, A6, x6, w6, hgo2, hys⟩
      have hGj : G1 Hk := hG1 Hk (x6.trans w6.fh)
      by_cases hlt2 : j < es.length
      · refine .inr ⟨W1.goes j Hk hlt2 hGj, Pw (j + 1), fun H' p' => ⟨es.length - (j + 1), by omega, rfl, hlt2, p'⟩, fun x H' y => ?_⟩
        obtain ⟨F7, de, hde, gr2, rx2⟩ := hY1 j Hk x H' F6 hlt2 x6 w6.fh (W1.yields j Hk x H' hlt2 hGj y)
        have hdrop2 : es.drop j = de :: es.drop (j + 1) := by
          obtain ⟨hi', hz⟩ := List.getElem?_eq_some_iff.mp hde
          rw [List.drop_eq_getElem_cons hi', hz]
        rw [hdrop2] at hgo2
        unfold compGo at hgo2
        split at hgo2
        · cases hgo2
        rename_i as1 hbs1
        have w7 := w6.grow gr2
        have A7 := A6.go nD gr2.ext gr2.fh
        have s3 : ∀ a ∈ as1, 2 ≤ a.1 := fun a ha => hv _ (hv1 _ (hb1 _ (mem_slots hbs1 ha)))
        refine ⟨F7, de, as1, gr2.fh, rx2, hbs1, fun ws1 hw1 => ⟨?_, ?_⟩⟩
        · rw [wipe_setV ws1 _ fun y hy => ?_, wipe_wipe fun u hu => hu]
          have : y.1 ∈ as1.map (·.1) := by rw [← hw1.slots]; exact List.mem_map_of_mem hy
          rw [bindT_slots b1 de as1 hbs1] at this
          exact hb1 _ this
        have wv7 : View F7 sa (setV (wipe (setV (wipe σ vs) ws) vs1) ws1) H' (setD (wipeD (setD (wipeD η0 vs) as) vs1) as1) τj := View.sets hw1 w7 s3
        split at hgo2
        · cases hgo2
        · rename_i τ6 ht6
          refine tT.go wv7 ht6 fun F8 H8 x8 w8 => iteF ?_
          exact ⟨F8, τ6, acc2, part, rest2, A7.go nD x8 w8.fh, x6.trans (gr2.ff.trans x8.ff), w7.back x8.ff w8.fh w8.src w8.flag, hgo2, hys⟩
        · rename_i τ6 ht6
          split at hgo2
          · cases hgo2
          rename_i yy τ7 hte
          split at hgo2
          · cases hgo2
          rename_i rr τ8 hrr
          cases hgo2
          refine tT.go wv7 ht6 fun F8 H8 x8 w8 => iteT (tE.go w8 hte fun F9 H9 v x9 w9 r9 => ?_)
          have A9 := (A7.go nD x8 w8.fh).go nD x9 w9.fh
          have al : acc2.length < sizeLine := by
            have := A6.rp.length
            rw [hd, hys] at hdl
            simp only [List.length_append, List.length_cons] at hdl this
            omega
          have Ap := A9.put hD r9
          refine ⟨acc2, A9.at_, al, F9, τ7, acc2 ++ [v], part ++ [yy], rr, by rw [← List.append_assoc]; exact Ap, x6.trans (gr2.ff.trans (x8.ff.trans x9.ff)), ?_, hrr, by rw [hys, List.append_assoc]; rfl⟩
          exact w7.back (x8.ff.trans x9.ff) Ap.fh (w9.src.put nD) w9.flag
      · have hj' : j = es.length := by omega
        subst hj'
        rw [List.drop_eq_nil_of_le (Nat.le_refl _)] at hgo2
        cases hgo2
        rw [List.append_nil] at hys
        subst hys
        refine .inl ⟨W1.stops Hk hGj, F6, _, acc2, done ++ ys, zs, A6, ?_, hrest, by rw [hd, List.append_assoc]⟩
        have x36 : Same F3 F6 := x4.ff.trans (x5.ff.trans x6)
        exact w3.back x36 w6.fh w6.src w6.flag
  · have hi' : i = ds.length := by omega
    subst hi'
    rw [List.drop_eq_nil_of_le (Nat.le_refl _)] at hgo
    cases hgo
    rw [List.append_nil] at hd
    subst hd
    refine .inl ⟨W.stops Hc hGi, k F2 Hc L acc (x1.trans A.ext) ?_ hD0 A.nF A.at_ (by rw [A.rp.length]; exact hdl) nD A.rp⟩
    exact ⟨w2.fh, fun j q e => let ⟨v, h1, h2⟩ := w0.var j q e; ⟨v, h1, Rp.mono (x1.ff.trans A.ext.ff) _ _ h2⟩, w2.src, w0.len, w2.flag, w0.slot⟩
section
variable {X : Cx} {elt tg iter tg1 iter1 : Expr} {ifs ifs1 : List Expr} {scope : Scope} {own : List (Str × Nat)} {pos : Pos} {fi f1 : M (List D)} {b b1 : Tgt} {tt tt1 : M Bool} {te : M D} {vs1 : List Nat}
abbrev Blk (X : Cx) (scope : Scope) (f : Cx → Prop) : Prop := ∀ (s : Shared) (H : Hp) (C : Addr) (cl : List (Str × Addr)) (fp : List Addr), f (X.blk s H scope (compEnvC scope cl C X.env) fp)
theorem dn_lc2 (own : List (Str × Nat)) (vs1 : List Nat) (hc : X.calm = true) (hN : X.N.Nodup) (hi : DI X tg iter fi) (ok : BlkOk X.N X.env.scope scope own) (hv : ∀ i ∈ own.map (·.2), 2 ≤ i) (hb : ∀ i ∈ tgtSlots b, i ∈ own.map (·.2)) (hv1 : ∀ i ∈ vs1, i ∈ own.map (·.2)) (hb1 : ∀ i ∈ tgtSlots b1, i ∈ vs1)
    (hg : Blk X scope fun Y => DG Y tg b) (ht : Blk X scope fun Y => DTs Y ifs tt) (hi1 : Blk X scope fun Y => DI Y tg1 iter1 f1) (hg1 : Blk X scope fun Y => DG Y tg1 b1) (ht1 : Blk X scope fun Y => DTs Y ifs1 tt1) (he : Blk X scope fun Y => DE Y elt te)
    (hs : ∀ x, foldedSetIterable iter X.env x = pure x := by intro _; rfl) (hs1 : ∀ (env : Env) x, foldedSetIterable iter1 env x = pure x := by intro _ _; rfl) :
    DN X (.ListComp elt [⟨tg, iter, ifs, 0⟩, ⟨tg1, iter1, ifs1, 0⟩] scope pos) (mComp2 fi (own.map (·.2)) b tt f1 vs1 b1 tt1 te) :=
  pe_w (pe_lc2 hc hN hi ok hv1 hg ht hi1 hg1 ht1 he hs hs1) (tLc2_of hv hb hv1 hb1)
theorem ds_setLc2 {i : Nat} {y : Str} {spos py : Pos} (v : Bool) (own : List (Str × Nat)) (vs1 : List Nat) (hc : X.calm = true) (hN : X.N.Nodup) (hy : X.N[i]? = some y) (hyl : X.env.scope.names.lookup y = some .local)
    (hsw : swapsWith (.ListComp elt [⟨tg, iter, ifs, 0⟩, ⟨tg1, iter1, ifs1, 0⟩] scope pos) (some (.Name y py)) spos.line X.env = pure true) (hi : DI X tg iter fi) (ok : BlkOk X.N X.env.scope scope own) (hv : ∀ i ∈ own.map (·.2), 2 ≤ i) (hb : ∀ i ∈ tgtSlots b, i ∈ own.map (·.2)) (hv1 : ∀ i ∈ vs1, i ∈ own.map (·.2)) (hb1 : ∀ i ∈ tgtSlots b1, i ∈ vs1)
    (hg : Blk X scope fun Y => DG Y tg b) (ht : Blk X scope fun Y => DTs Y ifs tt) (hi1 : Blk X scope fun Y => DI Y tg1 iter1 f1) (hg1 : Blk X scope fun Y => DG Y tg1 b1) (ht1 : Blk X scope fun Y => DTs Y ifs1 tt1) (he : Blk X scope fun Y => DE Y elt te)
    (hs : ∀ x, foldedSetIterable iter X.env x = pure x := by intro _; rfl) (hs1 : ∀ (env : Env) x, foldedSetIterable iter1 env x = pure x := by intro _ _; rfl) :
    DS X (.Assign [.Name y py] (.ListComp elt [⟨tg, iter, ifs, 0⟩, ⟨tg1, iter1, ifs1, 0⟩] scope pos) spos) (mSetN v i (mComp2 fi (own.map (·.2)) b tt f1 vs1 b1 tt1 te)) := by
  refine ps_w (ps_setLc2 hc hN hy hyl hsw hi ok hv1 hg ht hi1 hg1 ht1 he hs hs1) fun E σ H h => ?_
  exact tLc2_of hv hb hv1 hb1 σ H _ (setN_of E σ H h)
end
end DL

/-! DLn: == of texts too; sorted; repr. -/
namespace DL
open PySem PySem.Spec PyProof.Rows L2

/-! ### == and != of any two -/
def dStrs (h : Str → Str → Bool) : D → D → Option D
  | .str a, .str b => some (.bool (h a b))
  | _, _ => none
def dEqA : D → D → Option D := dOr (dStrs fun a b => decide (a = b)) dEq
def dNeA : D → D → Option D := dOr (dStrs fun a b => !decide (a = b)) dNe
theorem dStrs_some {h : Str → Str → Bool} {x y d : D} (e : dStrs h x y = some d) : ∃ a b, x = .str a ∧ y = .str b ∧ d = .bool (h a b) := by
  cases x <;> cases y <;> simp only [dStrs, reduceCtorEq, Option.some.injEq] at e
  exact ⟨_, _, rfl, rfl, e.symm⟩
theorem op2_eqS : Op2 rEq (dStrs fun a b => decide (a = b)) := by
  intro x y dx dy d F H Q e s rx ry k
  obtain ⟨a, b, rfl, rfl, rfl⟩ := dStrs_some e
  cases rx
  cases ry
  refine ⟨rfl, ?_⟩
  have h := k F H _ (.refl s) (.bl _)
  by_cases q : a = b
  · subst q; simpa using h
  · simpa [q] using h
theorem op2_neS : Op2 rNe (dStrs fun a b => !decide (a = b)) := by
  intro x y dx dy d F H Q e s rx ry k
  obtain ⟨a, b, rfl, rfl, rfl⟩ := dStrs_some e
  cases rx
  cases ry
  refine ⟨rfl, ?_⟩
  have h := k F H _ (.refl s) (.bl _)
  by_cases q : a = b
  · subst q; simpa using h
  · simpa [q] using h
section
variable {X : Cx} {a b : Expr} {f g : M D} {pos : Pos}
theorem de_eqA (hu : X.A.units + 65 < cLine) (ha : DE X a f) (hb : DE X b g) : DE X (.Compare a [.Eq] [b] pos) (mOp2 dEqA f g) := de_cmp (op_eq.or (op_eqD (by omega))) (op2_eqS.or op2_eq) ha hb (nomark _)
theorem de_neA (hu : X.A.units + 65 < cLine) (ha : DE X a f) (hb : DE X b g) : DE X (.Compare a [.NotEq] [b] pos) (mOp2 dNeA f g) := de_cmp (op_ne.or (op_neD (by omega))) (op2_neS.or op2_ne) ha hb (nomark _)
theorem dt_eqA (hu : X.A.units + 65 < cLine) (ha : DE X a f) (hb : DE X b g) : DT X (.Compare a [.Eq] [b] pos) (mBool (mOp2 dEqA f g)) := dt_cmp (op_eq.or (op_eqD (by omega))) (op2_eqS.or op2_eq) ha hb (nomark _)
theorem dt_neA (hu : X.A.units + 65 < cLine) (ha : DE X a f) (hb : DE X b g) : DT X (.Compare a [.NotEq] [b] pos) (mBool (mOp2 dNeA f g)) := dt_cmp (op_ne.or (op_neD (by omega))) (op2_neS.or op2_ne) ha hb (nomark _)
end

/-! ### sorted of ints -/
def leI (i j : Int) : Bool := decide (i ≤ j)
def dSortI : D → Option (List D)
  | .list ds => (intsOf ds).bind fun ns => okLen ((ns.mergeSort leI).map .int)
  | _ => none
def mSort (f : M D) : M (List D) := mBind f fun x => mLift (dSortI x)
section
variable {X : Cx} {e : Expr} {f : M D} {p pos : Pos}
theorem dn_sorted (hg : Gl X "sorted") (hm : X.mg "sorted" = none) (ha : DE X e f) (he : starEach [e] X.env = (false, eval e X.env) :: starEach [] X.env := by rfl) : DN X (.Call (.Name "sorted" p) [e] [] pos) (mSort f) := by
  refine pe_w (pe_callB cr_sortedI hg hm (by decide +kernel) (pa_cons ha pa_nil he) (by decide) (by decide) he rfl) ?_
  rintro σ H Q ⟨F, sa, η, τ, d, τ', w, e, k⟩
  obtain ⟨x, τ1, e1, ea⟩ := mBind_some e
  obtain ⟨e2, rfl⟩ := mLift_some ea
  cases x <;> simp only [dSortI, reduceCtorEq] at e2
  rename_i ds
  obtain ⟨ns, e3, e4⟩ := Option.bind_eq_some_iff.mp e2
  obtain rfl := intsOf_some e3
  obtain ⟨rfl, hl⟩ := okLen_some e4
  refine tE.go w e1 fun F1 H1 u x1 w1 r1 => ?_
  obtain ⟨q, rfl, hq⟩ := rp_ints (K := X.K) w1.fh r1
  refine ⟨q, ns, rfl, hq, fun ns' l hp hs hl0 => ?_⟩
  have hm : ns' = ns.mergeSort leI := by
    refine PySem.W.ksm_same (hp.trans (List.mergeSort_perm ns leI).symm) hs ?_
    have := List.pairwise_mergeSort (le := leI) (fun a b c h1 h2 => by unfold leI at *; simp only [decide_eq_true_eq] at *; omega) (fun a b => by unfold leI; simp only [Bool.or_eq_true, decide_eq_true_eq]; omega) ns
    exact this.imp fun h => of_decide_eq_true h
  subst hm
  rw [List.length_map] at hl
  have gr := Grow.own w1.fh hl0 (.lst ((ns.mergeSort leI).map V.int))
  have hp0 : H l = none := by
    cases z : H l with
    | none => rfl
    | some o => exact absurd hl0 (x1.nn l (nn_of z))
  exact k _ _ _ _ (x1.trans gr.ext) (w1.grow gr) hp0 (w1.fh.free hl0) upd_same (by rw [List.length_map]; exact hl) (notSrc_new w1.src hl0) (RpA.ints _)
end

/-! ### repr -/
mutual
/-- no shorter than the text -/
def bnd : D → Nat
  | .none => 4
  | .bool _ => 5
  | .int i => i.natAbs.log2 + 2
  | .str x => (reprText x).length
  | .list ds => 2 + bndA ds
  | .tuple ds => 3 + bndA ds
  | .dict _ => 1000000000
def bndA : List D → Nat
  | [] => 0
  | d :: ds => bnd d + 2 + bndA ds
end
theorem listText_le : ∀ ts : List Str, (listText ts).length ≤ 2 + piled ts
  | [] => by decide
  | t :: r => by
    unfold listText
    rw [strLen_append]
    have e : textFrom 0 "[" (t :: r) = textFrom 1 (("[" : Str) ++ ("" : String) ++ t) r := rfl
    rw [e, textFrom_length_pos r 1 _ (by omega), strLen_append, strLen_append, piled_cons]
    have e1 : (("[" : String) : Str).length = 1 := rfl
    have e2 : (("]" : String) : Str).length = 1 := rfl
    have e3 : (("" : String) : Str).length = 0 := rfl
    rw [e1, e2, e3]
    omega
theorem tupleText_le (ts : List Str) : (tupleText ts).length ≤ 3 + piled ts := by
  unfold tupleText
  rw [strLen_append, strLen_append]
  have e1 : ((("(" : String) : Str)).length = 1 := rfl
  have e3 : (((if ts.length == 1 then ",)" else ")" : String) : Str)).length ≤ 2 := by split <;> decide
  rw [e1]
  by_cases h : ts = []
  · subst h
    have : (Str.join ", " []).length = 0 := rfl
    rw [this]
    omega
  · have := join_length_add ts h
    omega
mutual
theorem shown_le : ∀ d : D, d.canLay0 = true → (PyData.shown d).length ≤ bnd d
  | .none, _ => by simp only [PyData.shown, bnd]; decide
  | .bool b, _ => by cases b <;> (simp only [PyData.shown, bnd]; decide)
  | .int i, _ => by
    simp only [PyData.shown, bnd]
    show (Str.ofString (toString i)).length ≤ _
    rw [PySem.ofString_length]
    exact int_text_length_le (k := i.natAbs.log2 + 1) (by omega) (by omega)
  | .str x, _ => by simp only [PyData.shown, bnd]; exact Nat.le_refl _
  | .list ds, h => by
    simp only [PyData.shown, bnd]
    have := shownAll_le ds (by simpa [PyData.canLay0] using h)
    exact Nat.le_trans (listText_le _) (by omega)
  | .tuple ds, h => by
    simp only [PyData.shown, bnd]
    have := shownAll_le ds (by simpa [PyData.canLay0] using h)
    exact Nat.le_trans (tupleText_le _) (by omega)
  | .dict ds, h => by simp [PyData.canLay0] at h
theorem shownAll_le : ∀ ds : List D, PyData.canLayAll0 ds = true → piled (PyData.shownAll ds) ≤ bndA ds
  | [], _ => by simp only [PyData.shownAll, bndA]; exact Nat.le_refl _
  | d :: ds, h => by
    have h' : d.canLay0 = true ∧ PyData.canLayAll0 ds = true := by simpa [PyData.canLayAll0] using h
    simp only [PyData.shownAll, bndA, piled_cons]
    have h1 := shown_le d h'.1
    have h2 := shownAll_le ds h'.2
    omega
end
def okRepr (d : D) : Bool := SeqAt.shaped d && d.showable && decide (bnd d ≤ sizeLine)
def dRepr : List D → Option D
  | [d] => if okRepr d = true then some (.str d.shown) else none
  | _ => none
def rReprD (K : PySem.W.Frag) : List V → Hp → VK → Prop := fun xs H Q => ∃ x d, xs = [x] ∧ Dp K H x d ∧ okRepr d = true ∧ Q (.str d.shown) H
section
variable {X : Cx}
theorem call_reprD (hg : X.A.guards = some []) (hu : X.A.units + 66 < cLine) : CallR X (.builtin "repr") (rReprD X.K) := by
  intro pins s σ H xs us Q I r h
  obtain ⟨x, d, rfl, hd, ok, q⟩ := h
  obtain ⟨u, rfl, rx⟩ := vals1 r
  unfold okRepr at ok
  simp only [Bool.and_eq_true, decide_eq_true_eq] at ok
  obtain ⟨⟨o1, o2⟩, o3⟩ := ok
  have lay := SeqAt.canLay_of_shaped o1
  have dep := SeqAt.depth_of_shaped o1
  have hsz : d.shown.length ≤ sizeLine := Nat.le_trans (shown_le d lay) o3
  have ref : ∀ a, u = .ref a → wpAny (model X.prog X.w) X.A (call (.builtin "repr") [u]) (EP X pins σ Q) X.xe s := by
    rintro a rfl
    obtain ⟨as, r1⟩ := Dp.reads I d x _ hd rx
    refine repr_of_reads' r1 o2 (PyData.noDict_hsm (PyData.hasDict_of_canLay d lay)) hg (by omega) (fun _ _ e => e) (fun h' t tk hk => ?_) hsz
    exact ⟨.str d.shown, H, I.kept (t' := tk) hk, ⟨t, rfl⟩, q⟩
  cases d with
  | none =>
    cases hd
    cases (show u = Value.none from rx)
    exact PySem.P.repr_of_none ⟨.str _, H, I.tok _, ⟨_, rfl⟩, by simpa only [PyData.shown] using q⟩
  | bool b =>
    cases hd
    cases (show u = Value.bool b from rx)
    exact PySem.P.repr_of_bool ⟨.str _, H, I.tok _, ⟨_, rfl⟩, by simpa only [PyData.shown] using q⟩
  | int i =>
    cases hd
    obtain ⟨t, rfl⟩ := (show ∃ t, u = Value.int i t from rx)
    exact PySem.P.repr_of_int (by simpa [PyData.showable] using o2) ⟨.str _, H, I.tok _, ⟨_, rfl⟩, by simpa only [PyData.shown] using q⟩
  | str y =>
    cases hd
    obtain ⟨t, rfl⟩ := (show ∃ t, u = Value.str y t from rx)
    exact PySem.P.repr_of_str ⟨.str _, H, I.tok _, ⟨_, rfl⟩, by simpa only [PyData.shown] using q⟩ (by simpa only [PyData.shown] using hsz)
  | list ds => cases hd; exact ref _ rx
  | tuple ds => cases hd; exact ref _ rx
  | dict ds => simp [PyData.canLay0] at lay
theorem opl_repr {K : PySem.W.Frag} : OpL (rReprD K) dRepr := by
  intro x dx d F H Q e s rx k
  unfold dRepr at e
  split at e
  · rename_i d1
    split at e
    · rename_i ok
      cases e
      obtain ⟨v, rfl, r1⟩ := rpA_one rx
      refine ⟨v, d1, rfl, Rp.dp _ _ ?_ (Rp.mono s _ _ r1), ok, k F H _ (.refl s) (.str _)⟩
      unfold okRepr at ok
      simp only [Bool.and_eq_true] at ok
      exact SeqAt.canLay_of_shaped ok.1.1
    · cases e
  · cases e
variable {e : Expr} {g : M (List D)} {p pos : Pos}
theorem de_repr (hd : X.A.guards = some []) (hu : X.A.units + 66 < cLine) (hg : Gl X "repr") (hm : X.mg "repr" = none) (ha : DA X [e] g) (he : starEach [e] X.env = (false, eval e X.env) :: starEach [] X.env := by rfl) : DE X (.Call (.Name "repr" p) [e] [] pos) (mOpL dRepr g) :=
  de_callB (call_reprD hd hu) opl_repr hg hm (by decide +kernel) ha (by decide) (by decide) he rfl
end
end DL

/-! DLo: a def that stands in the module, as one word; lists of ints or of more in min; the order of any. -/
namespace DL
open PySem PySem.Spec PyProof.Rows L2

/-- a def of the module is there and keeps its promise -/
structure Has (P : Program) (w : World) (K : PySem.W.Frag) (mg : Str → Option Value) (base : Heap) (k : Nat) (x : Str) (n : Nat) (m : List D → Option D) : Prop where
  ex : ∃ (f : Addr) (fd : FuncData) (ps : List Str), ps.length = n ∧ FnG P w K mg base k f fd ps (spP n m) ∧ mg x = some (.ref f) ∧ PySem.W.keepIn K (.ref f) = true ∧ Binds K fd ps []
  len : ∀ ds d, m ds = some d → ds.length = n
structure HasS (P : Program) (w : World) (K : PySem.W.Frag) (mg : Str → Option Value) (base : Heap) (k : Nat) (x : Str) (n : Nat) (m : MS) : Prop where
  ex : ∃ (f : Addr) (fd : FuncData) (ps : List Str), ps.length = n ∧ FnG P w K mg base k f fd ps (spS n m) ∧ mg x = some (.ref f) ∧ PySem.W.keepIn K (.ref f) = true ∧ Binds K fd ps []
  len : ∀ ds τ d τ', m ds τ = some (d, τ') → ds.length + 1 = n
section
variable {P : Program} {w : World} {K : PySem.W.Frag} {mg : Str → Option Value} {base : Heap} {j k : Nat} {x : Str} {n : Nat} {m : List D → Option D} {ms : MS}
theorem Has.mono (h : Has P w K mg base j x n m) (hj : j ≤ k) : Has P w K mg base k x n m :=
  ⟨let ⟨f, fd, ps, h1, h2, h3⟩ := h.ex; ⟨f, fd, ps, h1, h2.mono hj, h3⟩, h.len⟩
theorem HasS.mono (h : HasS P w K mg base j x n ms) (hj : j ≤ k) : HasS P w K mg base k x n ms :=
  ⟨let ⟨f, fd, ps, h1, h2, h3⟩ := h.ex; ⟨f, fd, ps, h1, h2.mono hj, h3⟩, h.len⟩
/-- a def by its body -/
theorem has_P {f : Addr} {fd : FuncData} {N ps : List Str} {st : Stmt} {g : Stm} (F : Fun K x x st f fd) (S : FnScope N ps (defScope st)) (hn : N.length = n) (b : Binds K fd ps []) (hm : mg x = some (.ref f))
    (body : ∀ (cdv : Value) (A : Around) (outer : List Env) (s : Shared) (H : Hp), Room k (A.deeper (envOfC x (defScope st) s.heap.objs.size f cdv)) → A.guards = some [] →
      DSs (cxOf CX0 P w K mg base N x (defScope st) f cdv A outer s H E0).nox (defBody st) g) : Has P w K mg base (k + 1) x ps.length (runP ps.length n g) := by
  subst hn
  exact ⟨⟨f, fd, ps, rfl, fn_P F S body, hm, F.kp, b⟩, fun ds d h => runP_len h⟩
theorem has_S {f : Addr} {fd : FuncData} {N ps : List Str} {st : Stmt} {g : Stm} (F : Fun K x x st f fd) (S : FnScope N ps (defScope st)) (hn : N.length = n) (h1 : 1 ≤ n) (b : Binds K fd ps []) (hm : mg x = some (.ref f))
    (body : ∀ (cdv : Value) (A : Around) (outer : List Env) (s : Shared) (H : Hp), Room k (A.deeper (envOfC x (defScope st) s.heap.objs.size f cdv)) → A.guards = some [] →
      DSs (cxOf CX0 P w K mg base N x (defScope st) f cdv A outer s H E0).nox (defBody st) g) : HasS P w K mg base (k + 1) x ps.length (runS ps.length n g) := by
  subst hn
  exact ⟨⟨f, fd, ps, rfl, fn_S F S h1 body, hm, F.kp, b⟩, fun ds τ d τ' h => runS_len h⟩
end
section
variable {X : Cx} {k : Nat} {x : Str} {n : Nat} {m : List D → Option D} {ms : MS} {p pos : Pos} {e : Expr} {es : List Expr} {g : M (List D)}
theorem de_fn (h : Has X.prog X.w X.K X.mg X.base k x n m) (hr : Room k X.A) (hd : X.A.guards = some []) (hg : Gl X x) (ha : DA X (e :: es) g) (hdb : (x == ("__debug__" : Str)) = false := by decide)
    (he : starEach (e :: es) X.env = (false, eval e X.env) :: starEach es X.env := by rfl) (hpl : (backTo pos (starEach es X.env)).any (·.1) = false := by rfl) :
    DE X (.Call (.Name x p) (e :: es) [] pos) (mOpL m g) := by
  obtain ⟨f, fd, ps, rfl, F, hm, hk, hb⟩ := h.ex
  exact de_call F h.len hr hd hg hm hk hb ha hdb he hpl
theorem de_fnS (i : Nat) {y : Str} {py : Pos} (h : HasS X.prog X.w X.K X.mg X.base k x n ms) (hr : Room k X.A) (hd : X.A.guards = some []) (hg : Gl X x) (hv : PE X (.Name y py) (tVar i)) (ha : DA X es g) (hdb : (x == ("__debug__" : Str)) = false := by decide)
    (he : starEach (.Name y py :: es) X.env = (false, eval (.Name y py) X.env) :: starEach es X.env := by rfl) (hpl : (backTo pos (starEach es X.env)).any (·.1) = false := by rfl) :
    DE X (.Call (.Name x p) (.Name y py :: es) [] pos) (mCallS i ms g) := by
  obtain ⟨f, fd, ps, rfl, F, hm, hk, hb⟩ := h.ex
  exact de_callS i F h.len hr hd hg hm hk hb hv ha hdb he hpl
end
theorem CallR.or {X : Cx} {f : Value} {r r' : List V → Hp → VK → Prop} (h : CallR X f r) (h' : CallR X f r') : CallR X f (fun xs H Q => r xs H Q ∨ r' xs H Q) :=
  fun pins s σ H xs us Q I rv q => q.elim (h pins s σ H xs us Q I rv) (h' pins s σ H xs us Q I rv)
def dOrL (o o' : List D → Option D) (ds : List D) : Option D := match o ds with
  | some d => some d
  | none => o' ds
def dMinA : List D → Option D := dOrL dMinL dMinD
def dLtA : D → D → Option D := dOr dLt dLtD
section
variable {X : Cx} {a b : Expr} {f g : M D} {pos p : Pos} {e : Expr} {ga : M (List D)}
theorem de_ltA (hu : X.A.units + 66 < cLine) (ha : DE X a f) (hb : DE X b g) : DE X (.Compare a [.Lt] [b] pos) (mOp2 dLtA f g) := de_cmp (op_lt.or (op_ltD hu)) ((op2_int0 fun _ _ _ => .bl _).or op2_ltD) ha hb (nomark _)
theorem dt_ltA (hu : X.A.units + 66 < cLine) (ha : DE X a f) (hb : DE X b g) : DT X (.Compare a [.Lt] [b] pos) (mBool (mOp2 dLtA f g)) := dt_cmp (op_lt.or (op_ltD hu)) ((op2_int0 fun _ _ _ => .bl _).or op2_ltD) ha hb (nomark _)
end
section
variable {X : Cx} {p pos : Pos} {e : Expr} {g : M (List D)}
theorem de_minA (hc : X.calm = true) (hu : X.A.units + 70 < cLine) (hg : Gl X "min") (hm : X.mg "min" = none) (ha : DA X [e] g) (he : starEach [e] X.env = (false, eval e X.env) :: starEach [] X.env := by rfl) : DE X (.Call (.Name "min" p) [e] [] pos) (mOpL dMinA g) :=
  de_callB (CallR.or (cr_min hc) (cr_minD hc hu)) (opl_min.or opl_minD) hg hm (by decide +kernel) ha (by decide) (by decide) he rfl
end
theorem _root_.L2.Room.u66 {k : Nat} {A : Around} (r : Room k A) : A.units + 66 < cLine := by have := r.un; omega
theorem _root_.L2.Room.u65 {k : Nat} {A : Around} (r : Room k A) : A.units + 65 < cLine := by have := r.un; omega
theorem _root_.L2.Room.u70 {k : Nat} {A : Around} (r : Room k A) : A.units + 70 < cLine := by have := r.un; omega
end DL

/-! DLp: the source of drawn numbers: opened, picked from. -/
namespace DL
open PySem PySem.Spec PyProof.Rows L2

/-! ### picking, by value -/
/-- cells from the last on -/
def drawR : List Int → Int → List Int × Int
  | [], l => ([], l)
  | x :: xs, l => if l < 2 then drawR xs x else (x :: xs, l)
def nextLap (τ : Src) (l : Int) (cs : List Int) (most : Int) : Option (D × Src) :=
  if τ.turn.natAbs < 2 ^ 60 then
    let lap := τ.turn + 1
    let s1 := (τ.mixed + lap * 104729) % 998244353
    let s2 := (s1 * s1 + lap * 17) % 2147483647
    some (.int (s2 / 16 % most), { τ with cells := cs, left := l, turn := lap })
  else none
def mPick : MS := fun ds τ => match ds with
  | [.int most] => if most < 2 then some (.int 0, τ) else
    if most.natAbs.log2 < 9000 then
      let r := drawR τ.cells.reverse τ.left
      if 1 < r.2 then some (.int (r.2 % most), { τ with cells := r.1.reverse, left := r.2 / most }) else nextLap τ r.2 r.1.reverse most
    else none
  | _ => none
theorem mPick_len (ds : List D) (τ : Src) (d : D) (τ' : Src) (h : mPick ds τ = some (d, τ')) : ds.length + 1 = 2 := by
  unfold mPick at h
  split at h
  · rfl
  · cases h

/-! ### the reading of the text -/
abbrev tFld (k : Str) : TE := tDGet (tVar 0) (tC (V.str k))
abbrev rInt1 : List V → Hp → VK → Prop := fun xs H Q => (∃ i, xs = [V.int i] ∧ Q (V.int i) H) ∨ ∃ k, xs = [V.bl k] ∧ Q (V.int (if k = true then 1 else 0)) H
abbrev tInt1 (a : TE) : TE := tCB rInt1 (tCons a tNil)
abbrev rLt2 : R2 := rI0 fun i j => V.bl (decide (i < j))
abbrev rGt2 : R2 := rI0 fun i j => V.bl (decide (j < i))
abbrev rAdd2 : R2 := rI0 fun i j => V.int (i + j)
abbrev rMod2 : R2 := rI (fun _ j => 0 < j) fun i j => V.int (i % j)
abbrev rDiv2 : R2 := rI CDivW fun i j => V.int (i / j)
abbrev rMul2 : R2 := rI CMulX fun i j => V.int (i * j)
abbrev rLen2 (K : PySem.W.Frag) : List V → Hp → VK → Prop := fun xs H Q => ∃ p ys, xs = [V.ref p] ∧ (SqL K H p ys ∨ SqT K H p ys) ∧ Q (V.int ys.length) H
abbrev tLap : TS :=
  tSeq (sDPut (tVar 0) (tC (V.str "turn")) (tOp rAdd2 (tFld "turn") (tC (V.int 1))))
    (tSeq (tAsg (tFld "turn") (gName 4))
      (tSeq (tAsg (tOp rMod2 (tInt1 (tOp rAdd2 (tFld "mixed") (tOp rMul2 (tVar 4) (tC (V.int 104729))))) (tC (V.int 998244353))) (gName 5))
        (tSeq (tAsg (tOp rMod2 (tInt1 (tOp rAdd2 (tOp rMul2 (tVar 5) (tVar 5)) (tOp rMul2 (tVar 4) (tC (V.int 17))))) (tC (V.int 2147483647))) (gName 5))
          (tRet (tOp rMod2 (tInt1 (tOp rDiv2 (tVar 5) (tC (V.int 16)))) (tVar 1))))))
abbrev tPick (K : PySem.W.Frag) : TS :=
  tSeq (tIfS (tTest (tOp rLt2 (tVar 1) (tC (V.int 2)))) (tRet (tC (V.int 0))) tNext)
    (tSeq (tAsg (tFld "cells") (gName 2))
      (tSeq (tWhile (tAnd (tTest (tOp rLt2 (tFld "left") (tC (V.int 2)))) (tTest (tOp rGt2 (tCB (rLen2 K) (tCons (tVar 2) tNil)) (tC (V.int 0)))))
          (sDPut (tVar 0) (tC (V.str "left")) (tBM0 K "list" rPop (tVar 2))))
        (tSeq (tAsg (tFld "left") (gName 3))
          (tSeq (tIfS (tTest (tOp rGt2 (tVar 3) (tC (V.int 1)))) (tSeq (sDPut (tVar 0) (tC (V.str "left")) (tOp rDiv2 (tVar 3) (tVar 1))) (tRet (tOp rMod2 (tInt1 (tVar 3)) (tVar 1)))) tNext)
            tLap))))

/-- the heap while the source is at work -/
structure Gs (H0 : Hp) (p c : Addr) (H1 : Hp) (τ : Src) : Prop where
  hp : H1 p = some (τ.obj c)
  hc : H1 c = some (.lst (τ.cells.map V.int))
  el : ∀ a, a ≠ p → a ≠ c → H1 a = H0 a
  ne : p ≠ c
section
variable {H0 H1 : Hp} {p c : Addr} {τ : Src}
theorem Gs.dC (g : Gs H0 p c H1 τ) : DGet H1 p (.str "cells") (some (.ref c)) := DGet.k (k := .inr "cells") g.hp
theorem Gs.dL (g : Gs H0 p c H1 τ) : DGet H1 p (.str "left") (some (.int τ.left)) := DGet.k (k := .inr "left") g.hp
theorem Gs.dM (g : Gs H0 p c H1 τ) : DGet H1 p (.str "mixed") (some (.int τ.mixed)) := DGet.k (k := .inr "mixed") g.hp
theorem Gs.dT (g : Gs H0 p c H1 τ) : DGet H1 p (.str "turn") (some (.int τ.turn)) := DGet.k (k := .inr "turn") g.hp
theorem four : ∀ kvs : List (Key × V), kvs.length = 4 → kvs.length < sizeLine := fun kvs h => by rw [h, sizeLine_eq]; decide
theorem Gs.putL (g : Gs H0 p c H1 τ) (l : Int) : ∃ H2, DPut H1 p (.str "left") (.int l) H2 ∧ Gs H0 p c H2 { τ with left := l } :=
  ⟨_, DPut.k (k := .inr "left") (v := .int l) g.hp (four _ rfl), ⟨upd_same, by rw [upd_ne (Ne.symm g.ne)]; exact g.hc, fun a h1 h2 => by rw [upd_ne h1]; exact g.el a h1 h2, g.ne⟩⟩
theorem Gs.putT (g : Gs H0 p c H1 τ) (l : Int) : ∃ H2, DPut H1 p (.str "turn") (.int l) H2 ∧ Gs H0 p c H2 { τ with turn := l } :=
  ⟨_, DPut.k (k := .inr "turn") (v := .int l) g.hp (four _ rfl), ⟨upd_same, by rw [upd_ne (Ne.symm g.ne)]; exact g.hc, fun a h1 h2 => by rw [upd_ne h1]; exact g.el a h1 h2, g.ne⟩⟩
theorem Gs.pop (g : Gs H0 p c H1 τ) (cs : List Int) : Gs H0 p c (upd H1 c (.lst (cs.map V.int))) { τ with cells := cs } :=
  ⟨by rw [upd_ne g.ne]; exact g.hp, upd_same, fun a h1 h2 => by rw [upd_ne h2]; exact g.el a h1 h2, g.ne⟩
end
/-- the last part: a lap -/
theorem lap_read {H0 H1 : Hp} {p c : Addr} {τ τ' : Src} {d : D} {most : Int} {y2 y3 : Option V} {Q : VK} (g : Gs H0 p c H1 τ) (hm : 2 ≤ most) (e : nextLap τ τ.left τ.cells most = some (d, τ'))
    (k : ∀ r H2, d = .int r → Gs H0 p c H2 τ' → Q (.int r) H2) :
    tLap { nx := fun _ H' => Q .non H', rt := Q } [some (.ref p), some (.int most), y2, y3, none, none] H1 := by
  unfold nextLap at e
  split at e
  · rename_i hb
    simp only [Option.some.injEq, Prod.mk.injEq] at e
    obtain ⟨rfl, rfl⟩ := e
    obtain ⟨H2, hput, g2⟩ := g.putT (τ.turn + 1)
    have m1 : CMulX (τ.turn + 1) 104729 := mulx_ok (a := 61) (b := 20) (by omega) (by decide) (by decide)
    have m2 : CMulX (τ.turn + 1) 17 := mulx_ok (a := 61) (b := 20) (by omega) (by decide) (by decide)
    have b1 := Int.emod_nonneg (τ.mixed + (τ.turn + 1) * 104729) (show (998244353 : Int) ≠ 0 by decide)
    have b2 := Int.emod_lt_of_pos (τ.mixed + (τ.turn + 1) * 104729) (show (0 : Int) < 998244353 by decide)
    have m3 : CMulX ((τ.mixed + (τ.turn + 1) * 104729) % 998244353) ((τ.mixed + (τ.turn + 1) * 104729) % 998244353) := mulx_ok (a := 40) (b := 40) (by omega) (by omega) (by decide)
    -- source['turn'] = source['turn'] + 1
    refine ⟨.ref p, rfl, p, _, rfl, g.dT, _, _, rfl, rfl, .ref p, rfl, p, H2, rfl, hput, ?_⟩
    -- lap
    refine ⟨.ref p, rfl, p, _, rfl, g2.dT, ?_⟩
    -- stirred, twice
    refine ⟨.ref p, rfl, p, _, rfl, g2.dM, _, rfl, _, _, rfl, rfl, m1, _, _, rfl, rfl, .inl ⟨_, rfl, _, _, rfl, rfl, (show (0 : Int) < 998244353 by decide), ?_⟩⟩
    refine ⟨_, rfl, _, rfl, _, _, rfl, rfl, m3, _, rfl, _, _, rfl, rfl, m2, _, _, rfl, rfl, .inl ⟨_, rfl, _, _, rfl, rfl, (show (0 : Int) < 2147483647 by decide), ?_⟩⟩
    refine ⟨_, rfl, _, _, rfl, rfl, ⟨by decide, by decide⟩, .inl ⟨_, rfl, _, rfl, _, _, rfl, rfl, by omega, ?_⟩⟩
    exact k _ H2 rfl g2
  · cases e
theorem pick_read {K : PySem.W.Frag} {vs : List V} {H : Hp} {Q : VK} (h : spS 2 mPick vs H Q E0) : tPick K { nx := fun _ H' => Q .non H', rt := Q } (L2.start ["source", "most", "cells", "others", "lap", "stirred"] vs) H := by
  obtain ⟨F, p, c, us, ds, τ, d, τ', rfl, hl, sm, ks, hslot, r, e, q⟩ := h
  obtain ⟨h1, h2, h3, h4, h5⟩ := ks 0 p c rfl
  unfold mPick at e
  split at e
  case h_2 => cases e
  rename_i most
  obtain ⟨v, rfl, rv⟩ := rpA_one r
  cases rv
  have ne : p ≠ c := fun z => by
    rw [z, h2] at h1
    cases h1
  have g0 : Gs H p c H τ := ⟨h1, h2, fun _ _ _ => rfl, ne⟩
  -- behind it
  have fin : ∀ (r : Int) (H2 : Hp) (τ2 : Src), τ2.cells.length ≤ τ.cells.length → Gs H p c H2 τ2 → (d = .int r ∧ τ' = τ2) → Q (.int r) H2 := by
    rintro r H2 τ2 hlen g ⟨rfl, rfl⟩
    have Fne : ∀ a o, F a = some o → a ≠ p ∧ a ≠ c := fun a o e => ⟨fun z => (by rw [z, h4] at e; cases e), fun z => (by rw [z, h5] at e; cases e)⟩
    have s2 : Same F H2 := fun a o e => by
      obtain ⟨n1, n2⟩ := Fne a o e
      rw [g.el a n1 n2]; exact sm a o e
    refine q F H2 (.int r) ⟨Same.refl _, fun a o e n => ?_, fun a e => ?_, fun a e _ => e⟩ s2 (fun i p' c' z => ?_) (.int r)
    · obtain ⟨n1, n2⟩ := n 0 p c rfl
      rw [g.el a n1 n2]; exact e
    · by_cases z1 : a = p
      · rw [z1, g.hp]; simp
      · by_cases z2 : a = c
        · rw [z2, g.hc]; simp
        · rw [g.el a z1 z2]; exact e
    · cases z
      exact ⟨g.hp, g.hc, Nat.le_trans hlen h3, h4, h5⟩
  show tPick K _ [some (.ref p), some (.int most), none, none, none, none] H
  split at e
  · -- most < 2
    rename_i hlt
    simp only [Option.some.injEq, Prod.mk.injEq] at e
    refine ⟨_, rfl, _, _, rfl, rfl, true, by simp [hlt], iteT ?_⟩
    exact fin 0 H τ (Nat.le_refl _) g0 ⟨e.1.symm, e.2.symm⟩
  · rename_i hge
    split at e
    case isFalse => cases e
    rename_i hlog
    refine ⟨_, rfl, _, _, rfl, rfl, false, by simp [hge], iteF ?_⟩
    -- cells = source['cells']
    refine ⟨.ref p, rfl, p, _, rfl, g0.dC, ?_⟩
    -- the loop
    refine ⟨fun m σ H1 => ∃ τ1, σ = [some (.ref p), some (.int most), some (.ref c), none, none, none] ∧ m = τ1.cells.length ∧ Gs H p c H1 τ1 ∧ τ1.cells.length ≤ τ.cells.length ∧ τ1.mixed = τ.mixed ∧ τ1.turn = τ.turn ∧ τ1.slot = τ.slot ∧
      drawR τ1.cells.reverse τ1.left = drawR τ.cells.reverse τ.left, ⟨_, τ, rfl, rfl, g0, Nat.le_refl _, rfl, rfl, rfl, rfl⟩, ?_⟩
    rintro m σ H1 ⟨τ1, rfl, rfl, g1, hlen, hmix, htu, hsl, hdr⟩
    -- what is behind the loop
    have out : ∀ (hd : drawR τ.cells.reverse τ.left = (τ1.cells.reverse, τ1.left)), tSeq (tAsg (tFld "left") (gName 3))
          (tSeq (tIfS (tTest (tOp rGt2 (tVar 3) (tC (V.int 1)))) (tSeq (sDPut (tVar 0) (tC (V.str "left")) (tOp rDiv2 (tVar 3) (tVar 1))) (tRet (tOp rMod2 (tInt1 (tVar 3)) (tVar 1)))) tNext)
            tLap) { nx := fun _ H' => Q .non H', rt := Q } [some (.ref p), some (.int most), some (.ref c), none, none, none] H1 := by
      intro hd
      rw [hd] at e
      simp only [List.reverse_reverse] at e
      refine ⟨.ref p, rfl, p, _, rfl, g1.dL, ?_⟩
      by_cases hgt : 1 < τ1.left
      · rw [if_pos hgt] at e
        simp only [Option.some.injEq, Prod.mk.injEq] at e
        obtain ⟨rfl, rfl⟩ := e
        refine ⟨_, rfl, _, _, rfl, rfl, true, by simp [hgt], iteT ?_⟩
        obtain ⟨H2, hput, g2⟩ := g1.putL (τ1.left / most)
        refine ⟨_, rfl, _, rfl, _, _, rfl, rfl, ⟨by omega, hlog⟩, .ref p, rfl, p, H2, rfl, hput, ?_⟩
        refine ⟨_, rfl, .inl ⟨_, rfl, _, rfl, _, _, rfl, rfl, by omega, ?_⟩⟩
        refine fin _ H2 _ ?_ g2 ⟨rfl, ?_⟩
        · exact hlen
        · rw [← hmix, ← htu, ← hsl]
      · rw [if_neg hgt] at e
        refine ⟨_, rfl, _, _, rfl, rfl, false, by simp [hgt], iteF ?_⟩
        have e' : nextLap τ1 τ1.left τ1.cells most = some (d, τ') := by
          rw [← e]
          unfold nextLap
          rw [hmix, htu]
          cases τ1
          cases τ
          simp only at hsl hmix htu
          subst hsl hmix htu
          rfl
        refine lap_read g1 (by omega) e' fun r H2 hr g2 => fin r H2 τ' ?_ g2 ⟨hr, rfl⟩
        unfold nextLap at e'
        split at e'
        · cases e'; exact hlen
        · cases e'
    refine ⟨.ref p, rfl, p, _, rfl, g1.dL, _, _, rfl, rfl, _, rfl, ?_⟩
    by_cases hlt : τ1.left < 2
    · rw [decide_eq_true hlt]
      refine iteT ⟨_, rfl, c, _, rfl, .inl (.of g1.hc), _, _, rfl, rfl, _, rfl, ?_⟩
      rw [List.length_map]
      by_cases hz : τ1.cells = []
      · rw [hz]
        refine iteF (out ?_)
        rw [← hdr, hz]
        rfl
      · obtain ⟨init, last, hcs⟩ : ∃ init last, τ1.cells = init ++ [last] := ⟨τ1.cells.dropLast, τ1.cells.getLast hz, (List.dropLast_concat_getLast hz).symm⟩
        have hpos : (0 : Int) < (τ1.cells.length : Int) := by rw [hcs, List.length_append]; simp
        rw [decide_eq_true hpos]
        refine iteT ⟨fun σ' H' => ∃ τ2, σ' = [some (.ref p), some (.int most), some (.ref c), none, none, none] ∧ τ2.cells = init ∧ Gs H p c H' τ2 ∧ τ2.mixed = τ.mixed ∧ τ2.turn = τ.turn ∧ τ2.slot = τ.slot ∧ τ2.left = last, fun σ' H' hN => ?_, ?_⟩
        · obtain ⟨τ2, rfl, hc2, g2, n1, n2, n3, n4⟩ := hN
          refine ⟨_, ?_, τ2, rfl, rfl, g2, ?_, n1, n2, n3, ?_⟩
          · rw [hc2, hcs, List.length_append]; simp
          · rw [hc2]; rw [hcs, List.length_append] at hlen; omega
          · rw [← hdr, hc2, n4, hcs, List.reverse_append]
            have hd : drawR (last :: init.reverse) τ1.left = drawR init.reverse last := by simp only [drawR, if_pos hlt]
            exact hd.symm
        · have g2 := g1.pop init
          obtain ⟨H2, hput, g3⟩ := g2.putL last
          refine ⟨.ref c, rfl, .inl ⟨rfl, _, .of g1.hc⟩, c, _, .int last, rfl, rfl, g1.hc, ?_, ?_⟩
          · rw [hcs, List.map_append, List.length_append, List.length_map]
            simp
          · have ed : (τ1.cells.map V.int).dropLast = init.map V.int := by rw [hcs, List.map_append]; simp
            rw [ed]
            exact ⟨.ref p, rfl, p, H2, rfl, hput, _, rfl, rfl, g3, hmix, htu, hsl, rfl⟩
    · rw [decide_eq_false hlt]
      refine iteF (out ?_)
      rw [← hdr]
      cases hz : τ1.cells.reverse with
      | nil => rfl
      | cons x xs => unfold drawR; rw [if_neg hlt]
end DL

/-! DLq: the source opened; the law's own def; the end of a law row. -/
namespace DL
open PySem PySem.Spec PyProof.Rows L2

def stir1 (s c : Int) : Int := (s * 69069 + c * 31 + 5) % 2147483629
def stir (ns : List Int) : Int := ns.foldl stir1 11
def absI (i : Int) : Int := if i < 0 then -i else i
def srcOf (ns : List Int) : Src := ⟨some 1, (ns.map absI).reverse, 1, stir ns, 0⟩
/-- the script's numbers: as many as a list has, none too big -/
def OkNs (ns : List Int) : Prop := ns.length ≤ sizeLine ∧ ∀ n ∈ ns, n.natAbs.log2 ≤ 1048576
def spO (K : PySem.W.Frag) : Sp := fun vs H Q _ => ∃ a ns, vs = [.ref a] ∧ SqL K H a (ns.map V.int) ∧ OkNs ns ∧
  ∀ H' p c, Same H H' → SrcOk (some (1, p, c)) H H' (srcOf ns) → Q (.ref p) H'
abbrev rAbs1 : List V → Hp → VK → Prop := fun xs H Q => ∃ i, xs = [.int i] ∧ Q (.int (if i < 0 then -i else i)) H
abbrev tStir : TS := tAsg (tOp rMod2 (tInt1 (tOp rAdd2 (tOp rAdd2 (tOp rMul2 (tVar 1) (tC (V.int 69069))) (tOp rMul2 (tVar 2) (tC (V.int 31)))) (tC (V.int 5)))) (tC (V.int 2147483629))) (gName 1)
abbrev tOpen (K : PySem.W.Frag) : TS := tSeq (tAsg (tC (V.int 11)) (gName 1)) (tSeq (tFor (iList K (tVar 0)) (gName 2) tStir)
  (tSeq (tAsg (tLc (iList K (tVar 0)) (gName 2) tYes (tCB rAbs1 (tCons (tVar 2) tNil)) [2]) (gName 3))
    (tRet (tDisp [(tC (V.str "cells"), tRevL K (tVar 3)), (tC (V.str "left"), tC (V.int 1)), (tC (V.str "mixed"), tVar 1), (tC (V.str "turn"), tC (V.int 0))]))))
theorem stir1_lo (s c : Int) : 0 ≤ stir1 s c := Int.emod_nonneg _ (by decide)
theorem stir1_hi (s c : Int) : stir1 s c < 2147483629 := Int.emod_lt_of_pos _ (by decide)
theorem stir_in : ∀ (ns : List Int) (s : Int), 0 ≤ s → s < 2147483629 → 0 ≤ ns.foldl stir1 s ∧ ns.foldl stir1 s < 2147483629
  | [], s, h0, h1 => ⟨h0, h1⟩
  | n :: ns, s, _, _ => stir_in ns _ (stir1_lo s n) (stir1_hi s n)
theorem big_mul {c : Int} (hc : c.natAbs.log2 ≤ 1048576) : CMulX c 31 := mulx_ok (a := c.natAbs.log2 + 1) (b := 5) Nat.lt_log2_self (by decide) (by omega)
theorem open_read {K : PySem.W.Frag} {vs : List V} {H : Hp} {Q : VK} (h : spO K vs H Q E0) : tOpen K { nx := fun _ H' => Q .non H', rt := Q } (L2.start ["script", "stirred", "cell", "cells"] vs) H := by
  obtain ⟨a, ns, rfl, hq, ⟨hlen, hb⟩, q⟩ := h
  show tOpen K _ [some (.ref a), none, none, none] H
  refine ⟨.ref a, rfl, a, rfl, ⟨_, hq⟩, for_list (fun i σ H1 => H1 = H ∧ ∃ y, σ = [some (.ref a), some (.int ((ns.take i).foldl stir1 11)), y, none]) ⟨rfl, none, rfl⟩ (fun i σ H1 _ p => by rw [p.1]; exact hq) ?_ ?_⟩
  · rintro i x σ H1 hx ⟨rfl, y, rfl⟩
    rw [List.getElem?_map] at hx
    obtain ⟨n, hn, rfl⟩ := Option.map_eq_some_iff.mp hx
    obtain ⟨s0, s1⟩ := stir_in (ns.take i) 11 (by decide) (by decide)
    have m1 : CMulX ((ns.take i).foldl stir1 11) 69069 := mulx_ok (a := 31) (b := 17) (by omega) (by decide) (by decide)
    have m2 := big_mul (hb n (List.mem_of_getElem? hn))
    refine ⟨_, rfl, _, _, rfl, rfl, m1, _, rfl, _, _, rfl, rfl, m2, _, _, rfl, rfl, _, _, rfl, rfl, .inl ⟨_, rfl, _, _, rfl, rfl, (show (0 : Int) < 2147483629 by decide), rfl, some (.int n), ?_⟩⟩
    rw [List.take_add_one, hn, List.foldl_append]
    rfl
  · rintro σ H ⟨rfl, y, rfl⟩
    rw [List.length_map, List.take_length]
    -- cells = [abs(cell) for cell in script]
    refine ⟨.ref a, rfl, a, rfl, ⟨_, hq⟩, fun L hL => lc_list (fun i H1 => Same H H1 ∧ H1 L = some (.lst (((ns.take i).map absI).map V.int))) ⟨same_new hL, upd_same⟩ (fun i H1 _ p => p.1.seq hq) ?_ ?_⟩
    · rintro i x H1 hx ⟨sm, hl⟩
      rw [List.getElem?_map] at hx
      obtain ⟨n, hn, rfl⟩ := Option.map_eq_some_iff.mp hx
      refine ⟨rfl, ?_⟩
      unfold tYes
      refine Eq.mpr (if_pos rfl) ?_
      refine ⟨_, rfl, n, rfl, _, hl, ?_, ?_, ?_⟩
      · rw [List.length_map, List.length_map, List.length_take]
        have hi := (List.getElem?_eq_some_iff.mp hn).1
        omega
      · exact fun b o e => by rw [upd_ne (ne_of_none e hL)]; exact sm b o e
      · rw [upd_same, List.take_add_one, hn, List.map_append, List.map_append]
        rfl
    · rintro H3 ⟨sm, hl⟩
      rw [List.length_map, List.take_length] at hl
      refine fun p hp => ⟨.ref L, rfl, L, _, rfl, .of (by rw [upd_ne (ne_of_none hl hp)]; exact hl), fun c hc => ?_⟩
      have cp : c ≠ p := fun z => by rw [z, upd_same] at hc; cases hc
      have hc3 : H3 c = none := by rw [upd_ne cp] at hc; exact hc
      refine ⟨_, rfl, by rw [upd_ne (Ne.symm cp), upd_same], [(.inr "cells", .ref c), (.inr "left", .int 1), (.inr "mixed", .int (stir ns)), (.inr "turn", .int 0)], rfl, by simp, ?_⟩
      have em : mergeK [] [((.inr "cells" : Key), V.ref c), (.inr "left", .int 1), (.inr "mixed", .int (stir ns)), (.inr "turn", .int 0)] = [(.inr "cells", .ref c), (.inr "left", .int 1), (.inr "mixed", .int (stir ns)), (.inr "turn", .int 0)] := rfl
      rw [em]
      have hp0 : H p = none := sm.free hp
      have hc0 : H c = none := sm.free hc3
      refine q _ p c (fun b o e => ?_) fun i p' c' z => ?_
      · have e3 := sm b o e
        rw [upd_ne (ne_of_none e3 hp), upd_ne (ne_of_none e3 hc3), upd_ne (ne_of_none e3 hp)]; exact e3
      · cases z
        refine ⟨upd_same, ?_, ?_, hp0, hc0⟩
        · rw [upd_ne cp, upd_same]
          show _ = some (HO.lst ((ns.map absI).reverse.map V.int))
          rw [List.map_reverse]
        · show ((ns.map absI).reverse).length ≤ sizeLine
          rw [List.length_reverse, List.length_map]; exact hlen
end DL

/-! DLr: the law's own def, and the end of a law row for promises under no guard. -/
namespace DL
open PySem PySem.Spec PyProof.Rows L2

/-- the def that opens the source is there -/
structure HasO (P : Program) (w : World) (K : PySem.W.Frag) (mg : Str → Option Value) (base : Heap) (k : Nat) (x : Str) : Prop where
  ex : ∃ (f : Addr) (fd : FuncData), FnG P w K mg base k f fd ["script"] (spO K) ∧ mg x = some (.ref f) ∧ PySem.W.keepIn K (.ref f) = true ∧ Binds K fd ["script"] []
section
variable {P : Program} {w : World} {K : PySem.W.Frag} {mg : Str → Option Value} {base : Heap} {j k : Nat} {x : Str}
theorem HasO.mono (h : HasO P w K mg base j x) (hj : j ≤ k) : HasO P w K mg base k x := ⟨let ⟨f, fd, h2, h3⟩ := h.ex; ⟨f, fd, h2.mono hj, h3⟩⟩
theorem has_O {f : Addr} {fd : FuncData} {st : Stmt} (F : Fun K x x st f fd) (S : FnScope ["script", "stirred", "cell", "cells"] ["script"] (defScope st)) (b : Binds K fd ["script"] []) (hm : mg x = some (.ref f))
    (body : ∀ (cdv : Value) (A : Around) (outer : List Env) (s : Shared) (H : Hp), Room k (A.deeper (envOfC x (defScope st) s.heap.objs.size f cdv)) →
      PSs (cxOf CX0 P w K mg base ["script", "stirred", "cell", "cells"] x (defScope st) f cdv A outer s H E0).nox (defBody st) (tOpen K)) : HasO P w K mg base (k + 1) x :=
  ⟨f, fd, fnG_of F S (fun vs H Q ⟨a, ns, e, _⟩ => by rw [e]; rfl) fun cdv A outer s H vs Q hr hg hsp => ⟨_, body cdv A outer s H hr, open_read hsp⟩, hm, F.kp, b⟩
theorem has_pick {f : Addr} {fd : FuncData} {st : Stmt} (F : Fun K "_law_pick" "_law_pick" st f fd) (S : FnScope ["source", "most", "cells", "others", "lap", "stirred"] ["source", "most"] (defScope st)) (b : Binds K fd ["source", "most"] []) (hm : mg "_law_pick" = some (.ref f))
    (body : ∀ (cdv : Value) (A : Around) (outer : List Env) (s : Shared) (H : Hp), Room k (A.deeper (envOfC "_law_pick" (defScope st) s.heap.objs.size f cdv)) →
      PSs (cxOf CX0 P w K mg base ["source", "most", "cells", "others", "lap", "stirred"] "_law_pick" (defScope st) f cdv A outer s H E0).nox (defBody st) (tPick K)) : HasS P w K mg base (k + 1) "_law_pick" 2 mPick :=
  ⟨⟨f, fd, ["source", "most"], rfl, fnG_of F S (fun vs H Q ⟨_, _, _, us, _, _, _, _, e, h, _⟩ => by rw [e]; exact h) fun cdv A outer s H vs Q hr hg hsp => ⟨_, body cdv A outer s H hr, pick_read hsp⟩, hm, F.kp, b⟩, mPick_len⟩
end
section
variable {X : Cx} {k : Nat} {x : Str} {e : Expr} {te : TE} {p pos : Pos}
theorem pe_open (h : HasO X.prog X.w X.K X.mg X.base k x) (hr : Room k X.A) (hd : X.A.guards = some []) (hg : Gl X x) (ha : PE X e te) (hdb : (x == ("__debug__" : Str)) = false := by decide) (he : starEach [e] X.env = (false, eval e X.env) :: starEach [] X.env := by rfl) :
    PE X (.Call (.Name x p) [e] [] pos) (tCall (spO X.K) [] E0 (tCons te tNil)) := by
  obtain ⟨f, fd, F, hm, hk, hb⟩ := h.ex
  exact pe_callG F hr hd hg hm hk hb (pa_cons ha pa_nil he) hdb he rfl
end

/-- the law's def: the first statement opens the source, g mirrors the rest -/
def lawGo (n : Nat) (g : Stm) (ns : List Int) : Prop := ∃ ρ' τ', g (.no :: .src :: List.replicate (n - 2) .no) (srcOf ns) = some (.rt (.bool true), ρ', τ')
def spLaw (K : PySem.W.Frag) (n : Nat) (g : Stm) : Sp := fun vs H Q _ => ∃ a ns, vs = [.ref a] ∧ SqL K H a (ns.map V.int) ∧ OkNs ns ∧ lawGo n g ns ∧ ∀ H', Q (.bl true) H'
section
variable {P : Program} {w : World} {K : PySem.W.Frag} {mg : Str → Option Value} {base : Heap} {k : Nat}
theorem law_G {f : Addr} {fd : FuncData} {st : Stmt} {N : List Str} {g : Stm} (F : Fun K "law" "law" st f fd) (S : FnScope N ["script"] (defScope st)) (hN : 2 ≤ N.length)
    (body : ∀ (cdv : Value) (A : Around) (outer : List Env) (s : Shared) (H : Hp), Room k (A.deeper (envOfC "law" (defScope st) s.heap.objs.size f cdv)) → A.guards = some [] →
      ∃ st0 rest, defBody st = st0 :: rest ∧ PS (cxOf CX0 P w K mg base N "law" (defScope st) f cdv A outer s H E0).nox st0 (tAsg (tCall (spO K) [] E0 (tCons (tVar 0) tNil)) (gName 1)) ∧
        DSs (cxOf CX0 P w K mg base N "law" (defScope st) f cdv A outer s H E0).nox rest g) : FnG P w K mg base (k + 1) f fd ["script"] (spLaw K N.length g) := by
  refine fnG_of F S (fun vs H Q ⟨a, ns, e, _⟩ => by rw [e]; rfl) fun cdv A outer s H vs Q hr hg hsp => ?_
  obtain ⟨st0, rest, eb, h1, h2⟩ := body cdv A outer s H hr hg
  refine ⟨tSeq (tAsg (tCall (spO K) [] E0 (tCons (tVar 0) tNil)) (gName 1)) (tS g), by rw [eb]; exact pss_cons h1 h2, ?_⟩
  obtain ⟨a, ns, rfl, hq, ok, ⟨ρ', τ', hgo⟩, q⟩ := hsp
  have es : L2.start N [.ref a] = some (.ref a) :: none :: List.replicate (N.length - 2) none := by
    obtain ⟨m, hm⟩ : ∃ m, N.length = m + 2 := ⟨N.length - 2, by omega⟩
    unfold L2.start
    rw [hm]
    rfl
  rw [es]
  refine ⟨.ref a, rfl, a, ns, rfl, hq, ok, fun H' p c sm ks => ?_⟩
  refine ⟨H, H, H, some (1, p, c), .no :: .src :: List.replicate (N.length - 2) .no, srcOf ns, .rt (.bool true), ρ', τ', ⟨⟨Same.refl _, fun b o e _ => sm b o e, fun b e => ?_, fun b e _ => e⟩, sm, by simp, fun i d h => ?_, fun i d h => ?_, fun i j d e b _ h => ?_, ks, rfl, fun i p' c' z => ?_⟩, hgo, ?_⟩
  · cases z : H b with
    | none => exact absurd z e
    | some o => exact nn_of (sm b o z)
  · match i, h with
    | 0, h => cases h
    | 1, h => cases h
    | i + 2, h => rw [List.getElem?_cons_succ, List.getElem?_cons_succ, List.getElem?_replicate] at h; split at h <;> cases h
  · match i, h with
    | 0, h => cases h
    | 1, h => cases h
    | i + 2, h => rw [List.getElem?_cons_succ, List.getElem?_cons_succ, List.getElem?_replicate] at h; split at h <;> cases h
  · match i, h with
    | 0, h => cases h
    | 1, h => cases h
    | i + 2, h => rw [List.getElem?_cons_succ, List.getElem?_cons_succ, List.getElem?_replicate] at h; split at h <;> cases h
  · cases z
    exact ⟨by omega, rfl, rfl⟩
  · intro F1 H1 v x1 s1 k1 r1
    cases r1
    exact q H1
end

/-! ### the end of a row -/
theorem row_end {P : Program} {w : World} {K : PySem.W.Frag} {mg mb : Str → Option Value} {k : Nat} {fa a : Addr} {fd : FuncData} {sp : Sp} {sh : Shared} {us : List Value} {ns : List Int}
    (kin : K.In sh.heap) (gl : sh.heap.Ns mainGlobals mg) (bl : sh.heap.Ns builtinsNs mb) (bt : ∀ y : Str, y ≠ "__name__" → mb y = bootBuiltins y) (nl : sh.heap.NoLimit) (ge : sh.gens = #[])
    (at_ : sh.heap.get? a = some { cls := .type "list", data := .seq us.toArray }) (ii : IntsAre us ns) (len : ns.length ≤ sizeLine) (room : Room k callerA)
    (G : ∀ base : Heap, K.In base → base.Ns mainGlobals mg → FnG P w K mg base k fa fd ["script"] sp) (bi : ∀ (s : Shared) (u : Value), BindsTo s fd ⟨[u], []⟩ [("script", u)])
    (yes : ∀ H : Hp, SqL K H a (ns.map V.int) → sp [.ref a] H (fun v _ => v = .bl true) E0) :
    codeAny (model P w) callerA (.call (.ref fa) ⟨[.ref a], []⟩) (fun r s2 => r = .ok (.ret (.bool true)) ∧ OldK sh.heap s2.heap ∧ s2.os = sh.os ∧ AllBare s2.gens) sh := by
  have vv := vals_ints ii
  have main : ∀ H : Hp, Only H → SqL K H a (ns.map V.int) → HOk P w H sh.heap → (∀ b, H b ≠ none → b = a) → (H a ≠ none → K.lookup a = none) →
      codeAny (model P w) callerA (.call (.ref fa) ⟨[.ref a], []⟩) (fun r s2 => r = .ok (.ret (.bool true)) ∧ OldK sh.heap s2.heap ∧ s2.os = sh.os ∧ AllBare s2.gens) sh := by
    intro H only seq ok just notK
    have notD : ∀ {b : Addr} {ob : Obj} {es : Array DictEntry} {ep : Nat}, sh.heap.get? b = some ob → ob.data = .dict es ep → H b = none := fun {b ob es ep} e d => Classical.byContradiction fun z => by
      have ba := just b z
      rw [ba, at_] at e
      cases e
      cases (d : Data.seq us.toArray _ = Data.dict es ep)
    have ns2 : ∀ {b : Addr} {m : Str → Option Value}, sh.heap.Ns b m → (hidT sh.heap H).Ns b m := fun {b m} h => by
      obtain ⟨ob, es, ep, e, d, r⟩ := h
      exact ⟨ob, es, ep, hidT_get e (notD e d), d, r⟩
    have kin2 : K.In (hidT sh.heap H) := fun b ob e => hidT_get (kin b ob e) (Classical.byContradiction fun z => by
      have ba := just b z
      rw [ba] at e z
      rw [notK z] at e
      cases e)
    have limit : (hidT sh.heap H).NoLimit := by
      obtain ⟨mc, q1, q2⟩ := nl
      exact ⟨mc, ns2 q1, q2⟩
    have env : Env0 P w K mg (hidT sh.heap H) callerA [] sh H := ⟨rfl, ⟨kin2, ns2 gl, ⟨mb, ns2 bl, bt⟩, limit⟩, fun b ob e => of_hidT e, Nat.le_of_eq (hidT_size _ _), trivial, fun b hb => (List.not_mem_nil hb).elim, ok, .of_eq ge⟩
    refine codeAny_mono ((G _ kin2 (ns2 gl)).run callerA [] sh H ⟨[.ref a], []⟩ [.ref a] [.ref a] _ room rfl env (bi sh (.ref a)) (.cons rfl .nil) (yes H seq)) fun r s2 h => ?_
    match r, h with
    | .error e, h => exact h.elim
    | .ok .next, h => exact h.elim
    | .ok .brk, h => exact h.elim
    | .ok .cont, h => exact h.elim
    | .ok (.ret u), h =>
      obtain ⟨v, H2, eos, bare, un, ok2, rv, ev⟩ := h
      have ev2 : v = .bl true := ev
      rw [ev2] at rv
      have eu : u = Value.bool true := rv
      rw [eu]
      refine ⟨rfl, OldK.of_keep fun b ob e => ?_, eos, bare⟩
      rcases only b with z | ⟨o2, xs, z⟩
      · exact un.keep b ob e z (fun m => (List.not_mem_nil m).elim) (fun m => (List.not_mem_nil m).elim)
      · have e1 := (ok b _ z).1
        have e2 := (ok2 b _ (un.frzs b o2 _ z)).1
        rw [e] at e1
        cases e1
        exact e2
  cases hk : K.lookup a with
  | some ob =>
    have eo := kin a ob hk
    rw [at_] at eo
    cases eo
    exact main (fun _ => none) (fun _ => .inl rfl) (.inr ⟨_, us.toArray, _, hk, rfl, rfl, rfl, by rw [List.size_toArray, ii.length]; exact len, by simpa using vv⟩) (fun b u z => nomatch z) (fun b z => (z rfl).elim) fun z => (z rfl).elim
  | none =>
    have same : ∀ b, b ≠ a → (if b = a then some (HO.frz { cls := .type "list", data := .seq us.toArray } (.lst (ns.map V.int))) else none) = none := fun b h => if_neg h
    refine main (fun b => if b = a then some (.frz { cls := .type "list", data := .seq us.toArray } (.lst (ns.map V.int))) else none) (fun b => ?_) (.inl (.inr ⟨{ cls := .type "list", data := .seq us.toArray }, if_pos rfl⟩)) (fun b u z => ?_) (fun b z => Classical.byContradiction fun h => z (same b h)) fun _ => hk
    · rcases Classical.em (b = a) with h | h
      · exact .inr ⟨_, _, if_pos h⟩
      · exact .inl (if_neg h)
    · rcases Classical.em (b = a) with h | h
      · cases (if_pos h).symm.trans z
        rw [h]
        exact ⟨at_, by rw [List.length_map]; exact len, us, _, vv, at_⟩
      · cases (if_neg h).symm.trans z
theorem bits_log {z : Int} (h : Builtin.Int.intBits z ≤ 1048576) : z.natAbs.log2 ≤ 1048576 := by
  unfold Builtin.Int.intBits at h
  split at h
  · rename_i h0
    have : z = 0 := by simpa using h0
    subst this
    decide
  · omega
theorem row_walk {l : PySem.W.OpenLaw} {k : Nat} {q : Program} {loose : List Str} {XP : (Str → Option Value) → Heap → Prop} {YP : World → Heap → Prop} {d : DefRec} {K : Params → PySem.W.Frag} {n : Nat} {g : Stm}
    (h63 : l.most = some 63) (nodef : d.params.defaults = []) (room : Room k callerA) (kin : ∀ (w : World) (h : Heap), YP w h → (K w.params).In h)
    (G : ∀ (w : World) (mg : Str → Option Value) (fa : Addr) (h : Heap), (K w.params).In h → h.Ns mainGlobals mg → mg d.name = some (.ref fa) →
      ∃ fd : FuncData, (∀ (s : Shared) (u : Value), BindsTo s fd ⟨[u], []⟩ [("script", u)]) ∧ ∀ base : Heap, (K w.params).In base → base.Ns mainGlobals mg → FnG l.prog w (K w.params) mg base k fa fd ["script"] (spLaw (K w.params) n g))
    (plain : ∀ ns : List Int, ns.length ≤ 63 → OkNs ns → lawGo n g ns) : PySem.W.WalkO q loose XP YP l.row.toRowW d [] (fun f vs => PySem.call f vs) := by
  refine Att.attach_callB h63 nodef fun w s0 s1 mg mb fa o pm cd doc a us ns Gd Y _ _ _ hmg obj itg len bits gens => ?_
  have kin1 := kin w _ Y
  obtain ⟨fd, bi, hF⟩ := G w mg fa _ kin1 Gd.T.g hmg
  have l63 : ns.length ≤ sizeLine := Nat.le_trans len (by rw [sizeLine_eq]; decide)
  have ok : OkNs ns := ⟨l63, fun z hz => bits_log (bits z hz)⟩
  exact row_end kin1 Gd.T.g Gd.T.b Gd.T.builtins Gd.T.nolimit gens obj itg l63 room hF bi fun H seq => ⟨a, ns, rfl, seq, ok, plain ns len ok, fun _ => rfl⟩
end DL

/-! PL: tools to say what mirrors give, in plain Lean. -/
namespace DL
open PySem PySem.Spec

/-! ### evaluation -/
def okY : Sl → Bool
  | .src => false
  | _ => true
@[simp] theorem okY_no : okY .no = true := rfl
@[simp] theorem okY_dat (d : D) : okY (.dat d) = true := rfl
@[simp] theorem okY_own (d : D) : okY (.own d) = true := rfl
section
variable {α β : Type} {η : EnvD} {τ : Src} {ρ : EnvS}
@[simp] theorem mPure_ev (a : α) : mPure a η τ = some (a, τ) := rfl
@[simp] theorem mBind_ev (f : M α) (g : α → M β) : mBind f g η τ = match f η τ with | some (a, τ1) => g a η τ1 | none => none := rfl
@[simp] theorem mLift_ev (o : Option α) : mLift o η τ = match o with | some a => some (a, τ) | none => none := rfl
@[simp] theorem mVar_ev (i : Nat) : mVar i η τ = match η[i]? with | some (some d) => some (d, τ) | _ => none := rfl
@[simp] theorem mOp2_ev (o : D → D → Option D) (f g : M D) : mOp2 o f g = mBind f fun x => mBind g fun y => mLift (o x y) := rfl
@[simp] theorem mOp1_ev (o : D → Option D) (f : M D) : mOp1 o f = mBind f fun x => mLift (o x) := rfl
@[simp] theorem mOpL_ev (o : List D → Option D) (f : M (List D)) : mOpL o f = mBind f fun x => mLift (o x) := rfl
@[simp] theorem mBool_ev (f : M D) : mBool f = mBind f fun x => mLift (bOf x) := rfl
@[simp] theorem mNil_ev : mNil = mPure [] := rfl
@[simp] theorem mCons_ev (f : M D) (g : M (List D)) : mCons f g = mBind f fun x => mBind g fun xs => mPure (x :: xs) := rfl
@[simp] theorem mStar_ev (f : M D) (g : M (List D)) : mStar f g = mBind f fun x => mBind (mLift (seqOf x)) fun ds => mBind g fun xs => mPure (ds ++ xs) := rfl
@[simp] theorem mTup_ev (g : M (List D)) : mTup g = mBind g fun xs => mLift ((okLen xs).map PyData.tuple) := rfl
@[simp] theorem mLst_ev (g : M (List D)) : mLst g = mBind g fun xs => mLift (okLen xs) := rfl
@[simp] theorem mOfN_ev (g : M (List D)) : mOfN g = mBind g fun xs => mPure (.list xs) := rfl
@[simp] theorem mListOf_ev (f : M D) : mListOf f = mBind f fun x => mLift (seqOf x) := rfl
@[simp] theorem mItems_ev (f : M D) : mItems f = mBind f fun x => mLift (seqOf x) := rfl
@[simp] theorem mTrue_ev : mTrue = mPure true := rfl
@[simp] theorem seqOf_list (ds : List D) : seqOf (.list ds) = some ds := rfl
@[simp] theorem seqOf_tuple (ds : List D) : seqOf (.tuple ds) = some ds := rfl
@[simp] theorem bOf_bool (b : Bool) : bOf (.bool b) = some b := rfl
@[simp] theorem iOf_int (i : Int) : iOf (.int i) = some i := rfl
@[simp] theorem see_dat (b : Bool) (d : D) : see b (.dat d) = some d := rfl
@[simp] theorem see_no (b : Bool) : see b .no = none := rfl
@[simp] theorem see_src (b : Bool) : see b .src = none := rfl
@[simp] theorem see_ownT (d : D) : see true (.own d) = some d := rfl
@[simp] theorem see_ownF (d : D) : see false (.own d) = none := rfl
@[simp] theorem okD_F (d : D) : okD false d = true := rfl
@[simp] theorem okA_F (d : List D) : okA false d = true := rfl
@[simp] theorem okD_int (b : Bool) (i : Int) : okD b (.int i) = true := by simp [okD, pureD]
@[simp] theorem okD_bool (b : Bool) (i : Bool) : okD b (.bool i) = true := by simp [okD, pureD]
@[simp] theorem okA_nil (b : Bool) : okA b [] = true := by simp [okA, pureA]
theorem pureA_ints : ∀ xs : List Int, pureA (xs.map .int) = true
  | [] => by simp [pureA]
  | x :: xs => by simp [pureA, pureD, pureA_ints xs]
@[simp] theorem okA_ints (b : Bool) (xs : List Int) : okA b (xs.map .int) = true := by simp [okA, pureA_ints]
@[simp] theorem okD_ints (b : Bool) (xs : List Int) : okD b (.tuple (xs.map .int)) = true := by simp [okD, pureD, pureA_ints]
@[simp] theorem okSet_ev (i : Nat) : okSet ρ i = match ρ[i]? with | some s => okY s | none => false := by
  unfold okSet
  cases ρ[i]? with
  | none => rfl
  | some s => cases s <;> rfl
@[simp] theorem okLen_nil : okLen [] = some [] := by simp [okLen]
@[simp] theorem mIf_ev (f : M Bool) (u v : M D) : mIf f u v = mBind f fun b => if b = true then u else v := rfl
@[simp] theorem mAnd_ev (f g : M Bool) : mAnd f g = mBind f fun b => if b = true then g else mPure false := rfl
@[simp] theorem mOr_ev (f g : M Bool) : mOr f g = mBind f fun b => if b = true then mPure true else g := rfl
@[simp] theorem mNot_ev (f : M Bool) : mNot f = mBind f fun b => mPure (!b) := rfl
@[simp] theorem mNoPart_ev : mNoPart = mPure none := rfl
@[simp] theorem mPart_ev (f : M D) : mPart f = mBind f fun x => mLift ((iOf x).map some) := rfl
@[simp] theorem mSlice_ev (f : M D) (l h : M (Option Int)) : mSlice f l h = mBind f fun x => mBind l fun lo => mBind h fun hi => mLift (dCut x lo hi) := rfl
@[simp] theorem mRange1_ev (f : M D) : mRange1 f = mBind f fun x => mLift ((iOf x).bind fun n => rangeD 0 n) := rfl
@[simp] theorem mRange2_ev (f g : M D) : mRange2 f g = mBind f fun x => mBind g fun y => mLift ((iOf x).bind fun i => (iOf y).bind fun j => rangeD i j) := rfl
@[simp] theorem mRg1_ev (f : M D) : mRg1 f = mBind f fun x => mLift ((iOf x).map fun n => ((0 : Int), n)) := rfl
@[simp] theorem mRg2_ev (f g : M D) : mRg2 f g = mBind f fun x => mBind g fun y => mLift ((iOf x).bind fun i => (iOf y).map fun j => (i, j)) := rfl
@[simp] theorem mTupRg_ev (r : M (Int × Int)) : mTupRg r = mBind r fun x => mLift ((rangeD x.1 x.2).map .tuple) := rfl
@[simp] theorem mLstRg_ev (r : M (Int × Int)) : mLstRg r = mBind r fun x => mLift (rangeD x.1 x.2) := rfl
@[simp] theorem mSkip_ev : mSkip ρ τ = some (.nx, ρ, τ) := rfl
@[simp] theorem mRet_ev (f : M D) : mRet f ρ τ = match f (view true ρ) τ with | some (d, τ') => some (.rt d, ρ, τ') | none => none := rfl
@[simp] theorem mSet_ev (b : Bool) (i : Nat) (f : M D) : mSet b i f ρ τ = match f (view b ρ) τ with | some (d, τ') => if okSet ρ i && okD b d then some (.nx, ρ.set i (.dat d), τ') else none | none => none := rfl
@[simp] theorem mSetN_ev (b : Bool) (i : Nat) (f : M (List D)) : mSetN b i f ρ τ = match f (view b ρ) τ with | some (d, τ') => if okSet ρ i && okA b d then some (.nx, ρ.set i (.own (.list d)), τ') else none | none => none := rfl
@[simp] theorem mApp_ev (b : Bool) (i : Nat) (f : M D) : mApp b i f ρ τ = match f (view b ρ) τ with
  | some (d, τ') => (match ρ[i]? with
    | some (.own (.list ds)) => if okD b d && decide (ds.length < sizeLine) then some (.nx, ρ.set i (.own (.list (ds ++ [d]))), τ') else none
    | _ => none)
  | none => none := rfl
@[simp] theorem mExt_ev (b : Bool) (i : Nat) (f : M D) : mExt b i f ρ τ = match f (view b ρ) τ with
  | some (.list es, τ') => (match ρ[i]? with
    | some (.own (.list ds)) => if okA b es && decide (ds.length + es.length ≤ sizeLine) then some (.nx, ρ.set i (.own (.list (ds ++ es))), τ') else none
    | _ => none)
  | _ => none := rfl
@[simp] theorem mSetIx_ev (b : Bool) (i : Nat) (f k : M D) : mSetIx b i f k ρ τ = match f (view b ρ) τ with
  | some (d, τ1) => (match k (view b ρ) τ1 with
    | some (.int n, τ2) => (match ρ[i]? with
      | some (.own (.list ds)) => (match L2.ixN ds.length n with
        | some j => if okD b d then some (.nx, ρ.set i (.own (.list (ds.set j d))), τ2) else none
        | none => none)
      | _ => none)
    | _ => none)
  | none => none := rfl
@[simp] theorem mIfS_ev (c : M Bool) (g h : Stm) : mIfS c g h ρ τ = match c (view true ρ) τ with | some (b, τ') => if b = true then g ρ τ' else h ρ τ' | none => none := rfl
@[simp] theorem mVNil_ev : mVNil = mPure [] := rfl
@[simp] theorem mVDat_ev (f : M D) (g : M (List Sl)) : mVDat f g = mBind f fun x => mBind g fun xs => mPure (.dat x :: xs) := rfl
@[simp] theorem mVOwn_ev (f : M (List D)) (g : M (List Sl)) : mVOwn f g = mBind f fun x => mBind g fun xs => mPure (.own (.list x) :: xs) := rfl
@[simp] theorem mPar_ev (b : Bool) (is : List Nat) (f : M (List Sl)) : mPar b is f ρ τ = match f (view b ρ) τ with
  | some (ss, τ') => if okSlots ρ is && okV b ss && decide (ss.length = is.length) then some (.nx, putS ρ is ss, τ') else none
  | none => none := rfl
@[simp] theorem mFor_ev (fi : M (List D)) (b : Tgt) (g : Stm) : mFor fi b g ρ τ = match fi (view false ρ) τ with | some (ds, τ1) => forGo b g ds ρ τ1 | none => none := rfl
@[simp] theorem mAsgT_ev (v : Bool) (b : Tgt) (f : M D) : mAsgT v b f ρ τ = match f (view v ρ) τ with
  | some (d, τ1) => (match bindT b d with
    | some as => if okSets ρ as && okD v d then some (.nx, setSl ρ as, τ1) else none
    | none => none)
  | none => none := rfl
end
theorem rangeD_of {lo hi : Int} (h1 : -(2 ^ 62) ≤ lo) (h2 : hi < 2 ^ 62) (h3 : lo ≤ hi) (h4 : hi - lo ≤ 2 ^ 24) : rangeD lo hi = some ((List.range (hi - lo).toNat).map fun i => .int (lo + (i : Nat))) := by
  unfold rangeD
  rw [if_pos ⟨h1, by omega, by omega, h2, by omega⟩]
theorem seq_nx {g h : Stm} {ρ ρ1 : EnvS} {τ τ1 : Src} (e : g ρ τ = some (.nx, ρ1, τ1)) : mSeq g h ρ τ = h ρ1 τ1 := by
  unfold mSeq
  rw [e]
theorem seq_rt {g h : Stm} {ρ ρ1 : EnvS} {τ τ1 : Src} {d : D} (e : g ρ τ = some (.rt d, ρ1, τ1)) : mSeq g h ρ τ = some (.rt d, ρ1, τ1) := by
  unfold mSeq
  rw [e]
theorem for_nx {fi : M (List D)} {b : Tgt} {g : Stm} {ρ : EnvS} {τ τ1 : Src} {ds : List D} {r : Option (Out × EnvS × Src)} (e : fi (view false ρ) τ = some (ds, τ1)) (h : forGo b g ds ρ τ1 = r) : mFor fi b g ρ τ = r := by
  unfold mFor
  rw [e]
  exact h
theorem comp_nx {fi : M (List D)} {vs : List Nat} {b : Tgt} {tt : M Bool} {te : M D} {η : EnvD} {τ τ1 : Src} {ds : List D} {r : Option (List D × Src)} (e : fi η τ = some (ds, τ1)) (h : compGo b tt te (wipeD η vs) ds τ1 = r) : mComp fi vs b tt te η τ = r := by
  unfold mComp mBind
  rw [e]
  exact h
theorem runP_rt {np n : Nat} {g : Stm} {ds : List D} {d : D} {ρ : EnvS} {τ : Src} (hl : ds.length = np) (e : g (enter n ds) noSrc = some (.rt d, ρ, τ)) : runP np n g ds = some d := by
  unfold runP
  rw [if_pos hl, e]
  rfl
@[simp] theorem enter_1 (n : Nat) (a : D) : enter (n + 1) [a] = .dat a :: List.replicate n .no := rfl
@[simp] theorem enter_2 (n : Nat) (a b : D) : enter (n + 2) [a, b] = .dat a :: .dat b :: List.replicate n .no := by simp [enter]
@[simp] theorem enter_3 (n : Nat) (a b c : D) : enter (n + 3) [a, b, c] = .dat a :: .dat b :: .dat c :: List.replicate n .no := by simp [enter]
@[simp] theorem view_nil (b : Bool) : view b [] = [] := rfl
@[simp] theorem view_cons (b : Bool) (s : Sl) (ρ : EnvS) : view b (s :: ρ) = see b s :: view b ρ := rfl

/-! ### operators on ints -/
section
variable (i j : Int)
@[simp] theorem dAdd_ii : dAdd (.int i) (.int j) = some (.int (i + j)) := rfl
@[simp] theorem dSub_ii : dSub (.int i) (.int j) = some (.int (i - j)) := rfl
@[simp] theorem dLt_ii : dLt (.int i) (.int j) = some (.bool (decide (i < j))) := rfl
@[simp] theorem dLe_ii : dLe (.int i) (.int j) = some (.bool (decide (i ≤ j))) := rfl
@[simp] theorem dGt_ii : dGt (.int i) (.int j) = some (.bool (decide (j < i))) := rfl
@[simp] theorem dGe_ii : dGe (.int i) (.int j) = some (.bool (decide (j ≤ i))) := rfl
@[simp] theorem dMin2_ii : dMin2 [.int i, .int j] = some (.int (if j < i then j else i)) := rfl
@[simp] theorem dMax2_ii : dMax2 [.int i, .int j] = some (.int (if j > i then j else i)) := rfl
theorem dMul_ii (h : okMul i j = true) : dMul (.int i) (.int j) = some (.int (i * j)) := by
  simp [dMul, dOr, dI, h]
theorem dMod_ii (h : 0 < j) : dMod (.int i) (.int j) = some (.int (i % j)) := by simp [dMod, dI, h]
@[simp] theorem shaped_int : SeqAt.shaped (.int i) = true := by simp [SeqAt.shaped, PyData.canLay0, PyData.depth]
@[simp] theorem dEqA_ii : dEqA (.int i) (.int j) = some (.bool (i == j)) := by simp [dEqA, dOr, dStrs, dEq, okEq, PyData.eqv]
@[simp] theorem dNeA_ii : dNeA (.int i) (.int j) = some (.bool (!(i == j))) := by simp [dNeA, dOr, dStrs, dNe, okEq, PyData.eqv]
@[simp] theorem dNeA_ss (x y : Str) : dNeA (.str x) (.str y) = some (.bool (!decide (x = y))) := by simp [dNeA, dOr, dStrs]
end
theorem okMul_small {i j : Int} (h1 : i.natAbs < 2 ^ 64) (h2 : j.natAbs < 2 ^ 64) : okMul i j = true := by
  have l : ∀ n : Nat, n < 2 ^ 64 → n.log2 < 65 := fun n h => by
    by_cases hz : n = 0
    · rw [hz]; decide
    · exact Nat.lt_succ_of_lt ((Nat.log2_lt hz).mpr h)
  unfold okMul
  have a := l _ h1
  have b := l _ h2
  exact decide_eq_true (by omega)

/-! ### what may be compared; what may be shown -/
/-- plain nested data: no text, no dict; no deeper than k -/
def Lay (k : Nat) (d : D) : Prop := d.canLay0 = true ∧ d.depth ≤ k
theorem layAll {k : Nat} : ∀ {ds : List D}, (∀ d ∈ ds, Lay k d) → PyData.canLayAll0 ds = true ∧ PyData.depthAll ds ≤ k
  | [], _ => ⟨by simp [PyData.canLayAll0], by simp [PyData.depthAll]⟩
  | d :: ds, h => by
    obtain ⟨h1, h2⟩ := layAll (ds := ds) fun x hx => h x (List.mem_cons_of_mem _ hx)
    obtain ⟨h3, h4⟩ := h d List.mem_cons_self
    exact ⟨by simp [PyData.canLayAll0, h1, h3], by simp only [PyData.depthAll]; omega⟩
theorem Lay.int {k : Nat} (i : Int) : Lay k (.int i) := ⟨by simp [PyData.canLay0], by simp [PyData.depth]⟩
theorem Lay.bool {k : Nat} (b : Bool) : Lay k (.bool b) := ⟨by simp [PyData.canLay0], by simp [PyData.depth]⟩
theorem Lay.tup {k : Nat} {ds : List D} (h : ∀ d ∈ ds, Lay k d) : Lay (k + 1) (.tuple ds) := by
  obtain ⟨h1, h2⟩ := layAll h
  exact ⟨by simp [PyData.canLay0, h1], by simp only [PyData.depth]; omega⟩
theorem Lay.lst {k : Nat} {ds : List D} (h : ∀ d ∈ ds, Lay k d) : Lay (k + 1) (.list ds) := by
  obtain ⟨h1, h2⟩ := layAll h
  exact ⟨by simp [PyData.canLay0, h1], by simp only [PyData.depth]; omega⟩
theorem Lay.mono {k j : Nat} {d : D} (h : Lay k d) (hj : k ≤ j) : Lay j d := ⟨h.1, Nat.le_trans h.2 hj⟩
theorem Lay.shaped {k : Nat} {d : D} (h : Lay k d) (hk : k ≤ 64) : SeqAt.shaped d = true := by
  unfold SeqAt.shaped
  rw [h.1, Bool.true_and]
  exact decide_eq_true (Nat.le_trans h.2 hk)
theorem Lay.map {α : Type} {k : Nat} {f : α → D} {xs : List α} (h : ∀ x ∈ xs, Lay k (f x)) : ∀ d ∈ xs.map f, Lay k d := fun d hd => by
  obtain ⟨x, hx, rfl⟩ := List.mem_map.mp hd
  exact h x hx
/-- .. whose text is no longer than n -/
def Shw (k n : Nat) (d : D) : Prop := Lay k d ∧ d.showable = true ∧ bnd d ≤ n
theorem Shw.int {n : Nat} {i : Int} (h : i.natAbs < 2 ^ 64) (hn : 70 ≤ n) {k : Nat} : Shw k n (.int i) := by
  have l : i.natAbs.log2 < 65 := by
    by_cases hz : i.natAbs = 0
    · rw [hz]; decide
    · exact Nat.lt_succ_of_lt ((Nat.log2_lt hz).mpr h)
  exact ⟨.int i, by simp only [PyData.showable]; exact decide_eq_true (by omega), by simp only [bnd]; omega⟩
theorem shwAll {k n : Nat} : ∀ {ds : List D}, (∀ d ∈ ds, Shw k n d) → PyData.showableAll ds = true ∧ bndA ds ≤ ds.length * (n + 2)
  | [], _ => ⟨by simp [PyData.showableAll], by simp [bndA]⟩
  | d :: ds, h => by
    obtain ⟨h1, h2⟩ := shwAll (ds := ds) fun x hx => h x (List.mem_cons_of_mem _ hx)
    obtain ⟨_, h3, h4⟩ := h d List.mem_cons_self
    refine ⟨by simp [PyData.showableAll, h1, h3], ?_⟩
    simp only [bndA, List.length_cons, Nat.add_mul, Nat.one_mul]
    omega
theorem Shw.tup {k n m r : Nat} {ds : List D} (h : ∀ d ∈ ds, Shw k n d) (hm : ds.length ≤ m) (hr : 3 + m * (n + 2) ≤ r) : Shw (k + 1) r (.tuple ds) := by
  obtain ⟨h1, h2⟩ := shwAll h
  refine ⟨.tup fun d hd => (h d hd).1, by simp [PyData.showable, h1], ?_⟩
  simp only [bnd]
  have := Nat.mul_le_mul_right (n + 2) hm
  omega
theorem Shw.lst {k n m r : Nat} {ds : List D} (h : ∀ d ∈ ds, Shw k n d) (hm : ds.length ≤ m) (hr : 3 + m * (n + 2) ≤ r) : Shw (k + 1) r (.list ds) := by
  obtain ⟨h1, h2⟩ := shwAll h
  refine ⟨.lst fun d hd => (h d hd).1, by simp [PyData.showable, h1], ?_⟩
  simp only [bnd]
  have := Nat.mul_le_mul_right (n + 2) hm
  omega
theorem Shw.map {α : Type} {k n : Nat} {f : α → D} {xs : List α} (h : ∀ x ∈ xs, Shw k n (f x)) : ∀ d ∈ xs.map f, Shw k n d := fun d hd => by
  obtain ⟨x, hx, rfl⟩ := List.mem_map.mp hd
  exact h x hx
theorem dRepr_of {k n : Nat} {d : D} (h : Shw k n d) (hk : k ≤ 64) (hn : n ≤ 2 ^ 24) : dRepr [d] = some (.str d.shown) := by
  show (if okRepr d = true then some (.str d.shown) else none : Option D) = _
  have : okRepr d = true := by
    unfold okRepr
    rw [h.1.shaped hk, h.2.1]
    have l := h.2.2
    have e := line24
    exact decide_eq_true (by rw [e]; omega)
  rw [if_pos this]

/-! ### lists of ints, of lists of ints -/
abbrev It (xs : List Int) : D := .tuple (xs.map .int)
abbrev Il (xs : List Int) : D := .list (xs.map .int)
abbrev Itt (xs : List (List Int)) : D := .tuple (xs.map It)
theorem lay_it {k : Nat} (xs : List Int) : Lay (k + 1) (It xs) := .tup (Lay.map fun x _ => .int x)
theorem lay_il {k : Nat} (xs : List Int) : Lay (k + 1) (Il xs) := .lst (Lay.map fun x _ => .int x)
theorem lay_itt {k : Nat} (xs : List (List Int)) : Lay (k + 2) (Itt xs) := .tup (Lay.map fun x _ => lay_it x)
mutual
theorem eqv_self : ∀ (d : D) , d.canLay0 = true → PyData.eqv d d = true
  | .none, _ => by simp [PyData.eqv]
  | .bool b, _ => by simp [PyData.eqv]
  | .int i, _ => by simp [PyData.eqv]
  | .str x, _ => by simp [PyData.eqv]
  | .list ds, h => by simp only [PyData.eqv]; exact eqvAll_self ds (by simpa [PyData.canLay0] using h)
  | .tuple ds, h => by simp only [PyData.eqv]; exact eqvAll_self ds (by simpa [PyData.canLay0] using h)
  | .dict ds, h => by simp [PyData.canLay0] at h
theorem eqvAll_self : ∀ (ds : List D), PyData.canLayAll0 ds = true → PyData.eqvAll ds ds = true
  | [], _ => by simp [PyData.eqvAll]
  | d :: ds, h => by
    have h' : d.canLay0 = true ∧ PyData.canLayAll0 ds = true := by simpa [PyData.canLayAll0] using h
    simp [PyData.eqvAll, eqv_self d h'.1, eqvAll_self ds h'.2]
end
theorem eqvAll_int : ∀ xs ys : List Int, PyData.eqvAll (xs.map .int) (ys.map .int) = decide (xs = ys)
  | [], [] => by simp [PyData.eqvAll]
  | [], y :: ys => by simp [PyData.eqvAll]
  | x :: xs, [] => by simp [PyData.eqvAll]
  | x :: xs, y :: ys => by
    simp only [List.map_cons, PyData.eqvAll, PyData.eqv, eqvAll_int xs ys]
    by_cases h1 : x = y <;> by_cases h2 : xs = ys <;> simp [h1, h2]
theorem dEqA_it (xs ys : List Int) : dEqA (It xs) (It ys) = some (.bool (decide (xs = ys))) := by
  simp only [dEqA, dOr, dStrs, dEq, okEq, (lay_it (k := 1) _).shaped (by decide), PyData.eqv, eqvAll_int]
  simp
theorem dNeA_it (xs ys : List Int) : dNeA (It xs) (It ys) = some (.bool (!decide (xs = ys))) := by
  simp only [dNeA, dOr, dStrs, dNe, okEq, (lay_it (k := 1) _).shaped (by decide), PyData.eqv, eqvAll_int]
  simp
theorem dNeA_il (xs ys : List Int) : dNeA (Il xs) (Il ys) = some (.bool (!decide (xs = ys))) := by
  simp only [dNeA, dOr, dStrs, dNe, okEq, (lay_il (k := 1) _).shaped (by decide), PyData.eqv, eqvAll_int]
  simp
theorem dEqA_il (xs ys : List Int) : dEqA (Il xs) (Il ys) = some (.bool (decide (xs = ys))) := by
  simp only [dEqA, dOr, dStrs, dEq, okEq, (lay_il (k := 1) _).shaped (by decide), PyData.eqv, eqvAll_int]
  simp
theorem any_eqv (x : Int) : ∀ xs : List Int, (xs.map PyData.int).any (fun z => PyData.eqv z (.int x)) = decide (x ∈ xs)
  | [] => by simp
  | y :: ys => by
    simp only [List.map_cons, List.any_cons, any_eqv x ys, PyData.eqv]
    by_cases h : y = x
    · simp [h]
    · simp [h, Ne.symm h]
theorem dIn_it (x : Int) (xs : List Int) : dIn (.int x) (It xs) = some (.bool (decide (x ∈ xs))) := by
  simp only [dIn, seqOf, okEq, shaped_int, (lay_it (k := 1) _).shaped (by decide), any_eqv]
  simp
theorem dIn_il (x : Int) (xs : List Int) : dIn (.int x) (Il xs) = some (.bool (decide (x ∈ xs))) := by
  simp only [dIn, seqOf, okEq, shaped_int, (lay_il (k := 1) _).shaped (by decide), any_eqv]
  simp
theorem dNotIn_it (x : Int) (xs : List Int) : dNotIn (.int x) (It xs) = some (.bool (!decide (x ∈ xs))) := by
  simp only [dNotIn, seqOf, okEq, shaped_int, (lay_it (k := 1) _).shaped (by decide), any_eqv]
  simp
theorem dNotIn_il (x : Int) (xs : List Int) : dNotIn (.int x) (Il xs) = some (.bool (!decide (x ∈ xs))) := by
  simp only [dNotIn, seqOf, okEq, shaped_int, (lay_il (k := 1) _).shaped (by decide), any_eqv]
  simp
theorem ixN_int {n : Nat} {i : Int} (h : 0 ≤ i ∧ i < n) : L2.ixN n i = some i.toNat := by
  unfold L2.ixN
  rw [if_pos h.1, if_pos h.2]
/-! items -/
theorem atI_nat {α : Type} {xs : List α} {i : Nat} {x : α} (h : xs[i]? = some x) : L2.atI xs (i : Int) = some x := by
  have hi := (List.getElem?_eq_some_iff.mp h).1
  unfold L2.atI L2.ixN
  rw [if_pos (by omega), if_pos (by omega)]
  simpa using h
theorem atI_int {α : Type} {xs : List α} {i : Int} {x : α} (h0 : 0 ≤ i) (h : xs[i.toNat]? = some x) : L2.atI xs i = some x := by
  have := atI_nat h
  rwa [Int.toNat_of_nonneg h0] at this
theorem dIx_it {xs : List Int} {i x : Int} (h0 : 0 ≤ i) (h : xs[i.toNat]? = some x) : dIx (It xs) (.int i) = some (.int x) := by
  simp only [dIx, seqOf]
  exact atI_int h0 (by rw [List.getElem?_map, h]; rfl)
theorem dIx_il {xs : List Int} {i x : Int} (h0 : 0 ≤ i) (h : xs[i.toNat]? = some x) : dIx (Il xs) (.int i) = some (.int x) := by
  simp only [dIx, seqOf]
  exact atI_int h0 (by rw [List.getElem?_map, h]; rfl)
theorem okLen_of {xs : List D} (h : xs.length ≤ 2 ^ 24) : okLen xs = some xs := by
  unfold okLen
  rw [if_pos (by rw [line24]; exact h)]

@[simp] theorem dLen_it (xs : List Int) : dLen [It xs] = some (.int xs.length) := by simp [dLen]
@[simp] theorem dLen_il (xs : List Int) : dLen [Il xs] = some (.int xs.length) := by simp [dLen]
theorem dLen_tup (xs : List D) : dLen [.tuple xs] = some (.int xs.length) := by simp [dLen]
theorem dLen_lst (xs : List D) : dLen [.list xs] = some (.int xs.length) := by simp [dLen]

/-! ### comprehensions -/
theorem comp_map {α : Type} {b : Tgt} {tt : M Bool} {te : M D} {η : EnvD} {τ : Src} {enc : α → D} {p : α → Bool} {q : α → D} : ∀ {xs : List α},
    (∀ x ∈ xs, ∃ as, bindT b (enc x) = some as ∧ tt (setD η as) τ = some (p x, τ) ∧ (p x = true → te (setD η as) τ = some (q x, τ))) →
    compGo b tt te η (xs.map enc) τ = some ((xs.filter p).map q, τ)
  | [], _ => rfl
  | x :: xs, h => by
    obtain ⟨as, h1, h2, h3⟩ := h x List.mem_cons_self
    have ih := comp_map (xs := xs) fun y hy => h y (List.mem_cons_of_mem _ hy)
    simp only [List.map_cons, compGo, h1, h2]
    cases hp : p x with
    | false => simp only [List.filter_cons, hp, ih]; rfl
    | true => simp only [h3 hp, ih, List.filter_cons, hp]; rfl
/-- with no test -/
theorem comp_all {α : Type} {b : Tgt} {te : M D} {η : EnvD} {τ : Src} {enc : α → D} {q : α → D} {xs : List α}
    (h : ∀ x ∈ xs, ∃ as, bindT b (enc x) = some as ∧ te (setD η as) τ = some (q x, τ)) : compGo b mTrue te η (xs.map enc) τ = some (xs.map q, τ) := by
  have := comp_map (b := b) (tt := mTrue) (te := te) (η := η) (τ := τ) (enc := enc) (p := fun _ => true) (q := q) (xs := xs) fun x hx => by
    obtain ⟨as, h1, h2⟩ := h x hx
    exact ⟨as, h1, rfl, fun _ => h2⟩
  rw [this, List.filter_eq_self.mpr fun _ _ => rfl]

theorem comp2_all {α : Type} {b b1 : Tgt} {f1 : M (List D)} {vs1 : List Nat} {tt1 : M Bool} {te : M D} {η : EnvD} {τ : Src} {enc : α → D} {ys : α → List D} : ∀ {xs : List α},
    (∀ x ∈ xs, ∃ as es, bindT b (enc x) = some as ∧ f1 (setD η as) τ = some (es, τ) ∧ compGo b1 tt1 te (wipeD (setD η as) vs1) es τ = some (ys x, τ)) → compGo2 b mTrue f1 vs1 b1 tt1 te η (xs.map enc) τ = some (xs.flatMap ys, τ)
  | [], _ => rfl
  | x :: xs, h => by
    obtain ⟨as, es, h1, h2, h3⟩ := h x List.mem_cons_self
    have ih := comp2_all (xs := xs) fun y hy => h y (List.mem_cons_of_mem _ hy)
    have ht : mTrue (setD η as) τ = some (true, τ) := rfl
    simp only [List.map_cons, compGo2, h1, ht, h2, h3, ih, List.flatMap_cons]

/-! ### loops -/
theorem for_inv {α : Type} {b : Tgt} {g : Stm} {enc : α → D} (P : List α → EnvS → Src → Prop) : ∀ {todo done : List α} {ρ : EnvS} {τ : Src}, P done ρ τ →
    (∀ done x ρ τ, x ∈ todo → P done ρ τ → ∃ as, bindT b (enc x) = some as ∧ okSets ρ as = true ∧ ∃ ρ' τ', (g (setSl ρ as) τ = some (.nx, ρ', τ') ∨ g (setSl ρ as) τ = some (.ct, ρ', τ')) ∧ P (done ++ [x]) ρ' τ') →
    ∃ ρ' τ', forGo b g (todo.map enc) ρ τ = some (.nx, ρ', τ') ∧ P (done ++ todo) ρ' τ'
  | [], done, ρ, τ, h, _ => ⟨ρ, τ, rfl, by rw [List.append_nil]; exact h⟩
  | x :: xs, done, ρ, τ, h, step => by
    obtain ⟨as, h1, h2, ρ1, τ1, h3, h4⟩ := step done x ρ τ List.mem_cons_self h
    obtain ⟨ρ2, τ2, h5, h6⟩ := for_inv P (todo := xs) (done := done ++ [x]) h4 fun d y ρ τ hy => step d y ρ τ (List.mem_cons_of_mem _ hy)
    refine ⟨ρ2, τ2, ?_, by rw [List.append_assoc] at h6; exact h6⟩
    simp only [List.map_cons, forGo, h1, h2, if_pos]
    rcases h3 with h3 | h3 <;> (rw [h3]; exact h5)
theorem for_at {α : Type} {b : Tgt} {g : Stm} {enc : α → D} {xs : List α} (P : Nat → EnvS → Src → Prop)
    (step : ∀ i x ρ τ, xs[i]? = some x → P i ρ τ → ∃ as, bindT b (enc x) = some as ∧ okSets ρ as = true ∧ ∃ ρ' τ', (g (setSl ρ as) τ = some (.nx, ρ', τ') ∨ g (setSl ρ as) τ = some (.ct, ρ', τ')) ∧ P (i + 1) ρ' τ') :
    ∀ (k i : Nat) {ρ : EnvS} {τ : Src}, i + k = xs.length → P i ρ τ → ∃ ρ' τ', forGo b g ((xs.drop i).map enc) ρ τ = some (.nx, ρ', τ') ∧ P xs.length ρ' τ'
  | 0, i, ρ, τ, hk, h => by
    rw [List.drop_eq_nil_of_le (by omega)]
    have hi : i = xs.length := by omega
    subst hi
    exact ⟨ρ, τ, rfl, h⟩
  | k + 1, i, ρ, τ, hk, h => by
    have hi : i < xs.length := by omega
    obtain ⟨as, h1, h2, ρ1, τ1, h3, h4⟩ := step i xs[i] ρ τ (List.getElem?_eq_getElem hi) h
    obtain ⟨ρ2, τ2, h5, h6⟩ := for_at P step k (i + 1) (by omega) h4
    refine ⟨ρ2, τ2, ?_, h6⟩
    rw [List.drop_eq_getElem_cons hi]
    simp only [List.map_cons, forGo, h1, h2, if_pos]
    rcases h3 with h3 | h3 <;> (rw [h3]; exact h5)
theorem for_ix {α : Type} {b : Tgt} {g : Stm} {enc : α → D} {xs : List α} {ρ : EnvS} {τ : Src} (P : Nat → EnvS → Src → Prop) (h0 : P 0 ρ τ)
    (step : ∀ i x ρ τ, xs[i]? = some x → P i ρ τ → ∃ as, bindT b (enc x) = some as ∧ okSets ρ as = true ∧ ∃ ρ' τ', (g (setSl ρ as) τ = some (.nx, ρ', τ') ∨ g (setSl ρ as) τ = some (.ct, ρ', τ')) ∧ P (i + 1) ρ' τ') :
    ∃ ρ' τ', forGo b g (xs.map enc) ρ τ = some (.nx, ρ', τ') ∧ P xs.length ρ' τ' := for_at P step xs.length 0 (by omega) h0
theorem for_rg {b : Tgt} {g : Stm} {enc : Nat → D} {n : Nat} {ρ : EnvS} {τ : Src} (P : Nat → EnvS → Src → Prop) (h0 : P 0 ρ τ)
    (step : ∀ i ρ τ, i < n → P i ρ τ → ∃ as, bindT b (enc i) = some as ∧ okSets ρ as = true ∧ ∃ ρ' τ', (g (setSl ρ as) τ = some (.nx, ρ', τ') ∨ g (setSl ρ as) τ = some (.ct, ρ', τ')) ∧ P (i + 1) ρ' τ') :
    ∃ ρ' τ', forGo b g ((List.range n).map enc) ρ τ = some (.nx, ρ', τ') ∧ P n ρ' τ' := by
  have := for_ix (b := b) (g := g) (enc := enc) (xs := List.range n) P h0 fun i x ρ τ hx h => by
    obtain ⟨hi, rfl⟩ := List.getElem?_eq_some_iff.mp hx
    rw [List.getElem_range]
    exact step i ρ τ (by simpa using hi) h
  simpa using this
theorem while_inv {c : M Bool} {g : Stm} (P : Nat → EnvS → Src → Prop) (Post : EnvS → Src → Prop)
    (step : ∀ m ρ τ, P m ρ τ → ∃ τ1, (c (view true ρ) τ = some (false, τ1) ∧ Post ρ τ1) ∨ (c (view true ρ) τ = some (true, τ1) ∧ ∃ ρ' τ', (g ρ τ1 = some (.nx, ρ', τ') ∨ g ρ τ1 = some (.ct, ρ', τ')) ∧ ∃ m', m' < m ∧ P m' ρ' τ')) :
    ∀ {n m : Nat} {ρ : EnvS} {τ : Src}, m < n → P m ρ τ → ∃ ρ' τ', whileGo c g n ρ τ = some (.nx, ρ', τ') ∧ Post ρ' τ'
  | 0, m, ρ, τ, hm, _ => absurd hm (Nat.not_lt_zero _)
  | n + 1, m, ρ, τ, hm, h => by
    obtain ⟨τ1, h | ⟨h1, ρ2, τ2, h2, m', hm', h3⟩⟩ := step m ρ τ h
    · exact ⟨ρ, τ1, by simp only [whileGo, h.1], h.2⟩
    · obtain ⟨ρ3, τ3, h4, h5⟩ := while_inv P Post step (n := n) (m := m') (by omega) h3
      refine ⟨ρ3, τ3, ?_, h5⟩
      simp only [whileGo, h1]
      rcases h2 with h2 | h2 <;> (rw [h2]; exact h4)

theorem sum_perm {l m : List Int} (f : Int → Int) (h : l.Perm m) : (l.map f).sum = (m.map f).sum := by
  induction h with
  | nil => rfl
  | cons x _ ih => simp only [List.map_cons, List.sum_cons, ih]
  | swap x y l => simp only [List.map_cons, List.sum_cons]; omega
  | trans _ _ h1 h2 => rw [h1, h2]
theorem dSortI_ints {ns : List Int} (h : ns.length ≤ 2 ^ 24) : dSortI (Il ns) = some ((ns.mergeSort leI).map .int) := by
  simp only [dSortI, intsOf_map, Option.bind_some]
  exact okLen_of (by rw [List.length_map, List.length_mergeSort]; exact h)
theorem sort_perm (ns : List Int) : (ns.mergeSort leI).Perm ns := List.mergeSort_perm ns leI

/-! ### picks -/
/-- the source may be picked from for t more laps at least -/
structure Wf (t : Nat) (τ : Src) : Prop where
  slot : τ.slot = some 1
  turn : 0 ≤ τ.turn ∧ τ.turn + t < 2 ^ 59
theorem wf_src (ns : List Int) : Wf (2 ^ 58) (srcOf ns) := ⟨rfl, Int.le_refl 0, (show (0 : Int) + ((2 ^ 58 : Nat) : Int) < 2 ^ 59 by decide)⟩
theorem pick_of {t : Nat} {τ : Src} (h : Wf (t + 1) τ) (most : Int) (h1 : 1 ≤ most) (h2 : most < 2 ^ 60) : ∃ r τ', mPick [.int most] { τ with slot := some 0 } = some (.int r, { τ' with slot := some 0 }) ∧ 0 ≤ r ∧ r < most ∧ Wf t τ' := by
  obtain ⟨hs, ht⟩ := h
  unfold mPick
  by_cases hm : most < 2
  · exact ⟨0, τ, by simp [hm], by omega, by omega, hs, by omega⟩
  · have hlog : most.natAbs.log2 < 9000 := by
      have : most.natAbs.log2 < 60 := (Nat.log2_lt (by omega)).mpr (by omega)
      omega
    simp only [hm, if_false, hlog, if_true]
    generalize drawR τ.cells.reverse τ.left = r
    by_cases hg : 1 < r.2
    · rw [if_pos hg]
      exact ⟨r.2 % most, { τ with cells := r.1.reverse, left := r.2 / most }, rfl, Int.emod_nonneg _ (by omega), Int.emod_lt_of_pos _ (by omega), hs, ht.1, by have := ht.2; show τ.turn + (t : Int) < _; omega⟩
    · rw [if_neg hg]
      unfold nextLap
      have hb : τ.turn.natAbs < 2 ^ 60 := by omega
      simp only [hb, if_true]
      exact ⟨_, { τ with cells := r.1.reverse, left := r.2, turn := τ.turn + 1 }, rfl, Int.emod_nonneg _ (by omega), Int.emod_lt_of_pos _ (by omega), hs, by show 0 ≤ τ.turn + 1; omega, by show τ.turn + 1 + (t : Int) < _; omega⟩
theorem Wf.mono {s t : Nat} {τ : Src} (h : Wf t τ) (hs : s ≤ t) : Wf s τ := ⟨h.slot, h.turn.1, by have := h.turn.2; omega⟩
/-- a pick in the law's frame -/
theorem pick_law {t : Nat} {τ : Src} (h : Wf (t + 1) τ) (most : Int) (h1 : 1 ≤ most) (h2 : most < 2 ^ 60) : ∃ r τ', (∀ η, mCallS 1 mPick (mCons (mPure (.int most)) mNil) η τ = some (.int r, τ')) ∧ 0 ≤ r ∧ r < most ∧ Wf t τ' := by
  obtain ⟨r, τ', e, h3, h4, h5⟩ := pick_of h most h1 h2
  refine ⟨r, τ', fun η => ?_, h3, h4, h5⟩
  unfold mCallS
  rw [if_pos h.slot]
  simp only [mBind, mCons, mNil, mPure, callS, e, h.slot, ← h5.slot]
/-- a comprehension over picks -/
theorem comp_picks {b : Tgt} {te : M D} {η : EnvD} (ok : Int → Prop) (hb : ∀ d, ∃ as, bindT b d = some as) (step : ∀ (t : Nat) (τ : Src) (η : EnvD), Wf (t + 1) τ → ∃ r τ', te η τ = some (.int r, τ') ∧ ok r ∧ Wf t τ') : ∀ (ds : List D) (t : Nat) (τ : Src), Wf (t + ds.length) τ →
    ∃ (xs : List Int) (τ' : Src), compGo b mTrue te η ds τ = some (xs.map .int, τ') ∧ xs.length = ds.length ∧ (∀ x ∈ xs, ok x) ∧ Wf t τ'
  | [], t, τ, h => ⟨[], τ, rfl, rfl, fun x hx => by simp at hx, h⟩
  | d :: ds, t, τ, h => by
    obtain ⟨as, has⟩ := hb d
    obtain ⟨r, τ1, e1, h1, w1⟩ := step (t + ds.length) τ (setD η as) h
    obtain ⟨xs, τ2, e2, h2, h3, w2⟩ := comp_picks (η := η) ok hb step ds t τ1 w1
    refine ⟨r :: xs, τ2, ?_, by simp [h2], fun x hx => ?_, w2⟩
    · have ht : mTrue (setD η as) τ = some (true, τ) := rfl
      simp only [compGo, has, ht, e1, e2, List.map_cons]
    · rcases List.mem_cons.mp hx with e | hx
      · rw [e]; exact h1
      · exact h3 x hx
theorem cut_from (xs : List Int) (m : Nat) (h : m ≤ xs.length) : dCut (Il xs) (some (m : Int)) none = some (Il (xs.drop m)) := by
  simp only [dCut, cutD, HT.sIx_nat, HT.sIx_none, List.length_map]
  rw [Nat.min_eq_left h, List.take_of_length_le (by rw [List.length_drop, List.length_map]; exact Nat.le_refl _), ← List.map_drop]
theorem rep_flat {α : Type} (n : Nat) (x : α) : (List.replicate n [x]).flatten = List.replicate n x := by
  induction n with
  | zero => rfl
  | succ n ih => rw [List.replicate_succ, List.flatten_cons, ih]; rfl
theorem dMul_one {n : Nat} (h : n ≤ 2 ^ 20) (x : Int) : dMul (.tuple [.int x]) (.int n) = some (It (List.replicate n x)) := by
  have ok : okRep [PyData.int x].length (n : Int) = true := by
    unfold okRep
    rw [line24]
    simp only [Bool.and_eq_true, decide_eq_true_eq, List.length_cons, List.length_nil]
    omega
  simp only [dMul, dOr, dI, iOf, dRepL, dRepT, ok, if_true]
  rw [Int.toNat_natCast, rep_flat, It, List.map_replicate]
theorem dAdd_tup {xs ys : List D} (h : xs.length + ys.length ≤ 2 ^ 24) : dAdd (.tuple xs) (.tuple ys) = some (.tuple (xs ++ ys)) := by
  simp only [dAdd, dOr, dI, iOf, dCatL, dCatT]
  rw [if_pos (by rw [line24]; exact h)]
theorem cost_sub (f : Int → Int) : ∀ (sub s : List Int), sub.Nodup → (∀ x ∈ sub, x ∈ s) → (∀ x ∈ s, 0 ≤ f x) → (sub.map f).sum ≤ (s.map f).sum
  | [], s, _, _, h => by
    have : ∀ l : List Int, (∀ x ∈ l, 0 ≤ f x) → 0 ≤ (l.map f).sum := fun l => by
      induction l with
      | nil => intro _; exact Int.le_refl _
      | cons y l ih =>
        intro h
        have := ih fun x hx => h x (List.mem_cons_of_mem _ hx)
        have := h y List.mem_cons_self
        simp only [List.map_cons, List.sum_cons]
        omega
    exact this s h
  | x :: sub, s, hn, hs, h => by
    obtain ⟨hx, hn⟩ := List.nodup_cons.mp hn
    have hp := List.perm_cons_erase (hs x List.mem_cons_self)
    rw [sum_perm f hp]
    have ih := cost_sub f sub (s.erase x) hn (fun y hy => (List.mem_erase_of_ne (fun e => hx (by rw [← e]; exact hy))).mpr (hs y (List.mem_cons_of_mem _ hy))) fun y hy => h y (List.mem_of_mem_erase hy)
    simp only [List.map_cons, List.sum_cons]
    omega
end DL

/-! DLs: `_law_any_order`: a list emptied by picks, its items in the order in which they are picked. -/
namespace DL
open PySem PySem.Spec PyProof.Rows L2

def orderGo : Nat → List D → Src → Option (List D × Src)
  | 0, _, τ => some ([], τ)
  | n + 1, xs, τ => match mPick [.int (xs.length : Nat)] τ with
    | some (.int r, τ1) => if 0 ≤ r then (match xs[r.toNat]? with
      | some x => (match orderGo n (xs.eraseIdx r.toNat) τ1 with
        | some (ys, τ2) => some (x :: ys, τ2)
        | none => none)
      | none => none) else none
    | _ => none
def mOrder : MS := fun ds τ => match ds with
  | [x] => match seqOf x with
    | some xs => (match orderGo xs.length xs τ with
      | some (ys, τ') => if ys.length ≤ xs.length then some (.list ys, τ') else none
      | none => none)
    | none => none
  | _ => none
theorem mOrder_len (ds : List D) (τ : Src) (d : D) (τ' : Src) (h : mOrder ds τ = some (d, τ')) : ds.length + 1 = 2 := by
  unfold mOrder at h
  split at h
  · rfl
  · cases h
abbrev rListC (K : PySem.W.Frag) : List V → Hp → VK → Prop := fun xs H Q => ∃ p ys, xs = [.ref p] ∧ (SqL K H p ys ∨ SqT K H p ys) ∧ ∀ l, H l = none → Q (.ref l) (upd H l (.lst ys))
abbrev tLen2 (K : PySem.W.Frag) : TE := tCB (rLen2 K) (tCons (tVar 2) tNil)
abbrev tOrder (K : PySem.W.Frag) : TS := tSeq (tAsg (tCB (rListC K) (tCons (tVar 1) tNil)) (gName 2))
  (tRet (tLc (iRng1 (tCons (tLen2 K) tNil)) (gName 3) tYes (tBM K "list" rPopAt (tVar 2) (tCons (tCall (spS 2 mPick) [] E0 (tCons (tVar 0) (tCons (tLen2 K) tNil))) tNil)) [3]))
theorem RpA.erase {H : Hp} : ∀ {vs : List V} {ds : List D} (n : Nat), RpA H vs ds → RpA H (vs.eraseIdx n) (ds.eraseIdx n)
  | _, _, _, .nil => .nil
  | _, _, 0, .cons _ t => t
  | _, _, n + 1, .cons r t => .cons r (RpA.erase n t)
theorem same_put {F H : Hp} {a : Addr} {o : HO} (s : Same F H) (h : F a = none) : Same F (upd H a o) := fun b q e => by
  rw [upd_ne (ne_of_none e h)]; exact s b q e
theorem order_read {K : PySem.W.Frag} {vs : List V} {H : Hp} {Q : VK} (h : spS 2 mOrder vs H Q E0) : tOrder K { nx := fun _ H' => Q .non H', rt := Q } (L2.start ["source", "things", "others", "lap"] vs) H := by
  obtain ⟨F, p, c, us, ds, τ, d, τ', rfl, hl, sm, ks, hslot, r, e, q⟩ := h
  unfold mOrder at e
  split at e
  case h_2 => cases e
  rename_i x
  split at e
  case h_2 => cases e
  rename_i xs hxs
  split at e
  case h_2 => cases e
  rename_i ys τ2 hgo
  split at e
  case isFalse => cases e
  rename_i hlen
  simp only [Option.some.injEq, Prod.mk.injEq] at e
  obtain ⟨rfl, rfl⟩ := e
  obtain ⟨v, rfl, rv⟩ := rpA_one r
  obtain ⟨a, vs, rfl, hq, hsz, rvs⟩ := seq_at (K := K) sm hxs rv
  show tOrder K _ [some (.ref p), some (.ref a), none, none] H
  refine ⟨.ref a, rfl, a, vs, rfl, hq.symm, fun o ho => ?_⟩
  -- others = list(things)
  have Fo : F o = none := sm.free ho
  have no : NotSrc (some (0, p, c)) o := notSrc_new ks ho
  have hsL := rvs.length
  refine ⟨.ref o, rfl, o, vs, rfl, .inl (.of upd_same), (vs.length : Int), rfl, by omega, by rw [line24] at hsz; omega, fun L hL => ?_⟩
  have oL : L ≠ o := fun z => by rw [z, upd_same] at hL; cases hL
  have hL0 : H L = none := by rw [upd_ne oL] at hL; exact hL
  have FL : F L = none := sm.free hL0
  have nL : NotSrc (some (0, p, c)) L := notSrc_new ks hL0
  have h0 : Ext (some (0, p, c)) F H F (upd (upd H o (.lst vs)) L (.lst [])) := ⟨Same.refl _, fun b q e _ => by rw [upd_ne (ne_of_none e hL0), upd_ne (ne_of_none e ho)]; exact e, fun b e => by
    by_cases z : b = L
    · rw [z, upd_same]; simp
    · rw [upd_ne z]
      by_cases z2 : b = o
      · rw [z2, upd_same]; simp
      · rw [upd_ne z2]; exact e, fun b e _ => e⟩
  refine lc_range (fun i Hc => ∃ F2 τi rest restD acc accD todo, Same F2 Hc ∧ Ext (some (0, p, c)) F H F2 Hc ∧ SrcOk (some (0, p, c)) F2 Hc τi ∧ τi.slot = some 0 ∧ Hc o = some (.lst rest) ∧ F2 o = none ∧ RpA F2 rest restD ∧ Hc L = some (.lst acc) ∧ F2 L = none ∧ RpA F2 acc accD ∧ acc.length = i ∧ rest.length = vs.length - i ∧
    orderGo (vs.length - i) restD τi = some (todo, τ2) ∧ ys = accD ++ todo) ?_ ?_ ?_
  · refine ⟨F, τ, vs, xs, [], [], ys, same_put (same_put sm Fo) FL, h0, fun i p' c' z => ?_, hslot, by rw [upd_ne (Ne.symm oL), upd_same], Fo, rvs, upd_same, FL, .nil, rfl, rfl, by rw [Nat.sub_zero, hsL]; exact hgo, rfl⟩
    obtain ⟨k1, k2, k3, k4, k5⟩ := ks i p' c' z
    obtain ⟨n1, n2⟩ := no i p' c' z
    obtain ⟨m1, m2⟩ := nL i p' c' z
    exact ⟨by rw [upd_ne (Ne.symm m1), upd_ne (Ne.symm n1)]; exact k1, by rw [upd_ne (Ne.symm m2), upd_ne (Ne.symm n2)]; exact k2, k3, k4, k5⟩
  · rintro i Hc hi ⟨F2, τi, rest, restD, acc, accD, todo, s2, x2, k2, hs2, ho2, Fo2, rr, hL2, FL2, ra, hacc, hrl, hgo2, hys⟩
    obtain ⟨m, hm⟩ : ∃ m, vs.length - i = m + 1 := ⟨vs.length - i - 1, by omega⟩
    rw [hm] at hgo2
    unfold orderGo at hgo2
    split at hgo2
    case h_2 => cases hgo2
    rename_i r τ1 hp
    split at hgo2
    case isFalse => cases hgo2
    rename_i hr0
    split at hgo2
    case h_2 => cases hgo2
    rename_i y hy
    split at hgo2
    case h_2 => cases hgo2
    rename_i zs τ3 hz
    simp only [Option.some.injEq, Prod.mk.injEq] at hgo2
    obtain ⟨rfl, rfl⟩ := hgo2
    refine ⟨rfl, ?_⟩
    unfold tYes
    refine Eq.mpr (if_pos rfl) ?_
    refine ⟨.ref o, rfl, .inl ⟨rfl, _, .of ho2⟩, .ref p, rfl, .ref o, rfl, o, rest, rfl, .inl (.of ho2), ?_⟩
    show spS 2 mPick ([V.ref p, .int rest.length] ++ []) Hc _ E0
    refine ⟨F2, p, c, [.int rest.length], [.int (restD.length : Nat)], τi, .int r, τ1, rfl, rfl, s2, k2, hs2, .cons (by rw [rr.length]; exact .int _) .nil, hp, fun F3 H3 u x3 s3 k3 ru => ?_⟩
    cases ru
    have ho3 := x3.hh _ _ ho2 no
    have Fo3 := x3.nf o Fo2 (nn_of ho2)
    have hL3 := x3.hh _ _ hL2 nL
    have FL3 := x3.nf L FL2 (nn_of hL2)
    have rr3 := RpA.mono x3.ff _ _ rr
    have ra3 := RpA.mono x3.ff _ _ ra
    obtain ⟨w, hw, rw'⟩ := rr3.get hy
    have hwl := (List.getElem?_eq_some_iff.mp hw).1
    obtain ⟨q1, q2, q3, q4⟩ := ixN_seq (ixN_int (n := rest.length) (i := r) ⟨hr0, by omega⟩)
    have hslot1 : τ1.slot = some 0 := by
      have : some 0 = τ1.slot := by
        unfold mPick at hp
        simp only at hp
        split at hp
        · cases hp; exact hs2.symm
        · split at hp
          · split at hp
            · cases hp; exact hs2.symm
            · unfold nextLap at hp
              split at hp
              · cases hp; exact hs2.symm
              · cases hp
          · cases hp
      exact this.symm
    have rlim : rest.length ≤ sizeLine := by omega
    refine ⟨o, rest, r, r.toNat, w, rfl, rfl, ho3, by omega, by rw [line24] at rlim; omega, q1, hw, acc, by rw [upd_ne oL]; exact hL3, by rw [line24] at hsz; rw [line24]; omega, F3, τ1, rest.eraseIdx r.toNat, restD.eraseIdx r.toNat, acc ++ [w], accD ++ [y], zs, same_put (same_put s3 Fo3) FL3, ?_, ?_, hslot1, by rw [upd_ne (Ne.symm oL), upd_same], Fo3, rr3.erase _, upd_same, FL3, ra3.append (.cons rw' .nil), by rw [List.length_append, hacc]; rfl, by rw [List.length_eraseIdx_of_lt hwl]; omega, ?_, by rw [hys, List.append_assoc]; rfl⟩
    · have x13 := x2.trans x3
      refine ⟨x13.ff, fun b q e n => ?_, fun b e => ?_, x13.nf⟩
      · rw [upd_ne (ne_of_none e hL0), upd_ne (ne_of_none e ho)]; exact x13.hh b q e n
      · by_cases z : b = L
        · rw [z, upd_same]; simp
        · rw [upd_ne z]
          by_cases z2 : b = o
          · rw [z2, upd_same]; simp
          · rw [upd_ne z2]; exact x13.nn b e
    · intro i' p' c' z
      obtain ⟨k1, k2', k3', k4, k5⟩ := k3 i' p' c' z
      obtain ⟨n1, n2⟩ := no i' p' c' z
      obtain ⟨m1, m2⟩ := nL i' p' c' z
      exact ⟨by rw [upd_ne (Ne.symm m1), upd_ne (Ne.symm n1)]; exact k1, by rw [upd_ne (Ne.symm m2), upd_ne (Ne.symm n2)]; exact k2', k3', k4, k5⟩
    · have e1 : vs.length - (i + 1) = m := by omega
      rw [e1]; exact hz
  · rintro Hc ⟨F2, τi, rest, restD, acc, accD, todo, s2, x2, k2, hs2, ho2, Fo2, rr, hL2, FL2, ra, hacc, hrl, hgo2, hys⟩
    rw [Int.toNat_natCast, Nat.sub_self] at hgo2
    simp only [orderGo, Option.some.injEq, Prod.mk.injEq] at hgo2
    obtain ⟨rfl, rfl⟩ := hgo2
    rw [List.append_nil] at hys
    subst hys
    have sf : Same F2 (upd F2 L (.lst acc)) := same_new FL2
    refine q (upd F2 L (.lst acc)) Hc (.ref L) ⟨x2.ff.trans sf, x2.hh, x2.nn, fun b e1 e2 => ?_⟩ (fun b o2 z => ?_) (fun i p' c' z => ?_) (.lst upd_same (by rw [hacc, Int.toNat_natCast]; exact hsz) (RpA.mono sf _ _ ra))
    · rw [upd_ne fun z => e2 (by rw [z]; exact hL0)]; exact x2.nf b e1 e2
    · by_cases hb : b = L
      · subst hb; rw [upd_same] at z; cases z; exact hL2
      · rw [upd_ne hb] at z; exact s2 b o2 z
    · obtain ⟨k1, k2', k3', k4, k5⟩ := k2 i p' c' z
      obtain ⟨m1, m2⟩ := nL i p' c' z
      exact ⟨k1, k2', k3', by rw [upd_ne (Ne.symm m1)]; exact k4, by rw [upd_ne (Ne.symm m2)]; exact k5⟩
theorem pe_fnS {X : Cx} {k : Nat} {x : Str} {n : Nat} {ms : MS} {p pos : Pos} {e : Expr} {es : List Expr} {t : TA} (h : HasS X.prog X.w X.K X.mg X.base k x n ms) (hr : Room k X.A) (hd : X.A.guards = some []) (hg : Gl X x) (ha : PA X (e :: es) t) (hdb : (x == ("__debug__" : Str)) = false := by decide)
    (he : starEach (e :: es) X.env = (false, eval e X.env) :: starEach es X.env := by rfl) (hpl : (backTo pos (starEach es X.env)).any (·.1) = false := by rfl) : PE X (.Call (.Name x p) (e :: es) [] pos) (tCall (spS n ms) [] E0 t) := by
  obtain ⟨f, fd, ps, rfl, F, hm, hk, hb⟩ := h.ex
  exact pe_callG F hr hd hg hm hk hb ha hdb he hpl
theorem has_order {P : Program} {w : World} {K : PySem.W.Frag} {mg : Str → Option Value} {base : Heap} {k : Nat} {f : Addr} {fd : FuncData} {st : Stmt} (F : Fun K "_law_any_order" "_law_any_order" st f fd) (S : FnScope ["source", "things", "others", "lap"] ["source", "things"] (defScope st)) (b : Binds K fd ["source", "things"] []) (hm : mg "_law_any_order" = some (.ref f))
    (body : ∀ (cdv : Value) (A : Around) (outer : List Env) (s : Shared) (H : Hp), Room k (A.deeper (envOfC "_law_any_order" (defScope st) s.heap.objs.size f cdv)) → A.guards = some [] →
      PSs (cxOf CX0 P w K mg base ["source", "things", "others", "lap"] "_law_any_order" (defScope st) f cdv A outer s H E0).nox (defBody st) (tOrder K)) : HasS P w K mg base (k + 1) "_law_any_order" 2 mOrder :=
  ⟨⟨f, fd, ["source", "things"], rfl, fnG_of F S (fun vs H Q ⟨_, _, _, us, _, _, _, _, e, h, _⟩ => by rw [e]; exact h) fun cdv A outer s H vs Q hr hg hsp => ⟨_, body cdv A outer s H hr hg, order_read hsp⟩, hm, F.kp, b⟩, mOrder_len⟩
end DL

/-! DLt: is, is not of bools; chains of comparisons. -/
namespace DL
open PySem PySem.Spec PyProof.Rows L2

/-! ### is True -/
def dBl (h : Bool → Bool → Bool) : D → D → Option D
  | .bool a, .bool b => some (.bool (h a b))
  | _, _ => none
theorem dBl_some {h : Bool → Bool → Bool} {x y d : D} (e : dBl h x y = some d) : ∃ a b, x = .bool a ∧ y = .bool b ∧ d = .bool (h a b) := by
  cases x <;> cases y <;> simp only [dBl, reduceCtorEq, Option.some.injEq] at e
  exact ⟨_, _, rfl, rfl, e.symm⟩
def rBl (h : Bool → Bool → Bool) : R2 := fun x y H Q => ∃ a b, x = .bl a ∧ y = .bl b ∧ Q (.bl (h a b)) H
theorem op2_bl {h : Bool → Bool → Bool} : Op2 (rBl h) (dBl h) := by
  intro x y dx dy d F H Q e s rx ry k
  obtain ⟨a, b, rfl, rfl, rfl⟩ := dBl_some e
  cases rx
  cases ry
  exact ⟨a, b, rfl, rfl, k F H _ (.refl s) (.bl _)⟩
theorem op_isB {X : Cx} : OpR X (compareOp .Is) (rBl fun a b => a == b) := by
  intro pins s σ H x y v u Q I rx ry h
  obtain ⟨a, b, rfl, rfl, q⟩ := h
  cases (show v = Value.bool a from rx)
  cases (show u = Value.bool b from ry)
  refine wpAny_is_plain rfl ⟨.bl (a == b), H, I, ?_, q⟩
  cases a <;> cases b <;> rfl
theorem op_isnotB {X : Cx} : OpR X (compareOp .IsNot) (rBl fun a b => !(a == b)) := by
  intro pins s σ H x y v u Q I rx ry h
  obtain ⟨a, b, rfl, rfl, q⟩ := h
  cases (show v = Value.bool a from rx)
  cases (show u = Value.bool b from ry)
  refine wpAny_isNot_plain rfl ⟨.bl (!(a == b)), H, I, ?_, q⟩
  cases a <;> cases b <;> rfl
def dIsA : D → D → Option D := dOr dIsN (dBl fun a b => a == b)
def dNotA : D → D → Option D := dOr dNotN (dBl fun a b => !(a == b))
section
variable {X : Cx} {a b : Expr} {f g : M D} {pos : Pos}
theorem de_isA (ha : DE X a f) (hb : DE X b g) : DE X (.Compare a [.Is] [b] pos) (mOp2 dIsA f g) := de_cmp (op_isN.or op_isB) (op2_isN.or op2_bl) ha hb (nomark _)
theorem de_isnotA (ha : DE X a f) (hb : DE X b g) : DE X (.Compare a [.IsNot] [b] pos) (mOp2 dNotA f g) := de_cmp (op_notN.or op_isnotB) (op2_notN.or op2_bl) ha hb (nomark _)
theorem dt_isA (ha : DE X a f) (hb : DE X b g) : DT X (.Compare a [.Is] [b] pos) (mBool (mOp2 dIsA f g)) := dt_cmp (op_isN.or op_isB) (op2_isN.or op2_bl) ha hb (nomark _)
theorem dt_isnotA (ha : DE X a f) (hb : DE X b g) : DT X (.Compare a [.IsNot] [b] pos) (mBool (mOp2 dNotA f g)) := dt_cmp (op_notN.or op_isnotB) (op2_notN.or op2_bl) ha hb (nomark _)
end
/-! ### a < b < c -/
theorem tChain_of {r r' : R2} {o o' : D → D → Option D} {p q u : M D} (h : Op2 r o) (h' : Op2 r' o') : ∀ σ H Q, tE (mChain o o' p q u) σ H Q → tChain r r' (tE p) (tE q) (tE u) σ H Q := by
  rintro σ H Q ⟨F, sa, η, τ, d, τ', w, e, k⟩
  obtain ⟨x, τ1, e1, ea⟩ := mBind_some e
  obtain ⟨y, τ2, e2, eb⟩ := mBind_some ea
  obtain ⟨b, τ3, e3, ec⟩ := mBind_some eb
  obtain ⟨e4, rfl⟩ := mLift_some e3
  obtain ⟨db, e5, e6⟩ := Option.bind_eq_some_iff.mp e4
  obtain rfl := bOf_some e6
  refine tE.go w e1 fun F1 H1 v1 x1 w1 r1 => tE.go w1 e2 fun F2 H2 v2 x2 w2 r2 => ?_
  refine h v1 v2 x y (.bool b) F2 H2 _ e5 w2.fh (Rp.mono x2.ff _ _ r1) r2 fun F3 H3 vb gr rb => ?_
  cases rb
  have w3 := w2.grow gr
  refine ⟨b, rfl, ?_⟩
  cases b with
  | false =>
    cases ec
    exact iteF (k F3 H3 _ (x1.trans (x2.trans gr.ext)) w3 (.bl _))
  | true =>
    simp only [if_true] at ec
    obtain ⟨z, τ4, e7, ed⟩ := mBind_some ec
    obtain ⟨e8, rfl⟩ := mLift_some ed
    exact iteT (tE.go w3 e7 fun F4 H4 v4 x4 w4 r4 => h' v2 v4 y z d F4 H4 Q e8 w4.fh (Rp.mono (gr.ff.trans x4.ff) _ _ r2) r4 fun F5 H5 v5 g5 r5 => k F5 H5 v5 (x1.trans (x2.trans (gr.ext.trans (x4.trans g5.ext)))) (w4.grow g5) r5)
section
variable {X : Cx} {a b c : Expr} {f g u : M D} {pos : Pos} {op op' : CmpOp} {r r' : R2} {o o' : D → D → Option D}
theorem de_chain (ho : OpR X (compareOp op) r) (h : Op2 r o) (ho' : OpR X (compareOp op') r') (h' : Op2 r' o') (ha : DE X a f) (hb : DE X b g) (hc : DE X c u) (hm : lastMarks [op, op'] [b, c] = false := by with_unfolding_all rfl) : DE X (.Compare a [op, op'] [b, c] pos) (mChain o o' f g u) :=
  pe_w (pe_chain ho ho' ha hb hc hm) (tChain_of h h')
theorem dt_chain (ho : OpR X (compareOp op) r) (h : Op2 r o) (ho' : OpR X (compareOp op') r') (h' : Op2 r' o') (ha : DE X a f) (hb : DE X b g) (hc : DE X c u) (hm : lastMarks [op, op'] [b, c] = false := by with_unfolding_all rfl) : DT X (.Compare a [op, op'] [b, c] pos) (mBool (mChain o o' f g u)) := by
  refine pt_w (pt_chain ho ho' ha hb hc hm) ?_
  rintro σ H Q ⟨F, sa, η, τ, d, τ', w, e, k⟩
  obtain ⟨x, τ1, e1, e⟩ := mBind_some e
  obtain ⟨e3, rfl⟩ := mLift_some e
  obtain rfl := bOf_some e3
  refine tChain_of h h' σ H _ (tE.go w e1 fun F' H' v x1 w1 r1 => ?_)
  cases r1
  exact ⟨d, rfl, k F' H' x1 w1⟩
end
end DL

/-! DLu: isinstance of one built-in type. -/
namespace DL
open PySem PySem.Spec PyProof.Rows L2

def tyOf : D → String
  | .none => "NoneType"
  | .bool _ => "bool"
  | .int _ => "int"
  | .str _ => "str"
  | .list _ => "list"
  | .tuple _ => "tuple"
  | .dict _ => "dict"
def isTy (T t : String) : Bool := t == T || (T == "int" && t == "bool")
def okTy (T : String) : Prop := ∀ (K : PySem.W.Frag) (t : String), t ∈ ["NoneType", "bool", "int", "str", "list", "tuple", "dict"] → PySem.W.kitOne K (.type t) (.type T) = some (isTy T t)
theorem okTy_of {T : String} (h : ∀ K : PySem.W.Frag, (["NoneType", "bool", "int", "str", "list", "tuple", "dict"].all fun t => PySem.W.kitOne K (.type t) (.type T) == some (isTy T t)) = true) : okTy T := fun K t ht => by
  have := h K
  rw [List.all_eq_true] at this
  exact eq_of_beq (this t ht)
theorem okTy_int : okTy "int" := okTy_of fun K => by rfl
theorem okTy_bool : okTy "bool" := okTy_of fun K => by rfl
theorem okTy_tuple : okTy "tuple" := okTy_of fun K => by rfl
theorem okTy_list : okTy "list" := okTy_of fun K => by rfl
theorem okTy_str : okTy "str" := okTy_of fun K => by rfl
theorem okTy_dict : okTy "dict" := okTy_of fun K => by rfl
theorem tyOf_mem (d : D) : tyOf d ∈ ["NoneType", "bool", "int", "str", "list", "tuple", "dict"] := by cases d <;> simp [tyOf]
theorem rp_ty {K : PySem.W.Frag} {F H : Hp} {v : V} {d : D} (s : Same F H) (r : Rp F v d) : TyX K H v (.type (tyOf d)) := by
  cases r with
  | non => exact .base .non
  | bl b => exact .base (.bl b)
  | int i => exact .base (.int i)
  | str x => exact .base (.str x)
  | lst h _ _ => exact .base (.lst (s _ _ h))
  | tup h _ _ => exact .base (.tup (s _ _ h))
  | dct h _ => exact .base (.dK (s _ _ h))
theorem pe_tyName {X : Cx} {x : Str} {T : String} {p : Pos} (hg : Gl X x) (hm : X.mg x = none) (hv : bootBuiltins x = some (.type T)) (hn : x ≠ "__name__" := by decide) (hd : (x == ("__debug__" : Str)) = false := by decide) : PE X (.Name x p) (tC (.ty T)) :=
  ⟨fun pins s σ H Q I h => ld_blt I hg hm hv ⟨.ty T, H, I, rfl, h⟩ hn hd⟩
def dIsT (T : String) (d : D) : Option D := some (.bool (isTy T (tyOf d)))
theorem de_isi {X : Cx} {e : Expr} {y : Str} {T : String} {p p2 pos : Pos} {f : M D} (ok : okTy T) (hg : Gl X "isinstance") (hm : X.mg "isinstance" = none) (he : DE X e f) (gy : Gl X y) (hy : X.mg y = none) (hv : bootBuiltins y = some (.type T)) (hn : y ≠ "__name__" := by decide) (hd : (y == ("__debug__" : Str)) = false := by decide)
    (hs1 : starEach [e, .Name y p2] X.env = (false, eval e X.env) :: starEach [.Name y p2] X.env := by rfl) (hs2 : starEach [.Name y p2] X.env = (false, eval (.Name y p2) X.env) :: starEach [] X.env := by rfl)
    (hpl : (backTo pos (starEach [.Name y p2] X.env)).any (·.1) = false := by rfl) : DE X (.Call (.Name "isinstance" p) [e, .Name y p2] [] pos) (mOp1 (dIsT T) f) := by
  refine pe_w (pe_callB call_isi hg hm PyProof.Rows.boot_isinstance (pa_cons he (pa_cons (pe_tyName gy hy hv hn hd) pa_nil hs2) hs1) (by decide) (by decide) hs1 hpl) ?_
  rintro σ H Q ⟨F, sa, η, τ, d, τ', w, e, k⟩
  obtain ⟨x, τ1, e1, ea⟩ := mBind_some e
  obtain ⟨e2, rfl⟩ := mLift_some ea
  cases e2
  refine tE.go w e1 fun F1 H1 v x1 w1 r1 => ?_
  exact ⟨v, .ty T, .type (tyOf x), .type T, isTy T (tyOf x), rfl, .ty T, rp_ty w1.fh r1, ok X.K _ (tyOf_mem x), k F1 H1 _ x1 w1 (.bl _)⟩
end DL

/-! DLv: a range downwards; a list the other way round. -/
namespace DL
open PySem PySem.Spec PyProof.Rows L2

/-- lo, lo - 1, .. above hi -/
noncomputable def downD (lo hi c : Int) : Option (List D) := @ite _ (c = -1 ∧ -(2 ^ 62) ≤ lo ∧ lo < 2 ^ 62 ∧ -(2 ^ 62) ≤ hi ∧ hi < 2 ^ 62 ∧ (lo - hi).toNat ≤ 2 ^ 24) (Classical.propDecidable _) (some ((List.range (lo - hi).toNat).map fun i => .int (lo - (i : Nat)))) none
noncomputable def mRange3 (f g h : M D) : M (List D) := mBind f fun x => mBind g fun y => mBind h fun z => mLift ((iOf x).bind fun i => (iOf y).bind fun j => (iOf z).bind fun c => downD i j c)
theorem itOf_down {F : Hp} {lo hi : Int} (h : (lo - hi).toNat ≤ 2 ^ 24) : ItOf (Itc lo (-1) (lo - hi).toNat) F ((List.range (lo - hi).toNat).map fun i => .int (lo - (i : Nat))) := by
  have e : ((List.range (lo - hi).toNat).map fun (i : Nat) => PyData.int (lo - (i : Nat))).length = (lo - hi).toNat := by rw [List.length_map, List.length_range]
  have W : Walk (Itc lo (-1) (lo - hi).toNat) (lo - hi).toNat (fun _ => True) (YFn fun i => .int (lo + (i : Nat) * (-1))) := ⟨fun i H hi _ => hi, fun H _ => Nat.le_refl _, fun i H x H' hi _ hy => hy⟩
  refine ⟨by rw [e, line24]; exact h, _, _, by rw [e]; exact W, fun _ _ => trivial, fun i H x H' F1 hi s1 s2 hy => ?_⟩
  obtain ⟨rfl, rfl⟩ := hy
  rw [e] at hi
  refine ⟨F1, .int (lo - (i : Nat)), by rw [List.getElem?_map, List.getElem?_range hi]; rfl, .refl s2, ?_⟩
  have e2 : lo + (i : Nat) * (-1) = lo - (i : Nat) := by omega
  show Rp F1 (.int (lo + (i : Nat) * (-1))) (.int (lo - (i : Nat)))
  rw [e2]
  exact .int _
section
variable {X : Cx} {tg a b c : Expr} {f g h : M D} {p pos : Pos}
theorem di_range3 (hg : Gl X "range") (hm : X.mg "range" = none) (ha : DE X a f) (hb : DE X b g) (hc : DE X c h) (hs : starEach [a, b, c] X.env = (false, eval a X.env) :: starEach [b, c] X.env := by rfl) (hs2 : starEach [b, c] X.env = (false, eval b X.env) :: starEach [c] X.env := by rfl) (hs3 : starEach [c] X.env = (false, eval c X.env) :: starEach [] X.env := by rfl)
    (hpl : (backTo pos (starEach [b, c] X.env)).any (·.1) = false := by rfl) : DI X tg (.Call (.Name "range" p) [a, b, c] [] pos) (mRange3 f g h) := by
  refine pi_w (pi_range3 hg hm (pa_cons ha (pa_cons hb (pa_cons hc pa_nil hs3) hs2) hs) hs hpl) ?_
  rintro σ H R ⟨F, sa, η, τ, d, τ', w, e, k⟩
  obtain ⟨x, τ1, e1, ea⟩ := mBind_some e
  obtain ⟨y, τ2, e2, eb⟩ := mBind_some ea
  obtain ⟨z, τ3, e3, ec⟩ := mBind_some eb
  obtain ⟨ed, rfl⟩ := mLift_some ec
  obtain ⟨i, q1, ee⟩ := Option.bind_eq_some_iff.mp ed
  obtain ⟨j, q2, ef⟩ := Option.bind_eq_some_iff.mp ee
  obtain ⟨m, q3, eg⟩ := Option.bind_eq_some_iff.mp ef
  obtain rfl := iOf_some q1
  obtain rfl := iOf_some q2
  obtain rfl := iOf_some q3
  unfold downD at eg
  split at eg
  · rename_i hr
    obtain ⟨rfl, r1, r2, r3, r4, r5⟩ := hr
    cases eg
    refine tE.go w e1 fun F1 H1 u x1 w1 p1 => tE.go w1 e2 fun F2 H2 v x2 w2 p2 => tE.go w2 e3 fun F3 H3 t x3 w3 p3 => ?_
    cases p1
    cases p2
    cases p3
    exact ⟨i, j, -1, (i - j).toNat, rfl, RgC.neg r1 r2 r3 r4, k F3 H3 _ (x1.trans (x2.trans x3)) w3 (itOf_down r5)⟩
  · cases eg
end
/-! xs[::-1] of a list -/
def mRevN (f : M D) : M (List D) := mBind f fun x => mBind (mLift (lOf x)) fun ds => mPure ds.reverse
section
variable {X : Cx} {e : Expr} {f : M D} {k : Nat} {p1 p2 p3 pos : Pos}
theorem dn_rev (he : DE X e f) : DN X (.Subscript e (.Slice none none (some (.UnaryOp .USub (.Constant (.int 1) k p1) p2)) p3) pos) (mRevN f) := by
  refine pe_w (pe_revL he) ?_
  rintro σ H Q ⟨F, sa, η, τ, d, τ', w, e, kk⟩
  obtain ⟨x, τ1, e1, ea⟩ := mBind_some e
  obtain ⟨ds, τ2, e2, eb⟩ := mBind_some ea
  obtain ⟨e3, rfl⟩ := mLift_some e2
  obtain rfl := lOf_some e3
  cases eb
  refine tE.go w e1 fun F1 H1 u x1 w1 r1 => ?_
  cases r1 with
  | @lst pa vs _ h1 h2 h3 =>
    refine ⟨pa, vs, rfl, .of (w1.fh _ _ h1), fun q hq => ?_⟩
    have gr := Grow.own w1.fh hq (.lst vs.reverse)
    have hp0 : H q = none := by
      cases z : H q with
      | none => rfl
      | some o => exact absurd hq (x1.nn q (nn_of z))
    exact kk _ _ _ _ (x1.trans gr.ext) (w1.grow gr) hp0 (w1.fh.free hq) upd_same (by rw [List.length_reverse]; exact h2) (notSrc_new w1.src hq) h3.reverse
end
end DL

/-! DLw: x.remove(e), ints. -/
namespace DL
open PySem PySem.Spec PyProof.Rows L2

def firstIx (k : Int) : List Int → Option Nat
  | [] => none
  | x :: r => if x = k then some 0 else (firstIx k r).map (· + 1)
theorem firstIx_spec {k : Int} : ∀ {ns : List Int} {j : Nat}, firstIx k ns = some j → ns[j]? = some k ∧ ∀ m : Nat, m < j → ns[m]? ≠ some k
  | [], j, h => by cases h
  | x :: r, j, h => by
    unfold firstIx at h
    split at h
    · cases h
      rename_i e
      exact ⟨by rw [e]; rfl, fun m hm => absurd hm (Nat.not_lt_zero _)⟩
    · rename_i e
      obtain ⟨i, h1, rfl⟩ := Option.map_eq_some_iff.mp h
      obtain ⟨g1, g2⟩ := firstIx_spec h1
      refine ⟨by simpa using g1, fun m hm => ?_⟩
      cases m with
      | zero => simpa using e
      | succ m => simpa using g2 m (by omega)
def remD (k : Int) (ds : List D) : Option (List D) := (intsOf ds).bind fun ns => (firstIx k ns).map fun j => (ns.eraseIdx j).map .int
def mRem (b : Bool) (i : Nat) (f : M D) : Stm := fun ρ τ => match f (view b ρ) τ with
  | some (.int k, τ') => match ρ[i]? with
    | some (.own (.list ds)) => (match remD k ds with
      | some es => some (.nx, ρ.set i (.own (.list es)), τ')
      | none => none)
    | _ => none
  | _ => none
section
variable {X : Cx} {f : M D} {pos pos' p1 p2 : Pos} {x : Str} {e : Expr}
theorem ds_rem (b : Bool) (i : Nat) (hv : PE X (.Name x p1) (tVar i)) (he : DE X e f) (hs : swapsWith (.Call (.Attribute (.Name x p1) "remove" p2) [e] [] pos) none pos'.line X.env = pure false := by rfl)
    (hbase : attributeBase (.Name x p1) "remove" X.env (eval (.Name x p1) X.env) = eval (.Name x p1) X.env := by rfl)
    (hfew : ((backTo pos (starEach [e] X.env)).all (fun x => !x.1) && (backToKw pos (keywordEach [] X.env)).all (fun x => x.1.isSome) && decide (([e] : List Expr).length + ([] : List Keyword).length + (if ([] : List Keyword).isEmpty then 0 else 1) < 30)) = true := by rfl)
    (hline : (p2.endLine == pos.line) = true := by rfl) (hs1 : starEach [e] X.env = (false, eval e X.env) :: starEach [] X.env := by rfl) (hpl : (backTo pos (starEach [] X.env)).any (·.1) = false := by rfl) :
    DS X (.Expr (.Call (.Attribute (.Name x p1) "remove" p2) [e] [] pos) pos') (mRem b i f) := by
  refine ps_w (ps_expr (pe_bm PySem.F.plainAttrs_list PySem.F.slot_list_remove PySem.F.type_list_remove mt_remove hv (pa_cons he pa_nil hs1) hbase hfew hline hs1 hpl) hs) ?_
  rintro E σ H ⟨F0, H0, F, sa, ρ, τ, o, ρ', τ', hh, e, k⟩
  unfold mRem at e
  split at e
  · rename_i n τ1 e1
    split at e
    · rename_i ds hds
      split at e
      · rename_i es hes
        cases e
        obtain ⟨ns, n1, n2⟩ := Option.bind_eq_some_iff.mp hes
        obtain ⟨j, n3, rfl⟩ := Option.map_eq_some_iff.mp n2
        obtain rfl := intsOf_some n1
        obtain ⟨g1, g2⟩ := firstIx_spec n3
        obtain ⟨a, vs, h1, h2, h3, h4⟩ := own_at hh hds
        obtain ⟨Fb, w, _, go⟩ := hh.run b
        refine ⟨.ref a, h1, .inl ⟨rfl, _, .of h2⟩, tE.go w e1 fun F1 H1 v x1 w1 r1 => ?_⟩
        cases r1
        obtain ⟨F2, hh2, sf, rp, _⟩ := go F1 H1 _ x1 w1.fh w1.src w1.flag
        obtain ⟨a', vs', h1', h2', h3', h4'⟩ := own_at hh2 hds
        rw [h1] at h1'
        cases h1'
        have ev := RpA.intsE h4'
        subst ev
        have hlen : (ns.eraseIdx j).length ≤ ns.length := List.length_eraseIdx_le ..
        rw [List.length_map] at h3'
        exact ⟨a, ns, n, j, rfl, rfl, h2', g1, g2, k F2 σ _ (hh2.write hds h1 ⟨by rw [List.length_map]; omega, RpA.ints _⟩)⟩
      · cases e
    · cases e
  · cases e
end
end DL

/-! DLx: {} as data. -/
namespace DL
open PySem PySem.Spec PyProof.Rows L2
def mDict0 : M D := mPure (.dict [])
theorem de_dict0 {X : Cx} {pos : Pos} : DE X (.Dict [] [] pos) mDict0 := by
  refine pe_w pe_dnewK ?_
  rintro σ H Q ⟨F, sa, η, τ, d, τ', w, e, k⟩
  cases e
  refine fun p hp => ?_
  have gr := Grow.alloc w.fh hp (.dK [])
  exact k _ _ _ gr.ext (w.grow gr) (.dct upd_same .nil)
end DL

/-! DLy: sum, max, min of tuples of ints; int of a bool. -/
namespace DL
open PySem PySem.Spec PyProof.Rows L2

section
variable {prog : Program} {w : World} {A : Around} {E : Value → Shared → Prop} {s : Shared} {l : Addr} {xs : Array (Int × Tok)}
theorem iter_intTuple {Q : Value → Shared → Prop} (hl : s.heap.IsTuple l (intItems xs))
    (h : ∀ s₂ : Shared, s₂ = { s with heap := s.heap.push { cls := .type "tuple_iterator", data := .fields #[.ref l, .int 0 0] } } →
      (s₂.heap.IsTupleIter s.heap.objs.size l 0 ∧ s₂.heap.IsTuple l (intItems xs)) → (∀ b ∈ [s.heap.objs.size, l], b < s₂.heap.objs.size) → l ≠ s.heap.objs.size → Q (.ref s.heap.objs.size) s₂) :
    wpAny (model prog w) A (pyIter (.ref l)) Q E s := by
  have hlt : l < s.heap.objs.size := by obtain ⟨_, e, _⟩ := hl; exact Heap.lt_size e
  refine wpAny_pyIter_tuple hl (h _ rfl ⟨⟨_, Heap.get?_push_size _ rfl, rfl, rfl⟩, hl.push _⟩ (fun b hb => ?_) (Nat.ne_of_lt hlt))
  show b < (s.heap.push _).objs.size
  rw [Heap.size_push]
  rcases List.mem_cons.mp hb with rfl | hb
  · exact Nat.lt_succ_self _
  · rcases List.mem_cons.mp hb with rfl | hb
    · exact Nat.lt_succ_of_lt hlt
    · cases hb
theorem old_keptT {h' : Heap} (hk : ∀ b o, b ∉ [s.heap.objs.size] → (s.heap.push { cls := .type "tuple_iterator", data := .fields #[.ref l, .int 0 0] }).get? b = some o → h'.get? b = some o) :
    ∀ b o, s.heap.get? b = some o → h'.get? b = some o := fun b o e => by
  refine hk b o (fun hm => ?_) (Heap.get?_push_of_some _ e)
  rcases List.mem_cons.mp hm with e1 | hm
  · exact absurd (e1 ▸ Heap.lt_size e) (Nat.lt_irrefl _)
  · cases hm
theorem max_intTuple {Q : Value → Shared → Prop} (hh : A.handled = none) (hl : s.heap.IsTuple l (intItems xs)) (hne : 0 < xs.size)
    (h : ∀ v h' tk, (intItems xs)[argBest (fun i j => decide (numAt xs i > numAt xs j)) (xs.size - 1)]? = some v → (∀ b o, s.heap.get? b = some o → h'.get? b = some o) → Q v { s with heap := h', toks := tk }) :
    wpAny (model prog w) A (call (.builtin "max") [.ref l]) Q E s := by
  refine call_max_walk (iter_intTuple hl fun s₂ e st hfp hlI => ?_)
  subst e
  refine ⟨_, _, _, _, _, _, _, rfl, Walks.tuple (A := A.in1) hh _ l hlI (intItems xs), st, hfp, by simpa [intItems] using hne, CmpOf.ints_gt (numAt xs) (fun _ _ => intItems_at), fun v h' tk hP hk => ?_⟩
  exact h v h' tk (by simpa [intItems] using hP) (old_keptT hk)
theorem min_intTuple {Q : Value → Shared → Prop} (hh : A.handled = none) (hl : s.heap.IsTuple l (intItems xs)) (hne : 0 < xs.size)
    (h : ∀ v h' tk, (intItems xs)[argBest (fun i j => decide (numAt xs i < numAt xs j)) (xs.size - 1)]? = some v → (∀ b o, s.heap.get? b = some o → h'.get? b = some o) → Q v { s with heap := h', toks := tk }) :
    wpAny (model prog w) A (call (.builtin "min") [.ref l]) Q E s := by
  refine call_min_walk (iter_intTuple hl fun s₂ e st hfp hlI => ?_)
  subst e
  refine ⟨_, _, _, _, _, _, _, rfl, Walks.tuple (A := A.in1) hh _ l hlI (intItems xs), st, hfp, by simpa [intItems] using hne, CmpOf.ints_lt (numAt xs) (fun _ _ => intItems_at), fun v h' tk hP hk => ?_⟩
  exact h v h' tk (by simpa [intItems] using hP) (old_keptT hk)
theorem sum_intTuple {Q : Value → Shared → Prop} (hh : A.handled = none) (hl : s.heap.IsTuple l (intItems xs))
    (h : ∀ h' tk t', (∀ b o, s.heap.get? b = some o → h'.get? b = some o) → Q (.int (preSum (numAt xs) xs.size) t') { s with heap := h', toks := tk }) :
    wpAny (model prog w) A (call (.builtin "sum") [.ref l]) Q E s := by
  refine call_sum_walkG (iter_intTuple hl fun s₂ e st hfp hlI => ?_)
  subst e
  refine ⟨_, _, _, _, _, _, numAt xs, rfl, Walks.tuple (A := A.in1) hh _ l hlI (intItems xs), st, hfp, (fun _ _ => intItems_at), fun h' tk t' hk => ?_⟩
  have := h h' tk t' (old_keptT hk)
  simpa [intItems] using this
end
section
variable {prog : Program} {w : World} {A : Around} {E : Value → Shared → Prop} {s : Shared} {l : Addr} {its : List Value} {ns : List Int} {Q : Value → Shared → Prop}
theorem sum_rawT (hh : A.handled = none) (hl : s.heap.IsTuple l its.toArray) (hi : IntsAre its ns)
    (h : ∀ h' tk t', (∀ b o, s.heap.get? b = some o → h'.get? b = some o) → Q (.int ns.sum t') { s with heap := h', toks := tk }) : wpAny (model prog w) A (call (.builtin "sum") [.ref l]) Q E s := by
  obtain ⟨xs, e⟩ := hi.allInts.items
  have hn : numsOf (intItems xs).toList = ns := by rw [← e]; exact hi.numsOf
  rw [nums_intItems] at hn
  rw [e] at hl
  refine sum_intTuple hh hl fun h' tk t' hk => ?_
  have := h h' tk t' hk
  rw [preSum_eq, List.take_of_length_le (by simp), hn]; exact this
theorem max_rawT (hh : A.handled = none) (hl : s.heap.IsTuple l its.toArray) (hi : IntsAre its ns) (hne : 0 < ns.length)
    (h : ∀ h' tk M t', (∀ b o, s.heap.get? b = some o → h'.get? b = some o) → M ∈ ns → (∀ a, a ∈ ns → a ≤ M) → Q (.int M t') { s with heap := h', toks := tk }) : wpAny (model prog w) A (call (.builtin "max") [.ref l]) Q E s := by
  obtain ⟨xs, e⟩ := hi.allInts.items
  have hn : numsOf (intItems xs).toList = ns := by rw [← e]; exact hi.numsOf
  rw [nums_intItems] at hn
  subst hn
  rw [e] at hl
  have hsz : 0 < xs.size := by simpa using hne
  refine max_intTuple hh hl hsz fun v h' tk hv hk => ?_
  obtain ⟨t, rfl⟩ := intItems_at hv
  obtain ⟨h1, h2⟩ := argBest_gt (numAt xs) (xs.size - 1)
  refine h h' tk _ t hk ?_ fun a ha => ?_
  · rw [numAt_eq]; exact PySem.getD_mem (by rw [List.length_map, Array.length_toList]; omega)
  · obtain ⟨j, hj, rfl⟩ := mem_getD ha
    rw [List.length_map, Array.length_toList] at hj
    rw [← numAt_eq]; exact h2 j (by omega)
theorem min_rawT (hh : A.handled = none) (hl : s.heap.IsTuple l its.toArray) (hi : IntsAre its ns) (hne : 0 < ns.length)
    (h : ∀ h' tk M t', (∀ b o, s.heap.get? b = some o → h'.get? b = some o) → M ∈ ns → (∀ a, a ∈ ns → M ≤ a) → Q (.int M t') { s with heap := h', toks := tk }) : wpAny (model prog w) A (call (.builtin "min") [.ref l]) Q E s := by
  obtain ⟨xs, e⟩ := hi.allInts.items
  have hn : numsOf (intItems xs).toList = ns := by rw [← e]; exact hi.numsOf
  rw [nums_intItems] at hn
  subst hn
  rw [e] at hl
  have hsz : 0 < xs.size := by simpa using hne
  refine min_intTuple hh hl hsz fun v h' tk hv hk => ?_
  obtain ⟨t, rfl⟩ := intItems_at hv
  obtain ⟨h1, h2⟩ := argBest_lt (numAt xs) (xs.size - 1)
  refine h h' tk _ t hk ?_ fun a ha => ?_
  · rw [numAt_eq]; exact PySem.getD_mem (by rw [List.length_map, Array.length_toList]; omega)
  · obtain ⟨j, hj, rfl⟩ := mem_getD ha
    rw [List.length_map, Array.length_toList] at hj
    rw [← numAt_eq]; exact h2 j (by omega)
end
def rSumT (K : PySem.W.Frag) : List V → Hp → VK → Prop := fun vs H Q => ∃ (a : Addr) (ns : List Int), vs = [V.ref a] ∧ SqT K H a (ns.map V.int) ∧ Q (.int ns.sum) H
def rMaxT (K : PySem.W.Frag) : List V → Hp → VK → Prop := fun vs H Q => ∃ (a : Addr) (ns : List Int), vs = [V.ref a] ∧ SqT K H a (ns.map V.int) ∧ 0 < ns.length ∧ ∀ m, m ∈ ns → (∀ y, y ∈ ns → y ≤ m) → Q (.int m) H
def rMinT (K : PySem.W.Frag) : List V → Hp → VK → Prop := fun vs H Q => ∃ (a : Addr) (ns : List Int), vs = [V.ref a] ∧ SqT K H a (ns.map V.int) ∧ 0 < ns.length ∧ ∀ m, m ∈ ns → (∀ y, y ∈ ns → m ≤ y) → Q (.int m) H
section
variable {X : Cx}
theorem cr_sumT (hc : X.calm = true) : CallR X (.builtin "sum") (rSumT X.K) := by
  intro pins s σ H vs us Q I r h
  obtain ⟨a, ns, rfl, hs, q⟩ := h
  obtain ⟨its, rv, hl, _⟩ := I.tuple hs
  rw [Vals.ref1 r]
  exact sum_rawT (I.ok.hd hc) hl rv.ints fun h' tk t' hk => ⟨.int _, H, I.kept hk, ⟨_, rfl⟩, q⟩
theorem cr_maxT (hc : X.calm = true) : CallR X (.builtin "max") (rMaxT X.K) := by
  intro pins s σ H vs us Q I r h
  obtain ⟨a, ns, rfl, hs, hne, q⟩ := h
  obtain ⟨its, rv, hl, _⟩ := I.tuple hs
  rw [Vals.ref1 r]
  exact max_rawT (I.ok.hd hc) hl rv.ints hne fun h' tk m t' hk h1 h2 => ⟨.int _, H, I.kept hk, ⟨_, rfl⟩, q m h1 h2⟩
theorem cr_minT (hc : X.calm = true) : CallR X (.builtin "min") (rMinT X.K) := by
  intro pins s σ H vs us Q I r h
  obtain ⟨a, ns, rfl, hs, hne, q⟩ := h
  obtain ⟨its, rv, hl, _⟩ := I.tuple hs
  rw [Vals.ref1 r]
  exact min_rawT (I.ok.hd hc) hl rv.ints hne fun h' tk m t' hk h1 h2 => ⟨.int _, H, I.kept hk, ⟨_, rfl⟩, q m h1 h2⟩
end
/-! ### the mirrors -/
def dIntsT (h : List Int → Option D) : List D → Option D
  | [.tuple ds] => (intsOf ds).bind h
  | _ => none
theorem dIntsT_some {h : List Int → Option D} {ds : List D} {d : D} (e : dIntsT h ds = some d) : ∃ ns, ds = [.tuple (ns.map PyData.int)] ∧ h ns = some d := by
  unfold dIntsT at e
  split at e
  · obtain ⟨ns, h1, h2⟩ := Option.bind_eq_some_iff.mp e
    exact ⟨ns, by rw [intsOf_some h1], h2⟩
  · cases e
theorem rp_intsT {F H : Hp} {K : PySem.W.Frag} {v : V} {ns : List Int} (s : Same F H) (r : Rp F v (.tuple (ns.map PyData.int))) : ∃ a, v = .ref a ∧ SqT K H a (ns.map V.int) := by
  cases r with | tup h1 h2 h3 => rw [RpA.intsE h3] at h1; exact ⟨_, rfl, .of (s _ _ h1)⟩
def dSumT : List D → Option D := dIntsT fun ns => some (.int ns.sum)
def dMaxT : List D → Option D := dIntsT fun ns => (maxI ns).map .int
def dMinT : List D → Option D := dIntsT fun ns => (minI ns).map .int
theorem opl_sumT {K : PySem.W.Frag} : OpL (rSumT K) dSumT := by
  intro x dx d F H Q e s rx k
  obtain ⟨ns, rfl, h⟩ := dIntsT_some e
  cases h
  obtain ⟨v, rfl, r1⟩ := rpA_one rx
  obtain ⟨a, rfl, h⟩ := rp_intsT (K := K) s r1
  exact ⟨a, ns, rfl, h, k F H _ (.refl s) (.int _)⟩
theorem opl_minT {K : PySem.W.Frag} : OpL (rMinT K) dMinT := by
  intro x dx d F H Q e s rx k
  obtain ⟨ns, rfl, h⟩ := dIntsT_some e
  obtain ⟨m, hm, rfl⟩ := Option.map_eq_some_iff.mp h
  obtain ⟨v, rfl, r1⟩ := rpA_one rx
  obtain ⟨a, rfl, h⟩ := rp_intsT (K := K) s r1
  obtain ⟨h1, h2⟩ := minI_spec hm
  refine ⟨a, ns, rfl, h, List.length_pos_of_mem h1, fun z z1 z2 => ?_⟩
  have : z = m := by have := z2 m h1; have := h2 z z1; omega
  subst this
  exact k F H _ (.refl s) (.int _)
theorem opl_maxT {K : PySem.W.Frag} : OpL (rMaxT K) dMaxT := by
  intro x dx d F H Q e s rx k
  obtain ⟨ns, rfl, h⟩ := dIntsT_some e
  obtain ⟨m, hm, rfl⟩ := Option.map_eq_some_iff.mp h
  obtain ⟨v, rfl, r1⟩ := rpA_one rx
  obtain ⟨a, rfl, h⟩ := rp_intsT (K := K) s r1
  obtain ⟨h1, h2⟩ := maxI_spec hm
  refine ⟨a, ns, rfl, h, List.length_pos_of_mem h1, fun z z1 z2 => ?_⟩
  have : z = m := by have := z2 m h1; have := h2 z z1; omega
  subst this
  exact k F H _ (.refl s) (.int _)
def dSumA : List D → Option D := dOrL dSum dSumT
def dMaxA : List D → Option D := dOrL dMaxL dMaxT
def dMinB : List D → Option D := dOrL dMinA dMinT
theorem OpL.orL {r r' : List V → Hp → VK → Prop} {o o' : List D → Option D} (h : OpL r o) (h' : OpL r' o') : OpL (fun xs H Q => r xs H Q ∨ r' xs H Q) (dOrL o o') := by
  intro x dx d F H Q e s rx k
  unfold dOrL at e
  split at e
  · rename_i z hz
    cases e
    exact .inl (h x dx d F H Q hz s rx k)
  · exact .inr (h' x dx d F H Q e s rx k)
def dBoolI : List D → Option D
  | [.bool b] => some (.int (if b = true then 1 else 0))
  | _ => none
def dIntA : List D → Option D := dOrL dInt dBoolI
theorem opl_intA : OpL (fun xs H Q => (∃ i, xs = [V.int i] ∧ Q (.int i) H) ∨ ∃ k, xs = [V.bl k] ∧ Q (.int (if k = true then 1 else 0)) H) dIntA := by
  intro x dx d F H Q e s rx k
  unfold dIntA dOrL at e
  split at e
  · rename_i z hz
    cases e
    obtain ⟨i, rfl, rfl⟩ := dL1_some hz
    obtain ⟨v, rfl, r1⟩ := rpA_one rx
    cases r1
    exact .inl ⟨i, rfl, k F H _ (.refl s) (.int _)⟩
  · unfold dBoolI at e
    split at e
    · cases e
      obtain ⟨v, rfl, r1⟩ := rpA_one rx
      cases r1
      exact .inr ⟨_, rfl, k F H _ (.refl s) (.int _)⟩
    · cases e
section
variable {X : Cx} {e : Expr} {g : M (List D)} {p pos : Pos}
theorem de_sumA (hc : X.calm = true) (hg : Gl X "sum") (hm : X.mg "sum" = none) (ha : DA X [e] g) (he : starEach [e] X.env = (false, eval e X.env) :: starEach [] X.env := by rfl) : DE X (.Call (.Name "sum" p) [e] [] pos) (mOpL dSumA g) :=
  de_callB ((cr_sum hc).or (cr_sumT hc)) (opl_sum.orL opl_sumT) hg hm (by decide +kernel) ha (by decide) (by decide) he rfl
theorem de_maxA (hc : X.calm = true) (hg : Gl X "max") (hm : X.mg "max" = none) (ha : DA X [e] g) (he : starEach [e] X.env = (false, eval e X.env) :: starEach [] X.env := by rfl) : DE X (.Call (.Name "max" p) [e] [] pos) (mOpL dMaxA g) :=
  de_callB ((cr_max hc).or (cr_maxT hc)) (opl_max.orL opl_maxT) hg hm (by decide +kernel) ha (by decide) (by decide) he rfl
theorem de_minB (hc : X.calm = true) (hu : X.A.units + 70 < cLine) (hg : Gl X "min") (hm : X.mg "min" = none) (ha : DA X [e] g) (he : starEach [e] X.env = (false, eval e X.env) :: starEach [] X.env := by rfl) : DE X (.Call (.Name "min" p) [e] [] pos) (mOpL dMinB g) :=
  de_callB ((CallR.or (cr_min hc) (cr_minD hc hu)).or (cr_minT hc)) (OpL.orL (o := dMinA) (opl_min.or opl_minD) opl_minT) hg hm (by decide +kernel) ha (by decide) (by decide) he rfl
theorem de_intA (hg : Gl X "int") (hm : X.mg "int" = none) (ha : DA X [e] g) (he : starEach [e] X.env = (false, eval e X.env) :: starEach [] X.env := by rfl) : DE X (.Call (.Name "int" p) [e] [] pos) (mOpL dIntA g) :=
  de_callTy call_int1 opl_intA hg hm (by decide +kernel) ha (by decide) (by decide) he rfl
end
end DL

/-! DLz: dicts as data: comprehensions, dict(pairs), len. -/
namespace DL
open PySem PySem.Spec PyProof.Rows L2

def putD (kds : List (Key × D)) (k : Key) (d : D) : List (Key × D) :=
  if (kds.any fun p => decide (p.1 = k)) = true then kds.map (fun p => if p.1 = k then (p.1, d) else p) else kds ++ [(k, d)]
def dct (kds : List (Key × D)) : D := .dict (kds.map fun p => (kD p.1, p.2))
def kOf : D → Option Key
  | .int i => some (.inl i)
  | .str x => some (.inr x)
  | _ => none
def prOf : D → Option (Key × D)
  | .tuple [k, v] => match kOf k with
    | some k => some (k, v)
    | none => none
  | _ => none
def mergeD (kds : List (Key × D)) : List D → Option (List (Key × D))
  | [] => some kds
  | d :: ds => match prOf d with
    | some p => mergeD (putD kds p.1 p.2) ds
    | none => none
def dDctL (ds : List D) : Option D := (mergeD [] ds).map dct
inductive RpQ (F : Hp) : List (Key × V) → List (Key × D) → Prop
  | nil : RpQ F [] []
  | cons {k : Key} {v : V} {d : D} {kvs : List (Key × V)} {kds : List (Key × D)} : Rp F v d → RpQ F kvs kds → RpQ F ((k, v) :: kvs) ((k, d) :: kds)
theorem RpQ.mono {F G : Hp} (s : Same F G) {kvs : List (Key × V)} {kds : List (Key × D)} (h : RpQ F kvs kds) : RpQ G kvs kds := by
  induction h with
  | nil => exact .nil
  | cons r _ ih => exact .cons (Rp.mono s _ _ r) ih
theorem RpQ.toK {F : Hp} {kvs : List (Key × V)} {kds : List (Key × D)} (h : RpQ F kvs kds) : RpK F kvs (kds.map fun p => (kD p.1, p.2)) := by
  induction h with
  | nil => exact .nil
  | cons r _ ih => exact .cons r ih
theorem RpQ.any {F : Hp} {kvs : List (Key × V)} {kds : List (Key × D)} (h : RpQ F kvs kds) (k : Key) : (kvs.any fun kv => decide (kv.1 = k)) = kds.any fun p => decide (p.1 = k) := by
  induction h with
  | nil => rfl
  | cons r _ ih => rw [List.any_cons, List.any_cons, ih]
theorem RpQ.snoc {F : Hp} {kvs : List (Key × V)} {kds : List (Key × D)} (h : RpQ F kvs kds) {k : Key} {v : V} {d : D} (r : Rp F v d) : RpQ F (kvs ++ [(k, v)]) (kds ++ [(k, d)]) := by
  induction h with
  | nil => exact .cons r .nil
  | cons q _ ih => exact .cons q ih
theorem RpQ.over {F : Hp} {kvs : List (Key × V)} {kds : List (Key × D)} (h : RpQ F kvs kds) {k : Key} {v : V} {d : D} (r : Rp F v d) : RpQ F (kvs.map fun kv => if kv.1 = k then (kv.1, v) else kv) (kds.map fun p => if p.1 = k then (p.1, d) else p) := by
  induction h with
  | nil => exact .nil
  | @cons k0 v0 d0 _ _ q _ ih =>
    rw [List.map_cons, List.map_cons]
    by_cases e : k0 = k
    · simp only [if_pos e]; exact .cons r ih
    · simp only [if_neg e]; exact .cons q ih
theorem RpQ.put {F : Hp} {kvs : List (Key × V)} {kds : List (Key × D)} (h : RpQ F kvs kds) {k : Key} {v : V} {d : D} (r : Rp F v d) : RpQ F (putK kvs k v) (putD kds k d) := by
  unfold putK putD
  rw [h.any k]
  split
  · exact h.over r
  · exact h.snoc r
theorem RpQ.length {F : Hp} {kvs : List (Key × V)} {kds : List (Key × D)} (h : RpQ F kvs kds) : kvs.length = kds.length := by
  induction h with
  | nil => rfl
  | cons _ _ ih => rw [List.length_cons, List.length_cons, ih]
theorem putK_len (kvs : List (Key × V)) (k : Key) (v : V) : (putK kvs k v).length ≤ kvs.length + 1 := by
  unfold putK
  split
  · rw [List.length_map]; omega
  · rw [List.length_append]; exact Nat.le_refl _
theorem kOf_some {d : D} {k : Key} (h : kOf d = some k) : d = kD k := by
  cases d <;> simp only [kOf, reduceCtorEq, Option.some.injEq] at h <;> subst h <;> rfl
theorem kV_rp {F : Hp} {v : V} {k : Key} (r : Rp F v (kD k)) : v = kV k := by
  cases k with
  | inl i => cases r; rfl
  | inr x => cases r; rfl
theorem prOf_some {d : D} {p : Key × D} (h : prOf d = some p) : d = .tuple [kD p.1, p.2] := by
  unfold prOf at h
  split at h
  · split at h
    · rename_i e
      cases h
      rw [kOf_some e]
    · cases h
  · cases h
/-! ### a dict comprehension -/
def mPr (tk tv : M D) : M D := mBind tk fun k => mBind tv fun v => mPure (.tuple [k, v])
def mDc (fi : M (List D)) (vs : List Nat) (b : Tgt) (tt : M Bool) (tk tv : M D) : M D := mBind (mComp fi vs b tt (mPr tk tv)) fun ps => mLift (dDctL ps)
theorem dc_it {J : L2.It} {n : Nat} {G : Hp → Prop} {Y : Nat → Hp → V → Hp → Prop} (w : Walk J n G Y) {g : TG} {tt : TT} {tk tv : TE} {vs : List Nat} {σ : L2.St} {H1 : Hp} {D : Addr} {Qd : Hp → Prop} (Pv : Nat → Hp → Prop) (h0 : Pv 0 (upd H1 D (.dK []))) (hG : ∀ i H, i ≤ n → Pv i H → G H)
    (hs : ∀ i x H H', i < n → Pv i H → Y i H x H' → g x (wipe σ vs) H' fun σ2 H2 => wipe σ2 vs = wipe σ vs ∧ tt σ2 H2 fun b H3 =>
      if b = true then tk σ2 H3 fun y H4 => tv σ2 H4 fun z H5 => ∃ kvs k, y = kV k ∧ H5 D = some (.dK kvs) ∧ kvs.length < sizeLine ∧ Pv (i + 1) (upd H5 D (.dK (putK kvs k z))) else Pv (i + 1) H3) (hd : ∀ H, Pv n H → Qd H) :
    ∃ W : Nat → Nat → Hp → Prop, (∃ m, W 0 m (upd H1 D (.dK []))) ∧ ∀ i m H, W i m H →
      (J.stop i H ∧ Qd H) ∨ (J.go i H ∧ ∃ Nx : Hp → Prop, (∀ H', Nx H' → ∃ m', m' < m ∧ W (i + 1) m' H') ∧ ∀ x H', J.yld i H x H' → g x (wipe σ vs) H' fun σ2 H2 => wipe σ2 vs = wipe σ vs ∧ tt σ2 H2 fun b H3 =>
        if b = true then tk σ2 H3 fun y H4 => tv σ2 H4 fun z H5 => ∃ kvs k, y = kV k ∧ H5 D = some (.dK kvs) ∧ kvs.length < sizeLine ∧ Nx (upd H5 D (.dK (putK kvs k z))) else Nx H3) := by
  refine ⟨fun i m H => m = n - i ∧ i ≤ n ∧ Pv i H, ⟨n, by simp, Nat.zero_le _, h0⟩, ?_⟩
  rintro i m H ⟨rfl, hi, p⟩
  have q := hG i H hi p
  by_cases hlt : i < n
  · refine .inr ⟨w.goes i H hlt q, Pv (i + 1), fun H' p' => ⟨n - (i + 1), by omega, rfl, hlt, p'⟩, fun x H' y => hs i x H H' hlt p (w.yields i H x H' hlt q y)⟩
  · have e : i = n := by omega
    subst e
    exact .inl ⟨w.stops H q, hd H p⟩
theorem tDc_of {fi : M (List D)} {vs : List Nat} {b : Tgt} {tt : M Bool} {tk tv : M D} (hv : ∀ i ∈ vs, 2 ≤ i) (hb : ∀ i ∈ tgtSlots b, i ∈ vs) : ∀ σ H Q, tE (mDc fi vs b tt tk tv) σ H Q → tDc (tI fi) (tG b) (tT tt) (tE tk) (tE tv) vs σ H Q := by
  rintro σ H Q ⟨F, sa, η0, τ, d, τ', w0, e, k⟩
  obtain ⟨ps, τ0, e0, e⟩ := mBind_some e
  obtain ⟨ed, rfl⟩ := mLift_some e
  obtain ⟨res, hres, rfl⟩ := Option.map_eq_some_iff.mp ed
  obtain ⟨ds, τ1, e1, e2⟩ := mBind_some e0
  refine ⟨F, sa, η0, τ, ds, τ1, w0, e1, fun F1 H1 J x1 w1 it L hD => ?_⟩
  obtain ⟨hlen, G, Y, W, hG, hY⟩ := it
  have hD0 : H L = none := by
    cases z : H L with
    | none => rfl
    | some o => exact absurd hD (x1.nn L (nn_of z))
  have nD : NotSrc sa L := notSrc_new w1.src hD
  refine dc_it W (fun i Hc => ∃ F2 τi kvs kds rest, Ext sa F1 H1 F2 Hc ∧ View F2 sa (wipe σ vs) Hc (wipeD η0 vs) τi ∧ Hc L = some (.dK kvs) ∧ F2 L = none ∧ kvs.length ≤ i ∧ RpQ F2 kvs kds ∧
    compGo b tt (mPr tk tv) (wipeD η0 vs) (ds.drop i) τi = some (rest, τ') ∧ mergeD kds rest = some res) ?_ ?_ ?_ ?_
  · have gr := Grow.own w1.fh hD (.dK [])
    exact ⟨F1, τ1, [], [], ps, gr.ext, (w1.grow gr).wiped hv, upd_same, w1.fh.free hD, Nat.le_refl _, .nil, e2, hres⟩
  · rintro i Hc hi ⟨F2, τi, acc, done, rest, x2, w2, _⟩
    exact hG Hc (x2.ff.trans w2.fh)
  · rintro i x Hc H' hi ⟨F2, τi, acc, done, rest, x2, w2, hacc, hFD, hle, hra, hgo, hd⟩ hy
    obtain ⟨F3, dd, hdd, gr, rx⟩ := hY i Hc x H' F2 hi x2.ff w2.fh hy
    have hdrop : ds.drop i = dd :: ds.drop (i + 1) := by
      obtain ⟨hi', hz⟩ := List.getElem?_eq_some_iff.mp hdd
      rw [List.drop_eq_getElem_cons hi', hz]
    rw [hdrop] at hgo
    unfold compGo at hgo
    split at hgo
    · cases hgo
    rename_i as hbs
    have w3 := w2.grow gr
    have s2 : ∀ a ∈ as, 2 ≤ a.1 := fun a ha => hv _ (hb _ (mem_slots hbs ha))
    have hF3 : F3 L = none := gr.nf L hFD (nn_of hacc)
    have hH3 : H' L = some (.dK acc) := gr.hh _ _ hacc
    refine ⟨F3, dd, as, gr.fh, rx, hbs, fun ws hw => ⟨?_, ?_⟩⟩
    · rw [wipe_setV ws _ fun y hy => ?_, wipe_wipe fun u hu => hu]
      have : y.1 ∈ as.map (·.1) := by rw [← hw.slots]; exact List.mem_map_of_mem hy
      rw [bindT_slots b dd as hbs] at this
      exact hb _ this
    have wv : View F3 sa (setV (wipe σ vs) ws) H' (setD (wipeD η0 vs) as) τi := View.sets hw w3 s2
    split at hgo
    · cases hgo
    · rename_i τ2 ht
      refine tT.go wv ht fun F4 H4 x4 w4 => iteF ?_
      exact ⟨F4, τ2, acc, done, rest, x2.trans (gr.ext.trans x4), w3.back x4.ff w4.fh w4.src w4.flag, x4.hh _ _ hH3 nD, x4.nf L hF3 (nn_of hH3), by omega, hra.mono (gr.ff.trans x4.ff), hgo, hd⟩
    · rename_i τ2 ht
      split at hgo
      · cases hgo
      rename_i y τ3 hte
      split at hgo
      · cases hgo
      rename_i ys τ4 hrest
      cases hgo
      obtain ⟨dk, τk, hk1, hk2⟩ := mBind_some hte
      obtain ⟨dv, τv, hk3, hk4⟩ := mBind_some hk2
      cases hk4
      unfold mergeD at hd
      split at hd
      rotate_left
      · cases hd
      rename_i p hp
      have ep := prOf_some hp
      cases ep
      refine tT.go wv ht fun F4 H4 x4 w4 => iteT (tE.go w4 hk1 fun F5 H5 v x5 w5 r5 => tE.go w5 hk3 fun F6 H6 u x6 w6 r6 => ?_)
      have xx := x4.trans (x5.trans x6)
      have hF5 : F6 L = none := xx.nf L hF3 (nn_of hH3)
      have hH5 : H6 L = some (.dK acc) := xx.hh _ _ hH3 nD
      have sF : Same F6 (upd H6 L (.dK (putK acc p.1 u))) := fun c o z => by
        have hc : c ≠ L := ne_of_none z hF5
        rw [upd_ne hc]; exact w6.fh c o z
      refine ⟨acc, p.1, kV_rp r5, hH5, by omega, F6, τ3, putK acc p.1 u, putD done p.1 p.2, ys, ?_, ?_, upd_same, hF5, Nat.le_trans (putK_len _ _ _) (by omega), (hra.mono (gr.ff.trans xx.ff)).put r6, hrest, hd⟩
      · have x15 : Ext sa F1 H1 F6 H6 := x2.trans (gr.ext.trans xx)
        refine ⟨x15.ff, fun c o z n => ?_, fun c z => ?_, x15.nf⟩
        · rw [upd_ne (ne_of_none z hD)]; exact x15.hh c o z n
        · by_cases hc : c = L
          · rw [hc, upd_same]; simp
          · rw [upd_ne hc]; exact x15.nn c z
      · refine w3.back xx.ff sF (fun j p' c z => ?_) w6.flag
        obtain ⟨h1, h2, h3, h4, h5⟩ := w6.src j p' c z
        obtain ⟨n1, n2⟩ := nD j p' c z
        exact ⟨by rw [upd_ne (Ne.symm n1)]; exact h1, by rw [upd_ne (Ne.symm n2)]; exact h2, h3, h4, h5⟩
  · rintro Hc ⟨F2, τi, acc, done, rest, x2, w2, hacc, hFD, hle, hra, hgo, hd⟩
    rw [List.drop_eq_nil_of_le (Nat.le_refl _)] at hgo
    cases hgo
    cases hd
    have w4 : View F2 sa σ Hc η0 τ' := w1.back x2.ff w2.fh w2.src w2.flag |> fun z => ⟨z.fh, fun j q e => let ⟨v, h1, h2⟩ := w0.var j q e; ⟨v, h1, Rp.mono (x1.ff.trans x2.ff) _ _ h2⟩, z.src, w0.len, z.flag, w0.slot⟩
    have sf : Same F2 (upd F2 L (.dK acc)) := same_new hFD
    have fh : Same (upd F2 L (.dK acc)) Hc := fun b o z => by
      by_cases hb : b = L
      · subst hb; rw [upd_same] at z; rw [hacc]; exact z
      · rw [upd_ne hb] at z; exact w4.fh b o z
    have x3 := x1.trans x2
    have ex : Ext sa F H (upd F2 L (.dK acc)) Hc := ⟨x3.ff.trans sf, x3.hh, x3.nn, fun b z1 z2 => by
      have hb : b ≠ L := fun q => z2 (by rw [q]; exact hD0)
      rw [upd_ne hb]; exact x3.nf b z1 z2⟩
    refine k _ _ _ ex ⟨fh, fun i d e => let ⟨v, h1, h2⟩ := w4.var i d e; ⟨v, h1, Rp.mono sf _ _ h2⟩, fun i p c e => ?_, w4.len, w4.flag, w4.slot⟩ (.dct upd_same (hra.mono sf).toK)
    obtain ⟨h1, h2, h3, h4, h5⟩ := w4.src i p c e
    obtain ⟨n1, n2⟩ := nD i p c e
    exact ⟨h1, h2, h3, by rw [upd_ne (Ne.symm n1)]; exact h4, by rw [upd_ne (Ne.symm n2)]; exact h5⟩
section
variable {X : Cx} {kx vx tg iter : Expr} {ifs : List Expr} {scope : Scope} {own : List (Str × Nat)} {pos : Pos} {fi : M (List D)} {b : Tgt} {tt : M Bool} {tk tv : M D}
theorem de_dc (own : List (Str × Nat)) (hc : X.calm = true) (hN : X.N.Nodup) (hi : DI X tg iter fi) (ok : BlkOk X.N X.env.scope scope own) (hv : ∀ i ∈ own.map (·.2), 2 ≤ i) (hb : ∀ i ∈ tgtSlots b, i ∈ own.map (·.2))
    (hg : ∀ (s : Shared) (H : Hp) (C : Addr) (cl : List (Str × Addr)) (fp : List Addr), DG (X.blk s H scope (compEnvC scope cl C X.env) fp) tg b) (ht : ∀ (s : Shared) (H : Hp) (C : Addr) (cl : List (Str × Addr)) (fp : List Addr), DTs (X.blk s H scope (compEnvC scope cl C X.env) fp) ifs tt)
    (hk : ∀ (s : Shared) (H : Hp) (C : Addr) (cl : List (Str × Addr)) (fp : List Addr), DE (X.blk s H scope (compEnvC scope cl C X.env) fp) kx tk)
    (he : ∀ (s : Shared) (H : Hp) (C : Addr) (cl : List (Str × Addr)) (fp : List Addr), DE (X.blk s H scope (compEnvC scope cl C X.env) fp) vx tv) (hs : ∀ x, foldedSetIterable iter X.env x = pure x := by intro _; rfl) :
    DE X (.DictComp kx vx [⟨tg, iter, ifs, 0⟩] scope pos) (mDc fi (own.map (·.2)) b tt tk tv) := pe_w (pe_dc hc hN hi ok hg ht hk he hs) (tDc_of hv hb)
end
/-! ### len -/
def dLenM : List D → Option D
  | [.dict ds] => some (.int (ds.length : Nat))
  | _ => none
theorem RpK.length {F : Hp} : ∀ {kvs : List (Key × V)} {ds : List (D × D)}, RpK F kvs ds → kvs.length = ds.length
  | _, _, .nil => rfl
  | _, _, .cons _ t => congrArg (· + 1) (RpK.length t)
theorem opl_lenM : OpL (fun xs H Q => ∃ a kvs, xs = [V.ref a] ∧ H a = some (.dK kvs) ∧ Q (.int kvs.length) H) dLenM := by
  intro x dx d F H Q e s rx k
  unfold dLenM at e
  split at e
  · cases e
    obtain ⟨v, rfl, r1⟩ := rpA_one rx
    cases r1 with
    | @dct a kvs _ h1 h2 => exact ⟨a, kvs, rfl, s _ _ h1, by rw [h2.length]; exact k F H _ (.refl s) (.int _)⟩
  · cases e
section
variable {X : Cx} {e : Expr} {es : List Expr} {g : M (List D)} {p pos : Pos}
theorem de_lenM (hg : Gl X "len") (hm : X.mg "len" = none) (ha : DA X (e :: es) g) (he : starEach (e :: es) X.env = (false, eval e X.env) :: starEach es X.env := by rfl) (hpl : (backTo pos (starEach es X.env)).any (·.1) = false := by rfl) : DE X (.Call (.Name "len" p) (e :: es) [] pos) (mOpL dLenM g) :=
  de_callB call_lenD opl_lenM hg hm PySem.boot_len ha (by decide) (by decide) he hpl
/-! ### dict(pairs) -/
def dDict1 : List D → Option D
  | [.list ds] => dDctL ds
  | _ => none
theorem merge_pairs {K : PySem.W.Frag} {F H : Hp} (s : Same F H) : ∀ {ds : List D} {vs : List V} {kvs0 : List (Key × V)} {kds : List (Key × D)} {res : List (Key × D)}, RpA F vs ds → RpQ F kvs0 kds → mergeD kds ds = some res →
    ∃ (ps : List Addr) (kvs : List (Key × V)), vs = ps.map V.ref ∧ Paired (fun p kv => SqT K H p [kV kv.1, kv.2]) ps kvs ∧ RpQ F (mergeK kvs0 kvs) res
  | [], _, kvs0, kds, res, r, q, h => by
    cases r
    cases h
    exact ⟨[], [], rfl, .nil, q⟩
  | d :: ds, _, kvs0, kds, res, r, q, h => by
    cases r with
    | @cons v vs _ _ r1 r2 =>
      unfold mergeD at h
      split at h
      rotate_left
      · cases h
      rename_i p hp
      obtain rfl := prOf_some hp
      cases r1 with
      | @tup a xs _ h1 h2 h3 =>
        cases h3 with
        | @cons vk vs2 _ _ rk h4 =>
          obtain ⟨vv, rfl, rv⟩ := rpA_one h4
          obtain rfl := kV_rp rk
          obtain ⟨ps, kvs, rfl, hp2, hq⟩ := merge_pairs s r2 (q.put rv) h
          exact ⟨a :: ps, (p.1, vv) :: kvs, rfl, .cons (.of (s _ _ h1)) hp2, hq⟩
theorem opl_dict1 {K : PySem.W.Frag} : OpL (fun xs H Q => ∃ (a : Addr) (ps : List Addr) (kvs : List (Key × V)), xs = [.ref a] ∧ SqL K H a (ps.map V.ref) ∧ Paired (fun p kv => SqT K H p [kV kv.1, kv.2]) ps kvs ∧
    ∀ p, H p = none → Q (.ref p) (upd H p (.dK (mergeK [] kvs)))) dDict1 := by
  intro x dx d F H Q e s rx k
  unfold dDict1 at e
  split at e
  · obtain ⟨v, rfl, r1⟩ := rpA_one rx
    obtain ⟨res, hr, rfl⟩ := Option.map_eq_some_iff.mp e
    cases r1 with
    | @lst a xs _ h1 h2 h3 =>
      obtain ⟨ps, kvs, rfl, hp, hq⟩ := merge_pairs (K := K) s h3 .nil hr
      refine ⟨a, ps, kvs, rfl, .of (s _ _ h1), hp, fun q hq' => ?_⟩
      have gr := Grow.alloc s hq' (.dK (mergeK [] kvs))
      exact k _ _ _ gr (.dct upd_same (hq.mono gr.ff).toK)
  · cases e
theorem de_dict1 (hc : X.calm = true) (hg : Gl X "dict") (hm : X.mg "dict" = none) (ha : DA X (e :: es) g) (he : starEach (e :: es) X.env = (false, eval e X.env) :: starEach es X.env := by rfl) (hpl : (backTo pos (starEach es X.env)).any (·.1) = false := by rfl) : DE X (.Call (.Name "dict" p) (e :: es) [] pos) (mOpL dDict1 g) :=
  de_callTy (call_dictP hc) opl_dict1 hg hm (by rfl) ha (by decide) (by decide) he hpl
end
end DL

/-! TLa: typed programs (a value and what must hold for it to be reached); what mirrors give, by types: expressions. -/
namespace TL
open PySem DL

/-- a value, and the condition under which the program reaches it -/
structure Tm (α : Type) where
  ok : Prop
  val : α
/-- how a loop ends -/
inductive Lp (σ δ : Type) where
  | nx (s : σ)
  | rt (d : δ)
/-- how a loop's body ends -/
inductive Rs (σ δ : Type) where
  | nx (s : σ)
  | ct (s : σ)
  | bk (s : σ)
  | rt (d : δ)
section
variable {α β γ δ ε σ : Type}
namespace Tm
def pure (a : α) : Tm α := ⟨True, a⟩
def bind (m : Tm α) (k : α → Tm β) : Tm β := ⟨m.ok ∧ (k m.val).ok, (k m.val).val⟩
def req (p : Prop) (a : α) : Tm α := ⟨p, a⟩
def mp (f : α → β) (m : Tm α) : Tm β := ⟨m.ok, f m.val⟩
def o1 (h : α → Tm β) (m : Tm α) : Tm β := ⟨m.ok ∧ (h m.val).ok, (h m.val).val⟩
def o2 (h : α → β → Tm γ) (a : Tm α) (b : Tm β) : Tm γ := ⟨a.ok ∧ b.ok ∧ (h a.val b.val).ok, (h a.val b.val).val⟩
def o3 (h : α → β → γ → Tm δ) (a : Tm α) (b : Tm β) (c : Tm γ) : Tm δ := ⟨a.ok ∧ b.ok ∧ c.ok ∧ (h a.val b.val c.val).ok, (h a.val b.val c.val).val⟩
def o4 (h : α → β → γ → δ → Tm ε) (a : Tm α) (b : Tm β) (c : Tm γ) (d : Tm δ) : Tm ε := ⟨a.ok ∧ b.ok ∧ c.ok ∧ d.ok ∧ (h a.val b.val c.val d.val).ok, (h a.val b.val c.val d.val).val⟩
def o5 {ζ : Type} (h : α → β → γ → δ → ε → Tm ζ) (a : Tm α) (b : Tm β) (c : Tm γ) (d : Tm δ) (e : Tm ε) : Tm ζ := ⟨a.ok ∧ b.ok ∧ c.ok ∧ d.ok ∧ e.ok ∧ (h a.val b.val c.val d.val e.val).ok, (h a.val b.val c.val d.val e.val).val⟩
def ite (c : Tm Bool) (a b : Tm α) : Tm α := ⟨c.ok ∧ (c.val = true → a.ok) ∧ (c.val = false → b.ok), if c.val = true then a.val else b.val⟩
def and (a b : Tm Bool) : Tm Bool := ⟨a.ok ∧ (a.val = true → b.ok), a.val && b.val⟩
def or (a b : Tm Bool) : Tm Bool := ⟨a.ok ∧ (a.val = false → b.ok), a.val || b.val⟩
def not (a : Tm Bool) : Tm Bool := ⟨a.ok, !a.val⟩
def nil : Tm (List α) := ⟨True, []⟩
def cons (a : Tm α) (r : Tm (List α)) : Tm (List α) := ⟨a.ok ∧ r.ok, a.val :: r.val⟩
def app (a : Tm (List α)) (r : Tm (List α)) : Tm (List α) := ⟨a.ok ∧ r.ok, a.val ++ r.val⟩
def lim (m : Tm (List α)) : Tm (List α) := ⟨m.ok ∧ m.val.length ≤ 2 ^ 24, m.val⟩
def amap (m : Tm (List α)) (f : α → Tm β) : Tm (List β) := ⟨m.ok ∧ ∀ x ∈ m.val, (f x).ok, m.val.map fun x => (f x).val⟩
def fmap (m : Tm (List α)) (t : α → Tm Bool) (f : α → Tm β) : Tm (List β) := ⟨m.ok ∧ ∀ x ∈ m.val, (t x).ok ∧ ((t x).val = true → (f x).ok), (m.val.filter fun x => (t x).val).map fun x => (f x).val⟩
def fmap2 (m : Tm (List α)) (t : α → Tm Bool) (g : α → Tm (List β)) (u : α → β → Tm Bool) (f : α → β → Tm γ) : Tm (List γ) :=
  ⟨m.ok ∧ (∀ x ∈ m.val, (t x).ok ∧ ((t x).val = true → (g x).ok ∧ ∀ y ∈ (g x).val, (u x y).ok ∧ ((u x y).val = true → (f x y).ok))) ∧
    ((m.val.filter fun x => (t x).val).flatMap fun x => ((g x).val.filter fun y => (u x y).val).map fun y => (f x y).val).length ≤ 2 ^ 24,
   (m.val.filter fun x => (t x).val).flatMap fun x => ((g x).val.filter fun y => (u x y).val).map fun y => (f x y).val⟩
/-- a loop without exits -/
def foldOk (f : α → σ → Tm σ) : List α → σ → Prop
  | [], _ => True
  | x :: xs, s => (f x s).ok ∧ foldOk f xs (f x s).val
def fold (m : Tm (List α)) (s : σ) (f : α → σ → Tm σ) : Tm σ := ⟨m.ok ∧ foldOk f m.val s, m.val.foldl (fun s x => (f x s).val) s⟩
/-- a loop with exits -/
def goX (f : α → σ → Rs σ δ) : List α → σ → Lp σ δ
  | [], s => .nx s
  | x :: xs, s => match f x s with
    | .nx s' => goX f xs s'
    | .ct s' => goX f xs s'
    | .bk s' => .nx s'
    | .rt d => .rt d
def goXOk (f : α → σ → Tm (Rs σ δ)) : List α → σ → Prop
  | [], _ => True
  | x :: xs, s => (f x s).ok ∧ (match (f x s).val with
    | .nx s' => goXOk f xs s'
    | .ct s' => goXOk f xs s'
    | .bk _ => True
    | .rt _ => True)
def forX (m : Tm (List α)) (s : σ) (f : α → σ → Tm (Rs σ δ)) : Tm (Lp σ δ) := ⟨m.ok ∧ goXOk f m.val s, goX (fun x s => (f x s).val) m.val s⟩
/-- behind a loop with exits -/
def lp (m : Tm (Lp σ δ)) (k : σ → Tm β) (r : δ → Tm β) : Tm β :=
  ⟨m.ok ∧ (match m.val with | .nx s => (k s).ok | .rt d => (r d).ok), match m.val with | .nx s => (k s).val | .rt d => (r d).val⟩
/-- while, for at most n laps -/
def whOk (c : σ → Tm Bool) (f : σ → Tm (Rs σ δ)) : Nat → σ → Prop
  | 0, _ => False
  | n + 1, s => (c s).ok ∧ ((c s).val = true → (f s).ok ∧ (match (f s).val with
    | .nx s' => whOk c f n s'
    | .ct s' => whOk c f n s'
    | .bk _ => True
    | .rt _ => True))
def whGo (c : σ → Bool) (f : σ → Rs σ δ) : Nat → σ → Option (Lp σ δ)
  | 0, _ => none
  | n + 1, s => if c s = true then (match f s with
    | .nx s' => whGo c f n s'
    | .ct s' => whGo c f n s'
    | .bk s' => some (.nx s')
    | .rt d => some (.rt d)) else some (.nx s)
open Classical in
noncomputable def whV (c : σ → Bool) (f : σ → Rs σ δ) (s : σ) : Lp σ δ := if h : ∃ n r, whGo c f n s = some r then h.choose_spec.choose else .nx s
@[irreducible] noncomputable def whX (c : σ → Tm Bool) (s : σ) (f : σ → Tm (Rs σ δ)) : Tm (Lp σ δ) := ⟨whOk c f fuel s, whV (fun s => (c s).val) (fun s => (f s).val) s⟩
/-- while without exits -/
def wlOk (c : σ → Tm Bool) (f : σ → Tm σ) : Nat → σ → Prop
  | 0, _ => False
  | n + 1, s => (c s).ok ∧ ((c s).val = true → (f s).ok ∧ wlOk c f n (f s).val)
def wlGo (c : σ → Bool) (f : σ → σ) : Nat → σ → Option σ
  | 0, _ => none
  | n + 1, s => if c s = true then wlGo c f n (f s) else some s
open Classical in
noncomputable def wlV (c : σ → Bool) (f : σ → σ) (s : σ) : σ := if h : ∃ n r, wlGo c f n s = some r then h.choose_spec.choose else s
@[irreducible] noncomputable def wl (c : σ → Tm Bool) (s : σ) (f : σ → Tm σ) : Tm σ := ⟨wlOk c f fuel s, wlV (fun s => (c s).val) (fun s => (f s).val) s⟩
theorem whX_ok {c : σ → Tm Bool} {s : σ} {f : σ → Tm (Rs σ δ)} : (whX c s f).ok = whOk c f fuel s := by unfold whX; rfl
theorem whX_val {c : σ → Tm Bool} {s : σ} {f : σ → Tm (Rs σ δ)} : (whX c s f).val = whV (fun s => (c s).val) (fun s => (f s).val) s := by unfold whX; rfl
theorem wl_ok {c : σ → Tm Bool} {s : σ} {f : σ → Tm σ} : (wl c s f).ok = wlOk c f fuel s := by unfold wl; rfl
theorem wl_val {c : σ → Tm Bool} {s : σ} {f : σ → Tm σ} : (wl c s f).val = wlV (fun s => (c s).val) (fun s => (f s).val) s := by unfold wl; rfl
theorem wlGo_mono {c : σ → Bool} {f : σ → σ} : ∀ {n : Nat} {s r : σ}, wlGo c f n s = some r → ∀ k, wlGo c f (n + k) s = some r
  | 0, s, r, h, k => by cases h
  | n + 1, s, r, h, k => by
    rw [show n + 1 + k = (n + k) + 1 by omega]
    unfold wlGo at h ⊢
    split
    · rename_i hc; rw [if_pos hc] at h; exact wlGo_mono h k
    · rename_i hc; rw [if_neg hc] at h; exact h
theorem wlGo_one {c : σ → Bool} {f : σ → σ} {n m : Nat} {s r q : σ} (h : wlGo c f n s = some r) (g : wlGo c f m s = some q) : r = q := by
  have a := wlGo_mono h m
  have b := wlGo_mono g n
  rw [Nat.add_comm] at b
  rw [a] at b
  cases b; rfl
theorem wlV_of {c : σ → Bool} {f : σ → σ} {n : Nat} {s r : σ} (h : wlGo c f n s = some r) : wlV c f s = r := by
  have ex : ∃ n r, wlGo c f n s = some r := ⟨n, r, h⟩
  unfold wlV
  rw [dif_pos ex]
  exact wlGo_one ex.choose_spec.choose_spec h
theorem wlGo_ok {c : σ → Tm Bool} {f : σ → Tm σ} : ∀ {n : Nat} {s : σ}, wlOk c f n s → ∃ r, wlGo (fun s => (c s).val) (fun s => (f s).val) n s = some r
  | 0, s, h => h.elim
  | n + 1, s, h => by
    unfold wlGo
    cases hc : (c s).val with
    | true => exact wlGo_ok (h.2 hc).2
    | false => exact ⟨s, rfl⟩
theorem whGo_mono {c : σ → Bool} {f : σ → Rs σ δ} : ∀ {n : Nat} {s : σ} {r : Lp σ δ}, whGo c f n s = some r → ∀ k, whGo c f (n + k) s = some r
  | 0, s, r, h, k => by cases h
  | n + 1, s, r, h, k => by
    rw [show n + 1 + k = (n + k) + 1 by omega]
    unfold whGo at h ⊢
    split
    · rename_i hc
      rw [if_pos hc] at h
      cases e : f s with
      | nx s' => rw [e] at h; exact whGo_mono (s := s') h k
      | ct s' => rw [e] at h; exact whGo_mono (s := s') h k
      | bk s' => rw [e] at h; exact h
      | rt d => rw [e] at h; exact h
    · rename_i hc; rw [if_neg hc] at h; exact h
theorem whGo_one {c : σ → Bool} {f : σ → Rs σ δ} {n m : Nat} {s : σ} {r q : Lp σ δ} (h : whGo c f n s = some r) (g : whGo c f m s = some q) : r = q := by
  have a := whGo_mono h m
  have b := whGo_mono g n
  rw [Nat.add_comm] at b
  rw [a] at b
  cases b; rfl
theorem whV_of {c : σ → Bool} {f : σ → Rs σ δ} {n : Nat} {s : σ} {r : Lp σ δ} (h : whGo c f n s = some r) : whV c f s = r := by
  have ex : ∃ n r, whGo c f n s = some r := ⟨n, r, h⟩
  unfold whV
  rw [dif_pos ex]
  exact whGo_one ex.choose_spec.choose_spec h
theorem whGo_ok {c : σ → Tm Bool} {f : σ → Tm (Rs σ δ)} : ∀ {n : Nat} {s : σ}, whOk c f n s → ∃ r, whGo (fun s => (c s).val) (fun s => (f s).val) n s = some r
  | 0, s, h => h.elim
  | n + 1, s, h => by
    unfold whGo
    cases hc : (c s).val with
    | true =>
      have g := (h.2 hc).2
      cases e : (f s).val with
      | nx s' => rw [e] at g; simp only [e, if_true]; exact whGo_ok g
      | ct s' => rw [e] at g; simp only [e, if_true]; exact whGo_ok g
      | bk s' => simp only [e, if_true]; exact ⟨_, rfl⟩
      | rt d => simp only [e, if_true]; exact ⟨_, rfl⟩
    | false => exact ⟨.nx s, rfl⟩
end Tm

section
variable {α β : Type} {η : EnvD} {τ τ1 : Src}
theorem bindE {f : M α} {g : α → M β} {a : α} (h : f η τ = some (a, τ1)) : mBind f g η τ = g a η τ1 := by
  unfold mBind
  rw [h]
theorem liftE {o : Option α} {r : α} (h : o = some r) : mLift o η τ = some (r, τ) := by
  unfold mLift
  rw [h]
end
instance : Inhabited D := ⟨.none⟩
/-! ### how typed values stand as data -/
def eI : Int → D := .int
def eB : Bool → D := .bool
def eS : Str → D := .str
def eD : D → D := fun d => d
def eU : Unit → D := fun _ => .none
def eL (e : α → D) (xs : List α) : D := .list (xs.map e)
def eT (e : α → D) (xs : List α) : D := .tuple (xs.map e)
def e1 (e : α → D) (a : α) : D := .tuple [e a]
def e2 (e : α → D) (f : β → D) (p : α × β) : D := .tuple [e p.1, f p.2]
def e3 (e : α → D) (f : β → D) (g : γ → D) (p : α × β × γ) : D := .tuple [e p.1, f p.2.1, g p.2.2]
def e4 (e : α → D) (f : β → D) (g : γ → D) (h : δ → D) (p : α × β × γ × δ) : D := .tuple [e p.1, f p.2.1, g p.2.2.1, h p.2.2.2]
def eO (e : α → D) : Option α → D
  | none => .none
  | some a => e a

/-! ### what is known of what an expression sees -/
structure LeD (ks η : EnvD) : Prop where
  len : ks.length = η.length
  get : ∀ (i : Nat) (d : D), ks[i]? = some (some d) → η[i]? = some (some d)
theorem LeD.refl (η : EnvD) : LeD η η := ⟨rfl, fun _ _ h => h⟩
theorem LeD.set {ks η : EnvD} (h : LeD ks η) (i : Nat) (o : Option D) : LeD (ks.set i o) (η.set i o) := by
  refine ⟨by rw [List.length_set, List.length_set]; exact h.len, fun j d e => ?_⟩
  rw [List.getElem?_set] at e ⊢
  by_cases hj : i = j
  · rw [if_pos hj] at e ⊢
    by_cases hl : i < ks.length
    · rw [if_pos hl] at e; rw [if_pos (by rw [← h.len]; exact hl)]; exact e
    · rw [if_neg hl] at e; cases e
  · rw [if_neg hj] at e ⊢
    exact h.get j d e
theorem LeD.wipe {ks η : EnvD} (h : LeD ks η) : ∀ vs : List Nat, LeD (wipeD ks vs) (wipeD η vs)
  | [] => h
  | v :: vs => (LeD.wipe h vs).set v none
theorem LeD.setD {ks η : EnvD} (h : LeD ks η) : ∀ (as : List (Nat × D)), LeD (DL.setD ks as) (DL.setD η as) := fun as => by
  unfold DL.setD
  induction as generalizing ks η with
  | nil => exact h
  | cons a as ih => exact ih (h.set a.1 (some a.2))

/-! ### the readings -/
structure E (f : M D) (ks : EnvD) (e : α → D) (m : Tm α) : Prop where
  run : m.ok → ∀ (η : EnvD) (τ : Src), LeD ks η → f η τ = some (e m.val, τ)
instance {f : M D} {ks : EnvD} {e : α → D} {m : Tm α} : CoeFun (E f ks e m) (fun _ => m.ok → ∀ (η : EnvD) (τ : Src), LeD ks η → f η τ = some (e m.val, τ)) := ⟨E.run⟩
structure ET (f : M Bool) (ks : EnvD) (m : Tm Bool) : Prop where
  run : m.ok → ∀ (η : EnvD) (τ : Src), LeD ks η → f η τ = some (m.val, τ)
instance {f : M Bool} {ks : EnvD} {m : Tm Bool} : CoeFun (ET f ks m) (fun _ => m.ok → ∀ (η : EnvD) (τ : Src), LeD ks η → f η τ = some (m.val, τ)) := ⟨ET.run⟩
structure EN (f : M (List D)) (ks : EnvD) (e : α → D) (m : Tm (List α)) : Prop where
  run : m.ok → ∀ (η : EnvD) (τ : Src), LeD ks η → f η τ = some (m.val.map e, τ)
instance {f : M (List D)} {ks : EnvD} {e : α → D} {m : Tm (List α)} : CoeFun (EN f ks e m) (fun _ => m.ok → ∀ (η : EnvD) (τ : Src), LeD ks η → f η τ = some (m.val.map e, τ)) := ⟨EN.run⟩
structure EO (f : M (Option Int)) (ks : EnvD) (m : Tm (Option Int)) : Prop where
  run : m.ok → ∀ (η : EnvD) (τ : Src), LeD ks η → f η τ = some (m.val, τ)
instance {f : M (Option Int)} {ks : EnvD} {m : Tm (Option Int)} : CoeFun (EO f ks m) (fun _ => m.ok → ∀ (η : EnvD) (τ : Src), LeD ks η → f η τ = some (m.val, τ)) := ⟨EO.run⟩
structure ER (f : M (Int × Int)) (ks : EnvD) (m : Tm (Int × Int)) : Prop where
  run : m.ok → ∀ (η : EnvD) (τ : Src), LeD ks η → f η τ = some (m.val, τ)
instance {f : M (Int × Int)} {ks : EnvD} {m : Tm (Int × Int)} : CoeFun (ER f ks m) (fun _ => m.ok → ∀ (η : EnvD) (τ : Src), LeD ks η → f η τ = some (m.val, τ)) := ⟨ER.run⟩
/-- facts of operators and of defs -/
def O1 (o : D → Option D) (a : α → D) (r : β → D) (h : α → Tm β) : Prop := ∀ x, (h x).ok → o (a x) = some (r (h x).val)
def O2 (o : D → D → Option D) (a : α → D) (b : β → D) (r : γ → D) (h : α → β → Tm γ) : Prop := ∀ x y, (h x y).ok → o (a x) (b y) = some (r (h x y).val)
def C1 (o : List D → Option D) (a : α → D) (r : β → D) (h : α → Tm β) : Prop := ∀ x, (h x).ok → o [a x] = some (r (h x).val)
def C2 (o : List D → Option D) (a : α → D) (b : β → D) (r : γ → D) (h : α → β → Tm γ) : Prop := ∀ x y, (h x y).ok → o [a x, b y] = some (r (h x y).val)
def C3 (o : List D → Option D) (a : α → D) (b : β → D) (c : γ → D) (r : δ → D) (h : α → β → γ → Tm δ) : Prop := ∀ x y z, (h x y z).ok → o [a x, b y, c z] = some (r (h x y z).val)
def C4 (o : List D → Option D) (a : α → D) (b : β → D) (c : γ → D) (d : δ → D) (r : ε → D) (h : α → β → γ → δ → Tm ε) : Prop := ∀ x y z u, (h x y z u).ok → o [a x, b y, c z, d u] = some (r (h x y z u).val)
def C5 {ζ : Type} (o : List D → Option D) (a : α → D) (b : β → D) (c : γ → D) (d : δ → D) (e : ε → D) (r : ζ → D) (h : α → β → γ → δ → ε → Tm ζ) : Prop := ∀ x y z u v, (h x y z u v).ok → o [a x, b y, c z, d u, e v] = some (r (h x y z u v).val)
end

section
variable {α β γ δ ε : Type} {f g u v w : M D} {ks : EnvD} {ea : α → D} {eb : β → D} {ec : γ → D} {ed : δ → D} {ee : ε → D} {ma : Tm α} {mb : Tm β} {mc : Tm γ} {md : Tm δ} {me : Tm ε}
theorem E_var {i : Nat} {a : α} (h : ks[i]? = some (some (ea a))) : E (mVar i) ks ea (.pure a) := .mk fun _ η τ l => by
  have := l.get i _ h
  unfold mVar
  rw [this]
  rfl
theorem E_int {i : Int} : E (mPure (.int i)) ks eI (.pure i) := .mk fun _ _ _ _ => rfl
theorem E_bool {b : Bool} : E (mPure (.bool b)) ks eB (.pure b) := .mk fun _ _ _ _ => rfl
theorem E_str {x : Str} : E (mPure (.str x)) ks eS (.pure x) := .mk fun _ _ _ _ => rfl
theorem E_non : E (mPure .none) ks eU (.pure ()) := .mk fun _ _ _ _ => rfl
theorem E_none : E (mPure .none) ks (eO ea) (.pure none) := .mk fun _ _ _ _ => rfl
theorem E_noneD : E (mPure .none) ks eD (.pure .none) := .mk fun _ _ _ _ => rfl
theorem E_some (h : E f ks ea ma) : E f ks (eO ea) (ma.mp some) := .mk h.run
theorem E_toD (h : E f ks ea ma) : E f ks eD (ma.mp ea) := .mk h.run
theorem E_get [Inhabited α] {mo : Tm (Option α)} (h : E f ks (eO ea) mo) : E f ks ea ⟨mo.ok ∧ mo.val.isSome = true, mo.val.getD default⟩ := .mk fun k η τ l => by
  rw [h k.1 η τ l]
  obtain ⟨a, ha⟩ := Option.isSome_iff_exists.mp k.2
  show some (eO ea mo.val, τ) = some (ea (mo.val.getD default), τ)
  rw [ha]
  rfl
def intD : D → Int
  | .int i => i
  | _ => 0
def isI : D → Bool
  | .int _ => true
  | _ => false
def blD : D → Bool
  | .bool b => b
  | _ => false
def isB : D → Bool
  | .bool _ => true
  | _ => false
def tupD : D → List D
  | .tuple ds => ds
  | _ => []
def isTup : D → Bool
  | .tuple _ => true
  | _ => false
def lstD : D → List D
  | .list ds => ds
  | _ => []
def isLst : D → Bool
  | .list _ => true
  | _ => false
def strD : D → Str
  | .str x => x
  | _ => ""
def isStr : D → Bool
  | .str _ => true
  | _ => false
def cI (d : D) : Tm Int := ⟨isI d = true, intD d⟩
def cB (d : D) : Tm Bool := ⟨isB d = true, blD d⟩
def cT (d : D) : Tm (List D) := ⟨isTup d = true, tupD d⟩
def cL (d : D) : Tm (List D) := ⟨isLst d = true, lstD d⟩
def cS (d : D) : Tm Str := ⟨isStr d = true, strD d⟩
theorem map_eD (ds : List D) : ds.map eD = ds := List.map_id ds
theorem E_ofI {md : Tm D} (h : E f ks eD md) : E f ks eI (.o1 cI md) := .mk fun k η τ l => by
  rw [h k.1 η τ l]
  have := k.2
  revert this
  show isI md.val = true → some (md.val, τ) = some (.int (intD md.val), τ)
  cases md.val <;> simp [isI, intD]
theorem E_ofB {md : Tm D} (h : E f ks eD md) : E f ks eB (.o1 cB md) := .mk fun k η τ l => by
  rw [h k.1 η τ l]
  have := k.2
  revert this
  show isB md.val = true → some (md.val, τ) = some (.bool (blD md.val), τ)
  cases md.val <;> simp [isB, blD]
theorem E_ofT {md : Tm D} (h : E f ks eD md) : E f ks (eT eD) (.o1 cT md) := .mk fun k η τ l => by
  rw [h k.1 η τ l]
  have := k.2
  revert this
  show isTup md.val = true → some (md.val, τ) = some (.tuple ((tupD md.val).map eD), τ)
  rw [map_eD]
  cases md.val <;> simp [isTup, tupD]
theorem E_ofL {md : Tm D} (h : E f ks eD md) : E f ks (eL eD) (.o1 cL md) := .mk fun k η τ l => by
  rw [h k.1 η τ l]
  have := k.2
  revert this
  show isLst md.val = true → some (md.val, τ) = some (.list ((lstD md.val).map eD), τ)
  rw [map_eD]
  cases md.val <;> simp [isLst, lstD]
theorem E_ofS {md : Tm D} (h : E f ks eD md) : E f ks eS (.o1 cS md) := .mk fun k η τ l => by
  rw [h k.1 η τ l]
  have := k.2
  revert this
  show isStr md.val = true → some (md.val, τ) = some (.str (strD md.val), τ)
  cases md.val <;> simp [isStr, strD]
/-- a tuple of two, of three -/
def isP2 : D → Bool
  | .tuple [_, _] => true
  | _ => false
def p2D : D → D × D
  | .tuple [a, b] => (a, b)
  | _ => (.none, .none)
def cP2 (d : D) : Tm (D × D) := ⟨isP2 d = true, p2D d⟩
theorem E_ofP2 {md : Tm D} (h : E f ks eD md) : E f ks (e2 eD eD) (.o1 cP2 md) := .mk fun k η τ l => by
  rw [h k.1 η τ l]
  have := k.2
  revert this
  show isP2 md.val = true → some (md.val, τ) = some (PyData.tuple [(p2D md.val).1, (p2D md.val).2], τ)
  unfold isP2 p2D
  split
  · rename_i e; intro _; rw [e]
  · intro z; cases z
def isP3 : D → Bool
  | .tuple [_, _, _] => true
  | _ => false
def p3D : D → D × D × D
  | .tuple [a, b, c] => (a, b, c)
  | _ => (.none, .none, .none)
def cP3 (d : D) : Tm (D × D × D) := ⟨isP3 d = true, p3D d⟩
theorem E_ofP3 {md : Tm D} (h : E f ks eD md) : E f ks (e3 eD eD eD) (.o1 cP3 md) := .mk fun k η τ l => by
  rw [h k.1 η τ l]
  have := k.2
  revert this
  show isP3 md.val = true → some (md.val, τ) = some (PyData.tuple [(p3D md.val).1, (p3D md.val).2.1, (p3D md.val).2.2], τ)
  unfold isP3 p3D
  split
  · rename_i e; intro _; rw [e]
  · intro z; cases z
/-- a tuple of two ints -/
def isII : D → Bool
  | .tuple [.int _, .int _] => true
  | _ => false
def iiD : D → Int × Int
  | .tuple [.int a, .int b] => (a, b)
  | _ => (0, 0)
def cII (d : D) : Tm (Int × Int) := ⟨isII d = true, iiD d⟩
theorem E_ofII {md : Tm D} (h : E f ks eD md) : E f ks (e2 eI eI) (.o1 cII md) := .mk fun k η τ l => by
  rw [h k.1 η τ l]
  have := k.2
  revert this
  show isII md.val = true → some (md.val, τ) = some (PyData.tuple [.int (iiD md.val).1, .int (iiD md.val).2], τ)
  unfold isII iiD
  split
  · rename_i e; intro _; rw [e]
  · intro z; cases z
theorem E_op1 {o : D → Option D} {h : α → Tm β} (ho : O1 o ea eb h) (hf : E f ks ea ma) : E (mOp1 o f) ks eb (.o1 h ma) := .mk fun k η τ l => by
  refine (bindE (hf k.1 η τ l)).trans ?_
  refine (liftE (ho _ k.2)).trans ?_
  rfl
theorem E_op2 {o : D → D → Option D} {h : α → β → Tm γ} (ho : O2 o ea eb ec h) (hf : E f ks ea ma) (hg : E g ks eb mb) : E (mOp2 o f g) ks ec (.o2 h ma mb) := .mk fun k η τ l => by
  refine (bindE (hf k.1 η τ l)).trans ?_
  refine (bindE (hg k.2.1 η τ l)).trans ?_
  refine (liftE (ho _ _ k.2.2)).trans ?_
  rfl
theorem callG {o : List D → Option D} {G : M (List D)} {η : EnvD} {τ : Src} {ds : List D} {r : D} (hG : G η τ = some (ds, τ)) (ho : o ds = some r) : mOpL o G η τ = some (r, τ) :=
  (bindE hG).trans (liftE ho)
theorem consG {G : M (List D)} {η : EnvD} {τ τ1 τ2 : Src} {d : D} {ds : List D} (hf : f η τ = some (d, τ1)) (hG : G η τ1 = some (ds, τ2)) : mCons f G η τ = some (d :: ds, τ2) := by
  refine (bindE (hf)).trans ?_
  refine (bindE (hG)).trans ?_
  rfl
theorem nilG {η : EnvD} {τ : Src} : mNil η τ = some ([], τ) := rfl
theorem E_c1 {o : List D → Option D} {h : α → Tm β} (ho : C1 o ea eb h) (hf : E f ks ea ma) : E (mOpL o (mCons f mNil)) ks eb (.o1 h ma) := .mk fun k η τ l =>
  callG (consG (hf k.1 η τ l) nilG) (ho _ k.2)
theorem E_c2 {o : List D → Option D} {h : α → β → Tm γ} (ho : C2 o ea eb ec h) (hf : E f ks ea ma) (hg : E g ks eb mb) : E (mOpL o (mCons f (mCons g mNil))) ks ec (.o2 h ma mb) := .mk fun k η τ l =>
  callG (consG (hf k.1 η τ l) (consG (hg k.2.1 η τ l) nilG)) (ho _ _ k.2.2)
theorem E_c3 {o : List D → Option D} {h : α → β → γ → Tm δ} (ho : C3 o ea eb ec ed h) (hf : E f ks ea ma) (hg : E g ks eb mb) (hu : E u ks ec mc) : E (mOpL o (mCons f (mCons g (mCons u mNil)))) ks ed (.o3 h ma mb mc) := .mk fun k η τ l =>
  callG (consG (hf k.1 η τ l) (consG (hg k.2.1 η τ l) (consG (hu k.2.2.1 η τ l) nilG))) (ho _ _ _ k.2.2.2)
theorem E_c4 {o : List D → Option D} {h : α → β → γ → δ → Tm ε} (ho : C4 o ea eb ec ed ee h) (hf : E f ks ea ma) (hg : E g ks eb mb) (hu : E u ks ec mc) (hv : E v ks ed md) : E (mOpL o (mCons f (mCons g (mCons u (mCons v mNil))))) ks ee (.o4 h ma mb mc md) := .mk fun k η τ l =>
  callG (consG (hf k.1 η τ l) (consG (hg k.2.1 η τ l) (consG (hu k.2.2.1 η τ l) (consG (hv k.2.2.2.1 η τ l) nilG)))) (ho _ _ _ _ k.2.2.2.2)
theorem E_c5 {ζ : Type} {er : ζ → D} {o : List D → Option D} {h : α → β → γ → δ → ε → Tm ζ} (ho : C5 o ea eb ec ed ee er h) (hf : E f ks ea ma) (hg : E g ks eb mb) (hu : E u ks ec mc) (hv : E v ks ed md) (hw : E w ks ee me) : E (mOpL o (mCons f (mCons g (mCons u (mCons v (mCons w mNil)))))) ks er (.o5 h ma mb mc md me) := .mk fun k η τ l =>
  callG (consG (hf k.1 η τ l) (consG (hg k.2.1 η τ l) (consG (hu k.2.2.1 η τ l) (consG (hv k.2.2.2.1 η τ l) (consG (hw k.2.2.2.2.1 η τ l) nilG))))) (ho _ _ _ _ _ k.2.2.2.2.2)
/-- f(*pair) -/
theorem E_cS2 {o : List D → Option D} {h : α → β → Tm γ} {mp : Tm (α × β)} (ho : C2 o ea eb ec h) (hf : E f ks (e2 ea eb) mp) : E (mOpL o (mStar f mNil)) ks ec (.o1 (fun p => h p.1 p.2) mp) := .mk fun k η τ l => by
  refine callG (ds := [ea mp.val.1, eb mp.val.2]) ?_ (ho _ _ k.2)
  refine (bindE (hf k.1 η τ l)).trans ?_
  rfl

/-! tests -/
theorem ET_bool {m : Tm Bool} (h : E f ks eB m) : ET (mBool f) ks m := .mk fun k η τ l => by
  refine (bindE (h k η τ l)).trans ?_
  rfl
section
variable {p q : M Bool} {mp mq : Tm Bool}
theorem ET_and (hp : ET p ks mp) (hq : ET q ks mq) : ET (mAnd p q) ks (.and mp mq) := .mk fun k η τ l => by
  refine (bindE (hp k.1 η τ l)).trans ?_
  show (if mp.val = true then q else mPure false) η τ = some (mp.val && mq.val, τ)
  cases h : mp.val with
  | true => exact hq (k.2 h) η τ l
  | false => rfl
theorem ET_or (hp : ET p ks mp) (hq : ET q ks mq) : ET (mOr p q) ks (.or mp mq) := .mk fun k η τ l => by
  refine (bindE (hp k.1 η τ l)).trans ?_
  show (if mp.val = true then mPure true else q) η τ = some (mp.val || mq.val, τ)
  cases h : mp.val with
  | false => exact hq (k.2 h) η τ l
  | true => rfl
theorem ET_not (hp : ET p ks mp) : ET (mNot p) ks (.not mp) := .mk fun k η τ l => by
  refine (bindE (hp k η τ l)).trans ?_
  rfl
theorem ET_true : ET mTrue ks (.pure true) := .mk fun _ _ _ _ => rfl
theorem E_andV (hp : E f ks eB mp) (hq : E g ks eB mq) : E (mAndV f g) ks eB (.and mp mq) := .mk fun k η τ l => by
  refine (bindE (ET_bool hp k.1 η τ l)).trans ?_
  show (if mp.val = true then g else mPure (PyData.bool false)) η τ = some (.bool (mp.val && mq.val), τ)
  cases h : mp.val with
  | true => exact hq (k.2 h) η τ l
  | false => rfl
theorem E_orV (hp : E f ks eB mp) (hq : E g ks eB mq) : E (mOrV f g) ks eB (.or mp mq) := .mk fun k η τ l => by
  refine (bindE (ET_bool hp k.1 η τ l)).trans ?_
  show (if mp.val = true then mPure (PyData.bool true) else g) η τ = some (.bool (mp.val || mq.val), τ)
  cases h : mp.val with
  | false => exact hq (k.2 h) η τ l
  | true => rfl
theorem E_notV (hp : E f ks eB mp) : E (mNotV f) ks eB (.not mp) := .mk fun k η τ l => by
  refine (bindE (ET_bool hp k η τ l)).trans ?_
  rfl
theorem E_if {ma' : Tm α} (hc : ET p ks mp) (hf : E f ks ea ma) (hg : E g ks ea ma') : E (mIf p f g) ks ea (.ite mp ma ma') := .mk fun k η τ l => by
  refine (bindE (hc k.1 η τ l)).trans ?_
  show (if mp.val = true then f else g) η τ = some (ea (if mp.val = true then ma.val else ma'.val), τ)
  cases h : mp.val with
  | true => exact hf (k.2.1 h) η τ l
  | false => exact hg (k.2.2 h) η τ l
end
def tChain (h : α → β → Tm Bool) (h' : β → γ → Tm Bool) (ma : Tm α) (mb : Tm β) (mc : Tm γ) : Tm Bool := ⟨ma.ok ∧ mb.ok ∧ (h ma.val mb.val).ok ∧ ((h ma.val mb.val).val = true → mc.ok ∧ (h' mb.val mc.val).ok), (h ma.val mb.val).val && (h' mb.val mc.val).val⟩
theorem E_chain {o o' : D → D → Option D} {h : α → β → Tm Bool} {h' : β → γ → Tm Bool} (ho : O2 o ea eb eB h) (ho' : O2 o' eb ec eB h') (hf : E f ks ea ma) (hg : E g ks eb mb) (hu : E u ks ec mc) :
    E (mChain o o' f g u) ks eB (tChain h h' ma mb mc) := .mk fun k η τ l => by
  refine (bindE (hf k.1 η τ l)).trans ?_
  refine (bindE (hg k.2.1 η τ l)).trans ?_
  have e1 : ((o (ea ma.val) (eb mb.val)).bind bOf) = some (h ma.val mb.val).val := by rw [ho _ _ k.2.2.1]; rfl
  refine (bindE (liftE e1)).trans ?_
  have k3 := k.2.2.2
  show _ = some (PyData.bool ((h ma.val mb.val).val && (h' mb.val mc.val).val), τ)
  cases hb : (h ma.val mb.val).val with
  | false => rfl
  | true =>
    obtain ⟨k4, k5⟩ := k3 hb
    refine (bindE (hu k4 η τ l)).trans ?_
    refine (liftE (ho' _ _ k5)).trans ?_
    rfl

/-! displays -/
def tPair (a : α) (b : β) : Tm (α × β) := .pure (a, b)
def tTrip (a : α) (b : β) (c : γ) : Tm (α × β × γ) := .pure (a, b, c)
def tFour (a : α) (b : β) (c : γ) (d : δ) : Tm (α × β × γ × δ) := .pure (a, b, c, d)
theorem tupG {G : M (List D)} {η : EnvD} {τ τ1 : Src} {ds : List D} (h : G η τ = some (ds, τ1)) (hl : ds.length ≤ 2 ^ 24) : mTup G η τ = some (.tuple ds, τ1) :=
  (bindE h).trans (liftE (by rw [okLen_of hl]; rfl))
theorem E_t0 : E (mTup mNil) ks (eT ea) (.pure []) := .mk fun _ η τ _ => tupG nilG (Nat.zero_le _)
theorem E_t1 (hf : E f ks ea ma) : E (mTup (mCons f mNil)) ks (e1 ea) ma := .mk fun k η τ l => tupG (consG (hf k η τ l) nilG) (by simp)
theorem E_t2 (hf : E f ks ea ma) (hg : E g ks eb mb) : E (mTup (mCons f (mCons g mNil))) ks (e2 ea eb) (.o2 tPair ma mb) := .mk fun k η τ l => tupG (consG (hf k.1 η τ l) (consG (hg k.2.1 η τ l) nilG)) (by simp)
theorem E_t3 (hf : E f ks ea ma) (hg : E g ks eb mb) (hu : E u ks ec mc) : E (mTup (mCons f (mCons g (mCons u mNil)))) ks (e3 ea eb ec) (.o3 tTrip ma mb mc) := .mk fun k η τ l => tupG (consG (hf k.1 η τ l) (consG (hg k.2.1 η τ l) (consG (hu k.2.2.1 η τ l) nilG))) (by simp)
theorem E_t4 (hf : E f ks ea ma) (hg : E g ks eb mb) (hu : E u ks ec mc) (hv : E v ks ed md) : E (mTup (mCons f (mCons g (mCons u (mCons v mNil))))) ks (e4 ea eb ec ed) (.o4 tFour ma mb mc md) := .mk fun k η τ l => tupG (consG (hf k.1 η τ l) (consG (hg k.2.1 η τ l) (consG (hu k.2.2.1 η τ l) (consG (hv k.2.2.2.1 η τ l) nilG)))) (by simp)
section
variable {G H : M (List D)} {ms mr : Tm (List α)}
theorem EN_nil : EN mNil ks ea .nil := .mk fun _ _ _ _ => rfl
theorem EN_cons (hf : E f ks ea ma) (hG : EN G ks ea ms) : EN (mCons f G) ks ea (.cons ma ms) := .mk fun k η τ l => consG (hf k.1 η τ l) (hG k.2 η τ l)
theorem starG {η : EnvD} {τ τ1 τ2 : Src} {d : D} {ds es : List D} (hf : f η τ = some (d, τ1)) (hd : seqOf d = some es) (hG : G η τ1 = some (ds, τ2)) : mStar f G η τ = some (es ++ ds, τ2) :=
  (bindE hf).trans ((bindE (liftE hd)).trans (bindE hG))
theorem EN_starT (hf : E f ks (eT ea) ms) (hG : EN G ks ea mr) : EN (mStar f G) ks ea (.app ms mr) := .mk fun k η τ l => by
  rw [starG (hf k.1 η τ l) rfl (hG k.2 η τ l), ← List.map_append]; rfl
theorem EN_starL (hf : E f ks (eL ea) ms) (hG : EN G ks ea mr) : EN (mStar f G) ks ea (.app ms mr) := .mk fun k η τ l => by
  rw [starG (hf k.1 η τ l) rfl (hG k.2 η τ l), ← List.map_append]; rfl
theorem E_tN (hG : EN G ks ea ms) : E (mTup G) ks (eT ea) (.lim ms) := .mk fun k η τ l => tupG (hG k.1 η τ l) (by rw [List.length_map]; exact k.2)
theorem EN_lst (hG : EN G ks ea ms) : EN (mLst G) ks ea (.lim ms) := .mk fun k η τ l => by
  refine (bindE (hG k.1 η τ l)).trans ?_
  refine (liftE (okLen_of (by rw [List.length_map]; exact k.2))).trans ?_
  rfl
theorem E_ofN (hG : EN G ks ea ms) : E (mOfN G) ks (eL ea) ms := .mk fun k η τ l => by
  refine (bindE (hG k η τ l)).trans ?_
  rfl
theorem EN_items {F : M D} {s : List α → D} (hs : ∀ xs, seqOf (s xs) = some (xs.map ea)) (hf : E F ks s ms) : EN (mItems F) ks ea ms := .mk fun k η τ l => by
  refine (bindE (hf k η τ l)).trans ?_
  exact liftE (hs _)
theorem EN_itemsT (hf : E f ks (eT ea) ms) : EN (mItems f) ks ea ms := EN_items (fun _ => rfl) hf
theorem EN_itemsL (hf : E f ks (eL ea) ms) : EN (mItems f) ks ea ms := EN_items (fun _ => rfl) hf
theorem EN_listT (hf : E f ks (eT ea) ms) : EN (mListOf f) ks ea ms := EN_items (fun _ => rfl) hf
theorem EN_listL (hf : E f ks (eL ea) ms) : EN (mListOf f) ks ea ms := EN_items (fun _ => rfl) hf
end
/-- a pair's items as a list -/
theorem EN_items2 {mp : Tm (α × α)} (hf : E f ks (e2 ea ea) mp) : EN (mItems f) ks ea (mp.mp fun p => [p.1, p.2]) := .mk fun k η τ l => by
  refine (bindE (hf k η τ l)).trans ?_
  rfl
theorem EN_items3 {mp : Tm (α × α × α)} (hf : E f ks (e3 ea ea ea) mp) : EN (mItems f) ks ea (mp.mp fun p => [p.1, p.2.1, p.2.2]) := .mk fun k η τ l => by
  refine (bindE (hf k η τ l)).trans ?_
  rfl
/-- anything's items -/
def itemsD (d : D) : List D := (seqOf d).getD []
theorem EN_itemsD {md : Tm D} (hf : E f ks eD md) : EN (mItems f) ks eD ⟨md.ok ∧ (seqOf md.val).isSome = true, itemsD md.val⟩ := .mk fun k η τ l => by
  refine (bindE (hf k.1 η τ l)).trans ?_
  obtain ⟨ds, hd⟩ := Option.isSome_iff_exists.mp k.2
  refine (liftE hd).trans ?_
  show some (ds, τ) = some ((itemsD md.val).map eD, τ)
  unfold itemsD
  rw [hd, map_eD]; rfl
def cSeq (d : D) : Tm (List D) := ⟨(seqOf d).isSome = true, itemsD d⟩
theorem EN_itemsD' {md : Tm D} (hf : E f ks eD md) : EN (mItems f) ks eD (.o1 cSeq md) := EN_itemsD hf
theorem EN_listD' {md : Tm D} (hf : E f ks eD md) : EN (mListOf f) ks eD (.o1 cSeq md) := EN_itemsD hf
theorem EN_listD {md : Tm D} (hf : E f ks eD md) : EN (mListOf f) ks eD ⟨md.ok ∧ (seqOf md.val).isSome = true, itemsD md.val⟩ := EN_itemsD hf
/-- a list of data of any kinds -/
theorem EN_toD {G : M (List D)} {ms : Tm (List α)} (h : EN G ks ea ms) : EN G ks eD (ms.mp (List.map ea)) := .mk fun k η τ l => by rw [h k η τ l]; show _ = some ((ms.val.map ea).map eD, τ); rw [map_eD]
theorem E_lToD {ms : Tm (List α)} (h : E f ks (eL ea) ms) : E f ks (eL eD) (ms.mp (List.map ea)) := .mk fun k η τ l => by
  rw [h k η τ l]
  show some (PyData.list (ms.val.map ea), τ) = some (PyData.list ((ms.val.map ea).map eD), τ)
  rw [map_eD]
/-! components -/
theorem ixG {η : EnvD} {τ τ1 : Src} {d r : D} {i : Int} (hf : f η τ = some (d, τ1)) (h : dIx d (.int i) = some r) : mOp2 dIx f (mPure (.int i)) η τ = some (r, τ1) :=
  (bindE hf).trans (liftE (η := η) (τ := τ1) h)
theorem E_21 {mp : Tm (α × β)} (hf : E f ks (e2 ea eb) mp) : E (mOp2 dIx f (mPure (.int 0))) ks ea (mp.mp fun p => p.1) := .mk fun k η τ l => ixG (hf k η τ l) rfl
theorem E_22 {mp : Tm (α × β)} (hf : E f ks (e2 ea eb) mp) : E (mOp2 dIx f (mPure (.int 1))) ks eb (mp.mp fun p => p.2) := .mk fun k η τ l => ixG (hf k η τ l) rfl
theorem E_31 {mp : Tm (α × β × γ)} (hf : E f ks (e3 ea eb ec) mp) : E (mOp2 dIx f (mPure (.int 0))) ks ea (mp.mp fun p => p.1) := .mk fun k η τ l => ixG (hf k η τ l) rfl
theorem E_32 {mp : Tm (α × β × γ)} (hf : E f ks (e3 ea eb ec) mp) : E (mOp2 dIx f (mPure (.int 1))) ks eb (mp.mp fun p => p.2.1) := .mk fun k η τ l => ixG (hf k η τ l) rfl
theorem E_33 {mp : Tm (α × β × γ)} (hf : E f ks (e3 ea eb ec) mp) : E (mOp2 dIx f (mPure (.int 2))) ks ec (mp.mp fun p => p.2.2) := .mk fun k η τ l => ixG (hf k η τ l) rfl
/-! comprehensions -/
section
variable {fi : M (List D)} {vs : List Nat} {b : Tgt} {tt : M Bool} {te : M D} {ms : Tm (List α)} {as : α → List (Nat × D)}
theorem compGo_ev {η : EnvD} {τ : Src} {t : α → Tm Bool} {q : α → Tm β} (hb : ∀ x, bindT b (ea x) = some (as x)) : ∀ {xs : List α},
    (∀ x ∈ xs, tt (DL.setD η (as x)) τ = some ((t x).val, τ) ∧ ((t x).val = true → te (DL.setD η (as x)) τ = some (eb (q x).val, τ))) →
    compGo b tt te η (xs.map ea) τ = some (((xs.filter fun x => (t x).val).map fun x => (q x).val).map eb, τ)
  | [], _ => rfl
  | x :: xs, h => by
    obtain ⟨h1, h2⟩ := h x List.mem_cons_self
    have ih := compGo_ev (t := t) (q := q) hb (xs := xs) fun y hy => h y (List.mem_cons_of_mem _ hy)
    simp only [List.map_cons, compGo, hb, h1]
    cases hp : (t x).val with
    | false => simp only [List.filter_cons, hp, ih]; rfl
    | true => simp only [h2 hp, ih, List.filter_cons, hp]; rfl
theorem EN_comp {t : α → Tm Bool} {q : α → Tm β} (hi : EN fi ks ea ms) (hb : ∀ x, bindT b (ea x) = some (as x)) (ht : ∀ x, ET tt (DL.setD (wipeD ks vs) (as x)) (t x)) (he : ∀ x, E te (DL.setD (wipeD ks vs) (as x)) eb (q x)) : EN (mComp fi vs b tt te) ks eb (.fmap ms t q) := .mk fun k η τ l => by
  refine (bindE (hi k.1 η τ l)).trans ?_
  exact compGo_ev hb fun x hx => ⟨ht x (k.2 x hx).1 _ τ ((l.wipe vs).setD _), fun hp => he x ((k.2 x hx).2 hp) _ τ ((l.wipe vs).setD _)⟩
theorem EN_compA {q : α → Tm β} (hi : EN fi ks ea ms) (hb : ∀ x, bindT b (ea x) = some (as x)) (he : ∀ x, E te (DL.setD (wipeD ks vs) (as x)) eb (q x)) : EN (mComp fi vs b mTrue te) ks eb (.amap ms q) := .mk fun k η τ l => by
  have := EN_comp (tt := mTrue) (t := fun _ => .pure true) hi hb (fun x => ET_true) he ⟨k.1, fun x hx => ⟨trivial, fun _ => k.2 x hx⟩⟩ η τ l
  rw [this]
  show some (((ms.val.filter fun _ => true).map fun x => (q x).val).map eb, τ) = some ((ms.val.map fun x => (q x).val).map eb, τ)
  rw [List.filter_eq_self.mpr fun _ _ => rfl]
theorem compGo2_ev {f1 : M (List D)} {vs1 : List Nat} {b1 : Tgt} {tt1 : M Bool} {as1 : α → β → List (Nat × D)} {η : EnvD} {τ : Src} {t : α → Tm Bool} {g : α → Tm (List β)} {t1 : α → β → Tm Bool} {q : α → β → Tm γ} (hb : ∀ x, bindT b (ea x) = some (as x)) (hb1 : ∀ x y, bindT b1 (eb y) = some (as1 x y)) : ∀ {xs : List α},
    (∀ x ∈ xs, tt (DL.setD η (as x)) τ = some ((t x).val, τ) ∧ ((t x).val = true → f1 (DL.setD η (as x)) τ = some ((g x).val.map eb, τ) ∧
      ∀ y ∈ (g x).val, tt1 (DL.setD (wipeD (DL.setD η (as x)) vs1) (as1 x y)) τ = some ((t1 x y).val, τ) ∧ ((t1 x y).val = true → te (DL.setD (wipeD (DL.setD η (as x)) vs1) (as1 x y)) τ = some (ec (q x y).val, τ)))) →
    compGo2 b tt f1 vs1 b1 tt1 te η (xs.map ea) τ = some (((xs.filter fun x => (t x).val).flatMap fun x => ((g x).val.filter fun y => (t1 x y).val).map fun y => (q x y).val).map ec, τ)
  | [], _ => rfl
  | x :: xs, h => by
    obtain ⟨h1, h2⟩ := h x List.mem_cons_self
    have ih := compGo2_ev (t := t) (g := g) (t1 := t1) (q := q) hb hb1 (xs := xs) fun y hy => h y (List.mem_cons_of_mem _ hy)
    simp only [List.map_cons, compGo2, hb, h1]
    cases hp : (t x).val with
    | false => simp only [List.filter_cons, hp, ih]; rfl
    | true =>
      obtain ⟨h3, h4⟩ := h2 hp
      have hc := compGo_ev (b := b1) (tt := tt1) (te := te) (as := as1 x) (ea := eb) (eb := ec) (η := wipeD (DL.setD η (as x)) vs1) (τ := τ) (t := t1 x) (q := q x) (hb1 x) (xs := (g x).val) h4
      simp only [h3, hc, ih, List.filter_cons, hp, if_true, List.flatMap_cons, List.map_append]
theorem EN_comp2 {f1 : M (List D)} {vs1 : List Nat} {b1 : Tgt} {tt1 : M Bool} {as1 : α → β → List (Nat × D)} {t : α → Tm Bool} {g : α → Tm (List β)} {t1 : α → β → Tm Bool} {q : α → β → Tm γ} (hi : EN fi ks ea ms)
    (hb : ∀ x, bindT b (ea x) = some (as x)) (ht : ∀ x, ET tt (DL.setD (wipeD ks vs) (as x)) (t x)) (h1 : ∀ x, EN f1 (DL.setD (wipeD ks vs) (as x)) eb (g x)) (hb1 : ∀ x y, bindT b1 (eb y) = some (as1 x y))
    (ht1 : ∀ x y, ET tt1 (DL.setD (wipeD (DL.setD (wipeD ks vs) (as x)) vs1) (as1 x y)) (t1 x y)) (he : ∀ x y, E te (DL.setD (wipeD (DL.setD (wipeD ks vs) (as x)) vs1) (as1 x y)) ec (q x y)) :
    EN (mComp2 fi vs b tt f1 vs1 b1 tt1 te) ks ec (.fmap2 ms t g t1 q) := .mk fun k η τ l => by
  refine (bindE (hi k.1 η τ l)).trans ?_
  have L := l.wipe vs
  have hc := compGo2_ev (ea := ea) (eb := eb) (ec := ec) (tt := tt) (te := te) (f1 := f1) (vs1 := vs1) (tt1 := tt1) (η := wipeD η vs) (τ := τ) (t := t) (g := g) (t1 := t1) (q := q) hb hb1 (xs := ms.val) fun x hx => ⟨ht x (k.2.1 x hx).1 _ τ (L.setD _), fun hp =>
    have k3 := (k.2.1 x hx).2 hp
    ⟨h1 x k3.1 _ τ (L.setD _), fun y hy => ⟨ht1 x y (k3.2 y hy).1 _ τ (((L.setD _).wipe vs1).setD _), fun hq => he x y ((k3.2 y hy).2 hq) _ τ (((L.setD _).wipe vs1).setD _)⟩⟩⟩
  refine (bindE (hc)).trans ?_
  refine (liftE (okLen_of (by rw [List.length_map]; exact k.2.2))).trans ?_
  rfl
end
/-! slices -/
theorem EO_none : EO mNoPart ks (.pure none) := .mk fun _ _ _ _ => rfl
theorem EO_some {m : Tm Int} (h : E f ks eI m) : EO (mPart f) ks (m.mp some) := .mk fun k η τ l => by
  refine (bindE (h k η τ l)).trans ?_
  rfl
def slc (xs : List α) (lo hi : Option Int) : List α := (xs.drop (HT.sIx xs.length 0 lo)).take (HT.sIx xs.length xs.length hi - HT.sIx xs.length 0 lo)
theorem slc_map {xs : List α} {lo hi : Option Int} {e : α → D} : cutD (xs.map e) lo hi = (slc xs lo hi).map e := by
  unfold cutD slc
  rw [List.length_map, List.map_take, List.map_drop]
def tSlc (xs : List α) (lo hi : Option Int) : Tm (List α) := .pure (slc xs lo hi)
section
variable {lo hi : M (Option Int)} {ml mh : Tm (Option Int)} {ms : Tm (List α)}
theorem sliceG {η : EnvD} {τ τ1 τ2 τ3 : Src} {d r : D} {i j : Option Int} (hf : f η τ = some (d, τ1)) (h1 : lo η τ1 = some (i, τ2)) (h2 : hi η τ2 = some (j, τ3)) (hc : dCut d i j = some r) : mSlice f lo hi η τ = some (r, τ3) :=
  (bindE hf).trans ((bindE h1).trans ((bindE h2).trans (liftE hc)))
theorem E_slcT (hf : E f ks (eT ea) ms) (hl : EO lo ks ml) (hh : EO hi ks mh) : E (mSlice f lo hi) ks (eT ea) (.o3 tSlc ms ml mh) := .mk fun k η τ l =>
  sliceG (hf k.1 η τ l) (hl k.2.1 η τ l) (hh k.2.2.1 η τ l) (by show some (PyData.tuple (cutD (ms.val.map ea) _ _)) = _; rw [slc_map]; rfl)
theorem E_slcL (hf : E f ks (eL ea) ms) (hl : EO lo ks ml) (hh : EO hi ks mh) : E (mSlice f lo hi) ks (eL ea) (.o3 tSlc ms ml mh) := .mk fun k η τ l =>
  sliceG (hf k.1 η τ l) (hl k.2.1 η τ l) (hh k.2.2.1 η τ l) (by show some (PyData.list (cutD (ms.val.map ea) _ _)) = _; rw [slc_map]; rfl)
theorem EN_slc (hf : E f ks (eL ea) ms) (hl : EO lo ks ml) (hh : EO hi ks mh) : EN (mSliceN f lo hi) ks ea (.o3 tSlc ms ml mh) := .mk fun k η τ l => by
  refine (bindE (hf k.1 η τ l)).trans ?_
  refine (bindE (hl k.2.1 η τ l)).trans ?_
  refine (bindE (hh k.2.2.1 η τ l)).trans ?_
  show some (cutD (ms.val.map ea) ml.val mh.val, τ) = _
  rw [slc_map]; rfl
theorem EN_rev (hf : E f ks (eL ea) ms) : EN (mRevN f) ks ea (ms.mp List.reverse) := .mk fun k η τ l => by
  refine (bindE (hf k η τ l)).trans ?_
  show some ((ms.val.map ea).reverse, τ) = _
  rw [← List.map_reverse]; rfl
/-- anything cut -/
def tCutD (d : D) (lo hi : Option Int) : Tm D := ⟨(isTup d || isLst d) = true, (dCut d lo hi).getD .none⟩
theorem E_slcD {md : Tm D} (hf : E f ks eD md) (hl : EO lo ks ml) (hh : EO hi ks mh) : E (mSlice f lo hi) ks eD (.o3 tCutD md ml mh) := .mk fun k η τ l =>
  sliceG (hf k.1 η τ l) (hl k.2.1 η τ l) (hh k.2.2.1 η τ l) (by
    have h := k.2.2.2
    show dCut md.val ml.val mh.val = some ((dCut md.val ml.val mh.val).getD .none)
    have h' : (isTup md.val || isLst md.val) = true := h
    cases hd : md.val <;> simp [hd, isTup, isLst] at h' <;> rfl)
end
/-! range, enumerate, zip -/
def rgI (lo hi : Int) : List Int := (List.range (hi - lo).toNat).map fun i => lo + (i : Nat)
def OkRg (lo hi : Int) : Prop := -(2 ^ 62) ≤ lo ∧ lo < 2 ^ 62 ∧ -(2 ^ 62) ≤ hi ∧ hi < 2 ^ 62 ∧ (hi - lo).toNat ≤ 2 ^ 24
def tRg (lo hi : Int) : Tm (List Int) := ⟨OkRg lo hi, rgI lo hi⟩
theorem rangeD_ok {lo hi : Int} (h : OkRg lo hi) : rangeD lo hi = some ((rgI lo hi).map eI) := by
  unfold OkRg at h
  unfold rangeD
  rw [if_pos h]
  unfold rgI
  rw [List.map_map]; rfl
theorem EN_rg1 {m : Tm Int} (h : E f ks eI m) : EN (mRange1 f) ks eI (.o1 (tRg 0) m) := .mk fun k η τ l => by
  refine (bindE (h k.1 η τ l)).trans ?_
  refine (liftE (rangeD_ok k.2)).trans ?_
  rfl
theorem EN_rg2 {m n : Tm Int} (h : E f ks eI m) (h2 : E g ks eI n) : EN (mRange2 f g) ks eI (.o2 tRg m n) := .mk fun k η τ l => by
  refine (bindE (h k.1 η τ l)).trans ?_
  refine (bindE (h2 k.2.1 η τ l)).trans ?_
  refine (liftE (rangeD_ok k.2.2)).trans ?_
  rfl
def rgDn (lo hi : Int) : List Int := (List.range (lo - hi).toNat).map fun i => lo - (i : Nat)
def OkRgDn (lo hi : Int) : Prop := -(2 ^ 62) ≤ lo ∧ lo < 2 ^ 62 ∧ -(2 ^ 62) ≤ hi ∧ hi < 2 ^ 62 ∧ (lo - hi).toNat ≤ 2 ^ 24
def tRgDn (lo hi c : Int) : Tm (List Int) := ⟨c = -1 ∧ OkRgDn lo hi, rgDn lo hi⟩
theorem EN_rg3 {m n c : Tm Int} (h : E f ks eI m) (h2 : E g ks eI n) (h3 : E u ks eI c) : EN (mRange3 f g u) ks eI (.o3 tRgDn m n c) := .mk fun k η τ l => by
  refine (bindE (h k.1 η τ l)).trans ?_
  refine (bindE (h2 k.2.1 η τ l)).trans ?_
  refine (bindE (h3 k.2.2.1 η τ l)).trans ?_
  have kk := k.2.2.2
  have e : downD m.val n.val c.val = some ((rgDn m.val n.val).map eI) := by
    unfold downD
    rw [if_pos ⟨kk.1, kk.2⟩]
    unfold rgDn
    rw [List.map_map]; rfl
  refine (liftE (e)).trans ?_
  rfl
theorem ER_1 {m : Tm Int} (h : E f ks eI m) : ER (mRg1 f) ks (m.mp fun n => ((0 : Int), n)) := .mk fun k η τ l => by
  refine (bindE (h k η τ l)).trans ?_
  rfl
theorem ER_2 {m n : Tm Int} (h : E f ks eI m) (h2 : E g ks eI n) : ER (mRg2 f g) ks (.o2 tPair m n) := .mk fun k η τ l => by
  refine (bindE (h k.1 η τ l)).trans ?_
  refine (bindE (h2 k.2.1 η τ l)).trans ?_
  rfl
def tRgP (p : Int × Int) : Tm (List Int) := tRg p.1 p.2
theorem E_tupRg {r : M (Int × Int)} {m : Tm (Int × Int)} (h : ER r ks m) : E (mTupRg r) ks (eT eI) (.o1 tRgP m) := .mk fun k η τ l =>
  (bindE (h k.1 η τ l)).trans (liftE (by rw [rangeD_ok k.2]; rfl))
theorem EN_lstRg {r : M (Int × Int)} {m : Tm (Int × Int)} (h : ER r ks m) : EN (mLstRg r) ks eI (.o1 tRgP m) := .mk fun k η τ l => by
  refine (bindE (h k.1 η τ l)).trans ?_
  refine (liftE (rangeD_ok k.2)).trans ?_
  rfl
def enuI : Nat → List α → List (Int × α)
  | _, [] => []
  | n, x :: xs => ((n : Int), x) :: enuI (n + 1) xs
theorem enumD_map (e : α → D) : ∀ (xs : List α) (n : Nat), enumD n (xs.map e) = (enuI n xs).map (e2 eI e)
  | [], _ => rfl
  | x :: xs, n => by simp only [List.map_cons, enumD, enuI, enumD_map e xs]; rfl
theorem EN_enum {s : List α → D} {ms : Tm (List α)} (hs : ∀ xs, seqOf (s xs) = some (xs.map ea)) (h : E f ks s ms) : EN (mEnum f) ks (e2 eI ea) (ms.mp (enuI 0)) := .mk fun k η τ l =>
  (bindE (h k η τ l)).trans (liftE (by rw [hs]; show some (enumD 0 (ms.val.map ea)) = _; rw [enumD_map]; rfl))
theorem EN_enumT {ms : Tm (List α)} (h : E f ks (eT ea) ms) : EN (mEnum f) ks (e2 eI ea) (ms.mp (enuI 0)) := EN_enum (fun _ => rfl) h
theorem EN_enumL {ms : Tm (List α)} (h : E f ks (eL ea) ms) : EN (mEnum f) ks (e2 eI ea) (ms.mp (enuI 0)) := EN_enum (fun _ => rfl) h
theorem zipD_map (e : α → D) (e' : β → D) : ∀ (xs : List α) (ys : List β), zipD (xs.map e) (ys.map e') = (xs.zip ys).map (e2 e e')
  | [], _ => rfl
  | _ :: _, [] => rfl
  | x :: xs, y :: ys => by simp only [List.map_cons, zipD, List.zip_cons_cons, zipD_map e e' xs ys]; rfl
def tZip (xs : List α) (ys : List β) : Tm (List (α × β)) := .pure (xs.zip ys)
theorem EN_zip {s : List α → D} {s' : List β → D} {ms : Tm (List α)} {ns : Tm (List β)} (hs : ∀ xs, seqOf (s xs) = some (xs.map ea)) (hs' : ∀ xs, seqOf (s' xs) = some (xs.map eb)) (h : E f ks s ms) (h2 : E g ks s' ns) : EN (mZip f g) ks (e2 ea eb) (.o2 tZip ms ns) := .mk fun k η τ l =>
  (bindE (h k.1 η τ l)).trans ((bindE (h2 k.2.1 η τ l)).trans (liftE (by rw [hs, hs']; show some (zipD (ms.val.map ea) (ns.val.map eb)) = _; rw [zipD_map]; rfl)))
end
theorem sqT {α : Type} {e : α → D} (xs : List α) : seqOf (eT e xs) = some (xs.map e) := rfl
theorem sqL {α : Type} {e : α → D} (xs : List α) : seqOf (eL e xs) = some (xs.map e) := rfl
end TL

/-! TLb: the operators' facts by types. -/
namespace TL
open PySem DL
section
variable {α β γ δ : Type} {e ea : α → D} {eb : β → D} {ec : γ → D}
/-! ### ints -/
def tAdd (a b : Int) : Tm Int := .pure (a + b)
def tSub (a b : Int) : Tm Int := .pure (a - b)
def tMul (a b : Int) : Tm Int := ⟨okMul a b = true, a * b⟩
def OkBy (b : Int) : Prop := 0 < b ∧ b.natAbs.log2 < 9000
def tDiv (a b : Int) : Tm Int := ⟨OkBy b, a / b⟩
def tMod (a b : Int) : Tm Int := ⟨0 < b, a % b⟩
def tNeg (a : Int) : Tm Int := .pure (-a)
def tPow (a b : Int) : Tm Int := ⟨okPow a b = true, a ^ b.toNat⟩
def tShl (a b : Int) : Tm Int := ⟨okPow a b = true, a * 2 ^ b.toNat⟩
def tLt (a b : Int) : Tm Bool := .pure (decide (a < b))
def tLe (a b : Int) : Tm Bool := .pure (decide (a ≤ b))
def tGt (a b : Int) : Tm Bool := .pure (decide (b < a))
def tGe (a b : Int) : Tm Bool := .pure (decide (b ≤ a))
theorem oAdd : O2 dAdd eI eI eI tAdd := fun _ _ _ => rfl
theorem oSub : O2 dSub eI eI eI tSub := fun _ _ _ => rfl
theorem oMul : O2 dMul eI eI eI tMul := fun _ _ h => dMul_ii _ _ h
theorem oDiv : O2 dFloor eI eI eI tDiv := fun a b h => by
  have h' : OkBy b := h
  show dI _ _ (.int a) (.int b) = some (.int (a / b))
  simp only [dI, h'.1, h'.2, decide_true, Bool.and_self, if_true]
theorem oMod : O2 dMod eI eI eI tMod := fun a b h => dMod_ii a b h
theorem oNeg : O1 dNeg eI eI tNeg := fun _ _ => rfl
theorem oPow : O2 dPow eI eI eI tPow := fun a b h => by
  have h' : okPow a b = true := h
  show dI _ _ (.int a) (.int b) = some (.int (a ^ b.toNat))
  simp only [dI, h', if_true]
theorem oShl : O2 dShl eI eI eI tShl := fun a b h => by
  have h' : okPow a b = true := h
  show dI _ _ (.int a) (.int b) = some (.int (a * 2 ^ b.toNat))
  simp only [dI, h', if_true]
theorem oLt : O2 dLt eI eI eB tLt := fun _ _ _ => rfl
theorem oLe : O2 dLe eI eI eB tLe := fun _ _ _ => rfl
theorem oGt : O2 dGt eI eI eB tGt := fun _ _ _ => rfl
theorem oGe : O2 dGe eI eI eB tGe := fun _ _ _ => rfl
def tAbs (a : Int) : Tm Int := .pure (absI a)
def tInt (a : Int) : Tm Int := .pure a
def tMin (a b : Int) : Tm Int := .pure (if b < a then b else a)
def tMax (a b : Int) : Tm Int := .pure (if b > a then b else a)
theorem oAbs : C1 dAbs eI eI tAbs := fun _ _ => rfl
theorem oInt : C1 dInt eI eI tInt := fun _ _ => rfl
theorem oMin : C2 dMin2 eI eI eI tMin := fun _ _ _ => rfl
theorem oMax : C2 dMax2 eI eI eI tMax := fun _ _ _ => rfl
/-! ### lists -/
def tCat (xs ys : List α) : Tm (List α) := ⟨xs.length + ys.length ≤ 2 ^ 24, xs ++ ys⟩
theorem oCatT : O2 dAdd (eT e) (eT e) (eT e) tCat := fun xs ys h => by
  have h' : xs.length + ys.length ≤ 2 ^ 24 := h
  show dAdd (.tuple (xs.map e)) (.tuple (ys.map e)) = some (.tuple ((xs ++ ys).map e))
  rw [dAdd_tup (by rw [List.length_map, List.length_map]; exact h'), List.map_append]
theorem oCatL : O2 dAdd (eL e) (eL e) (eL e) tCat := fun xs ys h => by
  have h' : xs.length + ys.length ≤ 2 ^ 24 := h
  show dAdd (.list (xs.map e)) (.list (ys.map e)) = some (.list ((xs ++ ys).map e))
  simp only [dAdd, dOr, dI, iOf, dCatL]
  rw [if_pos (by rw [line24, List.length_map, List.length_map]; exact h'), List.map_append]
def tCat21 (p : α × β) (c : γ) : Tm (α × β × γ) := .pure (p.1, p.2, c)
theorem oCat21 : O2 dAdd (e2 ea eb) (e1 ec) (e3 ea eb ec) tCat21 := fun p c _ => dAdd_tup (by simp)
def tRep (xs : List α) (k : Int) : Tm (List α) := ⟨okRep xs.length k = true, (List.replicate k.toNat xs).flatten⟩
theorem rep_map (xs : List α) (n : Nat) : (List.replicate n (xs.map e)).flatten = ((List.replicate n xs).flatten).map e := by
  induction n with
  | zero => rfl
  | succ n ih => simp only [List.replicate_succ, List.flatten_cons, ih, List.map_append]
theorem oRepT : O2 dMul (eT e) eI (eT e) tRep := fun xs k h => by
  have h' : okRep xs.length k = true := h
  show dMul (.tuple (xs.map e)) (.int k) = some (.tuple (((List.replicate k.toNat xs).flatten).map e))
  simp only [dMul, dOr, dI, iOf, dRepL, dRepT, List.length_map, h', if_true, rep_map]
theorem oRepL : O2 dMul (eL e) eI (eL e) tRep := fun xs k h => by
  have h' : okRep xs.length k = true := h
  show dMul (.list (xs.map e)) (.int k) = some (.list (((List.replicate k.toNat xs).flatten).map e))
  simp only [dMul, dOr, dI, iOf, dRepL, List.length_map, h', if_true, rep_map]
theorem EN_rep {f g : M D} {ks : EnvD} {m : Tm (List α)} {n : Tm Int} (hf : E f ks (eL e) m) (hg : E g ks eI n) : EN (mRepN f g) ks e (.o2 tRep m n) := .mk fun k η τ l => by
  have h' : okRep m.val.length n.val = true := k.2.2
  refine (bindE (hf k.1 η τ l)).trans ((bindE (liftE (r := m.val.map e) rfl)).trans ((bindE (hg k.2.1 η τ l)).trans (liftE ?_)))
  show (if okRep (m.val.map e).length n.val = true then some (List.replicate n.val.toNat (m.val.map e)).flatten else none) = _
  rw [List.length_map, if_pos h', rep_map]; rfl
theorem EN_cat {f g : M D} {ks : EnvD} {m n : Tm (List α)} (hf : E f ks (eL e) m) (hg : E g ks (eL e) n) : EN (mCatN f g) ks e (.o2 tCat m n) := .mk fun k η τ l => by
  have h' : m.val.length + n.val.length ≤ 2 ^ 24 := k.2.2
  refine (bindE (hf k.1 η τ l)).trans ((bindE (liftE (r := m.val.map e) rfl)).trans ((bindE (hg k.2.1 η τ l)).trans (liftE ?_)))
  show okLen (m.val.map e ++ n.val.map e) = _
  rw [← List.map_append, okLen_of (by rw [List.length_map, List.length_append]; exact h')]; rfl
def tLen (xs : List α) : Tm Int := .pure xs.length
theorem oLenT : C1 dLen (eT e) eI tLen := fun xs _ => by show dLen [.tuple (xs.map e)] = _; rw [dLen_tup, List.length_map]; rfl
theorem oLenL : C1 dLen (eL e) eI tLen := fun xs _ => by show dLen [.list (xs.map e)] = _; rw [dLen_lst, List.length_map]; rfl
def tLenD (d : D) : Tm Int := ⟨(seqOf d).isSome = true, (itemsD d).length⟩
theorem oLenD : C1 dLen eD eI tLenD := fun d h => by
  have h' : (seqOf d).isSome = true := h
  obtain ⟨ds, hd⟩ := Option.isSome_iff_exists.mp h'
  show (seqOf d).map (fun ds => PyData.int (ds.length : Nat)) = some (.int (((seqOf d).getD []).length : Nat))
  rw [hd]; rfl
def tTup (xs : List α) : Tm (List α) := .pure xs
theorem oTupL : C1 dTuple (eL e) (eT e) tTup := fun _ _ => rfl
theorem oTupT : C1 dTuple (eT e) (eT e) tTup := fun _ _ => rfl
def tSum (xs : List Int) : Tm Int := .pure xs.sum
theorem oSum : C1 dSum (eL eI) eI tSum := fun xs _ => by
  show dSum [.list (xs.map .int)] = _
  simp only [dSum, dInts, intsOf_map]; rfl
def tAny (xs : List Bool) : Tm Bool := .pure (xs.any fun b => b)
def tAll (xs : List Bool) : Tm Bool := .pure (xs.all fun b => b)
theorem oAny : C1 dAny (eL eB) eB tAny := fun xs _ => by
  show dAny [.list (xs.map .bool)] = _
  simp only [dAny, dBools, boolsOf_map]; rfl
theorem oAll : C1 dAll (eL eB) eB tAll := fun xs _ => by
  show dAll [.list (xs.map .bool)] = _
  simp only [dAll, dBools, boolsOf_map]; rfl
def tMaxL (xs : List Int) : Tm Int := ⟨xs ≠ [], (maxI xs).getD 0⟩
def tMinL (xs : List Int) : Tm Int := ⟨xs ≠ [], (minI xs).getD 0⟩
theorem oMaxL : C1 dMaxL (eL eI) eI tMaxL := fun xs h => by
  have h' : xs ≠ [] := h
  show dMaxL [.list (xs.map .int)] = some (.int ((maxI xs).getD 0))
  simp only [dMaxL, dInts, intsOf_map]
  cases xs with
  | nil => exact absurd rfl h'
  | cons x r => rfl
theorem oMinL : C1 dMinA (eL eI) eI tMinL := fun xs h => by
  have h' : xs ≠ [] := h
  show dMinA [.list (xs.map .int)] = some (.int ((minI xs).getD 0))
  cases xs with
  | nil => exact absurd rfl h'
  | cons x r =>
    have e : dMinL [.list ((x :: r).map PyData.int)] = some (.int ((minI (x :: r)).getD 0)) := by simp only [dMinL, dInts, intsOf_map]; rfl
    unfold dMinA dOrL
    rw [e]
/-- the least of any data, by the order -/
def tMinD (e : α → D) (h : D → α) (xs : List α) : Tm α := ⟨(dMinA [eL e xs]).isSome = true ∧ ∀ d, dMinA [eL e xs] = some d → e (h d) = d, h ((dMinA [eL e xs]).getD .none)⟩
theorem oMinD {h : D → α} : C1 dMinA (eL e) e (tMinD e h) := fun xs k => by
  have k' : (dMinA [eL e xs]).isSome = true ∧ ∀ d, dMinA [eL e xs] = some d → e (h d) = d := k
  obtain ⟨d, hd⟩ := Option.isSome_iff_exists.mp k'.1
  show _ = some (e (h ((dMinA [eL e xs]).getD .none)))
  rw [hd]
  show some d = some (e (h d))
  rw [k'.2 d hd]
/-! ### items -/
def ixD [Inhabited α] (xs : List α) (i : Int) : α := (L2.atI xs i).getD default
def OkIx (n : Nat) (i : Int) : Prop := -(n : Int) ≤ i ∧ i < n
def tIx [Inhabited α] (xs : List α) (i : Int) : Tm α := ⟨OkIx xs.length i, ixD xs i⟩
theorem atI_some {xs : List α} {i : Int} (h : OkIx xs.length i) : ∃ a, L2.atI xs i = some a := by
  unfold OkIx at h
  unfold L2.atI L2.ixN
  by_cases h0 : 0 ≤ i
  · rw [if_pos h0, if_pos (by omega)]
    have : i.toNat < xs.length := by omega
    exact ⟨_, List.getElem?_eq_getElem this⟩
  · rw [if_neg h0, if_pos (by omega)]
    have : (i + (xs.length : Int)).toNat < xs.length := by omega
    exact ⟨_, List.getElem?_eq_getElem this⟩
theorem atI_map (xs : List α) (i : Int) : L2.atI (xs.map e) i = (L2.atI xs i).map e := by
  unfold L2.atI
  rw [List.length_map]
  cases L2.ixN xs.length i with
  | none => rfl
  | some j => exact List.getElem?_map
theorem ix_ev [Inhabited α] {xs : List α} {i : Int} (h : OkIx xs.length i) : L2.atI (xs.map e) i = some (e (ixD xs i)) := by
  obtain ⟨a, ha⟩ := atI_some h
  rw [atI_map, ha]
  unfold ixD
  rw [ha]; rfl
theorem oIxT [Inhabited α] : O2 dIx (eT e) eI e tIx := fun xs i h => by
  show L2.atI (xs.map e) i = _
  exact ix_ev h
theorem oIxL [Inhabited α] : O2 dIx (eL e) eI e tIx := fun xs i h => by
  show L2.atI (xs.map e) i = _
  exact ix_ev h
def tIxD (d : D) (i : Int) : Tm D := ⟨(dIx d (.int i)).isSome = true, (dIx d (.int i)).getD .none⟩
theorem oIxD : O2 dIx eD eI eD tIxD := fun d i h => by
  have h' : (dIx d (.int i)).isSome = true := h
  obtain ⟨r, hr⟩ := Option.isSome_iff_exists.mp h'
  show dIx d (.int i) = some ((dIx d (.int i)).getD .none)
  rw [hr]; rfl
/-- any two data -/
def tD2 (o : D → D → Option D) (x y : D) : Tm D := ⟨(o x y).isSome = true, (o x y).getD .none⟩
theorem oD2 {o : D → D → Option D} : O2 o eD eD eD (tD2 o) := fun x y h => by
  have h' : (o x y).isSome = true := h
  obtain ⟨r, hr⟩ := Option.isSome_iff_exists.mp h'
  show o x y = some ((o x y).getD .none)
  rw [hr]; rfl
/-! ### equal or not -/
structure EqT [DecidableEq α] (k : Nat) (e : α → D) : Prop where
  lay : ∀ a, Lay k (e a)
  eq : ∀ a b, PyData.eqv (e a) (e b) = decide (a = b)
theorem EqT.int : EqT 0 eI := ⟨fun i => .int i, fun a b => by simp only [eI, PyData.eqv]; by_cases h : a = b <;> simp [h]⟩
theorem EqT.bool : EqT 0 eB := ⟨fun i => .bool i, fun a b => by cases a <;> cases b <;> simp [eB, PyData.eqv]⟩
theorem EqT.mono [DecidableEq α] {j k : Nat} (h : EqT j e) (hj : j ≤ k) : EqT k e := ⟨fun a => (h.lay a).mono hj, h.eq⟩
theorem eqvAll_map [DecidableEq α] (h : ∀ a b, PyData.eqv (e a) (e b) = decide (a = b)) : ∀ xs ys : List α, PyData.eqvAll (xs.map e) (ys.map e) = decide (xs = ys)
  | [], [] => by simp [PyData.eqvAll]
  | [], y :: ys => by simp [PyData.eqvAll]
  | x :: xs, [] => by simp [PyData.eqvAll]
  | x :: xs, y :: ys => by
    simp only [List.map_cons, PyData.eqvAll, h, eqvAll_map h xs ys]
    by_cases h1 : x = y <;> by_cases h2 : xs = ys <;> simp [h1, h2]
theorem EqT.tup [DecidableEq α] {k : Nat} (h : EqT k e) : EqT (k + 1) (eT e) := ⟨fun xs => .tup (Lay.map fun x _ => h.lay x), fun xs ys => by simp only [eT, PyData.eqv]; exact eqvAll_map h.eq xs ys⟩
theorem EqT.lst [DecidableEq α] {k : Nat} (h : EqT k e) : EqT (k + 1) (eL e) := ⟨fun xs => .lst (Lay.map fun x _ => h.lay x), fun xs ys => by simp only [eL, PyData.eqv]; exact eqvAll_map h.eq xs ys⟩
theorem EqT.one [DecidableEq α] {k : Nat} (h : EqT k e) : EqT (k + 1) (e1 e) := ⟨fun a => .tup fun d hd => by simp at hd; subst hd; exact h.lay a, fun a b => by simp [e1, PyData.eqv, PyData.eqvAll, h.eq]⟩
theorem EqT.two [DecidableEq α] [DecidableEq β] {k : Nat} (h : EqT k ea) (h' : EqT k eb) : EqT (k + 1) (e2 ea eb) := ⟨fun p => .tup fun d hd => by
    simp at hd
    rcases hd with rfl | rfl
    · exact h.lay _
    · exact h'.lay _, fun a b => by
    obtain ⟨a1, a2⟩ := a
    obtain ⟨b1, b2⟩ := b
    simp only [e2, PyData.eqv, PyData.eqvAll, h.eq, h'.eq, Prod.mk.injEq]
    by_cases q : a1 = b1 <;> by_cases r : a2 = b2 <;> simp [q, r]⟩
theorem EqT.three [DecidableEq α] [DecidableEq β] [DecidableEq γ] {k : Nat} (h : EqT k ea) (h' : EqT k eb) (h2 : EqT k ec) : EqT (k + 1) (e3 ea eb ec) := ⟨fun p => .tup fun d hd => by
    simp at hd
    rcases hd with rfl | rfl | rfl
    · exact h.lay _
    · exact h'.lay _
    · exact h2.lay _, fun a b => by
    obtain ⟨a1, a2, a3⟩ := a
    obtain ⟨b1, b2, b3⟩ := b
    simp only [e3, PyData.eqv, PyData.eqvAll, h.eq, h'.eq, h2.eq, Prod.mk.injEq]
    by_cases q : a1 = b1 <;> by_cases r : a2 = b2 <;> by_cases s : a3 = b3 <;> simp [q, r, s]⟩
def tEq [DecidableEq α] (a b : α) : Tm Bool := .pure (decide (a = b))
def tNe [DecidableEq α] (a b : α) : Tm Bool := .pure (!decide (a = b))
theorem dStrs_no {h : Str → Str → Bool} {x y : D} (hx : ∀ s, x ≠ .str s) : dStrs h x y = none := by
  cases x <;> first | rfl | exact absurd rfl (hx _)
theorem EqT.dEqA [DecidableEq α] {k : Nat} (h : EqT k e) (hk : k ≤ 64) (a b : α) : DL.dEqA (e a) (e b) = some (.bool (decide (a = b))) := by
  have h1 : dEq (e a) (e b) = some (.bool (decide (a = b))) := by
    unfold dEq okEq
    rw [(h.lay a).shaped hk, (h.lay b).shaped hk, h.eq]; rfl
  have h2 : dStrs (fun a b => decide (a = b)) (e a) (e b) = none ∨ dStrs (fun a b => decide (a = b)) (e a) (e b) = some (.bool (decide (a = b))) := by
    have hq := h.eq a b
    revert hq
    cases e a <;> cases e b <;> simp only [dStrs, PyData.eqv, reduceCtorEq, false_or, true_or, implies_true]
    rename_i x y
    intro hq
    have hb : (x == y) = decide (x = y) := by by_cases q : x = y <;> simp [q]
    rw [← hq, hb]
  unfold DL.dEqA dOr
  rcases h2 with h2 | h2 <;> rw [h2]
  exact h1
theorem EqT.dNeA [DecidableEq α] {k : Nat} (h : EqT k e) (hk : k ≤ 64) (a b : α) : DL.dNeA (e a) (e b) = some (.bool (!decide (a = b))) := by
  have h1 : dNe (e a) (e b) = some (.bool (!decide (a = b))) := by
    unfold dNe okEq
    rw [(h.lay a).shaped hk, (h.lay b).shaped hk, h.eq]; rfl
  have h2 : dStrs (fun a b => !decide (a = b)) (e a) (e b) = none ∨ dStrs (fun a b => !decide (a = b)) (e a) (e b) = some (.bool (!decide (a = b))) := by
    have hq := h.eq a b
    revert hq
    cases e a <;> cases e b <;> simp only [dStrs, PyData.eqv, reduceCtorEq, false_or, true_or, implies_true]
    rename_i x y
    intro hq
    have hb : (x == y) = decide (x = y) := by by_cases q : x = y <;> simp [q]
    rw [← hq, hb]
  unfold DL.dNeA dOr
  rcases h2 with h2 | h2 <;> rw [h2]
  exact h1
theorem oEq [DecidableEq α] {k : Nat} (h : EqT k e) (hk : k ≤ 64 := by decide) : O2 dEqA e e eB tEq := fun a b _ => h.dEqA hk a b
theorem oNe [DecidableEq α] {k : Nat} (h : EqT k e) (hk : k ≤ 64 := by decide) : O2 dNeA e e eB tNe := fun a b _ => h.dNeA hk a b
theorem oEqS : O2 dEqA eS eS eB tEq := fun a b _ => rfl
theorem oNeS : O2 dNeA eS eS eB tNe := fun a b _ => rfl
/-- of anything with anything -/
def tEqD (x y : D) : Tm Bool := ⟨(dEqA x y).isSome = true, blD ((dEqA x y).getD .none)⟩
def tNeD (x y : D) : Tm Bool := ⟨(dNeA x y).isSome = true, blD ((dNeA x y).getD .none)⟩
theorem oEqD : O2 dEqA eD eD eB tEqD := fun x y h => by
  have h' : (dEqA x y).isSome = true := h
  obtain ⟨r, hr⟩ := Option.isSome_iff_exists.mp h'
  have hb : ∃ b, r = .bool b := by
    unfold dEqA dOr at hr
    split at hr
    · rename_i q hq; cases hr; obtain ⟨_, _, _, _, rfl⟩ := dStrs_some hq; exact ⟨_, rfl⟩
    · unfold dEq at hr; split at hr
      · cases hr; exact ⟨_, rfl⟩
      · cases hr
  obtain ⟨b, rfl⟩ := hb
  show dEqA x y = some (.bool (blD ((dEqA x y).getD .none)))
  rw [hr]; rfl
theorem oNeD : O2 dNeA eD eD eB tNeD := fun x y h => by
  have h' : (dNeA x y).isSome = true := h
  obtain ⟨r, hr⟩ := Option.isSome_iff_exists.mp h'
  have hb : ∃ b, r = .bool b := by
    unfold dNeA dOr at hr
    split at hr
    · rename_i q hq; cases hr; obtain ⟨_, _, _, _, rfl⟩ := dStrs_some hq; exact ⟨_, rfl⟩
    · unfold dNe at hr; split at hr
      · cases hr; exact ⟨_, rfl⟩
      · cases hr
  obtain ⟨b, rfl⟩ := hb
  show dNeA x y = some (.bool (blD ((dNeA x y).getD .none)))
  rw [hr]; rfl
/-! in -/
def tIn [DecidableEq α] (a : α) (xs : List α) : Tm Bool := .pure (decide (a ∈ xs))
def tNin [DecidableEq α] (a : α) (xs : List α) : Tm Bool := .pure (!decide (a ∈ xs))
theorem any_map [DecidableEq α] {k : Nat} (h : EqT k e) (a : α) : ∀ xs : List α, (xs.map e).any (fun z => PyData.eqv z (e a)) = decide (a ∈ xs)
  | [] => by simp
  | x :: xs => by
    simp only [List.map_cons, List.any_cons, any_map h a xs, h.eq]
    by_cases q : x = a
    · simp [q]
    · simp [q, Ne.symm q]
theorem in_ev [DecidableEq α] {k : Nat} (h : EqT k e) (hk : k + 1 ≤ 64) {s : List α → D} (hs : ∀ xs, seqOf (s xs) = some (xs.map e)) (hl : ∀ xs, Lay (k + 1) (s xs)) (a : α) (xs : List α) : dIn (e a) (s xs) = some (.bool (decide (a ∈ xs))) := by
  unfold dIn okEq
  rw [hs, (h.lay a).shaped (by omega), (hl xs).shaped hk]
  simp only [Bool.and_self, if_true, any_map h]
theorem nin_ev [DecidableEq α] {k : Nat} (h : EqT k e) (hk : k + 1 ≤ 64) {s : List α → D} (hs : ∀ xs, seqOf (s xs) = some (xs.map e)) (hl : ∀ xs, Lay (k + 1) (s xs)) (a : α) (xs : List α) : dNotIn (e a) (s xs) = some (.bool (!decide (a ∈ xs))) := by
  unfold dNotIn okEq
  rw [hs, (h.lay a).shaped (by omega), (hl xs).shaped hk]
  simp only [Bool.and_self, if_true, any_map h]
theorem oInT [DecidableEq α] {k : Nat} (h : EqT k e) (hk : k + 1 ≤ 64 := by decide) : O2 dIn e (eT e) eB tIn := fun a xs _ => in_ev h hk (fun _ => rfl) (fun xs => h.tup.lay xs) a xs
theorem oInL [DecidableEq α] {k : Nat} (h : EqT k e) (hk : k + 1 ≤ 64 := by decide) : O2 dIn e (eL e) eB tIn := fun a xs _ => in_ev h hk (fun _ => rfl) (fun xs => h.lst.lay xs) a xs
theorem oNinT [DecidableEq α] {k : Nat} (h : EqT k e) (hk : k + 1 ≤ 64 := by decide) : O2 dNotIn e (eT e) eB tNin := fun a xs _ => nin_ev h hk (fun _ => rfl) (fun xs => h.tup.lay xs) a xs
theorem oNinL [DecidableEq α] {k : Nat} (h : EqT k e) (hk : k + 1 ≤ 64 := by decide) : O2 dNotIn e (eL e) eB tNin := fun a xs _ => nin_ev h hk (fun _ => rfl) (fun xs => h.lst.lay xs) a xs
def tB2 (o : D → D → Option D) (x y : D) : Tm Bool := ⟨∃ b, o x y = some (.bool b), blD ((o x y).getD .none)⟩
theorem oB2 {o : D → D → Option D} : O2 o eD eD eB (tB2 o) := fun x y h => by
  have h' : ∃ b, o x y = some (.bool b) := h
  obtain ⟨b, hb⟩ := h'
  show o x y = some (.bool (blD ((o x y).getD .none)))
  rw [hb]; rfl
/-! is -/
def NonN (e : α → D) : Prop := ∀ a, isN (e a) = false
def tIsN (a : Option α) (_ : Unit) : Tm Bool := .pure a.isNone
def tNotN (a : Option α) (_ : Unit) : Tm Bool := .pure a.isSome
theorem oIsN (h : NonN e) : O2 dIsA (eO e) eU eB tIsN := fun a _ _ => by
  cases a with
  | none => rfl
  | some a =>
    have h' : isN (e a) = false := h a
    show dOr dIsN _ (e a) .none = some (.bool false)
    have h2 : dIsN (e a) .none = some (.bool false) := by
      unfold dIsN
      rw [h']; rfl
    unfold dOr
    rw [h2]
theorem oNotN (h : NonN e) : O2 dNotA (eO e) eU eB tNotN := fun a _ _ => by
  cases a with
  | none => rfl
  | some a =>
    have h' : isN (e a) = false := h a
    show dOr dNotN _ (e a) .none = some (.bool true)
    have h2 : dNotN (e a) .none = some (.bool true) := by
      unfold dNotN
      rw [h']; rfl
    unfold dOr
    rw [h2]
def tIsND (a : D) (_ : Unit) : Tm Bool := .pure (isN a)
def tNotND (a : D) (_ : Unit) : Tm Bool := .pure (!isN a)
theorem oIsND : O2 dIsA eD eU eB tIsND := fun a _ _ => rfl
theorem oNotND : O2 dNotA eD eU eB tNotND := fun a _ _ => rfl
theorem oIsB : O2 dIsA eB eB eB (fun a b => .pure (a == b)) := fun a b _ => rfl
theorem oNotB : O2 dNotA eB eB eB (fun a b => .pure (!(a == b))) := fun a b _ => rfl
theorem NonN.int : NonN eI := fun _ => rfl
theorem NonN.tup : NonN (eT e) := fun _ => rfl
theorem NonN.lst : NonN (eL e) := fun _ => rfl
theorem NonN.one : NonN (e1 e) := fun _ => rfl
theorem NonN.two : NonN (e2 ea eb) := fun _ => rfl
theorem NonN.three : NonN (e3 ea eb ec) := fun _ => rfl
/-- decoders -/
def dcL (h : D → α) (d : D) : List α := (itemsD d).map h
def dc1 (h : D → α) (d : D) : α := h ((itemsD d).getD 0 .none)
def dc2 (h : D → α) (h' : D → β) (d : D) : α × β := (h ((itemsD d).getD 0 .none), h' ((itemsD d).getD 1 .none))
def dc3 (h : D → α) (h' : D → β) (h2 : D → γ) (d : D) : α × β × γ := (h ((itemsD d).getD 0 .none), h' ((itemsD d).getD 1 .none), h2 ((itemsD d).getD 2 .none))
/-! of tuples -/
theorem orL_of {o o' : List D → Option D} {ds : List D} {d : D} (h : o ds = some d) : dOrL o o' ds = some d := by unfold dOrL; rw [h]
theorem orR_of {o o' : List D → Option D} {ds : List D} {d : D} (h : o ds = none) (h' : o' ds = some d) : dOrL o o' ds = some d := by unfold dOrL; rw [h]; exact h'
theorem oSumA : C1 dSumA (eL eI) eI tSum := fun xs k => orL_of (oSum xs k)
theorem oSumT : C1 dSumA (eT eI) eI tSum := fun xs _ => orR_of rfl (by
  show dSumT [.tuple (xs.map .int)] = _
  simp only [dSumT, dIntsT, intsOf_map]; rfl)
theorem oMaxLA : C1 dMaxA (eL eI) eI tMaxL := fun xs k => orL_of (oMaxL xs k)
theorem oMaxT : C1 dMaxA (eT eI) eI tMaxL := fun xs h => orR_of rfl (by
  have h' : xs ≠ [] := h
  show dMaxT [.tuple (xs.map .int)] = some (.int ((maxI xs).getD 0))
  simp only [dMaxT, dIntsT, intsOf_map]
  cases xs with
  | nil => exact absurd rfl h'
  | cons x r => rfl)
theorem oMinLA : C1 dMinB (eL eI) eI tMinL := fun xs k => orL_of (oMinL xs k)
theorem oMinT : C1 dMinB (eT eI) eI tMinL := fun xs h => orR_of rfl (by
  have h' : xs ≠ [] := h
  show dMinT [.tuple (xs.map .int)] = some (.int ((minI xs).getD 0))
  simp only [dMinT, dIntsT, intsOf_map]
  cases xs with
  | nil => exact absurd rfl h'
  | cons x r => rfl)
theorem oMinDA {h : D → α} : C1 dMinB (eL e) e (tMinD e h) := fun xs k => orL_of (oMinD xs k)
theorem oIntA : C1 dIntA eI eI tInt := fun _ _ => rfl
def tIntB (b : Bool) : Tm Int := .pure (if b = true then 1 else 0)
theorem oIntB : C1 dIntA eB eI tIntB := fun b _ => rfl
/-! isinstance, repr, sorted -/
def tIsT (T : String) (d : D) : Tm Bool := .pure (isTy T (tyOf d))
theorem oIsT {T : String} : O1 (dIsT T) eD eB (tIsT T) := fun _ _ => rfl
def tRepr (e : α → D) (a : α) : Tm Str := ⟨okRepr (e a) = true, (e a).shown⟩
theorem oRepr : C1 dRepr e eS (tRepr e) := fun a h => by
  have h' : okRepr (e a) = true := h
  show (if okRepr (e a) = true then some (.str (e a).shown) else none : Option D) = _
  rw [if_pos h']; rfl
def tSort (xs : List Int) : Tm (List Int) := ⟨xs.length ≤ 2 ^ 24, xs.mergeSort leI⟩
theorem EN_sort {f : M D} {ks : EnvD} {m : Tm (List Int)} (hf : E f ks (eL eI) m) : EN (mSort f) ks eI (.o1 tSort m) := .mk fun k η τ l =>
  (bindE (hf k.1 η τ l)).trans (liftE (dSortI_ints k.2))
end
end TL

/-! TLc: statements of defs without a source, by types. -/
namespace TL
open PySem DL

/-! ### what is known of the slots -/
inductive Kn where
  | any
  | is (s : Sl)
inductive Fits : List Kn → EnvS → Prop
  | nil : Fits [] []
  | any {s : Sl} {κ : List Kn} {ρ : EnvS} : okY s = true → Fits κ ρ → Fits (.any :: κ) (s :: ρ)
  | is {s : Sl} {κ : List Kn} {ρ : EnvS} : Fits κ ρ → Fits (.is s :: κ) (s :: ρ)
def Kn.sees (b : Bool) : Kn → Option D
  | .any => none
  | .is s => see b s
def vw (b : Bool) (κ : List Kn) : EnvD := κ.map (Kn.sees b)
def Kn.okk : Kn → Bool
  | .any => true
  | .is s => okY s
def kSet (κ : List Kn) (i : Nat) : Bool := match κ[i]? with
  | some k => k.okk
  | none => false
def kSets (κ : List Kn) (as : List (Nat × D)) : List Kn := as.foldl (fun κ w => κ.set w.1 (.is (.dat w.2))) κ
inductive KLe : List Kn → List Kn → Prop
  | nil : KLe [] []
  | eq {k : Kn} {κ κ' : List Kn} : KLe κ κ' → KLe (k :: κ) (k :: κ')
  | an {k : Kn} {κ κ' : List Kn} : k.okk = true → KLe κ κ' → KLe (k :: κ) (.any :: κ')
theorem KLe.refl : ∀ κ : List Kn, KLe κ κ
  | [] => .nil
  | _ :: κ => .eq (KLe.refl κ)
section
variable {κ κ' : List Kn} {ρ : EnvS} {i : Nat} {s : Sl} {d : D} {b : Bool}
theorem Fits.length (h : Fits κ ρ) : κ.length = ρ.length := by
  induction h with
  | nil => rfl
  | any _ _ ih => simp [ih]
  | is _ ih => simp [ih]
theorem Fits.get (h : Fits κ ρ) : κ[i]? = some (.is s) → ρ[i]? = some s := by
  induction h generalizing i with
  | nil => intro e; cases e
  | any _ _ ih =>
    cases i with
    | zero => intro e; cases e
    | succ i => intro e; exact ih e
  | is _ ih =>
    cases i with
    | zero => intro e; cases e; rfl
    | succ i => intro e; exact ih e
theorem Fits.okSet (h : Fits κ ρ) : kSet κ i = true → okSet ρ i = true := by
  rw [okSet_ev]
  unfold kSet
  induction h generalizing i with
  | nil => intro e; cases e
  | any hs _ ih =>
    cases i with
    | zero => intro _; exact hs
    | succ i => exact ih
  | is _ ih =>
    cases i with
    | zero => intro e; exact e
    | succ i => exact ih
theorem Fits.set (h : Fits κ ρ) (i : Nat) (s : Sl) : Fits (κ.set i (.is s)) (ρ.set i s) := by
  induction h generalizing i with
  | nil => exact .nil
  | any hs h ih =>
    cases i with
    | zero => exact .is h
    | succ i => exact .any hs (ih i)
  | is h ih =>
    cases i with
    | zero => exact .is h
    | succ i => exact .is (ih i)
theorem Fits.sets (h : Fits κ ρ) : ∀ as : List (Nat × D), Fits (kSets κ as) (setSl ρ as) := fun as => by
  unfold kSets setSl
  induction as generalizing κ ρ with
  | nil => exact h
  | cons a as ih => exact ih (h.set a.1 _)
theorem Fits.okSets (h : Fits κ ρ) {as : List (Nat × D)} (ha : (as.all fun w => kSet κ w.1) = true) : okSets ρ as = true := by
  unfold DL.okSets
  rw [List.all_eq_true] at ha ⊢
  exact fun w hw => h.okSet (ha w hw)
theorem Fits.le (h : Fits κ ρ) (l : KLe κ κ') : Fits κ' ρ := by
  induction l generalizing ρ with
  | nil => exact h
  | eq _ ih => cases h with
    | any a b => exact .any a (ih b)
    | is b => exact .is (ih b)
  | an k _ ih => cases h with
    | any a b => exact .any a (ih b)
    | is b => exact .any k (ih b)
theorem Fits.view (h : Fits κ ρ) (b : Bool) : LeD (vw b κ) (view b ρ) := by
  refine ⟨by unfold vw DL.view; rw [List.length_map, List.length_map, h.length], fun i d e => ?_⟩
  unfold vw at e
  unfold DL.view
  rw [List.getElem?_map] at e ⊢
  cases hk : κ[i]? with
  | none => rw [hk] at e; cases e
  | some k =>
    rw [hk] at e
    cases k with
    | any => cases e
    | is s => rw [h.get hk]; exact e
theorem Fits.frz (h : Fits κ ρ) (e : κ[i]? = some (.is (.own d))) : Fits (κ.set i (.is (.dat d))) (frz ρ i) := by
  unfold DL.frz
  rw [h.get e]
  exact h.set i _
theorem Fits.frz' (h : Fits κ ρ) (e : κ[i]? = some (.is (.dat d))) : Fits κ (DL.frz ρ i) := by
  unfold DL.frz
  rw [h.get e]
  exact h
end

/-! ### values without lists -/
section
variable {α β γ δ : Type} {e ea : α → D} {eb : β → D} {ec : γ → D} {ed : δ → D}
def PuE (e : α → D) : Prop := ∀ a, pureD (e a) = true
theorem PuE.all (h : PuE e) : ∀ xs : List α, pureA (xs.map e) = true
  | [] => by simp [pureA]
  | x :: xs => by simp [pureA, h x, PuE.all h xs]
theorem PuE.int : PuE eI := fun _ => by simp [eI, pureD]
theorem PuE.bool : PuE eB := fun _ => by simp [eB, pureD]
theorem PuE.str : PuE eS := fun _ => by simp [eS, pureD]
theorem PuE.unit : PuE eU := fun _ => by simp [eU, pureD]
theorem PuE.tup (h : PuE e) : PuE (eT e) := fun xs => by simp [eT, pureD, h.all xs]
theorem PuE.one (h : PuE e) : PuE (e1 e) := fun a => by simp [e1, pureD, pureA, h a]
theorem PuE.two (h : PuE ea) (h2 : PuE eb) : PuE (e2 ea eb) := fun p => by simp [e2, pureD, pureA, h p.1, h2 p.2]
theorem PuE.three (h : PuE ea) (h2 : PuE eb) (h3 : PuE ec) : PuE (e3 ea eb ec) := fun p => by simp [e3, pureD, pureA, h p.1, h2 p.2.1, h3 p.2.2]
theorem PuE.four (h : PuE ea) (h2 : PuE eb) (h3 : PuE ec) (h4 : PuE ed) : PuE (e4 ea eb ec ed) := fun p => by simp [e4, pureD, pureA, h p.1, h2 p.2.1, h3 p.2.2.1, h4 p.2.2.2]
theorem PuE.opt (h : PuE e) : PuE (eO e) := fun a => by
  cases a with
  | none => simp [eO, pureD]
  | some a => exact h a
theorem PuE.ok (h : PuE e) (a : α) : okD true (e a) = true := by unfold okD; rw [h a]; rfl
theorem PuE.okA (h : PuE e) (xs : List α) : okA true (xs.map e) = true := by unfold DL.okA; rw [h.all xs]; rfl

/-! ### the readings -/
variable {σ σ1 σ2 : Type}
structure DN (g : Stm) (κ : List Kn) (K : σ → List Kn) (m : Tm σ) : Prop where
  run : m.ok → ∀ (ρ : EnvS) (τ : Src), Fits κ ρ → ∃ ρ', Fits (K m.val) ρ' ∧ g ρ τ = some (.nx, ρ', τ)
instance {g : Stm} {κ : List Kn} {K : σ → List Kn} {m : Tm σ} : CoeFun (DN g κ K m) (fun _ => m.ok → ∀ (ρ : EnvS) (τ : Src), Fits κ ρ → ∃ ρ', Fits (K m.val) ρ' ∧ g ρ τ = some (.nx, ρ', τ)) := ⟨DN.run⟩
structure DR (g : Stm) (κ : List Kn) (e : δ → D) (m : Tm δ) : Prop where
  run : m.ok → ∀ (ρ : EnvS) (τ : Src), Fits κ ρ → ∃ ρ', g ρ τ = some (.rt (e m.val), ρ', τ)
instance {g : Stm} {κ : List Kn} {e : δ → D} {m : Tm δ} : CoeFun (DR g κ e m) (fun _ => m.ok → ∀ (ρ : EnvS) (τ : Src), Fits κ ρ → ∃ ρ', g ρ τ = some (.rt (e m.val), ρ', τ)) := ⟨DR.run⟩
def Ends (g : Stm) (ρ : EnvS) (τ : Src) (K : σ → List Kn) (e : δ → D) : Rs σ δ → Prop
  | .nx s => ∃ ρ', Fits (K s) ρ' ∧ g ρ τ = some (.nx, ρ', τ)
  | .ct s => ∃ ρ', Fits (K s) ρ' ∧ g ρ τ = some (.ct, ρ', τ)
  | .bk s => ∃ ρ', Fits (K s) ρ' ∧ g ρ τ = some (.bk, ρ', τ)
  | .rt d => ∃ ρ', g ρ τ = some (.rt (e d), ρ', τ)
structure DB (g : Stm) (κ : List Kn) (K : σ → List Kn) (e : δ → D) (m : Tm (Rs σ δ)) : Prop where
  run : m.ok → ∀ (ρ : EnvS) (τ : Src), Fits κ ρ → Ends g ρ τ K e m.val
instance {g : Stm} {κ : List Kn} {K : σ → List Kn} {e : δ → D} {m : Tm (Rs σ δ)} : CoeFun (DB g κ K e m) (fun _ => m.ok → ∀ (ρ : EnvS) (τ : Src), Fits κ ρ → Ends g ρ τ K e m.val) := ⟨DB.run⟩
end

/-! ### single statements -/
section
variable {α β γ δ ε σ : Type} {e ea : α → D} {eb : β → D} {ec : γ → D} {ed : δ → D} {κ : List Kn} {i j l n : Nat} {f g : M D} {G : M (List D)} {m : Tm α} {ms : Tm (List α)}
theorem DN_set0 (h : E f (vw false κ) e m) (hs : kSet κ i = true) : DN (mSet false i f) κ (fun x => κ.set i (.is (.dat (e x)))) m := .mk fun k ρ τ F => by
  refine ⟨ρ.set i (.dat (e m.val)), F.set i _, ?_⟩
  unfold mSet
  rw [h k _ τ (F.view false)]
  show (if okSet ρ i && true then _ else _) = _
  rw [F.okSet hs]; rfl
theorem DN_set1 (h : E f (vw true κ) e m) (hp : PuE e) (hs : kSet κ i = true) : DN (mSet true i f) κ (fun x => κ.set i (.is (.dat (e x)))) m := .mk fun k ρ τ F => by
  refine ⟨ρ.set i (.dat (e m.val)), F.set i _, ?_⟩
  unfold mSet
  rw [h k _ τ (F.view true)]
  show (if okSet ρ i && okD true (e m.val) then _ else _) = _
  rw [F.okSet hs, hp.ok]; rfl
/-- anything, when it has no lists in it -/
theorem DN_set1D {md : Tm D} (h : E f (vw true κ) eD md) (hs : kSet κ i = true) : DN (mSet true i f) κ (fun x => κ.set i (.is (.dat (eD x)))) ⟨md.ok ∧ pureD md.val = true, md.val⟩ := .mk fun k ρ τ F => by
  refine ⟨ρ.set i (.dat (eD md.val)), F.set i _, ?_⟩
  unfold mSet
  rw [h k.1 _ τ (F.view true)]
  have hp : okD true (eD md.val) = true := by unfold okD; rw [show pureD (eD md.val) = true from k.2]; rfl
  show (if okSet ρ i && okD true (eD md.val) then _ else _) = _
  rw [F.okSet hs, hp]; rfl
theorem DN_setN0 (h : EN G (vw false κ) e ms) (hs : kSet κ i = true) : DN (mSetN false i G) κ (fun x => κ.set i (.is (.own (eL e x)))) ms := .mk fun k ρ τ F => by
  refine ⟨ρ.set i (.own (eL e ms.val)), F.set i _, ?_⟩
  unfold mSetN
  rw [h k _ τ (F.view false)]
  show (if okSet ρ i && true then _ else _) = _
  rw [F.okSet hs]; rfl
theorem DN_setN1 (h : EN G (vw true κ) e ms) (hp : PuE e) (hs : kSet κ i = true) : DN (mSetN true i G) κ (fun x => κ.set i (.is (.own (eL e x)))) ms := .mk fun k ρ τ F => by
  refine ⟨ρ.set i (.own (eL e ms.val)), F.set i _, ?_⟩
  unfold mSetN
  rw [h k _ τ (F.view true)]
  show (if okSet ρ i && okA true (ms.val.map e) then _ else _) = _
  rw [F.okSet hs, hp.okA]; rfl
def tApp (xs : List α) (x : α) : Tm (List α) := ⟨xs.length < 2 ^ 24, xs ++ [x]⟩
theorem appG {b : Bool} {ρ : EnvS} {τ τ1 : Src} {ds : List D} {d : D} (h : f (view b ρ) τ = some (d, τ1)) (hr : ρ[i]? = some (.own (.list ds))) (hp : okD b d = true) (hl : ds.length < 2 ^ 24) : mApp b i f ρ τ = some (.nx, ρ.set i (.own (.list (ds ++ [d]))), τ1) := by
  rw [mApp_ev, h]
  simp only [hr, hp, Bool.true_and]
  rw [if_pos (decide_eq_true (by rw [line24]; exact hl))]
theorem DN_app0 {xs : List α} (h : E f (vw false κ) e m) (hx : κ[i]? = some (.is (.own (eL e xs)))) : DN (mApp false i f) κ (fun x => κ.set i (.is (.own (eL e x)))) (.o1 (tApp xs) m) := .mk fun k ρ τ F =>
  ⟨_, F.set i _, by rw [appG (h k.1 _ τ (F.view false)) (F.get hx) rfl (by rw [List.length_map]; exact k.2)]; show _ = some (Out.nx, ρ.set i (.own (.list ((xs ++ [m.val]).map e))), τ); rw [List.map_append]; rfl⟩
theorem DN_app1 {xs : List α} (h : E f (vw true κ) e m) (hp : PuE e) (hx : κ[i]? = some (.is (.own (eL e xs)))) : DN (mApp true i f) κ (fun x => κ.set i (.is (.own (eL e x)))) (.o1 (tApp xs) m) := .mk fun k ρ τ F =>
  ⟨_, F.set i _, by rw [appG (h k.1 _ τ (F.view true)) (F.get hx) (hp.ok _) (by rw [List.length_map]; exact k.2)]; show _ = some (Out.nx, ρ.set i (.own (.list ((xs ++ [m.val]).map e))), τ); rw [List.map_append]; rfl⟩
theorem extG {b : Bool} {ρ : EnvS} {τ τ1 : Src} {ds es : List D} (h : f (view b ρ) τ = some (.list es, τ1)) (hr : ρ[i]? = some (.own (.list ds))) (hp : okA b es = true) (hl : ds.length + es.length ≤ 2 ^ 24) : mExt b i f ρ τ = some (.nx, ρ.set i (.own (.list (ds ++ es))), τ1) := by
  rw [mExt_ev, h]
  simp only [hr, hp, Bool.true_and]
  rw [if_pos (decide_eq_true (by rw [line24]; exact hl))]
theorem DN_ext0 {xs : List α} (h : E f (vw false κ) (eL e) ms) (hx : κ[i]? = some (.is (.own (eL e xs)))) : DN (mExt false i f) κ (fun x => κ.set i (.is (.own (eL e x)))) (.o1 (tCat xs) ms) := .mk fun k ρ τ F =>
  ⟨_, F.set i _, by rw [extG (h k.1 _ τ (F.view false)) (F.get hx) rfl (by rw [List.length_map, List.length_map]; exact k.2)]; show _ = some (Out.nx, ρ.set i (.own (.list ((xs ++ ms.val).map e))), τ); rw [List.map_append]⟩
theorem DN_ext1 {xs : List α} (h : E f (vw true κ) (eL e) ms) (hp : PuE e) (hx : κ[i]? = some (.is (.own (eL e xs)))) : DN (mExt true i f) κ (fun x => κ.set i (.is (.own (eL e x)))) (.o1 (tCat xs) ms) := .mk fun k ρ τ F =>
  ⟨_, F.set i _, by rw [extG (h k.1 _ τ (F.view true)) (F.get hx) (hp.okA _) (by rw [List.length_map, List.length_map]; exact k.2)]; show _ = some (Out.nx, ρ.set i (.own (.list ((xs ++ ms.val).map e))), τ); rw [List.map_append]⟩
def putIx (xs : List α) (i : Int) (v : α) : List α := match L2.ixN xs.length i with
  | some j => xs.set j v
  | none => xs
def tPut (xs : List α) (v : α) (i : Int) : Tm (List α) := ⟨OkIx xs.length i, putIx xs i v⟩
theorem ixN_some {n : Nat} {i : Int} (h : OkIx n i) : ∃ j, L2.ixN n i = some j := by
  unfold OkIx at h
  unfold L2.ixN
  by_cases h0 : 0 ≤ i
  · rw [if_pos h0, if_pos (by omega)]; exact ⟨_, rfl⟩
  · rw [if_neg h0, if_pos (by omega)]; exact ⟨_, rfl⟩
theorem putG {b : Bool} {ρ : EnvS} {τ τ1 τ2 : Src} {ds : List D} {d : D} {q : Int} {r : Nat} (h : f (view b ρ) τ = some (d, τ1)) (h2 : g (view b ρ) τ1 = some (.int q, τ2)) (hr : ρ[i]? = some (.own (.list ds))) (hp : okD b d = true) (hl : L2.ixN ds.length q = some r) : mSetIx b i f g ρ τ = some (.nx, ρ.set i (.own (.list (ds.set r d))), τ2) := by
  rw [mSetIx_ev, h]
  simp only [h2, hr, hl, hp, if_true]
theorem DN_put0 {xs : List α} {mi : Tm Int} (h : E f (vw false κ) e m) (h2 : E g (vw false κ) eI mi) (hx : κ[i]? = some (.is (.own (eL e xs)))) : DN (mSetIx false i f g) κ (fun x => κ.set i (.is (.own (eL e x)))) (.o2 (tPut xs) m mi) := .mk fun k ρ τ F => by
  obtain ⟨r, hr⟩ := ixN_some k.2.2
  refine ⟨_, F.set i _, ?_⟩
  rw [putG (h k.1 _ τ (F.view false)) (h2 k.2.1 _ τ (F.view false)) (F.get hx) rfl (by rw [List.length_map]; exact hr)]
  show _ = some (Out.nx, ρ.set i (.own (.list ((putIx xs mi.val m.val).map e))), τ)
  unfold putIx
  rw [hr, ← List.map_set]
theorem DN_put1 {xs : List α} {mi : Tm Int} (h : E f (vw true κ) e m) (h2 : E g (vw true κ) eI mi) (hp : PuE e) (hx : κ[i]? = some (.is (.own (eL e xs)))) : DN (mSetIx true i f g) κ (fun x => κ.set i (.is (.own (eL e x)))) (.o2 (tPut xs) m mi) := .mk fun k ρ τ F => by
  obtain ⟨r, hr⟩ := ixN_some k.2.2
  refine ⟨_, F.set i _, ?_⟩
  rw [putG (h k.1 _ τ (F.view true)) (h2 k.2.1 _ τ (F.view true)) (F.get hx) (hp.ok _) (by rw [List.length_map]; exact hr)]
  show _ = some (Out.nx, ρ.set i (.own (.list ((putIx xs mi.val m.val).map e))), τ)
  unfold putIx
  rw [hr, ← List.map_set]
/-! a, b = e, f -/
structure EE (X : M (List Sl) → M (List Sl)) (ks : EnvD) (s : α → Sl) (m : Tm α) : Prop where
  run : m.ok → ∀ (η : EnvD) (τ : Src), LeD ks η → ∀ (R : M (List Sl)) (r : List Sl) (τ2 : Src), R η τ = some (r, τ2) → X R η τ = some (s m.val :: r, τ2)
instance {X : M (List Sl) → M (List Sl)} {ks : EnvD} {s : α → Sl} {m : Tm α} : CoeFun (EE X ks s m) (fun _ => m.ok → ∀ (η : EnvD) (τ : Src), LeD ks η → ∀ (R : M (List Sl)) (r : List Sl) (τ2 : Src), R η τ = some (r, τ2) → X R η τ = some (s m.val :: r, τ2)) := ⟨EE.run⟩
theorem EE_dat {ks : EnvD} (h : E f ks e m) : EE (mVDat f) ks (fun x => .dat (e x)) m := .mk fun k η τ l R r τ2 hr => (bindE (h k η τ l)).trans (bindE hr)
theorem EE_own {ks : EnvD} (h : EN G ks e ms) : EE (mVOwn G) ks (fun x => .own (eL e x)) ms := .mk fun k η τ l R r τ2 hr => (bindE (h k η τ l)).trans (bindE hr)
def OkS (b : Bool) (s : α → Sl) : Prop := ∀ a, okV b [s a] = true
theorem OkS.d0 : OkS false (fun x => .dat (e x)) := fun _ => rfl
theorem OkS.o0 : OkS false (fun x => .own (eL e x)) := fun _ => rfl
theorem OkS.d1 (h : PuE e) : OkS true (fun x => .dat (e x)) := fun a => by show (okD true (e a) && true) = true; rw [h.ok]; rfl
theorem OkS.o1 (h : PuE e) : OkS true (fun x => .own (eL e x)) := fun a => by show (okA true (a.map e) && true) = true; rw [h.okA]; rfl
theorem okV_cons {b : Bool} {s : Sl} {ss : List Sl} (h : okV b [s] = true) (h2 : okV b ss = true) : okV b (s :: ss) = true := by
  cases s with
  | dat d =>
    have h' : (okD b d && true) = true := h
    rw [Bool.and_true] at h'
    show (okD b d && okV b ss) = true
    rw [h', h2]; rfl
  | own d => cases d with
    | list ds =>
      have h' : (okA b ds && true) = true := h
      rw [Bool.and_true] at h'
      show (okA b ds && okV b ss) = true
      rw [h', h2]; rfl
    | _ => cases h
  | _ => cases h
theorem parG {b : Bool} {ρ : EnvS} {τ τ1 : Src} {is : List Nat} {F : M (List Sl)} {ss : List Sl} (h : F (view b ρ) τ = some (ss, τ1)) (h1 : okSlots ρ is = true) (h2 : okV b ss = true) (h3 : ss.length = is.length) : mPar b is F ρ τ = some (.nx, putS ρ is ss, τ1) := by
  rw [mPar_ev, h]
  simp only [h1, h2, h3, decide_true, Bool.and_self, if_true]
theorem DN_par2 {b : Bool} {X Y : M (List Sl) → M (List Sl)} {sa : α → Sl} {sb : β → Sl} {mb : Tm β} (h : EE X (vw b κ) sa m) (h2 : EE Y (vw b κ) sb mb) (oa : OkS b sa) (ob : OkS b sb) (hi : kSet κ i = true) (hj : kSet κ j = true) :
    DN (mPar b [i, j] (X (Y mVNil))) κ (fun p => (κ.set i (.is (sa p.1))).set j (.is (sb p.2))) (.o2 tPair m mb) := .mk fun k ρ τ F =>
  ⟨_, (F.set i (sa m.val)).set j (sb mb.val), parG (h k.1 _ τ (F.view b) _ _ _ (h2 k.2.1 _ τ (F.view b) _ _ _ rfl)) (by show (okSet ρ i && (okSet ρ j && true)) = true; rw [F.okSet hi, F.okSet hj]; rfl) (okV_cons (oa _) (ob _)) rfl⟩
theorem DN_par3 {b : Bool} {X Y Z : M (List Sl) → M (List Sl)} {sa : α → Sl} {sb : β → Sl} {sc : γ → Sl} {mb : Tm β} {mc : Tm γ} (h : EE X (vw b κ) sa m) (h2 : EE Y (vw b κ) sb mb) (h3 : EE Z (vw b κ) sc mc) (oa : OkS b sa) (ob : OkS b sb) (oc : OkS b sc) (hi : kSet κ i = true) (hj : kSet κ j = true) (hl : kSet κ l = true) :
    DN (mPar b [i, j, l] (X (Y (Z mVNil)))) κ (fun p => ((κ.set i (.is (sa p.1))).set j (.is (sb p.2.1))).set l (.is (sc p.2.2))) (.o3 tTrip m mb mc) := .mk fun k ρ τ F =>
  ⟨_, ((F.set i (sa m.val)).set j (sb mb.val)).set l (sc mc.val), parG (h k.1 _ τ (F.view b) _ _ _ (h2 k.2.1 _ τ (F.view b) _ _ _ (h3 k.2.2.1 _ τ (F.view b) _ _ _ rfl))) (by show (okSet ρ i && (okSet ρ j && (okSet ρ l && true))) = true; rw [F.okSet hi, F.okSet hj, F.okSet hl]; rfl) (okV_cons (oa _) (okV_cons (ob _) (oc _))) rfl⟩
theorem DN_par4 {b : Bool} {X Y Z U : M (List Sl) → M (List Sl)} {sa : α → Sl} {sb : β → Sl} {sc : γ → Sl} {sd : δ → Sl} {mb : Tm β} {mc : Tm γ} {md : Tm δ} (h : EE X (vw b κ) sa m) (h2 : EE Y (vw b κ) sb mb) (h3 : EE Z (vw b κ) sc mc) (h4 : EE U (vw b κ) sd md) (oa : OkS b sa) (ob : OkS b sb) (oc : OkS b sc) (od : OkS b sd) (hi : kSet κ i = true) (hj : kSet κ j = true) (hl : kSet κ l = true) (hn : kSet κ n = true) :
    DN (mPar b [i, j, l, n] (X (Y (Z (U mVNil))))) κ (fun p => (((κ.set i (.is (sa p.1))).set j (.is (sb p.2.1))).set l (.is (sc p.2.2.1))).set n (.is (sd p.2.2.2))) (.o4 tFour m mb mc md) := .mk fun k ρ τ F =>
  ⟨_, (((F.set i (sa m.val)).set j (sb mb.val)).set l (sc mc.val)).set n (sd md.val), parG (h k.1 _ τ (F.view b) _ _ _ (h2 k.2.1 _ τ (F.view b) _ _ _ (h3 k.2.2.1 _ τ (F.view b) _ _ _ (h4 k.2.2.2.1 _ τ (F.view b) _ _ _ rfl)))) (by show (okSet ρ i && (okSet ρ j && (okSet ρ l && (okSet ρ n && true)))) = true; rw [F.okSet hi, F.okSet hj, F.okSet hl, F.okSet hn]; rfl) (okV_cons (oa _) (okV_cons (ob _) (okV_cons (oc _) (od _)))) rfl⟩
/-- a, b = pair -/
theorem DN_asg0 {b : Tgt} {as : α → List (Nat × D)} (h : E f (vw false κ) e m) (hb : ∀ x, bindT b (e x) = some (as x)) (hs : ∀ x, ((as x).all fun w => kSet κ w.1) = true) : DN (mAsgT false b f) κ (fun x => kSets κ (as x)) m := .mk fun k ρ τ F => by
  refine ⟨_, F.sets (as m.val), ?_⟩
  rw [mAsgT_ev, h k _ τ (F.view false)]
  simp only [hb, F.okSets (hs _), okD_F, Bool.and_self, if_true]
theorem DN_asg1 {b : Tgt} {as : α → List (Nat × D)} (h : E f (vw true κ) e m) (hp : PuE e) (hb : ∀ x, bindT b (e x) = some (as x)) (hs : ∀ x, ((as x).all fun w => kSet κ w.1) = true) : DN (mAsgT true b f) κ (fun x => kSets κ (as x)) m := .mk fun k ρ τ F => by
  refine ⟨_, F.sets (as m.val), ?_⟩
  rw [mAsgT_ev, h k _ τ (F.view true)]
  simp only [hb, F.okSets (hs _), hp.ok, Bool.and_self, if_true]
theorem DN_skip {K : σ → List Kn} {s : σ} (h : KLe κ (K s)) : DN mSkip κ K (.pure s) := .mk fun _ ρ τ F => ⟨ρ, F.le h, rfl⟩
theorem DN_frz {K : σ → List Kn} {g : Stm} {d : D} {m : Tm σ} (hx : κ[i]? = some (.is (.own d))) (h : DN g (κ.set i (.is (.dat d))) K m) : DN (mFrz i g) κ K m := .mk fun k ρ τ F => h k (frz ρ i) τ (F.frz hx)
theorem DN_frz' {K : σ → List Kn} {g : Stm} {d : D} {m : Tm σ} (hx : κ[i]? = some (.is (.dat d))) (h : DN g κ K m) : DN (mFrz i g) κ K m := .mk fun k ρ τ F => h k (frz ρ i) τ (F.frz' hx)
end

/-! ### sequences, tests, loops -/
section
variable {α δ σ σ1 : Type} {ea : α → D} {e : δ → D} {κ : List Kn} {K : σ → List Kn} {K1 : σ1 → List Kn} {g h r a b : Stm} {c : M Bool} {mc : Tm Bool} {f : M D} {i : Nat} {d : D}
theorem DN_seq {m : Tm σ1} {k : σ1 → Tm σ} (h1 : DN g κ K1 m) (h2 : ∀ s, DN h (K1 s) K (k s)) : DN (mSeq g h) κ K (m.bind k) := .mk fun ok ρ τ F => by
  obtain ⟨ρ1, F1, e1⟩ := h1 ok.1 ρ τ F
  obtain ⟨ρ2, F2, e2⟩ := h2 m.val ok.2 ρ1 τ F1
  exact ⟨ρ2, F2, (seq_nx e1).trans e2⟩
theorem DN_last {m : Tm σ1} {w : σ1 → σ} (h1 : DN g κ K1 m) (h2 : ∀ s, KLe (K1 s) (K (w s))) : DN g κ K (m.bind fun s => .pure (w s)) := .mk fun ok ρ τ F => by
  obtain ⟨ρ1, F1, e1⟩ := h1 ok.1 ρ τ F
  exact ⟨ρ1, F1.le (h2 _), e1⟩
theorem DN_if {m n : Tm σ} (hc : ET c (vw true κ) mc) (h1 : DN g κ K m) (h2 : DN h κ K n) : DN (mIfS c g h) κ K (.ite mc m n) := .mk fun ok ρ τ F => by
  unfold mIfS
  rw [hc ok.1 _ τ (F.view true)]
  show ∃ ρ', Fits (K (if mc.val = true then m.val else n.val)) ρ' ∧ (if mc.val = true then g ρ τ else h ρ τ) = _
  cases hv : mc.val with
  | true => exact h1 (ok.2.1 hv) ρ τ F
  | false => exact h2 (ok.2.2 hv) ρ τ F
theorem for_fold {t : Tgt} {as : α → List (Nat × D)} {q : α → σ → Tm σ} (hb : ∀ x, bindT t (ea x) = some (as x)) (hs : ∀ x s, ((as x).all fun w => kSet (K s) w.1) = true) (hg : ∀ x s, DN g (kSets (K s) (as x)) K (q x s)) :
    ∀ (xs : List α) (s : σ) (ρ : EnvS) (τ : Src), Tm.foldOk q xs s → Fits (K s) ρ → ∃ ρ', Fits (K (xs.foldl (fun s x => (q x s).val) s)) ρ' ∧ forGo t g (xs.map ea) ρ τ = some (.nx, ρ', τ)
  | [], s, ρ, τ, _, F => ⟨ρ, F, rfl⟩
  | x :: xs, s, ρ, τ, ok, F => by
    obtain ⟨ρ1, F1, e1⟩ := hg x s ok.1 _ τ (F.sets (as x))
    obtain ⟨ρ2, F2, e2⟩ := for_fold hb hs hg xs _ ρ1 τ ok.2 F1
    refine ⟨ρ2, F2, ?_⟩
    simp only [List.map_cons, forGo, hb, F.okSets (hs x s), if_true, e1, e2]
theorem DN_for {t : Tgt} {fi : M (List D)} {ms : Tm (List α)} {s0 : σ} {as : α → List (Nat × D)} {q : α → σ → Tm σ} (hi : EN fi (vw false κ) ea ms) (h0 : KLe κ (K s0)) (hb : ∀ x, bindT t (ea x) = some (as x)) (hs : ∀ x s, ((as x).all fun w => kSet (K s) w.1) = true) (hg : ∀ x s, DN g (kSets (K s) (as x)) K (q x s)) :
    DN (mFor fi t g) κ K (.fold ms s0 q) := .mk fun ok ρ τ F => by
  obtain ⟨ρ', F', e'⟩ := for_fold hb hs hg ms.val s0 ρ τ ok.2 (F.le h0)
  exact ⟨ρ', F', for_nx (hi ok.1 _ τ (F.view false)) e'⟩
theorem wl_go {q : σ → Tm σ} {cc : σ → Tm Bool} (hc : ∀ s, ET c (vw true (K s)) (cc s)) (hg : ∀ s, DN g (K s) K (q s)) : ∀ (n : Nat) (s : σ) (ρ : EnvS) (τ : Src), Tm.wlOk cc q n s → Fits (K s) ρ → ∃ r ρ', Tm.wlGo (fun s => (cc s).val) (fun s => (q s).val) n s = some r ∧ Fits (K r) ρ' ∧ whileGo c g n ρ τ = some (.nx, ρ', τ)
  | 0, s, ρ, τ, ok, _ => ok.elim
  | n + 1, s, ρ, τ, ok, F => by
    unfold Tm.wlGo
    have ec := hc s ok.1 _ τ (F.view true)
    cases hv : (cc s).val with
    | false =>
      refine ⟨s, ρ, rfl, F, ?_⟩
      simp only [whileGo, ec, hv]
    | true =>
      obtain ⟨o1, o2⟩ := ok.2 hv
      obtain ⟨ρ1, F1, e1⟩ := hg s o1 ρ τ F
      obtain ⟨r, ρ2, g2, F2, e2⟩ := wl_go hc hg n _ ρ1 τ o2 F1
      refine ⟨r, ρ2, g2, F2, ?_⟩
      simp only [whileGo, ec, hv, e1, e2]
theorem DN_wl {cc : σ → Tm Bool} {s0 : σ} {q : σ → Tm σ} (h0 : KLe κ (K s0)) (hc : ∀ s, ET c (vw true (K s)) (cc s)) (hg : ∀ s, DN g (K s) K (q s)) : DN (mWhile c g) κ K (.wl cc s0 q) := .mk fun ok ρ τ F => by
  obtain ⟨r, ρ', g2, F2, e2⟩ := wl_go hc hg fuel s0 ρ τ (by rw [Tm.wl_ok] at ok; exact ok) (F.le h0)
  exact ⟨ρ', by rw [Tm.wl_val, Tm.wlV_of g2]; exact F2, e2⟩
/-! a def's end -/
theorem DR_seq {m : Tm σ1} {k : σ1 → Tm δ} (h1 : DN g κ K1 m) (h2 : ∀ s, DR h (K1 s) e (k s)) : DR (mSeq g h) κ e (m.bind k) := .mk fun ok ρ τ F => by
  obtain ⟨ρ1, F1, e1⟩ := h1 ok.1 ρ τ F
  obtain ⟨ρ2, e2⟩ := h2 m.val ok.2 ρ1 τ F1
  exact ⟨ρ2, (seq_nx e1).trans e2⟩
theorem DR_ret {m : Tm δ} (hf : E f (vw true κ) e m) : DR (mRet f) κ e m := .mk fun ok ρ τ F => ⟨ρ, by rw [mRet_ev, hf ok _ τ (F.view true)]⟩
theorem DR_cut {m : Tm δ} (h1 : DR g κ e m) : DR (mSeq g h) κ e m := .mk fun ok ρ τ F => by
  obtain ⟨ρ1, e1⟩ := h1 ok ρ τ F
  exact ⟨ρ1, seq_rt e1⟩
theorem DR_if {m n : Tm δ} (hc : ET c (vw true κ) mc) (h1 : DR g κ e m) (h2 : DR h κ e n) : DR (mIfS c g h) κ e (.ite mc m n) := .mk fun ok ρ τ F => by
  unfold mIfS
  rw [hc ok.1 _ τ (F.view true)]
  show ∃ ρ', (if mc.val = true then g ρ τ else h ρ τ) = some (.rt (e (if mc.val = true then m.val else n.val)), ρ', τ)
  cases hv : mc.val with
  | true => exact h1 (ok.2.1 hv) ρ τ F
  | false => exact h2 (ok.2.2 hv) ρ τ F
theorem seq_if {c : M Bool} {g h r : Stm} : mSeq (mIfS c g h) r = mIfS c (mSeq g r) (mSeq h r) := by
  funext ρ τ
  unfold mSeq mIfS
  cases c (view true ρ) τ with
  | none => rfl
  | some x => obtain ⟨b, τ1⟩ := x; cases b <;> rfl
theorem seq_assoc {a b r : Stm} : mSeq (mSeq a b) r = mSeq a (mSeq b r) := by
  funext ρ τ
  unfold mSeq
  cases a ρ τ with
  | none => rfl
  | some x => obtain ⟨o, ρ1, τ1⟩ := x; cases o <;> rfl
theorem seq_skip {r : Stm} : mSeq mSkip r = r := rfl
theorem DR_sif {m n : Tm δ} (hc : ET c (vw true κ) mc) (h1 : DR (mSeq g r) κ e m) (h2 : DR (mSeq h r) κ e n) : DR (mSeq (mIfS c g h) r) κ e (.ite mc m n) := by
  rw [seq_if]; exact DR_if hc h1 h2
theorem DR_ass {m : Tm δ} (h1 : DR (mSeq a (mSeq b r)) κ e m) : DR (mSeq (mSeq a b) r) κ e m := by rw [seq_assoc]; exact h1
theorem DR_skp {m : Tm δ} (h1 : DR r κ e m) : DR (mSeq mSkip r) κ e m := h1
theorem DR_frz {m : Tm δ} (hx : κ[i]? = some (.is (.own d))) (h : DR g (κ.set i (.is (.dat d))) e m) : DR (mFrz i g) κ e m := .mk fun k ρ τ F => h k (frz ρ i) τ (F.frz hx)
theorem DR_frz' {m : Tm δ} (hx : κ[i]? = some (.is (.dat d))) (h : DR g κ e m) : DR (mFrz i g) κ e m := .mk fun k ρ τ F => h k (frz ρ i) τ (F.frz' hx)
theorem seq_frz {g r : Stm} : mSeq (mFrz i g) r = mFrz i (mSeq g r) := rfl
/-! a loop's body's end -/
theorem DB_seq {m : Tm σ1} {k : σ1 → Tm (Rs σ δ)} (h1 : DN g κ K1 m) (h2 : ∀ s, DB h (K1 s) K e (k s)) : DB (mSeq g h) κ K e (m.bind k) := .mk fun ok ρ τ F => by
  obtain ⟨ρ1, F1, e1⟩ := h1 ok.1 ρ τ F
  have e2 := h2 m.val ok.2 ρ1 τ F1
  have es : mSeq g h ρ τ = h ρ1 τ := seq_nx e1
  show Ends _ _ _ _ _ (k m.val).val
  unfold Ends at e2 ⊢
  rw [es]; exact e2
theorem DB_last {m : Tm σ1} {w : σ1 → σ} (h1 : DN g κ K1 m) (h2 : ∀ s, KLe (K1 s) (K (w s))) : DB g κ K e (m.bind fun s => .pure (.nx (w s))) := .mk fun ok ρ τ F => by
  obtain ⟨ρ1, F1, e1⟩ := h1 ok.1 ρ τ F
  exact ⟨ρ1, F1.le (h2 _), e1⟩
theorem DB_skip {s : σ} (h : KLe κ (K s)) : DB mSkip κ K e (.pure (.nx s)) := .mk fun _ ρ τ F => ⟨ρ, F.le h, rfl⟩
theorem DB_if {m n : Tm (Rs σ δ)} (hc : ET c (vw true κ) mc) (h1 : DB g κ K e m) (h2 : DB h κ K e n) : DB (mIfS c g h) κ K e (.ite mc m n) := .mk fun ok ρ τ F => by
  have ec := hc ok.1 _ τ (F.view true)
  show Ends _ _ _ _ _ (if mc.val = true then m.val else n.val)
  cases hv : mc.val with
  | true =>
    have e2 := h1 (ok.2.1 hv) ρ τ F
    have es : mIfS c g h ρ τ = g ρ τ := by unfold mIfS; rw [ec, hv]; rfl
    unfold Ends at e2 ⊢
    rw [es]; exact e2
  | false =>
    have e2 := h2 (ok.2.2 hv) ρ τ F
    have es : mIfS c g h ρ τ = h ρ τ := by unfold mIfS; rw [ec, hv]; rfl
    unfold Ends at e2 ⊢
    rw [es]; exact e2
theorem DB_sif {m n : Tm (Rs σ δ)} (hc : ET c (vw true κ) mc) (h1 : DB (mSeq g r) κ K e m) (h2 : DB (mSeq h r) κ K e n) : DB (mSeq (mIfS c g h) r) κ K e (.ite mc m n) := by
  rw [seq_if]; exact DB_if hc h1 h2
theorem DB_ass {m : Tm (Rs σ δ)} (h1 : DB (mSeq a (mSeq b r)) κ K e m) : DB (mSeq (mSeq a b) r) κ K e m := by rw [seq_assoc]; exact h1
theorem DB_skp {m : Tm (Rs σ δ)} (h1 : DB r κ K e m) : DB (mSeq mSkip r) κ K e m := h1
theorem DB_ret {m : Tm δ} (hf : E f (vw true κ) e m) : DB (mRet f) κ K e (m.mp .rt) := .mk fun ok ρ τ F => ⟨ρ, by rw [mRet_ev, hf ok _ τ (F.view true)]⟩
theorem DB_retS {m : Tm δ} (hf : E f (vw true κ) e m) : DB (mSeq (mRet f) h) κ K e (m.mp .rt) := .mk fun ok ρ τ F => ⟨ρ, seq_rt (by rw [mRet_ev, hf ok _ τ (F.view true)])⟩
theorem DB_brk {s : σ} (hk : KLe κ (K s)) : DB mBreak κ K e (.pure (.bk s)) := .mk fun _ ρ τ F => ⟨ρ, F.le hk, rfl⟩
theorem DB_brkS {s : σ} (hk : KLe κ (K s)) : DB (mSeq mBreak h) κ K e (.pure (.bk s)) := .mk fun _ ρ τ F => ⟨ρ, F.le hk, rfl⟩
theorem DB_cnt {s : σ} (hk : KLe κ (K s)) : DB mCont κ K e (.pure (.ct s)) := .mk fun _ ρ τ F => ⟨ρ, F.le hk, rfl⟩
theorem DB_cntS {s : σ} (hk : KLe κ (K s)) : DB (mSeq mCont h) κ K e (.pure (.ct s)) := .mk fun _ ρ τ F => ⟨ρ, F.le hk, rfl⟩
theorem DB_frz {m : Tm (Rs σ δ)} (hx : κ[i]? = some (.is (.own d))) (h : DB g (κ.set i (.is (.dat d))) K e m) : DB (mFrz i g) κ K e m := .mk fun k ρ τ F => h k (frz ρ i) τ (F.frz hx)
theorem DB_frz' {m : Tm (Rs σ δ)} (hx : κ[i]? = some (.is (.dat d))) (h : DB g κ K e m) : DB (mFrz i g) κ K e m := .mk fun k ρ τ F => h k (frz ρ i) τ (F.frz' hx)
/-! loops with exits -/
def EndL (w : Option (Out × EnvS × Src)) (τ : Src) (K : σ → List Kn) (e : δ → D) : Lp σ δ → Prop
  | .nx s => ∃ ρ', Fits (K s) ρ' ∧ w = some (.nx, ρ', τ)
  | .rt d => ∃ ρ', w = some (.rt (e d), ρ', τ)
theorem for_goX {t : Tgt} {as : α → List (Nat × D)} {q : α → σ → Tm (Rs σ δ)} (hb : ∀ x, bindT t (ea x) = some (as x)) (hs : ∀ x s, ((as x).all fun w => kSet (K s) w.1) = true) (hg : ∀ x s, DB g (kSets (K s) (as x)) K e (q x s)) :
    ∀ (xs : List α) (s : σ) (ρ : EnvS) (τ : Src), Tm.goXOk q xs s → Fits (K s) ρ → EndL (forGo t g (xs.map ea) ρ τ) τ K e (Tm.goX (fun x s => (q x s).val) xs s)
  | [], s, ρ, τ, _, F => ⟨ρ, F, rfl⟩
  | x :: xs, s, ρ, τ, ok, F => by
    have h1 := hg x s ok.1 _ τ (F.sets (as x))
    have k2 := ok.2
    have es : forGo t g ((x :: xs).map ea) ρ τ = (match g (setSl ρ (as x)) τ with
      | some (.nx, ρ2, τ2) => forGo t g (xs.map ea) ρ2 τ2
      | some (.ct, ρ2, τ2) => forGo t g (xs.map ea) ρ2 τ2
      | some (.bk, ρ2, τ2) => some (.nx, ρ2, τ2)
      | some (.rt d, ρ2, τ2) => some (.rt d, ρ2, τ2)
      | none => none) := by simp only [List.map_cons, forGo, hb, F.okSets (hs x s), if_true] <;> rfl
    rw [es]
    unfold Tm.goX
    cases hv : (q x s).val with
    | nx s' =>
      rw [hv] at h1 k2
      obtain ⟨ρ1, F1, e1⟩ := h1
      rw [e1]
      exact for_goX hb hs hg xs s' ρ1 τ k2 F1
    | ct s' =>
      rw [hv] at h1 k2
      obtain ⟨ρ1, F1, e1⟩ := h1
      rw [e1]
      exact for_goX hb hs hg xs s' ρ1 τ k2 F1
    | bk s' =>
      rw [hv] at h1
      obtain ⟨ρ1, F1, e1⟩ := h1
      rw [e1]
      exact ⟨ρ1, F1, rfl⟩
    | rt d =>
      rw [hv] at h1
      obtain ⟨ρ1, e1⟩ := h1
      rw [e1]
      exact ⟨ρ1, rfl⟩
/-- a loop, whatever its end -/
structure DL2 (g : Stm) (κ : List Kn) (K : σ → List Kn) (e : δ → D) (m : Tm (Lp σ δ)) : Prop where
  run : m.ok → ∀ (ρ : EnvS) (τ : Src), Fits κ ρ → EndL (g ρ τ) τ K e m.val
instance {g : Stm} {κ : List Kn} {K : σ → List Kn} {e : δ → D} {m : Tm (Lp σ δ)} : CoeFun (DL2 g κ K e m) (fun _ => m.ok → ∀ (ρ : EnvS) (τ : Src), Fits κ ρ → EndL (g ρ τ) τ K e m.val) := ⟨DL2.run⟩
theorem DL_for {t : Tgt} {fi : M (List D)} {ms : Tm (List α)} {s0 : σ} {as : α → List (Nat × D)} {q : α → σ → Tm (Rs σ δ)} (hi : EN fi (vw false κ) ea ms) (h0 : KLe κ (K s0)) (hb : ∀ x, bindT t (ea x) = some (as x)) (hs : ∀ x s, ((as x).all fun w => kSet (K s) w.1) = true) (hg : ∀ x s, DB g (kSets (K s) (as x)) K e (q x s)) :
    DL2 (mFor fi t g) κ K e (.forX ms s0 q) := .mk fun ok ρ τ F => by
  have := for_goX hb hs hg ms.val s0 ρ τ ok.2 (F.le h0)
  have es : mFor fi t g ρ τ = forGo t g (ms.val.map ea) ρ τ := for_nx (hi ok.1 _ τ (F.view false)) rfl
  rw [es]; exact this
theorem wh_go {q : σ → Tm (Rs σ δ)} {cc : σ → Tm Bool} (hc : ∀ s, ET c (vw true (K s)) (cc s)) (hg : ∀ s, DB g (K s) K e (q s)) : ∀ (n : Nat) (s : σ) (ρ : EnvS) (τ : Src), Tm.whOk cc q n s → Fits (K s) ρ → ∃ r, Tm.whGo (fun s => (cc s).val) (fun s => (q s).val) n s = some r ∧ EndL (whileGo c g n ρ τ) τ K e r
  | 0, s, ρ, τ, ok, _ => ok.elim
  | n + 1, s, ρ, τ, ok, F => by
    unfold Tm.whGo
    have ec := hc s ok.1 _ τ (F.view true)
    cases hv : (cc s).val with
    | false => exact ⟨.nx s, rfl, ρ, F, by simp only [whileGo, ec, hv]⟩
    | true =>
      obtain ⟨o1, o2⟩ := ok.2 hv
      have h1 := hg s o1 ρ τ F
      cases hq : (q s).val with
      | nx s' =>
        rw [hq] at h1 o2
        obtain ⟨ρ1, F1, e1⟩ := h1
        obtain ⟨r, g2, e2⟩ := wh_go hc hg n _ ρ1 τ o2 F1
        refine ⟨r, by simp only [hq, if_true]; exact g2, ?_⟩
        have es : whileGo c g (n + 1) ρ τ = whileGo c g n ρ1 τ := by simp only [whileGo, ec, hv, e1]
        rw [es]; exact e2
      | ct s' =>
        rw [hq] at h1 o2
        obtain ⟨ρ1, F1, e1⟩ := h1
        obtain ⟨r, g2, e2⟩ := wh_go hc hg n _ ρ1 τ o2 F1
        refine ⟨r, by simp only [hq, if_true]; exact g2, ?_⟩
        have es : whileGo c g (n + 1) ρ τ = whileGo c g n ρ1 τ := by simp only [whileGo, ec, hv, e1]
        rw [es]; exact e2
      | bk s' =>
        rw [hq] at h1
        obtain ⟨ρ1, F1, e1⟩ := h1
        exact ⟨.nx s', by simp only [hq, if_true], ρ1, F1, by simp only [whileGo, ec, hv, e1]⟩
      | rt d =>
        rw [hq] at h1
        obtain ⟨ρ1, e1⟩ := h1
        exact ⟨.rt d, by simp only [hq, if_true], ρ1, by simp only [whileGo, ec, hv, e1]⟩
theorem DL_wh {cc : σ → Tm Bool} {s0 : σ} {q : σ → Tm (Rs σ δ)} (h0 : KLe κ (K s0)) (hc : ∀ s, ET c (vw true (K s)) (cc s)) (hg : ∀ s, DB g (K s) K e (q s)) : DL2 (mWhile c g) κ K e (.whX cc s0 q) := .mk fun ok ρ τ F => by
  obtain ⟨r, g2, e2⟩ := wh_go hc hg fuel s0 ρ τ (by rw [Tm.whX_ok] at ok; exact ok) (F.le h0)
  rw [Tm.whX_val, Tm.whV_of g2]; exact e2
theorem DL_frz {m : Tm (Lp σ δ)} (hx : κ[i]? = some (.is (.own d))) (h : DL2 g (κ.set i (.is (.dat d))) K e m) : DL2 (mFrz i g) κ K e m := .mk fun k ρ τ F => h k (frz ρ i) τ (F.frz hx)
theorem DL_frz' {m : Tm (Lp σ δ)} (hx : κ[i]? = some (.is (.dat d))) (h : DL2 g κ K e m) : DL2 (mFrz i g) κ K e m := .mk fun k ρ τ F => h k (frz ρ i) τ (F.frz' hx)
theorem DR_loop {m : Tm (Lp σ δ)} {k : σ → Tm δ} (h1 : DL2 g κ K e m) (h2 : ∀ s, DR h (K s) e (k s)) : DR (mSeq g h) κ e (.lp m k .pure) := .mk fun ok ρ τ F => by
  have a := h1 ok.1 ρ τ F
  have o2 := ok.2
  show ∃ ρ', _ = some (Out.rt (e (match m.val with | .nx s => (k s).val | .rt d => d)), ρ', τ)
  cases hv : m.val with
  | nx s =>
    rw [hv] at a o2
    obtain ⟨ρ1, F1, e1⟩ := a
    obtain ⟨ρ2, e2⟩ := h2 s o2 ρ1 τ F1
    exact ⟨ρ2, (seq_nx e1).trans e2⟩
  | rt d =>
    rw [hv] at a
    obtain ⟨ρ1, e1⟩ := a
    exact ⟨ρ1, seq_rt e1⟩
theorem DB_loop {K2 : σ1 → List Kn} {m : Tm (Lp σ1 δ)} {k : σ1 → Tm (Rs σ δ)} (h1 : DL2 g κ K2 e m) (h2 : ∀ s, DB h (K2 s) K e (k s)) : DB (mSeq g h) κ K e (.lp m k fun d => .pure (.rt d)) := .mk fun ok ρ τ F => by
  have a := h1 ok.1 ρ τ F
  have o2 := ok.2
  show Ends _ _ _ _ _ (match m.val with | .nx s => (k s).val | .rt d => .rt d)
  cases hv : m.val with
  | nx s =>
    rw [hv] at a o2
    obtain ⟨ρ1, F1, e1⟩ := a
    have e2 := h2 s o2 ρ1 τ F1
    have es : mSeq g h ρ τ = h ρ1 τ := seq_nx e1
    unfold Ends at e2 ⊢
    rw [es]; exact e2
  | rt d =>
    rw [hv] at a
    obtain ⟨ρ1, e1⟩ := a
    exact ⟨ρ1, seq_rt e1⟩
theorem DB_loopL {K2 : σ1 → List Kn} {m : Tm (Lp σ1 δ)} {w : σ1 → σ} (h1 : DL2 g κ K2 e m) (h2 : ∀ s, KLe (K2 s) (K (w s))) : DB g κ K e (.lp m (fun s => .pure (.nx (w s))) fun d => .pure (.rt d)) := .mk fun ok ρ τ F => by
  have a := h1 ok.1 ρ τ F
  show Ends _ _ _ _ _ (match m.val with | .nx s => .nx (w s) | .rt d => .rt d)
  cases hv : m.val with
  | nx s =>
    rw [hv] at a
    obtain ⟨ρ1, F1, e1⟩ := a
    exact ⟨ρ1, F1.le (h2 s), e1⟩
  | rt d =>
    rw [hv] at a
    obtain ⟨ρ1, e1⟩ := a
    exact ⟨ρ1, e1⟩
end

/-! ### defs -/
section
variable {α β γ δ ε ζ : Type} {ea : α → D} {eb : β → D} {ec : γ → D} {ed : δ → D} {ee : ε → D} {er : ζ → D} {g : Stm} {k : Nat}
theorem fits_no : ∀ n : Nat, Fits (List.replicate n .any) (List.replicate n .no)
  | 0 => .nil
  | n + 1 => .any rfl (fits_no n)
theorem C1_of {p : α → Tm ζ} (h : ∀ x, DR g (.is (.dat (ea x)) :: List.replicate k .any) er (p x)) : C1 (runP 1 (k + 1) g) ea er p := fun x ok => by
  obtain ⟨ρ', e⟩ := h x ok (.dat (ea x) :: List.replicate k .no) noSrc (.is (fits_no k))
  refine runP_rt rfl (ρ := ρ') (τ := noSrc) ?_
  rw [show enter (k + 1) [ea x] = .dat (ea x) :: List.replicate k .no by simp [enter]]
  exact e
theorem C2_of {p : α → β → Tm ζ} (h : ∀ x y, DR g (.is (.dat (ea x)) :: .is (.dat (eb y)) :: List.replicate k .any) er (p x y)) : C2 (runP 2 (k + 2) g) ea eb er p := fun x y ok => by
  obtain ⟨ρ', e⟩ := h x y ok (.dat (ea x) :: .dat (eb y) :: List.replicate k .no) noSrc (.is (.is (fits_no k)))
  refine runP_rt rfl (ρ := ρ') (τ := noSrc) ?_
  rw [show enter (k + 2) [ea x, eb y] = .dat (ea x) :: .dat (eb y) :: List.replicate k .no by simp [enter]]
  exact e
theorem C3_of {p : α → β → γ → Tm ζ} (h : ∀ x y z, DR g (.is (.dat (ea x)) :: .is (.dat (eb y)) :: .is (.dat (ec z)) :: List.replicate k .any) er (p x y z)) : C3 (runP 3 (k + 3) g) ea eb ec er p := fun x y z ok => by
  obtain ⟨ρ', e⟩ := h x y z ok (.dat (ea x) :: .dat (eb y) :: .dat (ec z) :: List.replicate k .no) noSrc (.is (.is (.is (fits_no k))))
  refine runP_rt rfl (ρ := ρ') (τ := noSrc) ?_
  rw [show enter (k + 3) [ea x, eb y, ec z] = .dat (ea x) :: .dat (eb y) :: .dat (ec z) :: List.replicate k .no by simp [enter]]
  exact e
theorem C4_of {p : α → β → γ → δ → Tm ζ} (h : ∀ x y z u, DR g (.is (.dat (ea x)) :: .is (.dat (eb y)) :: .is (.dat (ec z)) :: .is (.dat (ed u)) :: List.replicate k .any) er (p x y z u)) : C4 (runP 4 (k + 4) g) ea eb ec ed er p := fun x y z u ok => by
  obtain ⟨ρ', e⟩ := h x y z u ok (.dat (ea x) :: .dat (eb y) :: .dat (ec z) :: .dat (ed u) :: List.replicate k .no) noSrc (.is (.is (.is (.is (fits_no k)))))
  refine runP_rt rfl (ρ := ρ') (τ := noSrc) ?_
  rw [show enter (k + 4) [ea x, eb y, ec z, ed u] = .dat (ea x) :: .dat (eb y) :: .dat (ec z) :: .dat (ed u) :: List.replicate k .no by simp [enter]]
  exact e
theorem C5_of {p : α → β → γ → δ → ε → Tm ζ} (h : ∀ x y z u v, DR g (.is (.dat (ea x)) :: .is (.dat (eb y)) :: .is (.dat (ec z)) :: .is (.dat (ed u)) :: .is (.dat (ee v)) :: List.replicate k .any) er (p x y z u v)) : C5 (runP 5 (k + 5) g) ea eb ec ed ee er p := fun x y z u v ok => by
  obtain ⟨ρ', e⟩ := h x y z u v ok (.dat (ea x) :: .dat (eb y) :: .dat (ec z) :: .dat (ed u) :: .dat (ee v) :: List.replicate k .no) noSrc (.is (.is (.is (.is (.is (fits_no k))))))
  refine runP_rt rfl (ρ := ρ') (τ := noSrc) ?_
  rw [show enter (k + 5) [ea x, eb y, ec z, ed u, ee v] = .dat (ea x) :: .dat (eb y) :: .dat (ec z) :: .dat (ed u) :: .dat (ee v) :: List.replicate k .no by simp [enter]]
  exact e
end
end TL

/-! TLd: the same with a source of drawn numbers. -/
namespace TL
open PySem DL

structure Sc where
  cells : List Int
  left : Int
  mixed : Int
  turn : Int
def Sc.src (t : Sc) (i : Nat) : Src := ⟨some i, t.cells, t.left, t.mixed, t.turn⟩
def Src.sc (τ : Src) : Sc := ⟨τ.cells, τ.left, τ.mixed, τ.turn⟩
abbrev SM (α : Type) := Sc → Tm (α × Sc)
section
variable {α β γ δ ε σ : Type}
namespace SM
def pure (a : α) : SM α := fun t => ⟨True, (a, t)⟩
def lift (m : Tm α) : SM α := fun t => ⟨m.ok, (m.val, t)⟩
def bind (m : SM α) (k : α → SM β) : SM β := fun t => ⟨(m t).ok ∧ (k (m t).val.1 (m t).val.2).ok, (k (m t).val.1 (m t).val.2).val⟩
def mp (f : α → β) (m : SM α) : SM β := bind m fun a => pure (f a)
def o1 (h : α → Tm β) (m : SM α) : SM β := bind m fun a => lift (h a)
def o2 (h : α → β → Tm γ) (a : SM α) (b : SM β) : SM γ := bind a fun x => bind b fun y => lift (h x y)
def o3 (h : α → β → γ → Tm δ) (a : SM α) (b : SM β) (c : SM γ) : SM δ := bind a fun x => bind b fun y => bind c fun z => lift (h x y z)
def o4 (h : α → β → γ → δ → Tm ε) (a : SM α) (b : SM β) (c : SM γ) (d : SM δ) : SM ε := bind a fun x => bind b fun y => bind c fun z => bind d fun u => lift (h x y z u)
def o5 {ζ : Type} (h : α → β → γ → δ → ε → Tm ζ) (a : SM α) (b : SM β) (c : SM γ) (d : SM δ) (e : SM ε) : SM ζ := bind a fun x => bind b fun y => bind c fun z => bind d fun u => bind e fun v => lift (h x y z u v)
/-- defs with the source -/
def s0 (h : SM β) : SM β := h
def s1 (h : α → SM β) (m : SM α) : SM β := bind m h
def s2 (h : α → β → SM γ) (a : SM α) (b : SM β) : SM γ := bind a fun x => bind b fun y => h x y
def s3 (h : α → β → γ → SM δ) (a : SM α) (b : SM β) (c : SM γ) : SM δ := bind a fun x => bind b fun y => bind c fun z => h x y z
def s4 (h : α → β → γ → δ → SM ε) (a : SM α) (b : SM β) (c : SM γ) (d : SM δ) : SM ε := bind a fun x => bind b fun y => bind c fun z => bind d fun u => h x y z u
def ite (c : SM Bool) (a b : SM α) : SM α := bind c fun v => if v = true then a else b
def and (a b : SM Bool) : SM Bool := bind a fun v => if v = true then b else pure false
def or (a b : SM Bool) : SM Bool := bind a fun v => if v = true then pure true else b
def not (a : SM Bool) : SM Bool := bind a fun v => pure (!v)
def nil : SM (List α) := pure []
def cons (a : SM α) (r : SM (List α)) : SM (List α) := bind a fun x => bind r fun xs => pure (x :: xs)
def app (a : SM (List α)) (r : SM (List α)) : SM (List α) := bind a fun x => bind r fun xs => pure (x ++ xs)
def lim (m : SM (List α)) : SM (List α) := bind m fun xs => lift ⟨xs.length ≤ 2 ^ 24, xs⟩
def amapGo (f : α → SM β) : List α → SM (List β)
  | [] => pure []
  | x :: xs => bind (f x) fun y => bind (amapGo f xs) fun ys => pure (y :: ys)
def amap (m : SM (List α)) (f : α → SM β) : SM (List β) := bind m (amapGo f)
def fmapGo (t : α → SM Bool) (f : α → SM β) : List α → SM (List β)
  | [] => pure []
  | x :: xs => bind (t x) fun b => if b = true then bind (f x) fun y => bind (fmapGo t f xs) fun ys => pure (y :: ys) else fmapGo t f xs
def fmap (m : SM (List α)) (t : α → SM Bool) (f : α → SM β) : SM (List β) := bind m (fmapGo t f)
def foldGo (f : α → σ → SM σ) : List α → σ → SM σ
  | [], s => pure s
  | x :: xs, s => bind (f x s) fun s' => foldGo f xs s'
def fold (m : SM (List α)) (s : σ) (f : α → σ → SM σ) : SM σ := bind m fun xs => foldGo f xs s
def goX (f : α → σ → SM (Rs σ δ)) : List α → σ → SM (Lp σ δ)
  | [], s => pure (.nx s)
  | x :: xs, s => bind (f x s) fun
    | .nx s' => goX f xs s'
    | .ct s' => goX f xs s'
    | .bk s' => pure (.nx s')
    | .rt d => pure (.rt d)
def forX (m : SM (List α)) (s : σ) (f : α → σ → SM (Rs σ δ)) : SM (Lp σ δ) := bind m fun xs => goX f xs s
def lp (m : SM (Lp σ δ)) (k : σ → SM β) (r : δ → SM β) : SM β := bind m fun
  | .nx s => k s
  | .rt d => r d
def whGo (c : σ → SM Bool) (f : σ → SM (Rs σ δ)) : Nat → σ → SM (Lp σ δ)
  | 0, s => fun t => ⟨False, (.nx s, t)⟩
  | n + 1, s => bind (c s) fun b => if b = true then bind (f s) fun
    | .nx s' => whGo c f n s'
    | .ct s' => whGo c f n s'
    | .bk s' => pure (.nx s')
    | .rt d => pure (.rt d) else pure (.nx s)
@[irreducible] def whX (c : σ → SM Bool) (s : σ) (f : σ → SM (Rs σ δ)) : SM (Lp σ δ) := whGo c f fuel s
end SM

/-! ### the readings -/
structure ES (i : Nat) (f : M D) (ks : EnvD) (e : α → D) (m : SM α) : Prop where
  run : ∀ t : Sc, (m t).ok → ∀ η : EnvD, LeD ks η → f η (t.src i) = some (e (m t).val.1, (m t).val.2.src i)
instance {i : Nat} {f : M D} {ks : EnvD} {e : α → D} {m : SM α} : CoeFun (ES i f ks e m) (fun _ => ∀ t : Sc, (m t).ok → ∀ η : EnvD, LeD ks η → f η (t.src i) = some (e (m t).val.1, (m t).val.2.src i)) := ⟨ES.run⟩
structure ETS (i : Nat) (f : M Bool) (ks : EnvD) (m : SM Bool) : Prop where
  run : ∀ t : Sc, (m t).ok → ∀ η : EnvD, LeD ks η → f η (t.src i) = some ((m t).val.1, (m t).val.2.src i)
instance {i : Nat} {f : M Bool} {ks : EnvD} {m : SM Bool} : CoeFun (ETS i f ks m) (fun _ => ∀ t : Sc, (m t).ok → ∀ η : EnvD, LeD ks η → f η (t.src i) = some ((m t).val.1, (m t).val.2.src i)) := ⟨ETS.run⟩
structure ENS (i : Nat) (f : M (List D)) (ks : EnvD) (e : α → D) (m : SM (List α)) : Prop where
  run : ∀ t : Sc, (m t).ok → ∀ η : EnvD, LeD ks η → f η (t.src i) = some ((m t).val.1.map e, (m t).val.2.src i)
instance {i : Nat} {f : M (List D)} {ks : EnvD} {e : α → D} {m : SM (List α)} : CoeFun (ENS i f ks e m) (fun _ => ∀ t : Sc, (m t).ok → ∀ η : EnvD, LeD ks η → f η (t.src i) = some ((m t).val.1.map e, (m t).val.2.src i)) := ⟨ENS.run⟩
structure EOS (i : Nat) (f : M (Option Int)) (ks : EnvD) (m : SM (Option Int)) : Prop where
  run : ∀ t : Sc, (m t).ok → ∀ η : EnvD, LeD ks η → f η (t.src i) = some ((m t).val.1, (m t).val.2.src i)
instance {i : Nat} {f : M (Option Int)} {ks : EnvD} {m : SM (Option Int)} : CoeFun (EOS i f ks m) (fun _ => ∀ t : Sc, (m t).ok → ∀ η : EnvD, LeD ks η → f η (t.src i) = some ((m t).val.1, (m t).val.2.src i)) := ⟨EOS.run⟩
def CS0 (o : MS) (r : β → D) (h : SM β) : Prop := ∀ t : Sc, (h t).ok → o [] (t.src 0) = some (r (h t).val.1, (h t).val.2.src 0)
def CS1 (o : MS) (a : α → D) (r : β → D) (h : α → SM β) : Prop := ∀ x (t : Sc), (h x t).ok → o [a x] (t.src 0) = some (r (h x t).val.1, (h x t).val.2.src 0)
def CS2 (o : MS) (a : α → D) (b : β → D) (r : γ → D) (h : α → β → SM γ) : Prop := ∀ x y (t : Sc), (h x y t).ok → o [a x, b y] (t.src 0) = some (r (h x y t).val.1, (h x y t).val.2.src 0)
def CS3 (o : MS) (a : α → D) (b : β → D) (c : γ → D) (r : δ → D) (h : α → β → γ → SM δ) : Prop := ∀ x y z (t : Sc), (h x y z t).ok → o [a x, b y, c z] (t.src 0) = some (r (h x y z t).val.1, (h x y z t).val.2.src 0)
def CS4 (o : MS) (a : α → D) (b : β → D) (c : γ → D) (d : δ → D) (r : ε → D) (h : α → β → γ → δ → SM ε) : Prop := ∀ x y z u (t : Sc), (h x y z u t).ok → o [a x, b y, c z, d u] (t.src 0) = some (r (h x y z u t).val.1, (h x y z u t).val.2.src 0)
end

section
variable {α β γ δ ε : Type} {i : Nat} {f g u v w : M D} {ks : EnvD} {ea : α → D} {eb : β → D} {ec : γ → D} {ed : δ → D} {ee : ε → D} {ma : SM α} {mb : SM β} {mc : SM γ} {md : SM δ}
theorem ES_l {m : Tm α} (h : E f ks ea m) : ES i f ks ea (.lift m) := .mk fun t k η l => h k η _ l
theorem ETS_l {p : M Bool} {m : Tm Bool} (h : ET p ks m) : ETS i p ks (.lift m) := .mk fun t k η l => h k η _ l
theorem ENS_l {G : M (List D)} {m : Tm (List α)} (h : EN G ks ea m) : ENS i G ks ea (.lift m) := .mk fun t k η l => h k η _ l
theorem EOS_l {p : M (Option Int)} {m : Tm (Option Int)} (h : EO p ks m) : EOS i p ks (.lift m) := .mk fun t k η l => h k η _ l
theorem ES_op1 {o : D → Option D} {h : α → Tm β} (ho : O1 o ea eb h) (hf : ES i f ks ea ma) : ES i (mOp1 o f) ks eb (.o1 h ma) := .mk fun t k η l =>
  (bindE (hf t k.1 η l)).trans (liftE (ho _ k.2))
theorem ES_op2 {o : D → D → Option D} {h : α → β → Tm γ} (ho : O2 o ea eb ec h) (hf : ES i f ks ea ma) (hg : ES i g ks eb mb) : ES i (mOp2 o f g) ks ec (.o2 h ma mb) := .mk fun t k η l =>
  (bindE (hf t k.1 η l)).trans ((bindE (hg _ k.2.1 η l)).trans (liftE (ho _ _ k.2.2)))
theorem callGS {o : List D → Option D} {G : M (List D)} {η : EnvD} {τ τ1 : Src} {ds : List D} {r : D} (hG : G η τ = some (ds, τ1)) (ho : o ds = some r) : mOpL o G η τ = some (r, τ1) :=
  (bindE hG).trans (liftE ho)
theorem ES_c1 {o : List D → Option D} {h : α → Tm β} (ho : C1 o ea eb h) (hf : ES i f ks ea ma) : ES i (mOpL o (mCons f mNil)) ks eb (.o1 h ma) := .mk fun t k η l =>
  callGS (consG (hf t k.1 η l) nilG) (ho _ k.2)
theorem ES_c2 {o : List D → Option D} {h : α → β → Tm γ} (ho : C2 o ea eb ec h) (hf : ES i f ks ea ma) (hg : ES i g ks eb mb) : ES i (mOpL o (mCons f (mCons g mNil))) ks ec (.o2 h ma mb) := .mk fun t k η l =>
  callGS (consG (hf t k.1 η l) (consG (hg _ k.2.1 η l) nilG)) (ho _ _ k.2.2)
theorem ES_c3 {o : List D → Option D} {h : α → β → γ → Tm δ} (ho : C3 o ea eb ec ed h) (hf : ES i f ks ea ma) (hg : ES i g ks eb mb) (hu : ES i u ks ec mc) : ES i (mOpL o (mCons f (mCons g (mCons u mNil)))) ks ed (.o3 h ma mb mc) := .mk fun t k η l =>
  callGS (consG (hf t k.1 η l) (consG (hg _ k.2.1 η l) (consG (hu _ k.2.2.1 η l) nilG))) (ho _ _ _ k.2.2.2)
theorem ES_c4 {o : List D → Option D} {h : α → β → γ → δ → Tm ε} (ho : C4 o ea eb ec ed ee h) (hf : ES i f ks ea ma) (hg : ES i g ks eb mb) (hu : ES i u ks ec mc) (hv : ES i v ks ed md) : ES i (mOpL o (mCons f (mCons g (mCons u (mCons v mNil))))) ks ee (.o4 h ma mb mc md) := .mk fun t k η l =>
  callGS (consG (hf t k.1 η l) (consG (hg _ k.2.1 η l) (consG (hu _ k.2.2.1 η l) (consG (hv _ k.2.2.2.1 η l) nilG)))) (ho _ _ _ _ k.2.2.2.2)
/-! calls with the source -/
theorem callS_of {o : MS} {G : M (List D)} {η : EnvD} {t t1 t2 : Sc} {ds : List D} {r : D} (hG : G η (t.src i) = some (ds, t1.src i)) (ho : o ds (t1.src 0) = some (r, t2.src 0)) : mCallS i o G η (t.src i) = some (r, t2.src i) := by
  unfold mCallS
  have hs : (t.src i).slot = some i := rfl
  rw [if_pos hs]
  refine (bindE hG).trans ?_
  unfold callS
  show (match o ds (t1.src 0) with | some (d, τ') => some (d, { τ' with slot := some i }) | none => none) = _
  rw [ho]; rfl
theorem ES_s0 {o : MS} {h : SM β} (ho : CS0 o eb h) : ES i (mCallS i o mNil) ks eb (.s0 h) := .mk fun t k η l => callS_of nilG (ho t k)
theorem ES_s1 {o : MS} {h : α → SM β} (ho : CS1 o ea eb h) (hf : ES i f ks ea ma) : ES i (mCallS i o (mCons f mNil)) ks eb (.s1 h ma) := .mk fun t k η l =>
  callS_of (consG (hf t k.1 η l) nilG) (ho _ _ k.2)
theorem ES_s2 {o : MS} {h : α → β → SM γ} (ho : CS2 o ea eb ec h) (hf : ES i f ks ea ma) (hg : ES i g ks eb mb) : ES i (mCallS i o (mCons f (mCons g mNil))) ks ec (.s2 h ma mb) := .mk fun t k η l =>
  callS_of (consG (hf t k.1 η l) (consG (hg _ k.2.1 η l) nilG)) (ho _ _ _ k.2.2)
theorem ES_s3 {o : MS} {h : α → β → γ → SM δ} (ho : CS3 o ea eb ec ed h) (hf : ES i f ks ea ma) (hg : ES i g ks eb mb) (hu : ES i u ks ec mc) : ES i (mCallS i o (mCons f (mCons g (mCons u mNil)))) ks ed (.s3 h ma mb mc) := .mk fun t k η l =>
  callS_of (consG (hf t k.1 η l) (consG (hg _ k.2.1 η l) (consG (hu _ k.2.2.1 η l) nilG))) (ho _ _ _ _ k.2.2.2)
theorem ES_s4 {o : MS} {h : α → β → γ → δ → SM ε} (ho : CS4 o ea eb ec ed ee h) (hf : ES i f ks ea ma) (hg : ES i g ks eb mb) (hu : ES i u ks ec mc) (hv : ES i v ks ed md) : ES i (mCallS i o (mCons f (mCons g (mCons u (mCons v mNil))))) ks ee (.s4 h ma mb mc md) := .mk fun t k η l =>
  callS_of (consG (hf t k.1 η l) (consG (hg _ k.2.1 η l) (consG (hu _ k.2.2.1 η l) (consG (hv _ k.2.2.2.1 η l) nilG)))) (ho _ _ _ _ _ k.2.2.2.2)
/-! coercions -/
theorem ES_mp {e' : β → D} {h : α → β} (hf : ES i f ks ea ma) (he : ∀ a, ea a = e' (h a)) : ES i f ks e' (.mp h ma) := .mk fun t k η l => by rw [hf t k.1 η l, he]; rfl
theorem ES_some (hf : ES i f ks ea ma) : ES i f ks (eO ea) (.mp some ma) := ES_mp hf fun _ => rfl
theorem ES_toD (hf : ES i f ks ea ma) : ES i f ks eD (.mp ea ma) := ES_mp hf fun _ => rfl
theorem ES_21 {mp : SM (α × β)} (hf : ES i f ks (e2 ea eb) mp) : ES i (mOp2 dIx f (mPure (.int 0))) ks ea (.mp (fun p => p.1) mp) := .mk fun t k η l => ixG (hf t k.1 η l) rfl
theorem ES_22 {mp : SM (α × β)} (hf : ES i f ks (e2 ea eb) mp) : ES i (mOp2 dIx f (mPure (.int 1))) ks eb (.mp (fun p => p.2) mp) := .mk fun t k η l => ixG (hf t k.1 η l) rfl
/-! tests -/
theorem ETS_bool {m : SM Bool} (h : ES i f ks eB m) : ETS i (mBool f) ks m := .mk fun t k η l => (bindE (h t k η l)).trans rfl
section
variable {p q : M Bool} {mp mq : SM Bool}
theorem ETS_and (hp : ETS i p ks mp) (hq : ETS i q ks mq) : ETS i (mAnd p q) ks (.and mp mq) := .mk fun t k η l => by
  refine (bindE (hp t k.1 η l)).trans ?_
  have k2 := k.2
  show (if (mp t).val.1 = true then q else mPure false) η _ = some (((if (mp t).val.1 = true then mq else SM.pure false) (mp t).val.2).val.1, ((if (mp t).val.1 = true then mq else SM.pure false) (mp t).val.2).val.2.src i)
  cases h : (mp t).val.1 with
  | true => rw [h] at k2; exact hq _ k2 η l
  | false => rfl
theorem ETS_or (hp : ETS i p ks mp) (hq : ETS i q ks mq) : ETS i (mOr p q) ks (.or mp mq) := .mk fun t k η l => by
  refine (bindE (hp t k.1 η l)).trans ?_
  have k2 := k.2
  show (if (mp t).val.1 = true then mPure true else q) η _ = some (((if (mp t).val.1 = true then SM.pure true else mq) (mp t).val.2).val.1, ((if (mp t).val.1 = true then SM.pure true else mq) (mp t).val.2).val.2.src i)
  cases h : (mp t).val.1 with
  | false => rw [h] at k2; exact hq _ k2 η l
  | true => rfl
theorem ETS_not (hp : ETS i p ks mp) : ETS i (mNot p) ks (.not mp) := .mk fun t k η l => (bindE (hp t k.1 η l)).trans rfl
theorem ES_if {ma' : SM α} (hc : ETS i p ks mp) (hf : ES i f ks ea ma) (hg : ES i g ks ea ma') : ES i (mIf p f g) ks ea (.ite mp ma ma') := .mk fun t k η l => by
  refine (bindE (hc t k.1 η l)).trans ?_
  have k2 := k.2
  show (if (mp t).val.1 = true then f else g) η _ = some (ea ((if (mp t).val.1 = true then ma else ma') (mp t).val.2).val.1, ((if (mp t).val.1 = true then ma else ma') (mp t).val.2).val.2.src i)
  cases h : (mp t).val.1 with
  | true => rw [h] at k2; exact hf _ k2 η l
  | false => rw [h] at k2; exact hg _ k2 η l
end
/-! displays -/
theorem ES_t1 (hf : ES i f ks ea ma) : ES i (mTup (mCons f mNil)) ks (e1 ea) ma := .mk fun t k η l => tupG (consG (hf t k η l) nilG) (by simp)
theorem ES_t2 (hf : ES i f ks ea ma) (hg : ES i g ks eb mb) : ES i (mTup (mCons f (mCons g mNil))) ks (e2 ea eb) (.o2 tPair ma mb) := .mk fun t k η l => tupG (consG (hf t k.1 η l) (consG (hg _ k.2.1 η l) nilG)) (by simp)
theorem ES_t3 (hf : ES i f ks ea ma) (hg : ES i g ks eb mb) (hu : ES i u ks ec mc) : ES i (mTup (mCons f (mCons g (mCons u mNil)))) ks (e3 ea eb ec) (.o3 tTrip ma mb mc) := .mk fun t k η l => tupG (consG (hf t k.1 η l) (consG (hg _ k.2.1 η l) (consG (hu _ k.2.2.1 η l) nilG))) (by simp)
section
variable {G : M (List D)} {ms mr : SM (List α)}
theorem ENS_cons (hf : ES i f ks ea ma) (hG : ENS i G ks ea ms) : ENS i (mCons f G) ks ea (.cons ma ms) := .mk fun t k η l => consG (hf t k.1 η l) (hG _ k.2.1 η l)
theorem ENS_starT (hf : ES i f ks (eT ea) ms) (hG : ENS i G ks ea mr) : ENS i (mStar f G) ks ea (.app ms mr) := .mk fun t k η l => by
  rw [starG (hf t k.1 η l) rfl (hG _ k.2.1 η l), ← List.map_append]; rfl
theorem ES_tN (hG : ENS i G ks ea ms) : ES i (mTup G) ks (eT ea) (.lim ms) := .mk fun t k η l => tupG (hG t k.1 η l) (by rw [List.length_map]; exact k.2)
theorem ENS_lst (hG : ENS i G ks ea ms) : ENS i (mLst G) ks ea (.lim ms) := .mk fun t k η l =>
  (bindE (hG t k.1 η l)).trans (liftE (okLen_of (by rw [List.length_map]; exact k.2)))
theorem ES_ofN (hG : ENS i G ks ea ms) : ES i (mOfN G) ks (eL ea) ms := .mk fun t k η l => (bindE (hG t k η l)).trans rfl
theorem ENS_itemsT (hf : ES i f ks (eT ea) ms) : ENS i (mItems f) ks ea ms := .mk fun t k η l => (bindE (hf t k η l)).trans rfl
theorem ENS_itemsL (hf : ES i f ks (eL ea) ms) : ENS i (mItems f) ks ea ms := .mk fun t k η l => (bindE (hf t k η l)).trans rfl
theorem ENS_listT (hf : ES i f ks (eT ea) ms) : ENS i (mListOf f) ks ea ms := .mk fun t k η l => (bindE (hf t k η l)).trans rfl
theorem ENS_listL (hf : ES i f ks (eL ea) ms) : ENS i (mListOf f) ks ea ms := .mk fun t k η l => (bindE (hf t k η l)).trans rfl
theorem ENS_toD (h : ENS i G ks ea ms) : ENS i G ks eD (.mp (List.map ea) ms) := .mk fun t k η l => by rw [h t k.1 η l]; show _ = some (((ms t).val.1.map ea).map eD, _); rw [map_eD]; rfl
theorem ENS_cat {F : M D} {mn : SM (List α)} (hf : ES i f ks (eL ea) ms) (hg : ES i F ks (eL ea) mn) : ENS i (mCatN f F) ks ea (.o2 tCat ms mn) := .mk fun t k η l => by
  have h' : (ms t).val.1.length + (mn (ms t).val.2).val.1.length ≤ 2 ^ 24 := k.2.2
  refine (bindE (hf t k.1 η l)).trans ((bindE (liftE (r := (ms t).val.1.map ea) rfl)).trans ((bindE (hg _ k.2.1 η l)).trans (liftE ?_)))
  show okLen ((ms t).val.1.map ea ++ (mn (ms t).val.2).val.1.map ea) = _
  rw [← List.map_append, okLen_of (by rw [List.length_map, List.length_append]; exact h')]; rfl
theorem ENS_sort {m : SM (List Int)} (hf : ES i f ks (eL eI) m) : ENS i (mSort f) ks eI (.o1 tSort m) := .mk fun t k η l =>
  (bindE (hf t k.1 η l)).trans (liftE (dSortI_ints k.2))
end
theorem ENS_rg1 {m : SM Int} (h : ES i f ks eI m) : ENS i (mRange1 f) ks eI (.o1 (tRg 0) m) := .mk fun t k η l =>
  (bindE (h t k.1 η l)).trans (liftE (rangeD_ok k.2))
theorem ENS_rg2 {m n : SM Int} (h : ES i f ks eI m) (h2 : ES i g ks eI n) : ENS i (mRange2 f g) ks eI (.o2 tRg m n) := .mk fun t k η l =>
  (bindE (h t k.1 η l)).trans ((bindE (h2 _ k.2.1 η l)).trans (liftE (rangeD_ok k.2.2)))
theorem EOS_some {m : SM Int} (h : ES i f ks eI m) : EOS i (mPart f) ks (.mp some m) := .mk fun t k η l => (bindE (h t k.1 η l)).trans rfl
section
variable {lo hi : M (Option Int)} {ml mh : SM (Option Int)} {ms : SM (List α)}
theorem ES_slcT (hf : ES i f ks (eT ea) ms) (hl : EOS i lo ks ml) (hh : EOS i hi ks mh) : ES i (mSlice f lo hi) ks (eT ea) (.o3 tSlc ms ml mh) := .mk fun t k η l =>
  sliceG (hf t k.1 η l) (hl _ k.2.1 η l) (hh _ k.2.2.1 η l) (by show some (PyData.tuple (cutD ((ms t).val.1.map ea) _ _)) = _; rw [slc_map]; rfl)
theorem ES_slcL (hf : ES i f ks (eL ea) ms) (hl : EOS i lo ks ml) (hh : EOS i hi ks mh) : ES i (mSlice f lo hi) ks (eL ea) (.o3 tSlc ms ml mh) := .mk fun t k η l =>
  sliceG (hf t k.1 η l) (hl _ k.2.1 η l) (hh _ k.2.2.1 η l) (by show some (PyData.list (cutD ((ms t).val.1.map ea) _ _)) = _; rw [slc_map]; rfl)
end
/-! comprehensions -/
section
variable {fi : M (List D)} {vs : List Nat} {b : Tgt} {tt : M Bool} {te : M D} {ms : SM (List α)} {as : α → List (Nat × D)}
theorem compGoA {η : EnvD} {q : α → SM β} (hb : ∀ x, bindT b (ea x) = some (as x)) (he : ∀ x, ES i te (DL.setD η (as x)) eb (q x)) : ∀ (xs : List α) (t : Sc), (SM.amapGo q xs t).ok →
    ∀ η', LeD η η' → compGo b mTrue te η' (xs.map ea) (t.src i) = some ((SM.amapGo q xs t).val.1.map eb, (SM.amapGo q xs t).val.2.src i)
  | [], t, _, η', _ => rfl
  | x :: xs, t, k, η', l => by
    have h1 := he x t k.1 _ (l.setD (as x))
    have ih := compGoA hb he xs _ k.2.1 η' l
    have ht : mTrue (DL.setD η' (as x)) (t.src i) = some (true, t.src i) := rfl
    simp only [List.map_cons, compGo, hb, ht, h1, ih]
    rfl
theorem ENS_compA {q : α → SM β} (hi : ENS i fi ks ea ms) (hb : ∀ x, bindT b (ea x) = some (as x)) (he : ∀ x, ES i te (DL.setD (wipeD ks vs) (as x)) eb (q x)) : ENS i (mComp fi vs b mTrue te) ks eb (.amap ms q) := .mk fun t k η l =>
  (bindE (hi t k.1 η l)).trans (compGoA hb he _ _ k.2 _ (l.wipe vs))
theorem compGoF {η : EnvD} {p : α → SM Bool} {q : α → SM β} (hb : ∀ x, bindT b (ea x) = some (as x)) (ht : ∀ x, ETS i tt (DL.setD η (as x)) (p x)) (he : ∀ x, ES i te (DL.setD η (as x)) eb (q x)) : ∀ (xs : List α) (t : Sc), (SM.fmapGo p q xs t).ok →
    ∀ η', LeD η η' → compGo b tt te η' (xs.map ea) (t.src i) = some ((SM.fmapGo p q xs t).val.1.map eb, (SM.fmapGo p q xs t).val.2.src i)
  | [], t, _, η', _ => rfl
  | x :: xs, t, k, η', l => by
    have h0 := ht x t k.1 _ (l.setD (as x))
    have k2 := k.2
    have e : SM.fmapGo p q (x :: xs) t = SM.bind (p x) (fun b => if b = true then SM.bind (q x) fun y => SM.bind (SM.fmapGo p q xs) fun ys => SM.pure (y :: ys) else SM.fmapGo p q xs) t := rfl
    rw [e]
    show compGo b tt te η' (ea x :: xs.map ea) (t.src i) = some (((if (p x t).val.1 = true then SM.bind (q x) fun y => SM.bind (SM.fmapGo p q xs) fun ys => SM.pure (y :: ys) else SM.fmapGo p q xs) (p x t).val.2).val.1.map eb, ((if (p x t).val.1 = true then SM.bind (q x) fun y => SM.bind (SM.fmapGo p q xs) fun ys => SM.pure (y :: ys) else SM.fmapGo p q xs) (p x t).val.2).val.2.src i)
    cases h : (p x t).val.1 with
    | false =>
      rw [h] at k2 h0
      have ih := compGoF hb ht he xs _ k2 η' l
      simp only [compGo, hb, h0, ih]
      rfl
    | true =>
      rw [h] at k2 h0
      have h1 := he x _ k2.1 _ (l.setD (as x))
      have ih := compGoF hb ht he xs _ k2.2.1 η' l
      simp only [compGo, hb, h0, h1, ih]
      rfl
theorem ENS_comp {p : α → SM Bool} {q : α → SM β} (hi : ENS i fi ks ea ms) (hb : ∀ x, bindT b (ea x) = some (as x)) (ht : ∀ x, ETS i tt (DL.setD (wipeD ks vs) (as x)) (p x)) (he : ∀ x, ES i te (DL.setD (wipeD ks vs) (as x)) eb (q x)) : ENS i (mComp fi vs b tt te) ks eb (.fmap ms p q) := .mk fun t k η l =>
  (bindE (hi t k.1 η l)).trans (compGoF hb ht he _ _ k.2 _ (l.wipe vs))
end
end

/-! ### statements -/
section
variable {α β γ δ σ σ1 σ2 : Type} {e ea : α → D} {eb : β → D} {ec : γ → D}
structure DNS (i : Nat) (g : Stm) (κ : List Kn) (K : σ → List Kn) (m : SM σ) : Prop where
  run : ∀ t : Sc, (m t).ok → ∀ ρ : EnvS, Fits κ ρ → ∃ ρ', Fits (K (m t).val.1) ρ' ∧ g ρ (t.src i) = some (.nx, ρ', (m t).val.2.src i)
instance {i : Nat} {g : Stm} {κ : List Kn} {K : σ → List Kn} {m : SM σ} : CoeFun (DNS i g κ K m) (fun _ => ∀ t : Sc, (m t).ok → ∀ ρ : EnvS, Fits κ ρ → ∃ ρ', Fits (K (m t).val.1) ρ' ∧ g ρ (t.src i) = some (.nx, ρ', (m t).val.2.src i)) := ⟨DNS.run⟩
structure DRS (i : Nat) (g : Stm) (κ : List Kn) (e : δ → D) (m : SM δ) : Prop where
  run : ∀ t : Sc, (m t).ok → ∀ ρ : EnvS, Fits κ ρ → ∃ ρ', g ρ (t.src i) = some (.rt (e (m t).val.1), ρ', (m t).val.2.src i)
instance {i : Nat} {g : Stm} {κ : List Kn} {e : δ → D} {m : SM δ} : CoeFun (DRS i g κ e m) (fun _ => ∀ t : Sc, (m t).ok → ∀ ρ : EnvS, Fits κ ρ → ∃ ρ', g ρ (t.src i) = some (.rt (e (m t).val.1), ρ', (m t).val.2.src i)) := ⟨DRS.run⟩
def EndsS (w : Option (Out × EnvS × Src)) (τ : Src) (K : σ → List Kn) (e : δ → D) : Rs σ δ → Prop
  | .nx s => ∃ ρ', Fits (K s) ρ' ∧ w = some (.nx, ρ', τ)
  | .ct s => ∃ ρ', Fits (K s) ρ' ∧ w = some (.ct, ρ', τ)
  | .bk s => ∃ ρ', Fits (K s) ρ' ∧ w = some (.bk, ρ', τ)
  | .rt d => ∃ ρ', w = some (.rt (e d), ρ', τ)
structure DBS (i : Nat) (g : Stm) (κ : List Kn) (K : σ → List Kn) (e : δ → D) (m : SM (Rs σ δ)) : Prop where
  run : ∀ t : Sc, (m t).ok → ∀ ρ : EnvS, Fits κ ρ → EndsS (g ρ (t.src i)) ((m t).val.2.src i) K e (m t).val.1
instance {i : Nat} {g : Stm} {κ : List Kn} {K : σ → List Kn} {e : δ → D} {m : SM (Rs σ δ)} : CoeFun (DBS i g κ K e m) (fun _ => ∀ t : Sc, (m t).ok → ∀ ρ : EnvS, Fits κ ρ → EndsS (g ρ (t.src i)) ((m t).val.2.src i) K e (m t).val.1) := ⟨DBS.run⟩
structure DLS (i : Nat) (g : Stm) (κ : List Kn) (K : σ → List Kn) (e : δ → D) (m : SM (Lp σ δ)) : Prop where
  run : ∀ t : Sc, (m t).ok → ∀ ρ : EnvS, Fits κ ρ → EndL (g ρ (t.src i)) ((m t).val.2.src i) K e (m t).val.1
instance {i : Nat} {g : Stm} {κ : List Kn} {K : σ → List Kn} {e : δ → D} {m : SM (Lp σ δ)} : CoeFun (DLS i g κ K e m) (fun _ => ∀ t : Sc, (m t).ok → ∀ ρ : EnvS, Fits κ ρ → EndL (g ρ (t.src i)) ((m t).val.2.src i) K e (m t).val.1) := ⟨DLS.run⟩
end
section
variable {α β γ δ ε σ : Type} {e ea : α → D} {eb : β → D} {ec : γ → D} {ed : δ → D} {κ : List Kn} {i j j2 l n : Nat} {f g : M D} {G : M (List D)} {m : SM α} {ms : SM (List α)}
theorem setG {b : Bool} {ρ : EnvS} {τ τ1 : Src} {d : D} (h : f (view b ρ) τ = some (d, τ1)) (h1 : okSet ρ j = true) (h2 : okD b d = true) : mSet b j f ρ τ = some (.nx, ρ.set j (.dat d), τ1) := by
  unfold mSet
  rw [h]
  simp only [h1, h2, Bool.and_self, if_true]
theorem setNG {b : Bool} {ρ : EnvS} {τ τ1 : Src} {d : List D} (h : G (view b ρ) τ = some (d, τ1)) (h1 : okSet ρ j = true) (h2 : okA b d = true) : mSetN b j G ρ τ = some (.nx, ρ.set j (.own (.list d)), τ1) := by
  unfold mSetN
  rw [h]
  simp only [h1, h2, Bool.and_self, if_true]
theorem DNS_set0 (h : ES i f (vw false κ) e m) (hs : kSet κ j = true) : DNS i (mSet false j f) κ (fun x => κ.set j (.is (.dat (e x)))) m := .mk fun t k ρ F =>
  ⟨_, F.set j _, setG (h t k _ (F.view false)) (F.okSet hs) rfl⟩
theorem DNS_set1 (h : ES i f (vw true κ) e m) (hp : PuE e) (hs : kSet κ j = true) : DNS i (mSet true j f) κ (fun x => κ.set j (.is (.dat (e x)))) m := .mk fun t k ρ F =>
  ⟨_, F.set j _, setG (h t k _ (F.view true)) (F.okSet hs) (hp.ok _)⟩
theorem DNS_set1D {m : SM D} (h : ES i f (vw true κ) eD m) (hs : kSet κ j = true) : DNS i (mSet true j f) κ (fun x => κ.set j (.is (.dat (eD x)))) (.bind m fun d => .lift ⟨pureD d = true, d⟩) := .mk fun t k ρ F =>
  ⟨_, F.set j _, setG (h t k.1 _ (F.view true)) (F.okSet hs) (show (!true || pureD (m t).val.1) = true from by rw [show pureD (m t).val.1 = true from k.2]; rfl)⟩
theorem DNS_setN0 (h : ENS i G (vw false κ) e ms) (hs : kSet κ j = true) : DNS i (mSetN false j G) κ (fun x => κ.set j (.is (.own (eL e x)))) ms := .mk fun t k ρ F =>
  ⟨_, F.set j _, setNG (h t k _ (F.view false)) (F.okSet hs) rfl⟩
theorem DNS_setN1 (h : ENS i G (vw true κ) e ms) (hp : PuE e) (hs : kSet κ j = true) : DNS i (mSetN true j G) κ (fun x => κ.set j (.is (.own (eL e x)))) ms := .mk fun t k ρ F =>
  ⟨_, F.set j _, setNG (h t k _ (F.view true)) (F.okSet hs) (hp.okA _)⟩
theorem DNS_app0 {xs : List α} (h : ES i f (vw false κ) e m) (hx : κ[j]? = some (.is (.own (eL e xs)))) : DNS i (mApp false j f) κ (fun x => κ.set j (.is (.own (eL e x)))) (.o1 (tApp xs) m) := .mk fun t k ρ F =>
  ⟨_, F.set j _, by rw [appG (h t k.1 _ (F.view false)) (F.get hx) rfl (by rw [List.length_map]; exact k.2)]; show _ = some (Out.nx, ρ.set j (.own (.list ((xs ++ [(m t).val.1]).map e))), _); rw [List.map_append]; rfl⟩
theorem DNS_app1 {xs : List α} (h : ES i f (vw true κ) e m) (hp : PuE e) (hx : κ[j]? = some (.is (.own (eL e xs)))) : DNS i (mApp true j f) κ (fun x => κ.set j (.is (.own (eL e x)))) (.o1 (tApp xs) m) := .mk fun t k ρ F =>
  ⟨_, F.set j _, by rw [appG (h t k.1 _ (F.view true)) (F.get hx) (hp.ok _) (by rw [List.length_map]; exact k.2)]; show _ = some (Out.nx, ρ.set j (.own (.list ((xs ++ [(m t).val.1]).map e))), _); rw [List.map_append]; rfl⟩
theorem DNS_put0 {xs : List α} {mi : SM Int} (h : ES i f (vw false κ) e m) (h2 : ES i g (vw false κ) eI mi) (hx : κ[j]? = some (.is (.own (eL e xs)))) : DNS i (mSetIx false j f g) κ (fun x => κ.set j (.is (.own (eL e x)))) (.o2 (tPut xs) m mi) := .mk fun t k ρ F => by
  obtain ⟨r, hr⟩ := ixN_some k.2.2
  refine ⟨_, F.set j _, ?_⟩
  rw [putG (h t k.1 _ (F.view false)) (h2 _ k.2.1 _ (F.view false)) (F.get hx) rfl (by rw [List.length_map]; exact hr)]
  show _ = some (Out.nx, ρ.set j (.own (.list ((putIx xs (mi (m t).val.2).val.1 (m t).val.1).map e))), _)
  unfold putIx
  rw [hr, ← List.map_set]; rfl
theorem DNS_put1 {xs : List α} {mi : SM Int} (h : ES i f (vw true κ) e m) (h2 : ES i g (vw true κ) eI mi) (hp : PuE e) (hx : κ[j]? = some (.is (.own (eL e xs)))) : DNS i (mSetIx true j f g) κ (fun x => κ.set j (.is (.own (eL e x)))) (.o2 (tPut xs) m mi) := .mk fun t k ρ F => by
  obtain ⟨r, hr⟩ := ixN_some k.2.2
  refine ⟨_, F.set j _, ?_⟩
  rw [putG (h t k.1 _ (F.view true)) (h2 _ k.2.1 _ (F.view true)) (F.get hx) (hp.ok _) (by rw [List.length_map]; exact hr)]
  show _ = some (Out.nx, ρ.set j (.own (.list ((putIx xs (mi (m t).val.2).val.1 (m t).val.1).map e))), _)
  unfold putIx
  rw [hr, ← List.map_set]; rfl
structure EES (i : Nat) (X : M (List Sl) → M (List Sl)) (ks : EnvD) (s : α → Sl) (m : SM α) : Prop where
  run : ∀ t : Sc, (m t).ok → ∀ (η : EnvD), LeD ks η → ∀ (R : M (List Sl)) (r : List Sl) (τ2 : Src), R η ((m t).val.2.src i) = some (r, τ2) → X R η (t.src i) = some (s (m t).val.1 :: r, τ2)
instance {i : Nat} {X : M (List Sl) → M (List Sl)} {ks : EnvD} {s : α → Sl} {m : SM α} : CoeFun (EES i X ks s m) (fun _ => ∀ t : Sc, (m t).ok → ∀ (η : EnvD), LeD ks η → ∀ (R : M (List Sl)) (r : List Sl) (τ2 : Src), R η ((m t).val.2.src i) = some (r, τ2) → X R η (t.src i) = some (s (m t).val.1 :: r, τ2)) := ⟨EES.run⟩
theorem EES_dat {ks : EnvD} (h : ES i f ks e m) : EES i (mVDat f) ks (fun x => .dat (e x)) m := .mk fun t k η l R r τ2 hr => (bindE (h t k η l)).trans (bindE hr)
theorem EES_own {ks : EnvD} (h : ENS i G ks e ms) : EES i (mVOwn G) ks (fun x => .own (eL e x)) ms := .mk fun t k η l R r τ2 hr => (bindE (h t k η l)).trans (bindE hr)
theorem DNS_par2 {b : Bool} {X Y : M (List Sl) → M (List Sl)} {sa : α → Sl} {sb : β → Sl} {mb : SM β} (h : EES i X (vw b κ) sa m) (h2 : EES i Y (vw b κ) sb mb) (oa : OkS b sa) (ob : OkS b sb) (hi : kSet κ j = true) (hj : kSet κ j2 = true) :
    DNS i (mPar b [j, j2] (X (Y mVNil))) κ (fun p => (κ.set j (.is (sa p.1))).set j2 (.is (sb p.2))) (.o2 tPair m mb) := .mk fun t k ρ F =>
  ⟨_, (F.set j (sa (m t).val.1)).set j2 (sb (mb (m t).val.2).val.1), parG (h t k.1 _ (F.view b) _ _ _ (h2 _ k.2.1 _ (F.view b) _ _ _ rfl)) (by show (okSet ρ j && (okSet ρ j2 && true)) = true; rw [F.okSet hi, F.okSet hj]; rfl) (okV_cons (oa _) (ob _)) rfl⟩
theorem DNS_par3 {b : Bool} {X Y Z : M (List Sl) → M (List Sl)} {sa : α → Sl} {sb : β → Sl} {sc : γ → Sl} {mb : SM β} {mc : SM γ} (h : EES i X (vw b κ) sa m) (h2 : EES i Y (vw b κ) sb mb) (h3 : EES i Z (vw b κ) sc mc) (oa : OkS b sa) (ob : OkS b sb) (oc : OkS b sc) (hi : kSet κ j = true) (hj : kSet κ j2 = true) (hl : kSet κ l = true) :
    DNS i (mPar b [j, j2, l] (X (Y (Z mVNil)))) κ (fun p => ((κ.set j (.is (sa p.1))).set j2 (.is (sb p.2.1))).set l (.is (sc p.2.2))) (.o3 tTrip m mb mc) := .mk fun t k ρ F =>
  ⟨_, ((F.set j (sa _)).set j2 (sb _)).set l (sc _), parG (h t k.1 _ (F.view b) _ _ _ (h2 _ k.2.1 _ (F.view b) _ _ _ (h3 _ k.2.2.1 _ (F.view b) _ _ _ rfl))) (by show (okSet ρ j && (okSet ρ j2 && (okSet ρ l && true))) = true; rw [F.okSet hi, F.okSet hj, F.okSet hl]; rfl) (okV_cons (oa _) (okV_cons (ob _) (oc _))) rfl⟩
theorem DNS_par4 {b : Bool} {X Y Z U : M (List Sl) → M (List Sl)} {sa : α → Sl} {sb : β → Sl} {sc : γ → Sl} {sd : δ → Sl} {mb : SM β} {mc : SM γ} {md : SM δ} (h : EES i X (vw b κ) sa m) (h2 : EES i Y (vw b κ) sb mb) (h3 : EES i Z (vw b κ) sc mc) (h4 : EES i U (vw b κ) sd md) (oa : OkS b sa) (ob : OkS b sb) (oc : OkS b sc) (od : OkS b sd) (hi : kSet κ j = true) (hj : kSet κ j2 = true) (hl : kSet κ l = true) (hn : kSet κ n = true) :
    DNS i (mPar b [j, j2, l, n] (X (Y (Z (U mVNil))))) κ (fun p => (((κ.set j (.is (sa p.1))).set j2 (.is (sb p.2.1))).set l (.is (sc p.2.2.1))).set n (.is (sd p.2.2.2))) (.o4 tFour m mb mc md) := .mk fun t k ρ F =>
  ⟨_, (((F.set j (sa _)).set j2 (sb _)).set l (sc _)).set n (sd _), parG (h t k.1 _ (F.view b) _ _ _ (h2 _ k.2.1 _ (F.view b) _ _ _ (h3 _ k.2.2.1 _ (F.view b) _ _ _ (h4 _ k.2.2.2.1 _ (F.view b) _ _ _ rfl)))) (by show (okSet ρ j && (okSet ρ j2 && (okSet ρ l && (okSet ρ n && true)))) = true; rw [F.okSet hi, F.okSet hj, F.okSet hl, F.okSet hn]; rfl) (okV_cons (oa _) (okV_cons (ob _) (okV_cons (oc _) (od _)))) rfl⟩
theorem DNS_asg0 {b : Tgt} {as : α → List (Nat × D)} (h : ES i f (vw false κ) e m) (hb : ∀ x, bindT b (e x) = some (as x)) (hs : ∀ x, ((as x).all fun w => kSet κ w.1) = true) : DNS i (mAsgT false b f) κ (fun x => kSets κ (as x)) m := .mk fun t k ρ F => by
  refine ⟨_, F.sets (as (m t).val.1), ?_⟩
  rw [mAsgT_ev, h t k _ (F.view false)]
  simp only [hb, F.okSets (hs _), okD_F, Bool.and_self, if_true]
theorem DNS_asg1 {b : Tgt} {as : α → List (Nat × D)} (h : ES i f (vw true κ) e m) (hp : PuE e) (hb : ∀ x, bindT b (e x) = some (as x)) (hs : ∀ x, ((as x).all fun w => kSet κ w.1) = true) : DNS i (mAsgT true b f) κ (fun x => kSets κ (as x)) m := .mk fun t k ρ F => by
  refine ⟨_, F.sets (as (m t).val.1), ?_⟩
  rw [mAsgT_ev, h t k _ (F.view true)]
  simp only [hb, F.okSets (hs _), hp.ok, Bool.and_self, if_true]
end
section
variable {α δ σ σ1 : Type} {ea : α → D} {e : δ → D} {κ : List Kn} {K : σ → List Kn} {K1 : σ1 → List Kn} {g h r a b : Stm} {c : M Bool} {mc : SM Bool} {f : M D} {i j : Nat} {d : D}
/-- a statement that draws nothing -/
theorem DNS_l {m : Tm σ} (h : DN g κ K m) : DNS i g κ K (.lift m) := .mk fun t k ρ F => h k ρ _ F
theorem DNS_skip {s : σ} (h : KLe κ (K s)) : DNS i mSkip κ K (.pure s) := .mk fun t _ ρ F => ⟨ρ, F.le h, rfl⟩
theorem DNS_frz {m : SM σ} (hx : κ[j]? = some (.is (.own d))) (h : DNS i g (κ.set j (.is (.dat d))) K m) : DNS i (mFrz j g) κ K m := .mk fun t k ρ F => h t k (frz ρ j) (F.frz hx)
theorem DNS_frz' {m : SM σ} (hx : κ[j]? = some (.is (.dat d))) (h : DNS i g κ K m) : DNS i (mFrz j g) κ K m := .mk fun t k ρ F => h t k (frz ρ j) (F.frz' hx)
theorem DNS_seq {m : SM σ1} {k : σ1 → SM σ} (h1 : DNS i g κ K1 m) (h2 : ∀ s, DNS i h (K1 s) K (k s)) : DNS i (mSeq g h) κ K (m.bind k) := .mk fun t ok ρ F => by
  obtain ⟨ρ1, F1, e1⟩ := h1 t ok.1 ρ F
  obtain ⟨ρ2, F2, e2⟩ := h2 _ _ ok.2 ρ1 F1
  exact ⟨ρ2, F2, (seq_nx e1).trans e2⟩
theorem DNS_last {m : SM σ1} {w : σ1 → σ} (h1 : DNS i g κ K1 m) (h2 : ∀ s, KLe (K1 s) (K (w s))) : DNS i g κ K (m.bind fun s => .pure (w s)) := .mk fun t ok ρ F => by
  obtain ⟨ρ1, F1, e1⟩ := h1 t ok.1 ρ F
  exact ⟨ρ1, F1.le (h2 _), e1⟩
theorem DNS_if {m n : SM σ} (hc : ETS i c (vw true κ) mc) (h1 : DNS i g κ K m) (h2 : DNS i h κ K n) : DNS i (mIfS c g h) κ K (.ite mc m n) := .mk fun t ok ρ F => by
  have k2 := ok.2
  unfold mIfS
  rw [hc t ok.1 _ (F.view true)]
  show ∃ ρ', Fits (K ((if (mc t).val.1 = true then m else n) (mc t).val.2).val.1) ρ' ∧ (if (mc t).val.1 = true then g ρ _ else h ρ _) = some (.nx, ρ', ((if (mc t).val.1 = true then m else n) (mc t).val.2).val.2.src i)
  cases hv : (mc t).val.1 with
  | true => rw [hv] at k2; exact h1 _ k2 ρ F
  | false => rw [hv] at k2; exact h2 _ k2 ρ F
theorem for_foldS {tg : Tgt} {as : α → List (Nat × D)} {q : α → σ → SM σ} (hb : ∀ x, bindT tg (ea x) = some (as x)) (hs : ∀ x s, ((as x).all fun w => kSet (K s) w.1) = true) (hg : ∀ x s, DNS i g (kSets (K s) (as x)) K (q x s)) :
    ∀ (xs : List α) (s : σ) (t : Sc) (ρ : EnvS), (SM.foldGo q xs s t).ok → Fits (K s) ρ → ∃ ρ', Fits (K (SM.foldGo q xs s t).val.1) ρ' ∧ forGo tg g (xs.map ea) ρ (t.src i) = some (.nx, ρ', (SM.foldGo q xs s t).val.2.src i)
  | [], s, t, ρ, _, F => ⟨ρ, F, rfl⟩
  | x :: xs, s, t, ρ, ok, F => by
    obtain ⟨ρ1, F1, e1⟩ := hg x s t ok.1 _ (F.sets (as x))
    obtain ⟨ρ2, F2, e2⟩ := for_foldS hb hs hg xs _ _ ρ1 ok.2 F1
    refine ⟨ρ2, F2, ?_⟩
    simp only [List.map_cons, forGo, hb, F.okSets (hs x s), if_true, e1]
    exact e2
theorem DNS_for {tg : Tgt} {fi : M (List D)} {ms : SM (List α)} {s0 : σ} {as : α → List (Nat × D)} {q : α → σ → SM σ} (hi : ENS i fi (vw false κ) ea ms) (h0 : KLe κ (K s0)) (hb : ∀ x, bindT tg (ea x) = some (as x)) (hs : ∀ x s, ((as x).all fun w => kSet (K s) w.1) = true) (hg : ∀ x s, DNS i g (kSets (K s) (as x)) K (q x s)) :
    DNS i (mFor fi tg g) κ K (.fold ms s0 q) := .mk fun t ok ρ F => by
  obtain ⟨ρ', F', e'⟩ := for_foldS hb hs hg _ s0 _ ρ ok.2 (F.le h0)
  exact ⟨ρ', F', for_nx (hi t ok.1 _ (F.view false)) e'⟩
/-! a def's end -/
theorem DRS_seq {m : SM σ1} {k : σ1 → SM δ} (h1 : DNS i g κ K1 m) (h2 : ∀ s, DRS i h (K1 s) e (k s)) : DRS i (mSeq g h) κ e (m.bind k) := .mk fun t ok ρ F => by
  obtain ⟨ρ1, F1, e1⟩ := h1 t ok.1 ρ F
  obtain ⟨ρ2, e2⟩ := h2 _ _ ok.2 ρ1 F1
  exact ⟨ρ2, (seq_nx e1).trans e2⟩
theorem DRS_ret {m : SM δ} (hf : ES i f (vw true κ) e m) : DRS i (mRet f) κ e m := .mk fun t ok ρ F => ⟨ρ, by rw [mRet_ev, hf t ok _ (F.view true)]⟩
theorem DRS_cut {m : SM δ} (h1 : DRS i g κ e m) : DRS i (mSeq g h) κ e m := .mk fun t ok ρ F => by
  obtain ⟨ρ1, e1⟩ := h1 t ok ρ F
  exact ⟨ρ1, seq_rt e1⟩
theorem DRS_if {m n : SM δ} (hc : ETS i c (vw true κ) mc) (h1 : DRS i g κ e m) (h2 : DRS i h κ e n) : DRS i (mIfS c g h) κ e (.ite mc m n) := .mk fun t ok ρ F => by
  have k2 := ok.2
  unfold mIfS
  rw [hc t ok.1 _ (F.view true)]
  show ∃ ρ', (if (mc t).val.1 = true then g ρ _ else h ρ _) = some (Out.rt (e ((if (mc t).val.1 = true then m else n) (mc t).val.2).val.1), ρ', ((if (mc t).val.1 = true then m else n) (mc t).val.2).val.2.src i)
  cases hv : (mc t).val.1 with
  | true => rw [hv] at k2; exact h1 _ k2 ρ F
  | false => rw [hv] at k2; exact h2 _ k2 ρ F
theorem DRS_sif {m n : SM δ} (hc : ETS i c (vw true κ) mc) (h1 : DRS i (mSeq g r) κ e m) (h2 : DRS i (mSeq h r) κ e n) : DRS i (mSeq (mIfS c g h) r) κ e (.ite mc m n) := by
  rw [seq_if]; exact DRS_if hc h1 h2
theorem DRS_ass {m : SM δ} (h1 : DRS i (mSeq a (mSeq b r)) κ e m) : DRS i (mSeq (mSeq a b) r) κ e m := by rw [seq_assoc]; exact h1
theorem DRS_skp {m : SM δ} (h1 : DRS i r κ e m) : DRS i (mSeq mSkip r) κ e m := h1
theorem DRS_frz {m : SM δ} (hx : κ[j]? = some (.is (.own d))) (h : DRS i g (κ.set j (.is (.dat d))) e m) : DRS i (mFrz j g) κ e m := .mk fun t k ρ F => h t k (frz ρ j) (F.frz hx)
theorem DRS_loop {m : SM (Lp σ δ)} {k : σ → SM δ} (h1 : DLS i g κ K e m) (h2 : ∀ s, DRS i h (K s) e (k s)) : DRS i (mSeq g h) κ e (.lp m k .pure) := .mk fun t ok ρ F => by
  have a := h1 t ok.1 ρ F
  have o2 := ok.2
  have ee : SM.lp m k SM.pure t = (match (m t).val.1 with | .nx s => k s | .rt d => SM.pure d) (m t).val.2 ∨ True := .inr trivial
  show ∃ ρ', _ = some (Out.rt (e ((match (m t).val.1 with | .nx s => k s | .rt d => SM.pure d : SM δ) (m t).val.2).val.1), ρ', ((match (m t).val.1 with | .nx s => k s | .rt d => SM.pure d : SM δ) (m t).val.2).val.2.src i)
  cases hv : (m t).val.1 with
  | nx s =>
    rw [hv] at a o2
    obtain ⟨ρ1, F1, e1⟩ := a
    obtain ⟨ρ2, e2⟩ := h2 s _ o2 ρ1 F1
    exact ⟨ρ2, (seq_nx e1).trans e2⟩
  | rt d =>
    rw [hv] at a
    obtain ⟨ρ1, e1⟩ := a
    exact ⟨ρ1, seq_rt e1⟩
/-! a loop's body's end -/
theorem DBS_seq {m : SM σ1} {k : σ1 → SM (Rs σ δ)} (h1 : DNS i g κ K1 m) (h2 : ∀ s, DBS i h (K1 s) K e (k s)) : DBS i (mSeq g h) κ K e (m.bind k) := .mk fun t ok ρ F => by
  obtain ⟨ρ1, F1, e1⟩ := h1 t ok.1 ρ F
  have e2 := h2 _ _ ok.2 ρ1 F1
  have es : mSeq g h ρ (t.src i) = h ρ1 _ := seq_nx e1
  rw [es]; exact e2
theorem DBS_last {m : SM σ1} {w : σ1 → σ} (h1 : DNS i g κ K1 m) (h2 : ∀ s, KLe (K1 s) (K (w s))) : DBS i g κ K e (m.bind fun s => .pure (.nx (w s))) := .mk fun t ok ρ F => by
  obtain ⟨ρ1, F1, e1⟩ := h1 t ok.1 ρ F
  exact ⟨ρ1, F1.le (h2 _), e1⟩
theorem DBS_skip {s : σ} (h : KLe κ (K s)) : DBS i mSkip κ K e (.pure (.nx s)) := .mk fun t _ ρ F => ⟨ρ, F.le h, rfl⟩
theorem DBS_if {m n : SM (Rs σ δ)} (hc : ETS i c (vw true κ) mc) (h1 : DBS i g κ K e m) (h2 : DBS i h κ K e n) : DBS i (mIfS c g h) κ K e (.ite mc m n) := .mk fun t ok ρ F => by
  have k2 := ok.2
  have es : mIfS c g h ρ (t.src i) = if (mc t).val.1 = true then g ρ ((mc t).val.2.src i) else h ρ ((mc t).val.2.src i) := by
    unfold mIfS
    rw [hc t ok.1 _ (F.view true)]
  rw [es]
  show EndsS _ (((if (mc t).val.1 = true then m else n) (mc t).val.2).val.2.src i) K e ((if (mc t).val.1 = true then m else n) (mc t).val.2).val.1
  cases hv : (mc t).val.1 with
  | true => rw [hv] at k2; exact h1 _ k2 ρ F
  | false => rw [hv] at k2; exact h2 _ k2 ρ F
theorem DBS_sif {m n : SM (Rs σ δ)} (hc : ETS i c (vw true κ) mc) (h1 : DBS i (mSeq g r) κ K e m) (h2 : DBS i (mSeq h r) κ K e n) : DBS i (mSeq (mIfS c g h) r) κ K e (.ite mc m n) := by
  rw [seq_if]; exact DBS_if hc h1 h2
theorem DBS_ass {m : SM (Rs σ δ)} (h1 : DBS i (mSeq a (mSeq b r)) κ K e m) : DBS i (mSeq (mSeq a b) r) κ K e m := by rw [seq_assoc]; exact h1
theorem DBS_skp {m : SM (Rs σ δ)} (h1 : DBS i r κ K e m) : DBS i (mSeq mSkip r) κ K e m := h1
theorem DBS_ret {m : SM δ} (hf : ES i f (vw true κ) e m) : DBS i (mRet f) κ K e (.mp .rt m) := .mk fun t ok ρ F => ⟨ρ, by rw [mRet_ev, hf t ok.1 _ (F.view true)]; rfl⟩
theorem DBS_retS {m : SM δ} (hf : ES i f (vw true κ) e m) : DBS i (mSeq (mRet f) h) κ K e (.mp .rt m) := .mk fun t ok ρ F => ⟨ρ, seq_rt (by rw [mRet_ev, hf t ok.1 _ (F.view true)]; rfl)⟩
theorem DBS_brk {s : σ} (hk : KLe κ (K s)) : DBS i mBreak κ K e (.pure (.bk s)) := .mk fun t _ ρ F => ⟨ρ, F.le hk, rfl⟩
theorem DBS_brkS {s : σ} (hk : KLe κ (K s)) : DBS i (mSeq mBreak h) κ K e (.pure (.bk s)) := .mk fun t _ ρ F => ⟨ρ, F.le hk, rfl⟩
theorem DBS_cnt {s : σ} (hk : KLe κ (K s)) : DBS i mCont κ K e (.pure (.ct s)) := .mk fun t _ ρ F => ⟨ρ, F.le hk, rfl⟩
theorem DBS_cntS {s : σ} (hk : KLe κ (K s)) : DBS i (mSeq mCont h) κ K e (.pure (.ct s)) := .mk fun t _ ρ F => ⟨ρ, F.le hk, rfl⟩
theorem DBS_frz {m : SM (Rs σ δ)} (hx : κ[j]? = some (.is (.own d))) (h : DBS i g (κ.set j (.is (.dat d))) K e m) : DBS i (mFrz j g) κ K e m := .mk fun t k ρ F => h t k (frz ρ j) (F.frz hx)
theorem for_goXS {tg : Tgt} {as : α → List (Nat × D)} {q : α → σ → SM (Rs σ δ)} (hb : ∀ x, bindT tg (ea x) = some (as x)) (hs : ∀ x s, ((as x).all fun w => kSet (K s) w.1) = true) (hg : ∀ x s, DBS i g (kSets (K s) (as x)) K e (q x s)) :
    ∀ (xs : List α) (s : σ) (t : Sc) (ρ : EnvS), (SM.goX q xs s t).ok → Fits (K s) ρ → EndL (forGo tg g (xs.map ea) ρ (t.src i)) ((SM.goX q xs s t).val.2.src i) K e (SM.goX q xs s t).val.1
  | [], s, t, ρ, _, F => ⟨ρ, F, rfl⟩
  | x :: xs, s, t, ρ, ok, F => by
    have h1 := hg x s t ok.1 _ (F.sets (as x))
    have es : forGo tg g ((x :: xs).map ea) ρ (t.src i) = (match g (setSl ρ (as x)) (t.src i) with
      | some (.nx, ρ2, τ2) => forGo tg g (xs.map ea) ρ2 τ2
      | some (.ct, ρ2, τ2) => forGo tg g (xs.map ea) ρ2 τ2
      | some (.bk, ρ2, τ2) => some (.nx, ρ2, τ2)
      | some (.rt d, ρ2, τ2) => some (.rt d, ρ2, τ2)
      | none => none) := by simp only [List.map_cons, forGo, hb, F.okSets (hs x s), if_true] <;> rfl
    rw [es]
    have ev : SM.goX q (x :: xs) s t = ⟨(q x s t).ok ∧ ((match (q x s t).val.1 with
        | .nx s' => SM.goX q xs s'
        | .ct s' => SM.goX q xs s'
        | .bk s' => SM.pure (.nx s')
        | .rt d => SM.pure (.rt d) : SM (Lp σ δ)) (q x s t).val.2).ok, ((match (q x s t).val.1 with
        | .nx s' => SM.goX q xs s'
        | .ct s' => SM.goX q xs s'
        | .bk s' => SM.pure (.nx s')
        | .rt d => SM.pure (.rt d) : SM (Lp σ δ)) (q x s t).val.2).val⟩ := rfl
    rw [ev] at ok ⊢
    have k2 := ok.2
    cases hv : (q x s t).val.1 with
    | nx s' =>
      rw [hv] at h1 k2
      obtain ⟨ρ1, F1, e1⟩ := h1
      rw [e1]
      exact for_goXS hb hs hg xs s' _ ρ1 k2 F1
    | ct s' =>
      rw [hv] at h1 k2
      obtain ⟨ρ1, F1, e1⟩ := h1
      rw [e1]
      exact for_goXS hb hs hg xs s' _ ρ1 k2 F1
    | bk s' =>
      rw [hv] at h1
      obtain ⟨ρ1, F1, e1⟩ := h1
      rw [e1]
      exact ⟨ρ1, F1, rfl⟩
    | rt d =>
      rw [hv] at h1
      obtain ⟨ρ1, e1⟩ := h1
      rw [e1]
      exact ⟨ρ1, rfl⟩
theorem DLS_for {tg : Tgt} {fi : M (List D)} {ms : SM (List α)} {s0 : σ} {as : α → List (Nat × D)} {q : α → σ → SM (Rs σ δ)} (hi : ENS i fi (vw false κ) ea ms) (h0 : KLe κ (K s0)) (hb : ∀ x, bindT tg (ea x) = some (as x)) (hs : ∀ x s, ((as x).all fun w => kSet (K s) w.1) = true) (hg : ∀ x s, DBS i g (kSets (K s) (as x)) K e (q x s)) :
    DLS i (mFor fi tg g) κ K e (.forX ms s0 q) := .mk fun t ok ρ F => by
  have := for_goXS hb hs hg (ms t).val.1 s0 _ ρ ok.2 (F.le h0)
  have es : mFor fi tg g ρ (t.src i) = forGo tg g ((ms t).val.1.map ea) ρ _ := for_nx (hi t ok.1 _ (F.view false)) rfl
  rw [es]; exact this
theorem wh_goS {q : σ → SM (Rs σ δ)} {cc : σ → SM Bool} (hc : ∀ s, ETS i c (vw true (K s)) (cc s)) (hg : ∀ s, DBS i g (K s) K e (q s)) : ∀ (n : Nat) (s : σ) (t : Sc) (ρ : EnvS), (SM.whGo cc q n s t).ok → Fits (K s) ρ → EndL (whileGo c g n ρ (t.src i)) ((SM.whGo cc q n s t).val.2.src i) K e (SM.whGo cc q n s t).val.1
  | 0, s, t, ρ, ok, _ => ok.elim
  | n + 1, s, t, ρ, ok, F => by
    have ec := hc s t ok.1 _ (F.view true)
    have o2 := ok.2
    have ev : SM.whGo cc q (n + 1) s t = ⟨(cc s t).ok ∧ ((if (cc s t).val.1 = true then SM.bind (q s) fun
        | .nx s' => SM.whGo cc q n s'
        | .ct s' => SM.whGo cc q n s'
        | .bk s' => SM.pure (.nx s')
        | .rt d => SM.pure (.rt d) else SM.pure (.nx s) : SM (Lp σ δ)) (cc s t).val.2).ok, ((if (cc s t).val.1 = true then SM.bind (q s) fun
        | .nx s' => SM.whGo cc q n s'
        | .ct s' => SM.whGo cc q n s'
        | .bk s' => SM.pure (.nx s')
        | .rt d => SM.pure (.rt d) else SM.pure (.nx s) : SM (Lp σ δ)) (cc s t).val.2).val⟩ := rfl
    rw [ev] at ok ⊢
    replace o2 := ok.2
    cases hv : (cc s t).val.1 with
    | false =>
      rw [hv] at ec
      exact ⟨ρ, F, by simp only [whileGo, ec]; rfl⟩
    | true =>
      rw [hv] at ec o2
      have h1 := hg s _ o2.1 ρ F
      have k3 := o2.2
      have e3 : (SM.bind (q s) fun
        | .nx s' => SM.whGo cc q n s'
        | .ct s' => SM.whGo cc q n s'
        | .bk s' => SM.pure (.nx s')
        | .rt d => SM.pure (.rt d) : SM (Lp σ δ)) (cc s t).val.2 = ⟨(q s (cc s t).val.2).ok ∧ ((match (q s (cc s t).val.2).val.1 with
        | .nx s' => SM.whGo cc q n s'
        | .ct s' => SM.whGo cc q n s'
        | .bk s' => SM.pure (.nx s')
        | .rt d => SM.pure (.rt d) : SM (Lp σ δ)) (q s (cc s t).val.2).val.2).ok, ((match (q s (cc s t).val.2).val.1 with
        | .nx s' => SM.whGo cc q n s'
        | .ct s' => SM.whGo cc q n s'
        | .bk s' => SM.pure (.nx s')
        | .rt d => SM.pure (.rt d) : SM (Lp σ δ)) (q s (cc s t).val.2).val.2).val⟩ := rfl
      simp only [if_true]
      rw [e3]
      replace k3 : ((match (q s (cc s t).val.2).val.1 with
        | .nx s' => SM.whGo cc q n s'
        | .ct s' => SM.whGo cc q n s'
        | .bk s' => SM.pure (.nx s')
        | .rt d => SM.pure (.rt d) : SM (Lp σ δ)) (q s (cc s t).val.2).val.2).ok := k3
      cases hq : (q s (cc s t).val.2).val.1 with
      | nx s' =>
        rw [hq] at h1 k3
        obtain ⟨ρ1, F1, e1⟩ := h1
        have es : whileGo c g (n + 1) ρ (t.src i) = whileGo c g n ρ1 ((q s (cc s t).val.2).val.2.src i) := by simp only [whileGo, ec, e1]
        rw [es]
        exact wh_goS hc hg n s' _ ρ1 k3 F1
      | ct s' =>
        rw [hq] at h1 k3
        obtain ⟨ρ1, F1, e1⟩ := h1
        have es : whileGo c g (n + 1) ρ (t.src i) = whileGo c g n ρ1 ((q s (cc s t).val.2).val.2.src i) := by simp only [whileGo, ec, e1]
        rw [es]
        exact wh_goS hc hg n s' _ ρ1 k3 F1
      | bk s' =>
        rw [hq] at h1
        obtain ⟨ρ1, F1, e1⟩ := h1
        exact ⟨ρ1, F1, by simp only [whileGo, ec, e1]; rfl⟩
      | rt d =>
        rw [hq] at h1
        obtain ⟨ρ1, e1⟩ := h1
        exact ⟨ρ1, by simp only [whileGo, ec, e1]; rfl⟩
theorem DLS_wh {cc : σ → SM Bool} {s0 : σ} {q : σ → SM (Rs σ δ)} (h0 : KLe κ (K s0)) (hc : ∀ s, ETS i c (vw true (K s)) (cc s)) (hg : ∀ s, DBS i g (K s) K e (q s)) : DLS i (mWhile c g) κ K e (.whX cc s0 q) := .mk fun t ok ρ F => by
  unfold SM.whX at ok ⊢
  exact wh_goS hc hg fuel s0 t ρ ok (F.le h0)
theorem DLS_frz {m : SM (Lp σ δ)} (hx : κ[j]? = some (.is (.own d))) (h : DLS i g (κ.set j (.is (.dat d))) K e m) : DLS i (mFrz j g) κ K e m := .mk fun t k ρ F => h t k (frz ρ j) (F.frz hx)
theorem DLS_frz' {m : SM (Lp σ δ)} (hx : κ[j]? = some (.is (.dat d))) (h : DLS i g κ K e m) : DLS i (mFrz j g) κ K e m := .mk fun t k ρ F => h t k (frz ρ j) (F.frz' hx)
theorem DBS_loop {K2 : σ1 → List Kn} {m : SM (Lp σ1 δ)} {k : σ1 → SM (Rs σ δ)} (h1 : DLS i g κ K2 e m) (h2 : ∀ s, DBS i h (K2 s) K e (k s)) : DBS i (mSeq g h) κ K e (.lp m k fun d => .pure (.rt d)) := .mk fun t ok ρ F => by
  have a := h1 t ok.1 ρ F
  have ev : SM.lp m k (fun d => SM.pure (.rt d)) t = ⟨(m t).ok ∧ ((match (m t).val.1 with | .nx s => k s | .rt d => SM.pure (.rt d) : SM (Rs σ δ)) (m t).val.2).ok, ((match (m t).val.1 with | .nx s => k s | .rt d => SM.pure (.rt d) : SM (Rs σ δ)) (m t).val.2).val⟩ := rfl
  rw [ev] at ok ⊢
  have o2 := ok.2
  cases hv : (m t).val.1 with
  | nx s =>
    rw [hv] at a o2
    obtain ⟨ρ1, F1, e1⟩ := a
    have es : mSeq g h ρ (t.src i) = h ρ1 _ := seq_nx e1
    rw [es]
    exact h2 s _ o2 ρ1 F1
  | rt d =>
    rw [hv] at a
    obtain ⟨ρ1, e1⟩ := a
    exact ⟨ρ1, seq_rt e1⟩
theorem DBS_loopL {K2 : σ1 → List Kn} {m : SM (Lp σ1 δ)} {w : σ1 → σ} (h1 : DLS i g κ K2 e m) (h2 : ∀ s, KLe (K2 s) (K (w s))) : DBS i g κ K e (.lp m (fun s => .pure (.nx (w s))) fun d => .pure (.rt d)) := .mk fun t ok ρ F => by
  have a := h1 t ok.1 ρ F
  have ev : SM.lp m (fun s => SM.pure (Rs.nx (w s))) (fun d => SM.pure (.rt d)) t = ⟨(m t).ok ∧ ((match (m t).val.1 with | .nx s => SM.pure (.nx (w s)) | .rt d => SM.pure (.rt d) : SM (Rs σ δ)) (m t).val.2).ok, ((match (m t).val.1 with | .nx s => SM.pure (.nx (w s)) | .rt d => SM.pure (.rt d) : SM (Rs σ δ)) (m t).val.2).val⟩ := rfl
  rw [ev]
  cases hv : (m t).val.1 with
  | nx s =>
    rw [hv] at a
    obtain ⟨ρ1, F1, e1⟩ := a
    exact ⟨ρ1, F1.le (h2 s), e1⟩
  | rt d =>
    rw [hv] at a
    obtain ⟨ρ1, e1⟩ := a
    exact ⟨ρ1, e1⟩
end
/-! ### defs -/
section
variable {α β γ δ ζ : Type} {ea : α → D} {eb : β → D} {ec : γ → D} {ed : δ → D} {er : ζ → D} {g : Stm} {k : Nat}
theorem runS_rt {np n : Nat} {ds : List D} {τ τ' : Src} {d : D} {ρ : EnvS} (hl : ds.length + 1 = np) (e : g (.src :: enter (n - 1) ds) τ = some (.rt d, ρ, τ')) : runS np n g ds τ = some (d, τ') := by
  unfold runS
  rw [if_pos hl, e]
  rfl
theorem CS0_of {p : SM ζ} (h : DRS 0 g (.is .src :: List.replicate k .any) er p) : CS0 (runS 1 (k + 1) g) er p := fun t ok => by
  obtain ⟨ρ', e⟩ := h t ok (.src :: List.replicate k .no) (.is (fits_no k))
  refine runS_rt rfl (ρ := ρ') ?_
  rw [show enter (k + 1 - 1) [] = List.replicate k .no by simp [enter]]
  exact e
theorem CS1_of {p : α → SM ζ} (h : ∀ x, DRS 0 g (.is .src :: .is (.dat (ea x)) :: List.replicate k .any) er (p x)) : CS1 (runS 2 (k + 2) g) ea er p := fun x t ok => by
  obtain ⟨ρ', e⟩ := h x t ok (.src :: .dat (ea x) :: List.replicate k .no) (.is (.is (fits_no k)))
  refine runS_rt rfl (ρ := ρ') ?_
  rw [show enter (k + 2 - 1) [ea x] = .dat (ea x) :: List.replicate k .no by simp [enter]]
  exact e
theorem CS2_of {p : α → β → SM ζ} (h : ∀ x y, DRS 0 g (.is .src :: .is (.dat (ea x)) :: .is (.dat (eb y)) :: List.replicate k .any) er (p x y)) : CS2 (runS 3 (k + 3) g) ea eb er p := fun x y t ok => by
  obtain ⟨ρ', e⟩ := h x y t ok (.src :: .dat (ea x) :: .dat (eb y) :: List.replicate k .no) (.is (.is (.is (fits_no k))))
  refine runS_rt rfl (ρ := ρ') ?_
  rw [show enter (k + 3 - 1) [ea x, eb y] = .dat (ea x) :: .dat (eb y) :: List.replicate k .no by simp [enter]]
  exact e
theorem CS3_of {p : α → β → γ → SM ζ} (h : ∀ x y z, DRS 0 g (.is .src :: .is (.dat (ea x)) :: .is (.dat (eb y)) :: .is (.dat (ec z)) :: List.replicate k .any) er (p x y z)) : CS3 (runS 4 (k + 4) g) ea eb ec er p := fun x y z t ok => by
  obtain ⟨ρ', e⟩ := h x y z t ok (.src :: .dat (ea x) :: .dat (eb y) :: .dat (ec z) :: List.replicate k .no) (.is (.is (.is (.is (fits_no k)))))
  refine runS_rt rfl (ρ := ρ') ?_
  rw [show enter (k + 4 - 1) [ea x, eb y, ec z] = .dat (ea x) :: .dat (eb y) :: .dat (ec z) :: List.replicate k .no by simp [enter]]
  exact e
/-- the law itself -/
def Sc.of (ns : List Int) : Sc := ⟨(ns.map absI).reverse, 1, stir ns, 0⟩
theorem lawGo_of {ns : List Int} {p : SM Bool} (h : DRS 1 g (.any :: .is .src :: List.replicate k .any) eB p) (ok : (p (Sc.of ns)).ok) (hv : (p (Sc.of ns)).val.1 = true) : lawGo (k + 2) g ns := by
  obtain ⟨ρ', e⟩ := h (Sc.of ns) ok (.no :: .src :: List.replicate k .no) (.any rfl (.is (fits_no k)))
  refine ⟨ρ', (p (Sc.of ns)).val.2.src 1, ?_⟩
  rw [hv] at e
  exact e
end
/-! ### picking -/
def pkV (most : Int) (t : Sc) : Int × Sc := if most < 2 then (0, t) else
  let r := drawR t.cells.reverse t.left
  if 1 < r.2 then (r.2 % most, { t with cells := r.1.reverse, left := r.2 / most }) else
    let lap := t.turn + 1
    let s1 := (t.mixed + lap * 104729) % 998244353
    let s2 := (s1 * s1 + lap * 17) % 2147483647
    (s2 / 16 % most, { t with cells := r.1.reverse, left := r.2, turn := lap })
def pick (most : Int) : SM Int := fun t => ⟨most.natAbs.log2 < 9000 ∧ t.turn.natAbs < 2 ^ 60, pkV most t⟩
theorem cs_pick : CS1 mPick eI eI pick := fun most t ok => by
  obtain ⟨h1, h2⟩ : most.natAbs.log2 < 9000 ∧ t.turn.natAbs < 2 ^ 60 := ok
  show mPick [.int most] (t.src 0) = some (.int (pkV most t).1, (pkV most t).2.src 0)
  unfold mPick pkV
  by_cases hm : most < 2
  · simp only [hm, if_true]
  · simp only [hm, if_false, h1, if_true]
    by_cases hg : 1 < (drawR t.cells.reverse t.left).2
    · have hg' : 1 < (drawR (t.src 0).cells.reverse (t.src 0).left).2 := hg
      rw [if_pos hg', if_pos hg]; rfl
    · have hg' : ¬ 1 < (drawR (t.src 0).cells.reverse (t.src 0).left).2 := hg
      rw [if_neg hg', if_neg hg]
      unfold nextLap
      have h2' : (t.src 0).turn.natAbs < 2 ^ 60 := h2
      rw [if_pos h2']; rfl
/-- a drawn order -/
def ordGo {α : Type} : Nat → List α → SM (List α)
  | 0, _ => .pure []
  | n + 1, xs => .bind (pick (xs.length : Nat)) fun r => .bind (.lift ⟨0 ≤ r ∧ r.toNat < xs.length, ()⟩) fun _ => match xs[r.toNat]? with
    | some x => .bind (ordGo n (xs.eraseIdx r.toNat)) fun ys => .pure (x :: ys)
    | none => .pure []
def order {α : Type} (xs : List α) : SM (List α) := .bind (ordGo xs.length xs) fun ys => .lift ⟨ys.length ≤ xs.length, ys⟩
theorem map_erase {α : Type} (e : α → D) : ∀ (xs : List α) (i : Nat), (xs.map e).eraseIdx i = (xs.eraseIdx i).map e
  | [], _ => rfl
  | _ :: _, 0 => rfl
  | x :: xs, i + 1 => by simp only [List.map_cons, List.eraseIdx_cons_succ, map_erase e xs i]
theorem ordGo_ev {α : Type} {e : α → D} : ∀ (n : Nat) (xs : List α) (t : Sc), (ordGo n xs t).ok → orderGo n (xs.map e) (t.src 0) = some ((ordGo n xs t).val.1.map e, (ordGo n xs t).val.2.src 0)
  | 0, xs, t, _ => rfl
  | n + 1, xs, t, ok => by
    have h1 := cs_pick _ t ok.1
    obtain ⟨r, hr⟩ : ∃ r, (pick (xs.length : Nat) t).val.1 = r := ⟨_, rfl⟩
    obtain ⟨t1, ht1⟩ : ∃ t1, (pick (xs.length : Nat) t).val.2 = t1 := ⟨_, rfl⟩
    have ev : ordGo (n + 1) xs t = ⟨(pick (xs.length : Nat) t).ok ∧ ((SM.bind (.lift ⟨0 ≤ (pick (xs.length : Nat) t).val.1 ∧ (pick (xs.length : Nat) t).val.1.toNat < xs.length, ()⟩) fun _ => match xs[(pick (xs.length : Nat) t).val.1.toNat]? with
      | some x => .bind (ordGo n (xs.eraseIdx (pick (xs.length : Nat) t).val.1.toNat)) fun ys => .pure (x :: ys)
      | none => .pure [] : SM (List α)) (pick (xs.length : Nat) t).val.2).ok, ((SM.bind (.lift ⟨0 ≤ (pick (xs.length : Nat) t).val.1 ∧ (pick (xs.length : Nat) t).val.1.toNat < xs.length, ()⟩) fun _ => match xs[(pick (xs.length : Nat) t).val.1.toNat]? with
      | some x => .bind (ordGo n (xs.eraseIdx (pick (xs.length : Nat) t).val.1.toNat)) fun ys => .pure (x :: ys)
      | none => .pure [] : SM (List α)) (pick (xs.length : Nat) t).val.2).val⟩ := rfl
    rw [ev] at ok ⊢
    have k2 := ok.2
    rw [hr, ht1] at h1 k2 ⊢
    obtain ⟨⟨g1, g2⟩, k3⟩ : (0 ≤ r ∧ r.toNat < xs.length) ∧ _ := k2
    have hx : xs[r.toNat]? = some xs[r.toNat] := List.getElem?_eq_getElem g2
    have hxm : (xs.map e)[r.toNat]? = some (e xs[r.toNat]) := by rw [List.getElem?_map, hx]; rfl
    have h1' : mPick [.int ((xs.map e).length : Nat)] (t.src 0) = some (.int r, t1.src 0) := by rw [List.length_map]; exact h1
    rw [hx] at k3
    have ih := ordGo_ev (e := e) n (xs.eraseIdx r.toNat) t1 k3.1
    have he : (xs.map e).eraseIdx r.toNat = (xs.eraseIdx r.toNat).map e := map_erase e xs r.toNat
    simp only [orderGo, h1', g1, if_true, hxm, he, ih]
    show some (e xs[r.toNat] :: _, _) = some ((((match xs[r.toNat]? with
      | some x => .bind (ordGo n (xs.eraseIdx r.toNat)) fun ys => .pure (x :: ys)
      | none => .pure [] : SM (List α)) t1).val.1).map e, ((match xs[r.toNat]? with
      | some x => .bind (ordGo n (xs.eraseIdx r.toNat)) fun ys => .pure (x :: ys)
      | none => .pure [] : SM (List α)) t1).val.2.src 0)
    rw [hx]
    rfl
theorem order_ev {α : Type} {e : α → D} {s : List α → D} (hs : ∀ xs, seqOf (s xs) = some (xs.map e)) : CS1 mOrder s (eL e) (order (α := α)) := fun xs t ok => by
  have h := ordGo_ev (e := e) xs.length xs t ok.1
  have k2 : (ordGo xs.length xs t).val.1.length ≤ xs.length := ok.2
  show mOrder [s xs] (t.src 0) = _
  simp only [mOrder, hs, List.length_map, h, k2, if_true]
  rfl
theorem cs_orderL {α : Type} {e : α → D} : CS1 mOrder (eL e) (eL e) (order (α := α)) := order_ev fun _ => rfl
theorem cs_orderT {α : Type} {e : α → D} : CS1 mOrder (eT e) (eL e) (order (α := α)) := order_ev fun _ => rfl
end TL

/-! TLe: running typed programs: loops by invariants, drawn numbers by triples. -/
namespace TL
open PySem DL
section
variable {α β γ δ σ : Type}
/-- m is reached and has the value v -/
structure Is (m : Tm α) (v : α) : Prop where
  ok : m.ok
  val : m.val = v
theorem Is.of {m : Tm α} (h : m.ok) : Is m m.val := ⟨h, rfl⟩
theorem Tm.bind_val (m : Tm α) (k : α → Tm β) : (m.bind k).val = (k m.val).val := rfl
theorem Tm.bind_ok (m : Tm α) (k : α → Tm β) : (m.bind k).ok = (m.ok ∧ (k m.val).ok) := rfl
theorem Is.pure (a : α) : Is (Tm.pure a) a := ⟨trivial, rfl⟩
theorem Is.bind {m : Tm α} {a : α} {k : α → Tm β} {b : β} (h : Is m a) (h2 : Is (k a) b) : Is (m.bind k) b := by
  obtain ⟨h, rfl⟩ := h
  exact ⟨⟨h, h2.1⟩, h2.2⟩
theorem Is.o1 {m : Tm α} {a : α} {k : α → Tm β} {b : β} (h : Is m a) (h2 : Is (k a) b) : Is (.o1 k m) b := by
  obtain ⟨h, rfl⟩ := h
  exact ⟨⟨h, h2.1⟩, h2.2⟩
theorem Is.o2 {m : Tm α} {n : Tm β} {a : α} {b : β} {k : α → β → Tm γ} {c : γ} (h : Is m a) (h' : Is n b) (h2 : Is (k a b) c) : Is (.o2 k m n) c := by
  obtain ⟨h, rfl⟩ := h
  obtain ⟨h', rfl⟩ := h'
  exact ⟨⟨h, h', h2.1⟩, h2.2⟩
theorem Is.o3 {m : Tm α} {n : Tm β} {q : Tm γ} {a : α} {b : β} {c : γ} {k : α → β → γ → Tm δ} {d : δ} (h : Is m a) (h' : Is n b) (h3 : Is q c) (h2 : Is (k a b c) d) : Is (.o3 k m n q) d := by
  obtain ⟨h, rfl⟩ := h
  obtain ⟨h', rfl⟩ := h'
  obtain ⟨h3, rfl⟩ := h3
  exact ⟨⟨h, h', h3, h2.1⟩, h2.2⟩
theorem Is.mp {m : Tm α} {a : α} {f : α → β} (h : Is m a) : Is (.mp f m) (f a) := by
  obtain ⟨h, rfl⟩ := h
  exact ⟨h, rfl⟩
theorem Is.ite {c : Tm Bool} {b : Bool} {m n : Tm α} {a : α} (h : Is c b) (h1 : b = true → Is m a) (h2 : b = false → Is n a) : Is (.ite c m n) a := by
  obtain ⟨h, rfl⟩ := h
  refine ⟨⟨h, fun e => (h1 e).1, fun e => (h2 e).1⟩, ?_⟩
  show (if c.val = true then m.val else n.val) = a
  cases e : c.val with
  | true => exact (h1 e).2
  | false => exact (h2 e).2
theorem Is.amap {m : Tm (List α)} {xs : List α} {f : α → Tm β} {g : α → β} (h : Is m xs) (hf : ∀ x ∈ xs, Is (f x) (g x)) : Is (.amap m f) (xs.map g) := by
  obtain ⟨h, rfl⟩ := h
  exact ⟨⟨h, fun x hx => (hf x hx).1⟩, List.map_congr_left fun x hx => (hf x hx).2⟩
theorem Is.fmap {m : Tm (List α)} {xs : List α} {t : α → Tm Bool} {p : α → Bool} {f : α → Tm β} {g : α → β} (h : Is m xs) (ht : ∀ x ∈ xs, Is (t x) (p x)) (hf : ∀ x ∈ xs, p x = true → Is (f x) (g x)) : Is (.fmap m t f) ((xs.filter p).map g) := by
  obtain ⟨h, rfl⟩ := h
  refine ⟨⟨h, fun x hx => ⟨(ht x hx).1, fun e => (hf x hx (by rw [← (ht x hx).2]; exact e)).1⟩⟩, ?_⟩
  show (m.val.filter fun x => (t x).val).map (fun x => (f x).val) = _
  have e1 : (m.val.filter fun x => (t x).val) = m.val.filter p := List.filter_congr fun x hx => (ht x hx).2
  rw [e1]
  refine List.map_congr_left fun x hx => ?_
  obtain ⟨h1, h2⟩ := List.mem_filter.mp hx
  exact (hf x h1 h2).2
theorem Is.lim {m : Tm (List α)} {xs : List α} (h : Is m xs) (hl : xs.length ≤ 2 ^ 24) : Is (.lim m) xs := by
  obtain ⟨h, rfl⟩ := h
  exact ⟨⟨h, hl⟩, rfl⟩
theorem Is.nil : Is (Tm.nil (α := α)) [] := ⟨trivial, rfl⟩
theorem Is.cons {m : Tm α} {r : Tm (List α)} {a : α} {xs : List α} (h : Is m a) (h2 : Is r xs) : Is (.cons m r) (a :: xs) := by
  obtain ⟨h, rfl⟩ := h
  obtain ⟨h2, rfl⟩ := h2
  exact ⟨⟨h, h2⟩, rfl⟩
theorem Is.and {m n : Tm Bool} {a b : Bool} (h : Is m a) (h2 : a = true → Is n b) : Is (.and m n) (a && b) := by
  obtain ⟨h, rfl⟩ := h
  refine ⟨⟨h, fun e => (h2 e).1⟩, ?_⟩
  show (m.val && n.val) = (m.val && b)
  cases e : m.val with
  | true => rw [(h2 e).2]
  | false => rfl
theorem Is.or {m n : Tm Bool} {a b : Bool} (h : Is m a) (h2 : a = false → Is n b) : Is (.or m n) (a || b) := by
  obtain ⟨h, rfl⟩ := h
  refine ⟨⟨h, fun e => (h2 e).1⟩, ?_⟩
  show (m.val || n.val) = (m.val || b)
  cases e : m.val with
  | false => rw [(h2 e).2]
  | true => rfl
theorem Is.not {m : Tm Bool} {a : Bool} (h : Is m a) : Is (.not m) (!a) := by
  obtain ⟨h, rfl⟩ := h
  exact ⟨h, rfl⟩
/-! loops -/
theorem fold_inv {f : α → σ → Tm σ} (P : List α → σ → Prop) : ∀ (todo done : List α) (s : σ), P done s → (∀ d x s, x ∈ todo → P d s → (f x s).ok ∧ P (d ++ [x]) (f x s).val) → Tm.foldOk f todo s ∧ P (done ++ todo) (todo.foldl (fun s x => (f x s).val) s)
  | [], done, s, h, _ => ⟨trivial, by rw [List.append_nil]; exact h⟩
  | x :: xs, done, s, h, st => by
    obtain ⟨h1, h2⟩ := st done x s List.mem_cons_self h
    obtain ⟨h3, h4⟩ := fold_inv P xs (done ++ [x]) _ h2 fun d y s hy => st d y s (List.mem_cons_of_mem _ hy)
    exact ⟨⟨h1, h3⟩, by rw [List.append_assoc] at h4; exact h4⟩
theorem Tm.fold_run {m : Tm (List α)} {xs : List α} {s : σ} {f : α → σ → Tm σ} (P : List α → σ → Prop) (hm : Is m xs) (h0 : P [] s) (st : ∀ d x s, x ∈ xs → P d s → (f x s).ok ∧ P (d ++ [x]) (f x s).val) : (Tm.fold m s f).ok ∧ P xs (Tm.fold m s f).val := by
  obtain ⟨hm, rfl⟩ := hm
  obtain ⟨h1, h2⟩ := fold_inv P m.val [] s h0 st
  exact ⟨⟨hm, h1⟩, h2⟩
theorem fold_inv' {f : α → σ → Tm σ} (P : List α → σ → Prop) {xs : List α} : ∀ (todo done : List α) (s : σ), xs = done ++ todo → P done s → (∀ d x r s, xs = d ++ x :: r → P d s → (f x s).ok ∧ P (d ++ [x]) (f x s).val) → Tm.foldOk f todo s ∧ P xs (todo.foldl (fun s x => (f x s).val) s)
  | [], done, s, e, h, _ => ⟨trivial, by rw [e, List.append_nil]; exact h⟩
  | x :: todo, done, s, e, h, st => by
    obtain ⟨h1, h2⟩ := st done x todo s e h
    obtain ⟨h3, h4⟩ := fold_inv' P todo (done ++ [x]) _ (by rw [e, List.append_assoc]; rfl) h2 st
    exact ⟨⟨h1, h3⟩, h4⟩
theorem Tm.fold_pre {m : Tm (List α)} {xs : List α} {s : σ} {f : α → σ → Tm σ} (P : List α → σ → Prop) (hm : Is m xs) (h0 : P [] s) (st : ∀ d x r s, xs = d ++ x :: r → P d s → (f x s).ok ∧ P (d ++ [x]) (f x s).val) : (Tm.fold m s f).ok ∧ P xs (Tm.fold m s f).val := by
  obtain ⟨hm, rfl⟩ := hm
  obtain ⟨h1, h2⟩ := fold_inv' P m.val [] s rfl h0 st
  exact ⟨⟨hm, h1⟩, h2⟩
/-- a fold that is another one in plain -/
theorem Is.fold {m : Tm (List α)} {xs : List α} {s : σ} {f : α → σ → Tm σ} {g : σ → α → σ} (hm : Is m xs) (P : σ → Prop) (h0 : P s) (st : ∀ x s, x ∈ xs → P s → Is (f x s) (g s x) ∧ P (g s x)) : Is (.fold m s f) (xs.foldl g s) := by
  obtain ⟨hm, rfl⟩ := hm
  have : ∀ (l : List α) (s : σ), (∀ x ∈ l, x ∈ m.val) → P s → Tm.foldOk f l s ∧ l.foldl (fun s x => (f x s).val) s = l.foldl g s := by
    intro l
    induction l with
    | nil => intro s _ _; exact ⟨trivial, rfl⟩
    | cons x l ih =>
      intro s hl hp
      obtain ⟨h1, h2⟩ := st x s (hl x List.mem_cons_self) hp
      obtain ⟨h3, h4⟩ := ih (g s x) (fun y hy => hl y (List.mem_cons_of_mem _ hy)) h2
      refine ⟨⟨h1.1, by rw [h1.2]; exact h3⟩, ?_⟩
      simp only [List.foldl_cons, h1.2, h4]
  obtain ⟨h1, h2⟩ := this m.val s (fun _ h => h) h0
  exact ⟨⟨hm, h1⟩, h2⟩
theorem goX_inv {f : α → σ → Tm (Rs σ δ)} (P : List α → σ → Prop) : ∀ (todo done : List α) (s : σ), P done s → (∀ d x s, x ∈ todo → P d s → (f x s).ok ∧ ∃ s', ((f x s).val = .nx s' ∨ (f x s).val = .ct s') ∧ P (d ++ [x]) s') → Tm.goXOk f todo s ∧ ∃ s', Tm.goX (fun x s => (f x s).val) todo s = .nx s' ∧ P (done ++ todo) s'
  | [], done, s, h, _ => ⟨trivial, s, rfl, by rw [List.append_nil]; exact h⟩
  | x :: xs, done, s, h, st => by
    obtain ⟨h1, s', h2, h3⟩ := st done x s List.mem_cons_self h
    obtain ⟨h4, s2, h5, h6⟩ := goX_inv P xs (done ++ [x]) s' h3 fun d y s hy => st d y s (List.mem_cons_of_mem _ hy)
    rw [List.append_assoc] at h6
    rcases h2 with h2 | h2
    · exact ⟨⟨h1, by rw [h2]; exact h4⟩, s2, by simp only [Tm.goX, h2]; exact h5, h6⟩
    · exact ⟨⟨h1, by rw [h2]; exact h4⟩, s2, by simp only [Tm.goX, h2]; exact h5, h6⟩
/-- a loop that looks for the first one -/
theorem goX_find {f : α → σ → Tm (Rs σ δ)} {p : α → Bool} {d : α → δ} {s : σ} : ∀ xs : List α, (∀ x ∈ xs, (f x s).ok ∧ (f x s).val = if p x = true then .rt (d x) else .nx s) →
    Tm.goXOk f xs s ∧ Tm.goX (fun x s => (f x s).val) xs s = (match xs.find? p with | some x => .rt (d x) | none => .nx s)
  | [], _ => ⟨trivial, rfl⟩
  | x :: xs, h => by
    obtain ⟨h1, h2⟩ := h x List.mem_cons_self
    obtain ⟨h3, h4⟩ := goX_find xs fun y hy => h y (List.mem_cons_of_mem _ hy)
    cases hp : p x with
    | true =>
      rw [hp] at h2
      simp only [if_true] at h2
      exact ⟨⟨h1, by rw [h2]; trivial⟩, by simp only [Tm.goX, h2, List.find?_cons, hp]⟩
    | false =>
      rw [hp] at h2
      simp only [Bool.false_eq_true, if_false] at h2
      exact ⟨⟨h1, by rw [h2]; exact h3⟩, by simp only [Tm.goX, h2, List.find?_cons, hp]; exact h4⟩
theorem Is.lp {m : Tm (Lp σ δ)} {r : Lp σ δ} {k : σ → Tm β} {q : δ → Tm β} {b : β} (h : Is m r) (h2 : match (generalizing := false) r with | .nx s => Is (k s) b | .rt d => Is (q d) b) : Is (.lp m k q) b := by
  obtain ⟨h, rfl⟩ := h
  have ev : Tm.lp m k q = ⟨m.ok ∧ (match m.val with | .nx s => (k s).ok | .rt d => (q d).ok), match m.val with | .nx s => (k s).val | .rt d => (q d).val⟩ := rfl
  rw [ev]
  revert h2
  cases hv : m.val with
  | nx s => intro h2; exact ⟨⟨h, h2.1⟩, h2.2⟩
  | rt d => intro h2; exact ⟨⟨h, h2.1⟩, h2.2⟩
theorem Is.find {m : Tm (List α)} {xs : List α} {f : α → σ → Tm (Rs σ δ)} {p : α → Bool} {d : α → δ} {s : σ} (h : Is m xs) (hf : ∀ x ∈ xs, Is (f x s) (if p x = true then .rt (d x) else .nx s)) : Is (.forX m s f) (match xs.find? p with | some x => .rt (d x) | none => .nx s) := by
  obtain ⟨h, rfl⟩ := h
  obtain ⟨h1, h2⟩ := goX_find (f := f) (p := p) (d := d) (s := s) m.val fun x hx => ⟨(hf x hx).1, (hf x hx).2⟩
  exact ⟨⟨h, h1⟩, h2⟩
theorem wl_inv {c : σ → Tm Bool} {f : σ → Tm σ} (P : Nat → σ → Prop) (Q : σ → Prop) (st : ∀ n s, P n s → (c s).ok ∧ (((c s).val = false ∧ Q s) ∨ ((c s).val = true ∧ (f s).ok ∧ ∃ m, m < n ∧ P m (f s).val))) :
    ∀ (k n : Nat) (s : σ), n < k → P n s → Tm.wlOk c f k s ∧ ∃ r, Tm.wlGo (fun s => (c s).val) (fun s => (f s).val) k s = some r ∧ Q r
  | 0, n, s, hk, _ => absurd hk (Nat.not_lt_zero _)
  | k + 1, n, s, hk, h => by
    obtain ⟨h1, h2⟩ := st n s h
    rcases h2 with ⟨h2, h3⟩ | ⟨h2, h3, m, hm, h4⟩
    · exact ⟨⟨h1, fun e => (by rw [h2] at e; cases e)⟩, s, by simp only [Tm.wlGo, h2]; rfl, h3⟩
    · obtain ⟨h5, r, h6, h7⟩ := wl_inv P Q st k m _ (by omega) h4
      exact ⟨⟨h1, fun _ => ⟨h3, h5⟩⟩, r, by simp only [Tm.wlGo, h2, if_true]; exact h6, h7⟩
theorem Tm.wl_run {c : σ → Tm Bool} {f : σ → Tm σ} {s : σ} (P : Nat → σ → Prop) (Q : σ → Prop) (n : Nat) (hn : n < 1000000) (h0 : P n s)
    (st : ∀ n s, P n s → (c s).ok ∧ (((c s).val = false ∧ Q s) ∨ ((c s).val = true ∧ (f s).ok ∧ ∃ m, m < n ∧ P m (f s).val))) : (Tm.wl c s f).ok ∧ Q (Tm.wl c s f).val := by
  have hf : n < fuel := hn
  obtain ⟨h1, r, h2, h3⟩ := wl_inv P Q st fuel n s hf h0
  rw [Tm.wl_ok, Tm.wl_val, Tm.wlV_of h2]
  exact ⟨h1, h3⟩
end

/-! ### drawn numbers -/
section
variable {α β γ δ ε σ : Type}
/-- with at most c laps of the source m is reached, and its value is one of P -/
def Sp (c : Nat) (m : SM α) (P : α → Prop) : Prop := ∀ t : Sc, 0 ≤ t.turn → t.turn + c < 2 ^ 59 → (m t).ok ∧ P (m t).val.1 ∧ 0 ≤ (m t).val.2.turn ∧ (m t).val.2.turn ≤ t.turn + c
theorem Sp.mono {a b : Nat} {m : SM α} {P Q : α → Prop} (h : Sp a m P) (hab : a ≤ b) (hq : ∀ x, P x → Q x) : Sp b m Q := fun t h0 h1 => by
  obtain ⟨k1, k2, k3, k4⟩ := h t h0 (by omega)
  exact ⟨k1, hq _ k2, k3, by omega⟩
theorem Sp.pure {c : Nat} {a : α} {P : α → Prop} (h : P a) : Sp c (SM.pure a) P := fun t h0 _ => ⟨trivial, h, h0, by show t.turn ≤ t.turn + c; omega⟩
theorem Sp.lift {c : Nat} {m : Tm α} {P : α → Prop} (h : m.ok) (hp : P m.val) : Sp c (SM.lift m) P := fun t h0 _ => ⟨h, hp, h0, by show t.turn ≤ t.turn + c; omega⟩
theorem Sp.is {c : Nat} {m : Tm α} {a : α} {P : α → Prop} (h : Is m a) (hp : P a) : Sp c (SM.lift m) P := Sp.lift h.1 (by rw [h.2]; exact hp)
theorem Sp.bind {a b c : Nat} {m : SM α} {k : α → SM β} {P : α → Prop} {Q : β → Prop} (h : Sp a m P) (h2 : ∀ x, P x → Sp b (k x) Q) (hc : a + b ≤ c) : Sp c (m.bind k) Q := fun t h0 h1 => by
  obtain ⟨k1, k2, k3, k4⟩ := h t h0 (by omega)
  obtain ⟨j1, j2, j3, j4⟩ := h2 _ k2 (m t).val.2 k3 (by omega)
  exact ⟨⟨k1, j1⟩, j2, j3, by show ((k (m t).val.1 (m t).val.2).val.2).turn ≤ _; omega⟩
theorem Sp.ite {a b c : Nat} {p : SM Bool} {m n : SM α} {P : Bool → Prop} {Q : α → Prop} (h : Sp a p P) (h1 : P true → Sp b m Q) (h2 : P false → Sp b n Q) (hc : a + b ≤ c) : Sp c (.ite p m n) Q :=
  Sp.bind h (fun x hx => by cases x with
    | true => rw [if_pos rfl]; exact h1 hx
    | false => rw [if_neg (by decide)]; exact h2 hx) hc
/-- a check that holds: it does not leave -/
theorem Sp.chk {b c : Nat} {p : Tm Bool} {m n : SM α} {Q : α → Prop} (h : Is p false) (h2 : Sp b n Q) (hc : b ≤ c) : Sp c (.ite (.lift p) m n) Q :=
  Sp.ite (a := 0) (P := fun b => b = false) (Sp.is h rfl) (fun e => by cases e) (fun _ => h2) (by omega)
theorem Sp.pure' {c : Nat} {a : α} : Sp c (SM.lift (Tm.pure a)) fun x => x = a := Sp.is (Is.pure a) rfl
theorem Sp.s1 {a b c : Nat} {h : α → SM β} {m : SM α} {P : α → Prop} {Q : β → Prop} (h1 : Sp a m P) (h2 : ∀ x, P x → Sp b (h x) Q) (hc : a + b ≤ c) : Sp c (.s1 h m) Q := Sp.bind h1 h2 hc
theorem Sp.o1 {a c : Nat} {h : α → Tm β} {m : SM α} {P : α → Prop} {Q : β → Prop} (h1 : Sp a m P) (h2 : ∀ x, P x → (h x).ok ∧ Q (h x).val) (hc : a ≤ c) : Sp c (.o1 h m) Q :=
  Sp.bind (b := 0) h1 (fun x hx => Sp.lift (h2 x hx).1 (h2 x hx).2) (by omega)
theorem Sp.o2 {a b c : Nat} {h : α → β → Tm γ} {m : SM α} {n : SM β} {P : α → Prop} {P' : β → Prop} {Q : γ → Prop} (h1 : Sp a m P) (h1' : Sp b n P') (h2 : ∀ x y, P x → P' y → (h x y).ok ∧ Q (h x y).val) (hc : a + b ≤ c) : Sp c (.o2 h m n) Q :=
  Sp.bind (b := b) h1 (fun x hx => Sp.bind (b := 0) h1' (fun y hy => Sp.lift (h2 x y hx hy).1 (h2 x y hx hy).2) (by omega)) hc
theorem Sp.o3 {a b d c : Nat} {h : α → β → γ → Tm δ} {m : SM α} {n : SM β} {q : SM γ} {P : α → Prop} {P' : β → Prop} {P3 : γ → Prop} {Q : δ → Prop} (h1 : Sp a m P) (h1' : Sp b n P') (h3 : Sp d q P3) (h2 : ∀ x y z, P x → P' y → P3 z → (h x y z).ok ∧ Q (h x y z).val) (hc : a + b + d ≤ c) : Sp c (.o3 h m n q) Q :=
  Sp.bind (b := b + d) h1 (fun x hx => Sp.bind (b := d) h1' (fun y hy => Sp.bind (b := 0) h3 (fun z hz => Sp.lift (h2 x y z hx hy hz).1 (h2 x y z hx hy hz).2) (by omega)) (by omega)) (by omega)
theorem Sp.s2 {a b d c : Nat} {h : α → β → SM γ} {m : SM α} {n : SM β} {P : α → Prop} {P' : β → Prop} {Q : γ → Prop} (h1 : Sp a m P) (h1' : Sp b n P') (h2 : ∀ x y, P x → P' y → Sp d (h x y) Q) (hc : a + b + d ≤ c) : Sp c (.s2 h m n) Q :=
  Sp.bind (b := b + d) h1 (fun x hx => Sp.bind (b := d) h1' (fun y hy => h2 x y hx hy) (by omega)) (by omega)
theorem Sp.s3 {a b e d c : Nat} {h : α → β → γ → SM δ} {m : SM α} {n : SM β} {q : SM γ} {P : α → Prop} {P' : β → Prop} {P3 : γ → Prop} {Q : δ → Prop} (h1 : Sp a m P) (h1' : Sp b n P') (h3 : Sp e q P3) (h2 : ∀ x y z, P x → P' y → P3 z → Sp d (h x y z) Q) (hc : a + b + e + d ≤ c) : Sp c (.s3 h m n q) Q :=
  Sp.bind (b := b + e + d) h1 (fun x hx => Sp.bind (b := e + d) h1' (fun y hy => Sp.bind (b := d) h3 (fun z hz => h2 x y z hx hy hz) (by omega)) (by omega)) (by omega)
theorem Sp.mp {a c : Nat} {f : α → β} {m : SM α} {P : α → Prop} {Q : β → Prop} (h1 : Sp a m P) (h2 : ∀ x, P x → Q (f x)) (hc : a ≤ c) : Sp c (.mp f m) Q :=
  Sp.bind (b := 0) h1 (fun x hx => Sp.pure (h2 x hx)) (by omega)
theorem Sp.lim {a c : Nat} {m : SM (List α)} {P : List α → Prop} (h1 : Sp a m fun xs => xs.length ≤ 2 ^ 24 ∧ P xs) (hc : a ≤ c) : Sp c (.lim m) P :=
  Sp.bind (b := 0) h1 (fun xs hx => Sp.lift hx.1 hx.2) (by omega)
theorem Sp.cons {a b c : Nat} {m : SM α} {r : SM (List α)} {P : α → Prop} {P' : List α → Prop} {Q : List α → Prop} (h1 : Sp a m P) (h2 : Sp b r P') (h3 : ∀ x xs, P x → P' xs → Q (x :: xs)) (hc : a + b ≤ c) : Sp c (.cons m r) Q :=
  Sp.bind (b := b) h1 (fun x hx => Sp.bind (b := 0) h2 (fun xs hxs => Sp.pure (h3 x xs hx hxs)) (by omega)) hc
theorem Sp.amapGo {a : Nat} {f : α → SM β} {P : β → Prop} : ∀ {xs : List α}, (∀ x ∈ xs, Sp a (f x) P) → Sp (xs.length * a) (SM.amapGo f xs) fun ys => ys.length = xs.length ∧ ∀ y ∈ ys, P y
  | [], _ => Sp.pure ⟨rfl, fun y hy => by cases hy⟩
  | x :: xs, h => Sp.bind (b := xs.length * a) (h x List.mem_cons_self) (fun y hy => Sp.bind (b := 0) (Sp.amapGo fun z hz => h z (List.mem_cons_of_mem _ hz)) (fun ys hys => Sp.pure ⟨by simp [hys.1], fun z hz => by
      rcases List.mem_cons.mp hz with e | hz
      · rw [e]; exact hy
      · exact hys.2 z hz⟩) (Nat.le_refl _)) (by rw [List.length_cons, Nat.succ_mul]; omega)
theorem Sp.amap {a n c b : Nat} {m : SM (List α)} {f : α → SM β} {P : List α → Prop} {R : β → Prop} {Q : List β → Prop} (h1 : Sp b m P) (h0 : ∀ xs, P xs → xs.length ≤ n) (h2 : ∀ xs, P xs → ∀ x ∈ xs, Sp a (f x) R) (h3 : ∀ xs ys, P xs → ys.length = xs.length → (∀ y ∈ ys, R y) → Q ys) (hc : b + n * a ≤ c) : Sp c (.amap m f) Q :=
  Sp.bind (b := n * a) h1 (fun xs hx => (Sp.amapGo (h2 xs hx)).mono (Nat.mul_le_mul_right _ (h0 xs hx)) fun ys hy => h3 xs ys hx hy.1 hy.2) hc
theorem Sp.foldGo {a : Nat} {f : α → σ → SM σ} (I : List α → σ → Prop) {xs : List α} : ∀ (todo done : List α) (s : σ), xs = done ++ todo → I done s → (∀ d x r s, xs = d ++ x :: r → I d s → Sp a (f x s) (I (d ++ [x]))) → Sp (todo.length * a) (SM.foldGo f todo s) (I xs)
  | [], done, s, e, h, _ => Sp.pure (by rw [e, List.append_nil]; exact h)
  | x :: todo, done, s, e, h, st => Sp.bind (b := todo.length * a) (st done x todo s e h) (fun s' hs => Sp.foldGo I todo (done ++ [x]) s' (by rw [e, List.append_assoc]; rfl) hs st) (by rw [List.length_cons, Nat.succ_mul]; omega)
theorem Sp.fold {a b n c : Nat} {m : SM (List α)} {s : σ} {f : α → σ → SM σ} {P : List α → Prop} (I : List α → σ → Prop) {Q : σ → Prop} (h1 : Sp b m P) (h0 : ∀ xs, P xs → xs.length ≤ n) (hi : I [] s) (st : ∀ xs d x r s, P xs → xs = d ++ x :: r → I d s → Sp a (f x s) (I (d ++ [x]))) (hq : ∀ xs s, P xs → I xs s → Q s) (hc : b + n * a ≤ c) : Sp c (.fold m s f) Q :=
  Sp.bind (b := n * a) h1 (fun xs hx => (Sp.foldGo I xs [] s rfl hi fun d x r s hm h => st xs d x r s hx hm h).mono (Nat.mul_le_mul_right _ (h0 xs hx)) fun s hs => hq xs s hx hs) hc
/-- how a body of a loop goes on -/
def Go (I : σ → Prop) : Rs σ δ → Prop := fun r => ∃ s, (r = .nx s ∨ r = .ct s) ∧ I s
theorem Sp.goX {a : Nat} {f : α → σ → SM (Rs σ δ)} (I : List α → σ → Prop) {xs : List α} : ∀ (todo done : List α) (s : σ), xs = done ++ todo → I done s → (∀ d x r s, xs = d ++ x :: r → I d s → Sp a (f x s) (Go (I (d ++ [x])))) → Sp (todo.length * a) (SM.goX f todo s) fun r => ∃ s, r = .nx s ∧ I xs s
  | [], done, s, e, h, _ => Sp.pure ⟨s, rfl, by rw [e, List.append_nil]; exact h⟩
  | x :: todo, done, s, e, h, st => Sp.bind (b := todo.length * a) (st done x todo s e h) (fun r hr => by
      obtain ⟨s', e', hs⟩ := hr
      have := Sp.goX I todo (done ++ [x]) s' (by rw [e, List.append_assoc]; rfl) hs st
      rcases e' with rfl | rfl
      · exact this
      · exact this) (by rw [List.length_cons, Nat.succ_mul]; omega)
theorem Sp.forX {a b n c : Nat} {m : SM (List α)} {s : σ} {f : α → σ → SM (Rs σ δ)} {P : List α → Prop} (I : List α → σ → Prop) (h1 : Sp b m P) (h0 : ∀ xs, P xs → xs.length ≤ n) (hi : I [] s) (st : ∀ xs d x r s, P xs → xs = d ++ x :: r → I d s → Sp a (f x s) (Go (I (d ++ [x])))) (hc : b + n * a ≤ c) :
    Sp c (.forX m s f) fun r => ∃ s, r = .nx s ∧ ∃ xs, P xs ∧ I xs s :=
  Sp.bind (b := n * a) h1 (fun xs hx => (Sp.goX I xs [] s rfl hi fun d x r s hm h => st xs d x r s hx hm h).mono (Nat.mul_le_mul_right _ (h0 xs hx)) fun r hr => by
    obtain ⟨s, e, h⟩ := hr
    exact ⟨s, e, xs, hx, h⟩) hc
/-- a loop over a known list -/
theorem Sp.forL {a n c : Nat} {m : Tm (List α)} {xs : List α} {s : σ} {f : α → σ → SM (Rs σ δ)} (I : List α → σ → Prop) (h1 : Is m xs) (h0 : xs.length ≤ n) (hi : I [] s) (st : ∀ d x r s, xs = d ++ x :: r → I d s → Sp a (f x s) (Go (I (d ++ [x])))) (hc : n * a ≤ c) :
    Sp c (.forX (.lift m) s f) fun r => ∃ s, r = .nx s ∧ I xs s :=
  (Sp.forX (b := 0) (a := a) (n := n) (P := fun l => l = xs) I (Sp.is h1 rfl) (fun _ e => by rw [e]; exact h0) hi (fun l d x r s e hm h => st d x r s (e ▸ hm) h) (Nat.le_refl _)).mono (by omega) fun r hr => by
    obtain ⟨s, e, l, rfl, h⟩ := hr
    exact ⟨s, e, h⟩
theorem Sp.lp {a b c : Nat} {m : SM (Lp σ δ)} {k : σ → SM β} {r : δ → SM β} {I : σ → Prop} {Q : β → Prop} (h1 : Sp a m fun r => ∃ s, r = .nx s ∧ I s) (h2 : ∀ s, I s → Sp b (k s) Q) (hc : a + b ≤ c) : Sp c (.lp m k r) Q :=
  Sp.bind h1 (fun x hx => by
    obtain ⟨s, rfl, hs⟩ := hx
    exact h2 s hs) hc
theorem Sp.whGo {a : Nat} {c : σ → SM Bool} {f : σ → SM (Rs σ δ)} (P : Nat → σ → Prop) (Q : σ → Prop)
    (st : ∀ n s, P n s → ∃ R : Bool → Prop, Sp a (c s) R ∧ (R false → Q s) ∧ (R true → Sp a (f s) fun r => (∃ s', (r = .nx s' ∨ r = .ct s') ∧ ∃ m, m < n ∧ P m s') ∨ ∃ s', r = .bk s' ∧ Q s')) :
    ∀ (k n : Nat) (s : σ), n < k → P n s → Sp ((n + 1) * (a + a)) (SM.whGo c f k s) fun r => ∃ s, r = .nx s ∧ Q s
  | 0, n, s, hk, _ => absurd hk (Nat.not_lt_zero _)
  | k + 1, n, s, hk, h => by
    obtain ⟨R, h1, h2, h3⟩ := st n s h
    refine Sp.bind (b := a + n * (a + a)) h1 (fun b hb => ?_) (by rw [Nat.succ_mul]; omega)
    cases b with
    | false => rw [if_neg (by decide)]; exact Sp.pure ⟨s, rfl, h2 hb⟩
    | true =>
      rw [if_pos rfl]
      refine Sp.bind (b := n * (a + a)) (h3 hb) (fun r hr => ?_) (Nat.le_refl _)
      rcases hr with ⟨s', e, m, hm, hp⟩ | ⟨s', rfl, hq⟩
      · have := (Sp.whGo P Q st k m s' (by omega) hp).mono (Nat.mul_le_mul_right (a + a) (show m + 1 ≤ n by omega)) fun x h => h
        rcases e with rfl | rfl
        · exact this
        · exact this
      · exact Sp.pure ⟨s', rfl, hq⟩
theorem Sp.whX {a n b : Nat} {c : σ → SM Bool} {s : σ} {f : σ → SM (Rs σ δ)} (P : Nat → σ → Prop) (Q : σ → Prop) (h0 : P n s) (hn : n < 1000000)
    (st : ∀ n s, P n s → ∃ R : Bool → Prop, Sp a (c s) R ∧ (R false → Q s) ∧ (R true → Sp a (f s) fun r => (∃ s', (r = .nx s' ∨ r = .ct s') ∧ ∃ m, m < n ∧ P m s') ∨ ∃ s', r = .bk s' ∧ Q s')) (hb : (n + 1) * (a + a) ≤ b) :
    Sp b (SM.whX c s f) fun r => ∃ s, r = .nx s ∧ Q s := by
  unfold SM.whX
  exact (Sp.whGo P Q st fuel n s hn h0).mono hb fun _ h => h
/-! picks -/
theorem Sp.pick {most : Int} (h1 : 1 ≤ most) (h2 : most < 2 ^ 60) : Sp 1 (TL.pick most) fun r => 0 ≤ r ∧ r < most := fun t h0 ht => by
  have hlog : most.natAbs.log2 < 9000 := by
    have : most.natAbs.log2 < 60 := (Nat.log2_lt (by omega)).mpr (by omega)
    omega
  have hb : t.turn.natAbs < 2 ^ 60 := by omega
  refine ⟨⟨hlog, hb⟩, ?_⟩
  show (0 ≤ (pkV most t).1 ∧ (pkV most t).1 < most) ∧ 0 ≤ (pkV most t).2.turn ∧ (pkV most t).2.turn ≤ t.turn + (1 : Nat)
  unfold pkV
  by_cases hm : most < 2
  · rw [if_pos hm]
    exact ⟨⟨Int.le_refl 0, by show (0 : Int) < most; omega⟩, h0, by show t.turn ≤ _; omega⟩
  · rw [if_neg hm]
    by_cases hg : 1 < (drawR t.cells.reverse t.left).2
    · simp only [hg, if_true]
      exact ⟨⟨Int.emod_nonneg _ (by omega), Int.emod_lt_of_pos _ (by omega)⟩, h0, by show t.turn ≤ _; omega⟩
    · simp only [hg, if_false]
      exact ⟨⟨Int.emod_nonneg _ (by omega), Int.emod_lt_of_pos _ (by omega)⟩, by show 0 ≤ t.turn + 1; omega, by show t.turn + 1 ≤ _; omega⟩
/-- where a number below 1 stands: nothing is drawn -/
theorem Sp.pick' {most : Int} (h2 : most < 2 ^ 60) (h3 : -(2 ^ 60) < most) : Sp 1 (TL.pick most) fun r => 0 ≤ r ∧ (r = 0 ∨ r < most) := by
  by_cases h1 : 1 ≤ most
  · exact (Sp.pick h1 h2).mono (Nat.le_refl _) fun x h => ⟨h.1, .inr h.2⟩
  · intro t h0 ht
    have hlog : most.natAbs.log2 < 9000 := by
      by_cases hz : most.natAbs = 0
      · rw [hz]; decide
      · have : most.natAbs.log2 < 60 := (Nat.log2_lt hz).mpr (by omega)
        omega
    have hb : t.turn.natAbs < 2 ^ 60 := by omega
    refine ⟨⟨hlog, hb⟩, ?_⟩
    show (0 ≤ (pkV most t).1 ∧ ((pkV most t).1 = 0 ∨ (pkV most t).1 < most)) ∧ 0 ≤ (pkV most t).2.turn ∧ (pkV most t).2.turn ≤ t.turn + (1 : Nat)
    unfold pkV
    rw [if_pos (by omega)]
    exact ⟨⟨Int.le_refl 0, .inl rfl⟩, h0, by show t.turn ≤ _; omega⟩
theorem eraseIdx_perm {xs : List α} {i : Nat} {x : α} (h : xs[i]? = some x) : (x :: xs.eraseIdx i).Perm xs := by
  induction xs generalizing i with
  | nil => cases h
  | cons y ys ih =>
    cases i with
    | zero => simp at h; subst h; exact List.Perm.refl _
    | succ i =>
      have := ih (i := i) (by simpa using h)
      rw [List.eraseIdx_cons_succ]
      exact (List.Perm.swap y x _).trans (List.Perm.cons y this)
theorem Sp.ordGo : ∀ (n : Nat) (xs : List α), xs.length = n → n < 2 ^ 60 → Sp n (TL.ordGo n xs) fun ys => ys.Perm xs
  | 0, xs, h, _ => by
    have : xs = [] := List.length_eq_zero_iff.mp h
    subst this
    exact Sp.pure (List.Perm.refl _)
  | n + 1, xs, h, hn => by
    refine Sp.bind (a := 1) (b := n) (Sp.pick (by omega) (by omega)) (fun r hr => ?_) (by omega)
    obtain ⟨h1, h2⟩ := hr
    have h3 : r.toNat < xs.length := by omega
    refine Sp.bind (a := 0) (b := n) (P := fun _ => True) (Sp.lift ⟨h1, h3⟩ trivial) (fun _ _ => ?_) (by omega)
    have hx : xs[r.toNat]? = some xs[r.toNat] := List.getElem?_eq_getElem h3
    rw [hx]
    refine Sp.bind (b := 0) (Sp.ordGo n (xs.eraseIdx r.toNat) (by rw [List.length_eraseIdx_of_lt h3]; omega) (by omega)) (fun ys hys => Sp.pure ?_) (by omega)
    exact (List.Perm.cons _ hys).trans (eraseIdx_perm hx)
theorem Sp.order {xs : List α} {n : Nat} (h : xs.length ≤ n) (hn : n < 2 ^ 60) : Sp n (TL.order xs) fun ys => ys.Perm xs :=
  Sp.bind (b := 0) (Sp.ordGo xs.length xs rfl (by omega)) (fun ys hys => Sp.lift (by rw [hys.length_eq]; exact Nat.le_refl _) hys) (by omega)
theorem law_of {ns : List Int} {c : Nat} {p : SM Bool} (h : Sp c p fun b => b = true) (hc : c < 2 ^ 58) : (p (Sc.of ns)).ok ∧ (p (Sc.of ns)).val.1 = true := by
  obtain ⟨h1, h2, _⟩ := h (Sc.of ns) (Int.le_refl 0) (by show (0 : Int) + c < 2 ^ 59; omega)
  exact ⟨h1, h2⟩
end
end TL

/-! TLf: dicts with numbers as keys, typed. -/
namespace TL
open PySem DL
section
variable {α β : Type}
def eM (e : α → D) (xs : List (Int × α)) : D := .dict (xs.map fun p => (.int p.1, e p.2))
def putM (xs : List (Int × α)) (k : Int) (v : α) : List (Int × α) := if (xs.any fun p => decide (p.1 = k)) = true then xs.map (fun p => if p.1 = k then (p.1, v) else p) else xs ++ [(k, v)]
def mergeM (xs : List (Int × α)) (ps : List (Int × α)) : List (Int × α) := ps.foldl (fun acc p => putM acc p.1 p.2) xs
def toK (e : α → D) (xs : List (Int × α)) : List (L2.Key × D) := xs.map fun p => (.inl p.1, e p.2)
theorem dct_toK (e : α → D) (xs : List (Int × α)) : dct (toK e xs) = eM e xs := by
  unfold dct toK eM
  rw [List.map_map]; rfl
theorem putD_toK (e : α → D) (xs : List (Int × α)) (k : Int) (v : α) : putD (toK e xs) (.inl k) (e v) = toK e (putM xs k v) := by
  have h1 : ((toK e xs).any fun p => decide (p.1 = .inl k)) = xs.any fun p => decide (p.1 = k) := by
    unfold toK
    rw [List.any_map]
    refine congrArg (fun f => xs.any f) (funext fun p => ?_)
    show decide ((Sum.inl p.1 : L2.Key) = .inl k) = decide (p.1 = k)
    exact decide_eq_decide.mpr ⟨fun h => by cases h; rfl, fun h => by rw [h]⟩
  unfold putD putM
  rw [h1]
  split
  · unfold toK
    rw [List.map_map, List.map_map]
    refine List.map_congr_left fun p _ => ?_
    by_cases h : p.1 = k
    · show (if (Sum.inl p.1 : L2.Key) = .inl k then _ else _) = ((Sum.inl (if p.1 = k then (p.1, v) else p).1 : L2.Key), e (if p.1 = k then (p.1, v) else p).2)
      rw [if_pos h, if_pos (by rw [h])]
    · show (if (Sum.inl p.1 : L2.Key) = .inl k then _ else _) = ((Sum.inl (if p.1 = k then (p.1, v) else p).1 : L2.Key), e (if p.1 = k then (p.1, v) else p).2)
      rw [if_neg h, if_neg (fun h2 => by cases h2; exact h rfl)]
  · unfold toK
    rw [List.map_append]; rfl
theorem mergeD_toK (e : α → D) : ∀ (ps xs : List (Int × α)), mergeD (toK e xs) (ps.map (e2 eI e)) = some (toK e (mergeM xs ps))
  | [], xs => rfl
  | p :: ps, xs => by
    show mergeD (toK e xs) (e2 eI e p :: ps.map (e2 eI e)) = _
    have : prOf (e2 eI e p) = some (.inl p.1, e p.2) := rfl
    rw [mergeD, this]
    show mergeD (putD (toK e xs) (.inl p.1) (e p.2)) _ = _
    rw [putD_toK, mergeD_toK e ps]; rfl
theorem dDctL_map (e : α → D) (ps : List (Int × α)) : dDctL (ps.map (e2 eI e)) = some (eM e (mergeM [] ps)) := by
  unfold dDctL
  have := mergeD_toK e ps []
  have h0 : toK e ([] : List (Int × α)) = [] := rfl
  rw [h0] at this
  rw [this]
  show some (dct _) = _
  rw [dct_toK]
def tDict (ps : List (Int × α)) : Tm (List (Int × α)) := .pure (mergeM [] ps)
theorem oDict1 {e : α → D} : C1 dDict1 (eL (e2 eI e)) (eM e) tDict := fun ps _ => dDctL_map e ps
theorem oLenM {e : α → D} : C1 dLenM (eM e) eI tLen := fun xs _ => by
  show some (PyData.int ((xs.map fun p => (PyData.int p.1, e p.2)).length : Nat)) = some (.int ((xs.length : Nat) : Int))
  rw [List.length_map]
variable {κ : EnvD}
theorem E_pr {tk tv : M D} {e : α → D} {m : Tm Int} {n : Tm α} (h : E tk κ eI m) (h2 : E tv κ e n) : E (mPr tk tv) κ (e2 eI e) (.o2 tPair m n) := .mk fun k η τ l => by
  have e1 := h k.1 η τ l
  have e2' := h2 k.2.1 η τ l
  unfold mPr mBind mPure
  rw [e1]
  simp only [e2']
  rfl
theorem E_dc {fi : M (List D)} {vs : List Nat} {b : Tgt} {tt : M Bool} {tk tv : M D} {e : α → D} {p : Tm (List (Int × α))} (h : EN (mComp fi vs b tt (mPr tk tv)) κ (e2 eI e) p) : E (mDc fi vs b tt tk tv) κ (eM e) (.o1 tDict p) := .mk fun k η τ l => by
  have e1 := h k.1 η τ l
  unfold mDc
  show mBind (mComp fi vs b tt (mPr tk tv)) (fun ps => mLift (dDctL ps)) η τ = _
  unfold mBind mLift
  rw [e1]
  simp only [dDctL_map]
  rfl
theorem ES_ofI {i : Nat} {f : M D} {md : SM D} (h : ES i f κ eD md) : ES i f κ eI (.o1 cI md) := .mk fun t k η l => by
  have e := h t k.1 η l
  have k2 : isI (md t).val.1 = true := k.2
  rw [e]
  show some ((md t).val.1, _) = some (PyData.int (intD (md t).val.1), _)
  revert k2
  cases (md t).val.1 <;> simp [isI, intD, eD] <;> rfl
end
end TL

/-! FR: fractions in lowest terms; Euclid's loop; bounds. -/
namespace FR
open PySem DL TL

def fr (x : Rat) : Int × Int := (x.num, (x.den : Int))
def q (p : Int × Int) : Rat := (p.1 : Rat) / (p.2 : Rat)
theorem fr_pos (x : Rat) : 0 < (fr x).2 := by
  show (0 : Int) < (x.den : Int)
  exact Int.natCast_pos.mpr x.den_pos
theorem q_fr (x : Rat) : q (fr x) = x := by
  show (x.num : Rat) / ((x.den : Int) : Rat) = x
  rw [← Rat.divInt_eq_div]
  exact Rat.num_divInt_den x
theorem fr_inj {x y : Rat} (h : fr x = fr y) : x = y := by rw [← q_fr x, ← q_fr y, h]
theorem fr_low {p d : Int} (hd : 0 < d) : (p / (Int.gcd d p : Int), d / (Int.gcd d p : Int)) = fr ((p : Rat) / (d : Rat)) := by
  rw [← Rat.divInt_eq_div]
  unfold fr
  rw [Rat.num_divInt, Rat.den_divInt, if_neg (by omega), Int.sign_eq_one_of_pos hd, Int.one_mul]
  congr 1
  rw [Int.natCast_ediv, Int.natAbs_of_nonneg (by omega)]

/-! ### Euclid's loop -/
theorem log2_lt {n k : Nat} (h : n < 2 ^ k) (hk : 0 < k) : n.log2 < k := by
  by_cases hz : n = 0
  · rw [hz]; simpa using hk
  · exact (Nat.log2_lt hz).mpr h
theorem lt_pow {n k : Nat} (h : n.log2 < k) : n < 2 ^ k := by
  by_cases hz : n = 0
  · rw [hz]; exact Nat.pow_pos (by decide)
  · exact (Nat.log2_lt hz).mp h
theorem euclid {c : Int × Int → Tm Bool} {f : Int × Int → Tm (Int × Int)} (hc : ∀ s, Is (c s) (decide (0 < s.2))) (hf : ∀ s, 0 < s.2 → Is (f s) (s.2, s.1 % s.2)) {a b : Int} (hb : 0 ≤ b) (ha : 0 < b ∨ 0 ≤ a) (hs : b.natAbs.log2 < 9000) :
    (Tm.wl c (a, b) f).ok ∧ (Tm.wl c (a, b) f).val.1 = (Int.gcd b a : Int) := by
  refine Tm.wl_run (fun n (s : Int × Int) => 0 ≤ s.2 ∧ (0 < s.2 ∨ 0 ≤ s.1) ∧ Int.gcd s.2 s.1 = Int.gcd b a ∧ ∃ k : Nat, (s.2 < 2 ^ k ∧ n = 2 * k + 1) ∨ (s.2 < s.1 ∧ s.1 < 2 ^ k ∧ n = 2 * k)) (fun (s : Int × Int) => s.1 = (Int.gcd b a : Int)) (2 * 9000 + 1) (by decide)
    ⟨hb, ha, rfl, 9000, .inl ⟨?_, rfl⟩⟩ ?_
  · have := lt_pow hs
    have e : ((2 : Int) ^ 9000) = ((2 ^ 9000 : Nat) : Int) := by rw [Int.natCast_pow]; rfl
    show b < 2 ^ 9000
    rw [e]
    omega
  · rintro n ⟨x, y⟩ ⟨h1, h2, h3, k, h4⟩
    simp only at h1 h2 h3 h4
    refine ⟨(hc _).1, ?_⟩
    rw [(hc _).2]
    by_cases hy : 0 < y
    · right
      refine ⟨decide_eq_true hy, (hf _ hy).1, ?_⟩
      rw [(hf _ hy).2]
      simp only
      have r0 : 0 ≤ x % y := Int.emod_nonneg _ (by omega)
      have r1 : x % y < y := Int.emod_lt_of_pos _ hy
      have g : Int.gcd (x % y) y = Int.gcd b a := by
        rw [← h3, Int.gcd_comm (x % y) y]
        have := Int.gcd_add_mul_left_right y (x % y) (x / y)
        rw [Int.emod_add_mul_ediv] at this
        exact this.symm
      rcases h4 with ⟨h4, rfl⟩ | ⟨h4, h5, rfl⟩
      · exact ⟨2 * k, by omega, r0, .inr h1, g, k, .inr ⟨r1, h4, rfl⟩⟩
      · cases k with
        | zero => simp at h5; omega
        | succ k =>
          refine ⟨2 * k + 1, by omega, r0, .inr h1, g, k, .inl ⟨?_, rfl⟩⟩
          have e : (2 : Int) ^ (k + 1) = 2 * 2 ^ k := by rw [Int.pow_succ, Int.mul_comm]
          rw [e] at h5
          have h6 := Int.emod_add_mul_ediv x y
          have h7 : 1 ≤ x / y := by
            have := Int.ediv_le_ediv hy (show y ≤ x by omega)
            rwa [Int.ediv_self (by omega)] at this
          have h8 : y * 1 ≤ y * (x / y) := Int.mul_le_mul_of_nonneg_left h7 (by omega)
          omega
    · left
      refine ⟨decide_eq_false hy, ?_⟩
      have hy0 : y = 0 := by omega
      subst hy0
      rw [Int.gcd_zero_left] at h3
      show x = _
      rw [← h3]
      omega

/-! ### bounds -/
def Big : Nat := 2 ^ 1900
theorem big_lt {n k : Nat} (h : n ≤ 2 ^ k) (hk : k < 1900) : n < Big := by
  unfold Big
  exact Nat.lt_of_le_of_lt h (Nat.pow_lt_pow_right (by decide) hk)
theorem big_log {n : Nat} (h : n < Big) : n.log2 < 1900 := log2_lt h (by decide)
theorem okMul_big {i j : Int} (h1 : i.natAbs < Big) (h2 : j.natAbs < Big) : okMul i j = true := by
  have a := big_log h1
  have b := big_log h2
  unfold okMul
  exact decide_eq_true (by omega)
theorem big2_log {i j : Int} (h1 : i.natAbs < Big) (h2 : j.natAbs < Big) : (i * j).natAbs.log2 < 9000 := by
  unfold Big at h1 h2
  have : i.natAbs * j.natAbs < 2 ^ 1900 * 2 ^ 1900 := Nat.mul_lt_mul'' h1 h2
  rw [← Nat.pow_add] at this
  rw [Int.natAbs_mul]
  have := log2_lt this (by decide)
  omega
/-- x times D is whole -/
def Dv (D : Nat) (x : Rat) : Prop := ∃ n : Int, x * (D : Rat) = (n : Rat)
theorem Dv.zero (D : Nat) : Dv D 0 := ⟨0, by simp⟩
theorem Dv.add {D : Nat} {x y : Rat} (h : Dv D x) (h2 : Dv D y) : Dv D (x + y) := by
  obtain ⟨n, hn⟩ := h
  obtain ⟨m, hm⟩ := h2
  exact ⟨n + m, by rw [Rat.add_mul, hn, hm, Rat.intCast_add]⟩
theorem Dv.mul {D E : Nat} {x y : Rat} (h : Dv D x) (h2 : Dv E y) : Dv (D * E) (x * y) := by
  obtain ⟨n, hn⟩ := h
  obtain ⟨m, hm⟩ := h2
  refine ⟨n * m, ?_⟩
  rw [Rat.intCast_mul, ← hn, ← hm, Rat.natCast_mul]
  grind
theorem Dv.int (D : Nat) (n : Int) : Dv D (n : Rat) := ⟨n * D, by rw [Rat.intCast_mul]; rfl⟩
theorem Dv.up {D E : Nat} {x : Rat} (h : Dv D x) (hd : D ∣ E) : Dv E x := by
  obtain ⟨k, rfl⟩ := hd
  obtain ⟨n, hn⟩ := h
  exact ⟨n * k, by rw [Rat.natCast_mul, ← Rat.mul_assoc, hn, Rat.intCast_mul]; rfl⟩
theorem Dv.sum {D : Nat} : ∀ {l : List Rat}, (∀ x ∈ l, Dv D x) → Dv D l.sum
  | [], _ => Dv.zero D
  | x :: l, h => by
    rw [List.sum_cons]
    exact (h x List.mem_cons_self).add (Dv.sum fun y hy => h y (List.mem_cons_of_mem _ hy))
theorem Dv.of_div {n : Int} {D : Nat} (hD : 0 < D) : Dv D ((n : Rat) / (D : Rat)) := ⟨n, Rat.div_mul_cancel (by
  intro h
  have := Rat.natCast_eq_zero_iff.mp h
  omega)⟩
theorem Dv.eq {D : Nat} {x : Rat} (hD : 0 < D) {n : Int} (h : x * (D : Rat) = n) : x = mkRat n D := by
  rw [Rat.mkRat_eq_div, ← h, Rat.mul_div_cancel]
  intro h
  have := Rat.natCast_eq_zero_iff.mp h
  omega
/-- both numbers of x are at most N -/
def Bd (N : Nat) (x : Rat) : Prop := x.num.natAbs ≤ N ∧ x.den ≤ N
theorem Bd.of {D B N : Nat} {x : Rat} (hD : 0 < D) (h : Dv D x) (h1 : -(B : Rat) ≤ x) (h2 : x ≤ (B : Rat)) (hN : (B + 1) * D ≤ N) : Bd N x := by
  obtain ⟨n, hn⟩ := h
  have hx := Dv.eq hD hn
  have hDr : (0 : Rat) ≤ (D : Rat) := Rat.natCast_nonneg
  have n1 : n ≤ (B * D : Nat) := by
    have := Rat.mul_le_mul_of_nonneg_right h2 hDr
    rw [hn, ← Rat.natCast_mul] at this
    exact Rat.intCast_le_intCast.mp this
  have n2 : -((B * D : Nat) : Int) ≤ n := by
    have := Rat.mul_le_mul_of_nonneg_right h1 hDr
    rw [hn, Rat.neg_mul, ← Rat.natCast_mul] at this
    exact Rat.intCast_le_intCast.mp (by rw [Rat.intCast_neg]; exact this)
  have hN' : B * D + D ≤ N := by rw [Nat.add_mul, Nat.one_mul] at hN; exact hN
  constructor
  · rw [hx, Rat.num_mkRat, if_neg (by omega)]
    have : (n / (D.gcd n.natAbs : Int)).natAbs ≤ n.natAbs := Int.natAbs_ediv_le_natAbs n _
    omega
  · rw [hx, Rat.den_mkRat, if_neg (by omega)]
    have := Nat.div_le_self D (D.gcd n.natAbs)
    omega
theorem sum_le {B : Nat} : ∀ {l : List Rat}, (∀ x ∈ l, x ≤ (B : Rat)) → l.sum ≤ ((l.length * B : Nat) : Rat)
  | [], _ => by simp
  | x :: l, h => by
    have h1 := h x List.mem_cons_self
    have h2 := sum_le (l := l) fun y hy => h y (List.mem_cons_of_mem _ hy)
    rw [List.sum_cons, List.length_cons, Nat.succ_mul, Rat.natCast_add]
    grind
theorem le_sum {B : Nat} : ∀ {l : List Rat}, (∀ x ∈ l, -(B : Rat) ≤ x) → -((l.length * B : Nat) : Rat) ≤ l.sum
  | [], _ => by simp
  | x :: l, h => by
    have h1 := h x List.mem_cons_self
    have h2 := le_sum (l := l) fun y hy => h y (List.mem_cons_of_mem _ hy)
    rw [List.sum_cons, List.length_cons, Nat.succ_mul, Rat.natCast_add]
    grind
/-- pairs that may be added up: each a fraction whose part D is whole, between -B and B, of small numbers -/
structure OkP (D B : Nat) (p : Int × Int) : Prop where
  pos : 0 < p.2
  n1 : p.1.natAbs < Big
  n2 : p.2.natAbs < Big
  dv : Dv D (q p)
  lo : -(B : Rat) ≤ q p
  hi : q p ≤ (B : Rat)
theorem OkP.fr {D B : Nat} {x : Rat} (hD : 0 < D) (h : Dv D x) (h1 : -(B : Rat) ≤ x) (h2 : x ≤ (B : Rat)) (hN : (B + 1) * D < Big) : OkP D B (fr x) := by
  have b := Bd.of hD h h1 h2 (Nat.le_refl _)
  refine ⟨fr_pos x, Nat.lt_of_le_of_lt b.1 hN, ?_, by rw [q_fr]; exact h, by rw [q_fr]; exact h1, by rw [q_fr]; exact h2⟩
  show ((x.den : Int)).natAbs < Big
  rw [Int.natAbs_natCast]
  exact Nat.lt_of_le_of_lt b.2 hN
theorem add_q {s : Rat} {p : Int × Int} (hp : 0 < p.2) : (((s.num * p.2 + p.1 * (s.den : Int) : Int)) : Rat) / (((s.den : Int) * p.2 : Int) : Rat) = s + q p := by
  have h1 : (p.2 : Rat) ≠ 0 := fun h => by have := Rat.intCast_eq_zero_iff.mp h; omega
  have h2 : ((s.den : Int) : Rat) ≠ 0 := fun h => by have := Rat.intCast_eq_zero_iff.mp h; have := s.den_pos; omega
  have h3 : s = (s.num : Rat) / ((s.den : Int) : Rat) := (q_fr s).symm
  have h4 : s + q p = (s.num : Rat) / ((s.den : Int) : Rat) + (p.1 : Rat) / (p.2 : Rat) := by
    rw [show (s.num : Rat) / ((s.den : Int) : Rat) = s from q_fr s]; rfl
  rw [h4, Rat.intCast_add, Rat.intCast_mul, Rat.intCast_mul, Rat.intCast_mul]
  grind
theorem fr_lt {x y : Rat} : x < y ↔ (fr x).1 * (fr y).2 < (fr y).1 * (fr x).2 := Rat.lt_iff x y
theorem fr_le {x y : Rat} : x ≤ y ↔ (fr x).1 * (fr y).2 ≤ (fr y).1 * (fr x).2 := Rat.le_iff x y
theorem sum_snoc (l : List Rat) (x : Rat) : (l ++ [x]).sum = l.sum + x := by
  induction l with
  | nil => simp [Rat.add_comm]
  | cons y l ih => rw [List.cons_append, List.sum_cons, List.sum_cons, ih, Rat.add_assoc]
/-- adding up, for any reading of the sum of two -/
theorem adding {f : Int × Int → Int × Int → Tm (Int × Int)} (hf : ∀ (p : Int × Int) (s : Rat), 0 < p.2 → p.1.natAbs < Big → p.2.natAbs < Big → Bd (Big - 1) s → Is (f p (fr s)) (fr (s + q p))) {D B : Nat} {ps : List (Int × Int)} (hD : 0 < D) (h : ∀ p ∈ ps, OkP D B p) (hN : (ps.length * B + 1) * D < Big) {m : Tm (List (Int × Int))} (hm : Is m ps) :
    Is (Tm.fold m (0, 1) f) (fr (ps.map q).sum) := by
  have h0 : fr (0 : Rat) = (0, 1) := rfl
  obtain ⟨h1, h2⟩ := Tm.fold_pre (m := m) (s := (0, 1)) (f := f) (fun d s => s = fr (d.map q).sum) hm h0.symm (by
    rintro d x r s e rfl
    have hx := h x (by rw [e]; simp)
    have hd : ∀ p ∈ d, OkP D B p := fun p hp => h p (by rw [e]; simp [hp])
    have hl : d.length ≤ ps.length := by rw [e]; simp
    have hb : Bd (Big - 1) (d.map q).sum := by
      refine Bd.of (D := D) (B := d.length * B) hD (Dv.sum fun y hy => ?_) ?_ ?_ ?_
      · obtain ⟨p, hp, rfl⟩ := List.mem_map.mp hy
        exact (hd p hp).dv
      · have := le_sum (B := B) (l := d.map q) fun y hy => by
          obtain ⟨p, hp, rfl⟩ := List.mem_map.mp hy
          exact (hd p hp).lo
        rw [List.length_map] at this
        exact this
      · have := sum_le (B := B) (l := d.map q) fun y hy => by
          obtain ⟨p, hp, rfl⟩ := List.mem_map.mp hy
          exact (hd p hp).hi
        rw [List.length_map] at this
        exact this
      · have := Nat.mul_le_mul_right D (Nat.succ_le_succ (Nat.mul_le_mul_right B hl))
        show (d.length * B + 1) * D ≤ Big - 1
        have t : (d.length * B + 1) * D ≤ (ps.length * B + 1) * D := this
        omega
    have hi := hf x _ hx.pos hx.n1 hx.n2 hb
    refine ⟨hi.1, ?_⟩
    rw [hi.2, List.map_append]
    show fr _ = fr ((d.map q) ++ [q x]).sum
    rw [sum_snoc])
  exact ⟨h1, h2⟩
end FR

namespace W92
open PySem PySem.Spec PyProof.Rows L2 DL
def topS (i : Nat) : Stmt := PySem.Challenge.pw_beforeitcomes_k92_whole_tight_lots.main.body.getD i (.Pass ⟨0, 0, 0, 0⟩)

/-! ### lowest_pair -/
abbrev s_lowest_pair : Stmt := topS 1
theorem sc_lowest_pair : FnScope ["p", "q", "a", "b"] ["p", "q"] (defScope s_lowest_pair) := ⟨rfl, rfl, rfl, by decide +kernel, rfl, by decide +kernel, by decide +kernel⟩
noncomputable def g_lowest_pair : Stm :=
  (mSeq (mPar false [2, 3] (mVDat (mVar 0) (mVDat (mVar 1) mVNil)))
    (mSeq (mWhile (mBool (mOp2 dGt (mVar 3) (mPure (.int 0)))) (mPar false [2, 3] (mVDat (mVar 3) (mVDat (mOp2 dMod (mVar 2) (mVar 3)) mVNil))))
    (mRet (mTup (mCons (mOp2 dFloor (mVar 0) (mVar 2)) (mCons (mOp2 dFloor (mVar 1) (mVar 2)) mNil))))))
noncomputable def m_lowest_pair : List D → Option D := runP 2 4 g_lowest_pair
theorem h_lowest_pair {P : Program} {w : World} {K : PySem.W.Frag} {mg : Str → Option Value} {base : Heap} {f : Addr} {fd : FuncData} (F : Fun K "lowest_pair" "lowest_pair" s_lowest_pair f fd) (hm : mg "lowest_pair" = some (.ref f)) (b : Binds K fd ["p", "q"] []) :
    Has P w K mg base 1 "lowest_pair" 2 m_lowest_pair := by
  have sc := sc_lowest_pair
  refine has_P F sc rfl b hm fun cdv A outer s H hr hd => ?_
  exact (dss_cons (ds_par false rfl sc.nd rfl rfl (by decide) rfl rfl (dv_dat (de_var 0) (dv_dat (de_var 1) dv_nil)) rfl)
    (dss_cons (ds_while PassesOwn.never (dt_gt (de_var 3) de_int) (dss_one (ds_par false rfl sc.nd rfl rfl (by decide) rfl rfl (dv_dat (de_var 3) (dv_dat (de_mod (de_var 2) (de_var 3)) dv_nil)) rfl)))
    (dss_one (ds_ret (de_tup (da_cons (de_floor (de_var 0) (de_var 2)) (da_cons (de_floor (de_var 1) (de_var 2)) da_nil)))))))

/-! ### summed_pairs -/
abbrev s_summed_pairs : Stmt := topS 3
theorem sc_summed_pairs : FnScope ["some", "p", "q", "a", "b"] ["some"] (defScope s_summed_pairs) := ⟨rfl, rfl, rfl, by decide +kernel, rfl, by decide +kernel, by decide +kernel⟩
noncomputable def g_summed_pairs : Stm :=
  (mSeq (mPar false [1, 2] (mVDat (mPure (.int 0)) (mVDat (mPure (.int 1)) mVNil)))
    (mSeq (mFor (mItems (mVar 0)) (.tp [(.nm 3), (.nm 4)]) (mAsgT false (.tp [(.nm 1), (.nm 2)]) (mOpL m_lowest_pair (mCons (mOp2 dAdd (mOp2 dMul (mVar 1) (mVar 4)) (mOp2 dMul (mVar 3) (mVar 2))) (mCons (mOp2 dMul (mVar 2) (mVar 4)) mNil)))))
    (mRet (mTup (mCons (mVar 1) (mCons (mVar 2) mNil))))))
noncomputable def m_summed_pairs : List D → Option D := runP 1 5 g_summed_pairs
theorem h_summed_pairs {P : Program} {w : World} {K : PySem.W.Frag} {mg : Str → Option Value} {base : Heap} {f : Addr} {fd : FuncData} (F : Fun K "summed_pairs" "summed_pairs" s_summed_pairs f fd) (hm : mg "summed_pairs" = some (.ref f)) (b : Binds K fd ["some"] []) (h_lowest_pair : Has P w K mg base 1 "lowest_pair" 2 m_lowest_pair) :
    Has P w K mg base 2 "summed_pairs" 1 m_summed_pairs := by
  have sc := sc_summed_pairs
  refine has_P F sc rfl b hm fun cdv A outer s H hr hd => ?_
  exact (dss_cons (ds_parN false rfl sc.nd (.cons rfl (by first | exact .inl rfl | exact .inr rfl) (by first | exact .inl rfl | exact .inr rfl) (.cons rfl (by first | exact .inl rfl | exact .inr rfl) (by first | exact .inl rfl | exact .inr rfl) .nil rfl) rfl) (dv_dat de_int (dv_dat de_int dv_nil)) (by decide))
    (dss_cons (ds_for PassesOwn.never rfl (di_seq (de_var 0)) (dg_tup rfl (dgs_cons (dg_name sc.nd rfl (by first | exact .inl rfl | exact .inr rfl)) (dgs_cons (dg_name sc.nd rfl (by first | exact .inl rfl | exact .inr rfl)) dgs_nil)) rfl) (dss_one (ds_asgT false (de_fn h_lowest_pair hr hd (by rfl) (da_cons (de_add (de_mul (de_var 1) (de_var 4)) (de_mul (de_var 3) (de_var 2))) (da_cons (de_mul (de_var 2) (de_var 4)) da_nil))) (dg_tup rfl (dgs_cons (dg_name sc.nd rfl (by first | exact .inl rfl | exact .inr rfl)) (dgs_cons (dg_name sc.nd rfl (by first | exact .inl rfl | exact .inr rfl)) dgs_nil)) rfl))))
    (dss_one (ds_ret (de_tup (da_cons (de_var 1) (da_cons (de_var 2) da_nil)))))))

/-! ### is_call_answered -/
abbrev s_is_call_answered : Stmt := topS 5
theorem sc_is_call_answered : FnScope ["call", "lots", "lot"] ["call", "lots"] (defScope s_is_call_answered) := ⟨rfl, rfl, rfl, by decide +kernel, rfl, by decide +kernel, by decide +kernel⟩
noncomputable def g_is_call_answered : Stm :=
  (mRet (mOpL dAny (mCons (mOfN (mComp (mItems (mVar 0)) [2] (.nm 2) mTrue (mOp2 dIn (mVar 2) (mVar 1)))) mNil)))
noncomputable def m_is_call_answered : List D → Option D := runP 2 3 g_is_call_answered
theorem h_is_call_answered {P : Program} {w : World} {K : PySem.W.Frag} {mg : Str → Option Value} {base : Heap} {f : Addr} {fd : FuncData} (F : Fun K "is_call_answered" "is_call_answered" s_is_call_answered f fd) (hm : mg "is_call_answered" = some (.ref f)) (b : Binds K fd ["call", "lots"] []) (z_any : mg "any" = none) :
    Has P w K mg base 1 "is_call_answered" 2 m_is_call_answered := by
  have sc := sc_is_call_answered
  refine has_P F sc rfl b hm fun cdv A outer s H hr hd => ?_
  exact (dss_one (ds_ret (de_any rfl (by rfl) z_any (da_cons (de_ofN (dn_lc [("lot", 2)] rfl sc.nd (di_seq (de_var 0)) (blkOk_by rfl) (by decide) (by decide) (fun _ _ _ _ _ => (dg_name sc.nd rfl (by first | exact .inl rfl | exact .inr rfl))) (fun _ _ _ _ _ => dts_nil) (fun _ _ _ _ _ => (de_in hr.u65 (de_var 2) (de_var 1))))) da_nil))))

/-! ### do_answer -/
abbrev s_do_answer : Stmt := topS 6
theorem sc_do_answer : FnScope ["row", "lots", "call"] ["row", "lots"] (defScope s_do_answer) := ⟨rfl, rfl, rfl, by decide +kernel, rfl, by decide +kernel, by decide +kernel⟩
noncomputable def g_do_answer : Stm :=
  (mRet (mOpL dAll (mCons (mOfN (mComp (mItems (mVar 0)) [2] (.nm 2) mTrue (mOpL m_is_call_answered (mCons (mVar 2) (mCons (mVar 1) mNil))))) mNil)))
noncomputable def m_do_answer : List D → Option D := runP 2 3 g_do_answer
theorem h_do_answer {P : Program} {w : World} {K : PySem.W.Frag} {mg : Str → Option Value} {base : Heap} {f : Addr} {fd : FuncData} (F : Fun K "do_answer" "do_answer" s_do_answer f fd) (hm : mg "do_answer" = some (.ref f)) (b : Binds K fd ["row", "lots"] []) (h_is_call_answered : Has P w K mg base 1 "is_call_answered" 2 m_is_call_answered) (z_all : mg "all" = none) :
    Has P w K mg base 2 "do_answer" 2 m_do_answer := by
  have sc := sc_do_answer
  refine has_P F sc rfl b hm fun cdv A outer s H hr hd => ?_
  exact (dss_one (ds_ret (de_all rfl (by rfl) z_all (da_cons (de_ofN (dn_lc [("call", 2)] rfl sc.nd (di_seq (de_var 0)) (blkOk_by rfl) (by decide) (by decide) (fun _ _ _ _ _ => (dg_name sc.nd rfl (by first | exact .inl rfl | exact .inr rfl))) (fun _ _ _ _ _ => dts_nil) (fun _ _ _ _ _ => (de_fn h_is_call_answered hr hd (by rfl) (da_cons (de_var 2) (da_cons (de_var 1) da_nil)))))) da_nil))))

/-! ### lots_cost -/
abbrev s_lots_cost : Stmt := topS 7
theorem sc_lots_cost : FnScope ["costs", "lots", "lot"] ["costs", "lots"] (defScope s_lots_cost) := ⟨rfl, rfl, rfl, by decide +kernel, rfl, by decide +kernel, by decide +kernel⟩
noncomputable def g_lots_cost : Stm :=
  (mRet (mOpL dSumA (mCons (mOfN (mComp (mItems (mVar 1)) [2] (.nm 2) mTrue (mOp2 dIx (mVar 0) (mVar 2)))) mNil)))
noncomputable def m_lots_cost : List D → Option D := runP 2 3 g_lots_cost
theorem h_lots_cost {P : Program} {w : World} {K : PySem.W.Frag} {mg : Str → Option Value} {base : Heap} {f : Addr} {fd : FuncData} (F : Fun K "lots_cost" "lots_cost" s_lots_cost f fd) (hm : mg "lots_cost" = some (.ref f)) (b : Binds K fd ["costs", "lots"] []) (z_sum : mg "sum" = none) :
    Has P w K mg base 1 "lots_cost" 2 m_lots_cost := by
  have sc := sc_lots_cost
  refine has_P F sc rfl b hm fun cdv A outer s H hr hd => ?_
  exact (dss_one (ds_ret (de_sumA rfl (by rfl) z_sum (da_cons (de_ofN (dn_lc [("lot", 2)] rfl sc.nd (di_seq (de_var 1)) (blkOk_by rfl) (by decide) (by decide) (fun _ _ _ _ _ => (dg_name sc.nd rfl (by first | exact .inl rfl | exact .inr rfl))) (fun _ _ _ _ _ => dts_nil) (fun _ _ _ _ _ => (de_ix (de_var 0) (de_var 2) (fun _ _ => rfl))))) da_nil))))

/-! ### all_lot_rows -/
abbrev s_all_lot_rows : Stmt := topS 8
theorem sc_all_lot_rows : FnScope ["many", "found", "lot", "lots"] ["many"] (defScope s_all_lot_rows) := ⟨rfl, rfl, rfl, by decide +kernel, rfl, by decide +kernel, by decide +kernel⟩
noncomputable def g_all_lot_rows : Stm :=
  (mSeq (mSetN false 1 (mLst (mCons (mTup mNil) mNil)))
    (mSeq (mFor (mRange1 (mVar 0)) (.nm 2) (mExt true 1 (mOfN (mComp (mItems (mOfN (mListOf (mVar 1)))) [3] (.nm 3) mTrue (mTup (mStar (mVar 3) (mCons (mVar 2) mNil)))))))
    (mRet (mVar 1))))
noncomputable def m_all_lot_rows : List D → Option D := runP 1 4 g_all_lot_rows
theorem h_all_lot_rows {P : Program} {w : World} {K : PySem.W.Frag} {mg : Str → Option Value} {base : Heap} {f : Addr} {fd : FuncData} (F : Fun K "all_lot_rows" "all_lot_rows" s_all_lot_rows f fd) (hm : mg "all_lot_rows" = some (.ref f)) (b : Binds K fd ["many"] []) (z_list : mg "list" = none) (z_range : mg "range" = none) :
    Has P w K mg base 1 "all_lot_rows" 1 m_all_lot_rows := by
  have sc := sc_all_lot_rows
  refine has_P F sc rfl b hm fun cdv A outer s H hr hd => ?_
  exact (dss_cons (ds_setN false sc.nd rfl (by first | exact .inl rfl | exact .inr rfl) (dn_lst (da_cons (de_tup da_nil) da_nil)))
    (dss_cons (ds_for PassesOwn.never rfl (di_range1 (by rfl) z_range (de_var 0)) (dg_name sc.nd rfl (by first | exact .inl rfl | exact .inr rfl)) (dss_one (ds_ext true 1 (pv 1) (de_ofN (dn_lc [("lots", 3)] rfl sc.nd (di_seq (de_ofN (dn_list (by rfl) z_list (de_var 1)))) (blkOk_by rfl) (by decide) (by decide) (fun _ _ _ _ _ => (dg_name sc.nd rfl (by first | exact .inl rfl | exact .inr rfl))) (fun _ _ _ _ _ => dts_nil) (fun _ _ _ _ _ => (de_tup (da_star (de_var 3) (da_cons (de_var 2) da_nil)))))))))
    (dss_one (ds_ret (de_var 1)))))

/-! ### least_lots -/
abbrev s_least_lots : Stmt := topS 9
theorem sc_least_lots : FnScope ["costs", "row", "lots"] ["costs", "row"] (defScope s_least_lots) := ⟨rfl, rfl, rfl, by decide +kernel, rfl, by decide +kernel, by decide +kernel⟩
noncomputable def g_least_lots : Stm :=
  (mRet (mOp2 dIx (mOpL dMinB (mCons (mOfN (mComp (mItems (mOpL m_all_lot_rows (mCons (mOpL dLen (mCons (mVar 0) mNil)) mNil))) [2] (.nm 2) (mBool (mOpL m_do_answer (mCons (mVar 1) (mCons (mVar 2) mNil)))) (mTup (mCons (mOpL m_lots_cost (mCons (mVar 0) (mCons (mVar 2) mNil))) (mCons (mVar 2) mNil))))) mNil)) (mPure (.int 1))))
noncomputable def m_least_lots : List D → Option D := runP 2 3 g_least_lots
theorem h_least_lots {P : Program} {w : World} {K : PySem.W.Frag} {mg : Str → Option Value} {base : Heap} {f : Addr} {fd : FuncData} (F : Fun K "least_lots" "least_lots" s_least_lots f fd) (hm : mg "least_lots" = some (.ref f)) (b : Binds K fd ["costs", "row"] []) (h_all_lot_rows : Has P w K mg base 2 "all_lot_rows" 1 m_all_lot_rows) (h_do_answer : Has P w K mg base 2 "do_answer" 2 m_do_answer) (h_lots_cost : Has P w K mg base 2 "lots_cost" 2 m_lots_cost) (z_len : mg "len" = none) (z_min : mg "min" = none) :
    Has P w K mg base 3 "least_lots" 2 m_least_lots := by
  have sc := sc_least_lots
  refine has_P F sc rfl b hm fun cdv A outer s H hr hd => ?_
  exact (dss_one (ds_ret (de_ix (de_minB rfl hr.u70 (by rfl) z_min (da_cons (de_ofN (dn_lc [("lots", 2)] rfl sc.nd (di_seq (de_fn h_all_lot_rows hr hd (by rfl) (da_cons (de_len (by rfl) z_len (da_cons (de_var 0) da_nil)) da_nil))) (blkOk_by rfl) (by decide) (by decide) (fun _ _ _ _ _ => (dg_name sc.nd rfl (by first | exact .inl rfl | exact .inr rfl))) (fun _ _ _ _ _ => (dts_one (dt_val (de_fn h_do_answer hr hd (by rfl) (da_cons (de_var 1) (da_cons (de_var 2) da_nil)))))) (fun _ _ _ _ _ => (de_tup (da_cons (de_fn h_lots_cost hr hd (by rfl) (da_cons (de_var 0) (da_cons (de_var 2) da_nil))) (da_cons (de_var 2) da_nil)))))) da_nil)) de_int (fun _ _ => rfl))))

/-! ### least_answer -/
abbrev s_least_answer : Stmt := topS 10
theorem sc_least_answer : FnScope ["costs", "row"] ["costs", "row"] (defScope s_least_answer) := ⟨rfl, rfl, rfl, by decide +kernel, rfl, by decide +kernel, by decide +kernel⟩
noncomputable def g_least_answer : Stm :=
  (mRet (mOpL m_lots_cost (mCons (mVar 0) (mCons (mOpL m_least_lots (mCons (mVar 0) (mCons (mVar 1) mNil))) mNil))))
noncomputable def m_least_answer : List D → Option D := runP 2 2 g_least_answer
theorem h_least_answer {P : Program} {w : World} {K : PySem.W.Frag} {mg : Str → Option Value} {base : Heap} {f : Addr} {fd : FuncData} (F : Fun K "least_answer" "least_answer" s_least_answer f fd) (hm : mg "least_answer" = some (.ref f)) (b : Binds K fd ["costs", "row"] []) (h_least_lots : Has P w K mg base 3 "least_lots" 2 m_least_lots) (h_lots_cost : Has P w K mg base 3 "lots_cost" 2 m_lots_cost) :
    Has P w K mg base 4 "least_answer" 2 m_least_answer := by
  have sc := sc_least_answer
  refine has_P F sc rfl b hm fun cdv A outer s H hr hd => ?_
  exact (dss_one (ds_ret (de_fn h_lots_cost hr hd (by rfl) (da_cons (de_var 0) (da_cons (de_fn h_least_lots hr hd (by rfl) (da_cons (de_var 0) (da_cons (de_var 1) da_nil))) da_nil)))))

/-! ### prices_of_lot -/
abbrev s_prices_of_lot : Stmt := topS 11
theorem sc_prices_of_lot : FnScope ["row", "prices", "lot", "call", "price"] ["row", "prices", "lot"] (defScope s_prices_of_lot) := ⟨rfl, rfl, rfl, by decide +kernel, rfl, by decide +kernel, by decide +kernel⟩
noncomputable def g_prices_of_lot : Stm :=
  (mRet (mOpL m_summed_pairs (mCons (mOfN (mComp (mZip (mVar 0) (mVar 1)) [3, 4] (.tp [(.nm 3), (.nm 4)]) (mBool (mOp2 dIn (mVar 2) (mVar 3))) (mVar 4))) mNil)))
noncomputable def m_prices_of_lot : List D → Option D := runP 3 5 g_prices_of_lot
theorem h_prices_of_lot {P : Program} {w : World} {K : PySem.W.Frag} {mg : Str → Option Value} {base : Heap} {f : Addr} {fd : FuncData} (F : Fun K "prices_of_lot" "prices_of_lot" s_prices_of_lot f fd) (hm : mg "prices_of_lot" = some (.ref f)) (b : Binds K fd ["row", "prices", "lot"] []) (h_summed_pairs : Has P w K mg base 2 "summed_pairs" 1 m_summed_pairs) (z_zip : mg "zip" = none) :
    Has P w K mg base 3 "prices_of_lot" 3 m_prices_of_lot := by
  have sc := sc_prices_of_lot
  refine has_P F sc rfl b hm fun cdv A outer s H hr hd => ?_
  exact (dss_one (ds_ret (de_fn h_summed_pairs hr hd (by rfl) (da_cons (de_ofN (dn_lc [("call", 3), ("price", 4)] rfl sc.nd (di_zip (by rfl) z_zip (de_var 0) (de_var 1)) (blkOk_by rfl) (by decide) (by decide) (fun _ _ _ _ _ => (dg_tup rfl (dgs_cons (dg_name sc.nd rfl (by first | exact .inl rfl | exact .inr rfl)) (dgs_cons (dg_name sc.nd rfl (by first | exact .inl rfl | exact .inr rfl)) dgs_nil)) rfl)) (fun _ _ _ _ _ => (dts_one (dt_in hr.u65 (de_var 2) (de_var 3)))) (fun _ _ _ _ _ => (de_var 4)))) da_nil))))

/-! ### first_dear_lot -/
abbrev s_first_dear_lot : Stmt := topS 12
theorem sc_first_dear_lot : FnScope ["costs", "row", "prices", "lot", "cost", "p", "q"] ["costs", "row", "prices"] (defScope s_first_dear_lot) := ⟨rfl, rfl, rfl, by decide +kernel, rfl, by decide +kernel, by decide +kernel⟩
noncomputable def g_first_dear_lot : Stm :=
  (mSeq (mFor (mEnum (mVar 0)) (.tp [(.nm 3), (.nm 4)]) (mSeq (mAsgT false (.tp [(.nm 5), (.nm 6)]) (mOpL m_prices_of_lot (mCons (mVar 1) (mCons (mVar 2) (mCons (mVar 3) mNil)))))
    (mIfS (mBool (mOp2 dGt (mVar 5) (mOp2 dMul (mVar 4) (mVar 6)))) (mRet (mVar 3)) mSkip)))
    (mRet (mPure .none)))
noncomputable def m_first_dear_lot : List D → Option D := runP 3 7 g_first_dear_lot
theorem h_first_dear_lot {P : Program} {w : World} {K : PySem.W.Frag} {mg : Str → Option Value} {base : Heap} {f : Addr} {fd : FuncData} (F : Fun K "first_dear_lot" "first_dear_lot" s_first_dear_lot f fd) (hm : mg "first_dear_lot" = some (.ref f)) (b : Binds K fd ["costs", "row", "prices"] []) (h_prices_of_lot : Has P w K mg base 3 "prices_of_lot" 3 m_prices_of_lot) (z_enumerate : mg "enumerate" = none) :
    Has P w K mg base 4 "first_dear_lot" 3 m_first_dear_lot := by
  have sc := sc_first_dear_lot
  refine has_P F sc rfl b hm fun cdv A outer s H hr hd => ?_
  exact (dss_cons (ds_for PassesOwn.never rfl (di_enum (by rfl) z_enumerate (de_var 0)) (dg_tup rfl (dgs_cons (dg_name sc.nd rfl (by first | exact .inl rfl | exact .inr rfl)) (dgs_cons (dg_name sc.nd rfl (by first | exact .inl rfl | exact .inr rfl)) dgs_nil)) rfl) (dss_cons (ds_asgT false (de_fn h_prices_of_lot hr hd (by rfl) (da_cons (de_var 1) (da_cons (de_var 2) (da_cons (de_var 3) da_nil)))) (dg_tup rfl (dgs_cons (dg_name sc.nd rfl (by first | exact .inl rfl | exact .inr rfl)) (dgs_cons (dg_name sc.nd rfl (by first | exact .inl rfl | exact .inr rfl)) dgs_nil)) rfl))
    (dss_one (ds_if (dt_gt (de_var 5) (de_mul (de_var 4) (de_var 6))) (dss_one (ds_ret (de_var 3))) dss_nil))))
    (dss_one (ds_ret de_non)))

/-! ### are_prices -/
abbrev s_are_prices : Stmt := topS 13
theorem sc_are_prices : FnScope ["costs", "row", "prices"] ["costs", "row", "prices"] (defScope s_are_prices) := ⟨rfl, rfl, rfl, by decide +kernel, rfl, by decide +kernel, by decide +kernel⟩
noncomputable def g_are_prices : Stm :=
  (mRet (mOp2 dIsA (mOpL m_first_dear_lot (mCons (mVar 0) (mCons (mVar 1) (mCons (mVar 2) mNil)))) (mPure .none)))
noncomputable def m_are_prices : List D → Option D := runP 3 3 g_are_prices
theorem h_are_prices {P : Program} {w : World} {K : PySem.W.Frag} {mg : Str → Option Value} {base : Heap} {f : Addr} {fd : FuncData} (F : Fun K "are_prices" "are_prices" s_are_prices f fd) (hm : mg "are_prices" = some (.ref f)) (b : Binds K fd ["costs", "row", "prices"] []) (h_first_dear_lot : Has P w K mg base 4 "first_dear_lot" 3 m_first_dear_lot) :
    Has P w K mg base 5 "are_prices" 3 m_are_prices := by
  have sc := sc_are_prices
  refine has_P F sc rfl b hm fun cdv A outer s H hr hd => ?_
  exact (dss_one (ds_ret (de_isA (de_fn h_first_dear_lot hr hd (by rfl) (da_cons (de_var 0) (da_cons (de_var 1) (da_cons (de_var 2) da_nil)))) de_non)))

/-! ### prices_sum -/
abbrev s_prices_sum : Stmt := topS 14
theorem sc_prices_sum : FnScope ["prices"] ["prices"] (defScope s_prices_sum) := ⟨rfl, rfl, rfl, by decide +kernel, rfl, by decide +kernel, by decide +kernel⟩
noncomputable def g_prices_sum : Stm :=
  (mRet (mOpL m_summed_pairs (mCons (mVar 0) mNil)))
noncomputable def m_prices_sum : List D → Option D := runP 1 1 g_prices_sum
theorem h_prices_sum {P : Program} {w : World} {K : PySem.W.Frag} {mg : Str → Option Value} {base : Heap} {f : Addr} {fd : FuncData} (F : Fun K "prices_sum" "prices_sum" s_prices_sum f fd) (hm : mg "prices_sum" = some (.ref f)) (b : Binds K fd ["prices"] []) (h_summed_pairs : Has P w K mg base 2 "summed_pairs" 1 m_summed_pairs) :
    Has P w K mg base 3 "prices_sum" 1 m_prices_sum := by
  have sc := sc_prices_sum
  refine has_P F sc rfl b hm fun cdv A outer s H hr hd => ?_
  exact (dss_one (ds_ret (de_fn h_summed_pairs hr hd (by rfl) (da_cons (de_var 0) da_nil))))

/-! ### tight_run -/
abbrev s_tight_run : Stmt := topS 16
theorem sc_tight_run : FnScope ["costs", "row", "left", "taken", "steps", "prices", "call", "price", "lot", "new"] ["costs", "row"] (defScope s_tight_run) := ⟨rfl, rfl, rfl, by decide +kernel, rfl, by decide +kernel, by decide +kernel⟩
noncomputable def g_tight_run : Stm :=
  (mSeq (mPar false [2, 3, 4, 5] (mVOwn (mListOf (mVar 0)) (mVOwn (mLst mNil) (mVOwn (mLst mNil) (mVOwn (mLst mNil) mVNil)))))
    (mSeq (mFor (mItems (mVar 1)) (.nm 6) (mSeq (mSet true 7 (mIf (mBool (mOpL m_is_call_answered (mCons (mVar 6) (mCons (mVar 3) mNil)))) (mPure (.int 0)) (mOpL dMinB (mCons (mOfN (mComp (mItems (mVar 6)) [8] (.nm 8) mTrue (mOp2 dIx (mVar 2) (mVar 8)))) mNil))))
    (mSeq (mFor (mItems (mVar 6)) (.nm 8) (mSetIx true 2 (mOp2 dSub (mOp2 dIx (mVar 2) (mVar 8)) (mVar 7)) (mVar 8)))
    (mSeq (mSetN true 9 (mComp (mItems (mVar 6)) [8] (.nm 8) (mAnd (mBool (mOp2 dEqA (mOp2 dIx (mVar 2) (mVar 8)) (mPure (.int 0)))) (mBool (mOp2 dNotIn (mVar 8) (mVar 3)))) (mVar 8)))
    (mSeq (mExt true 3 (mVar 9))
    (mSeq (mApp true 4 (mOpL dTuple (mCons (mVar 9) mNil)))
    (mApp false 5 (mVar 7))))))))
    (mRet (mTup (mCons (mVar 4) (mCons (mVar 5) mNil))))))
noncomputable def m_tight_run : List D → Option D := runP 2 10 g_tight_run
theorem h_tight_run {P : Program} {w : World} {K : PySem.W.Frag} {mg : Str → Option Value} {base : Heap} {f : Addr} {fd : FuncData} (F : Fun K "tight_run" "tight_run" s_tight_run f fd) (hm : mg "tight_run" = some (.ref f)) (b : Binds K fd ["costs", "row"] []) (h_is_call_answered : Has P w K mg base 1 "is_call_answered" 2 m_is_call_answered) (z_list : mg "list" = none) (z_min : mg "min" = none) (z_tuple : mg "tuple" = none) :
    Has P w K mg base 2 "tight_run" 2 m_tight_run := by
  have sc := sc_tight_run
  refine has_P F sc rfl b hm fun cdv A outer s H hr hd => ?_
  exact (dss_cons (ds_parN false rfl sc.nd (.cons rfl (by first | exact .inl rfl | exact .inr rfl) (by first | exact .inl rfl | exact .inr rfl) (.cons rfl (by first | exact .inl rfl | exact .inr rfl) (by first | exact .inl rfl | exact .inr rfl) (.cons rfl (by first | exact .inl rfl | exact .inr rfl) (by first | exact .inl rfl | exact .inr rfl) (.cons rfl (by first | exact .inl rfl | exact .inr rfl) (by first | exact .inl rfl | exact .inr rfl) .nil rfl) rfl) rfl) rfl) (dv_own (dn_list (by rfl) z_list (de_var 0)) (dv_own (dn_lst da_nil) (dv_own (dn_lst da_nil) (dv_own (dn_lst da_nil) dv_nil)))) (by decide))
    (dss_cons (ds_for PassesOwn.never rfl (di_seq (de_var 1)) (dg_name sc.nd rfl (by first | exact .inl rfl | exact .inr rfl)) (dss_cons (ds_set true sc.nd rfl (by first | exact .inl rfl | exact .inr rfl) (de_if (dt_val (de_fn h_is_call_answered hr hd (by rfl) (da_cons (de_var 6) (da_cons (de_var 3) da_nil)))) de_int (de_minB rfl hr.u70 (by rfl) z_min (da_cons (de_ofN (dn_lc [("lot", 8)] rfl sc.nd (di_seq (de_var 6)) (blkOk_by rfl) (by decide) (by decide) (fun _ _ _ _ _ => (dg_name sc.nd rfl (by first | exact .inl rfl | exact .inr rfl))) (fun _ _ _ _ _ => dts_nil) (fun _ _ _ _ _ => (de_ix (de_var 2) (de_var 8) (fun _ _ => rfl))))) da_nil))))
    (dss_cons (ds_for PassesOwn.never rfl (di_seq (de_var 6)) (dg_name sc.nd rfl (by first | exact .inl rfl | exact .inr rfl)) (dss_one (ds_setIx true 2 (pv 2) (de_sub (de_ix (de_var 2) (de_var 8) (fun _ _ => rfl)) (de_var 7)) (de_var 8))))
    (dss_cons (ds_setLc true [("lot", 8)] rfl sc.nd (by rfl) rfl (sw_true rfl rfl rfl rfl) (di_seq (de_var 6)) (blkOk_by rfl) (by decide) (by decide) (fun _ _ _ _ _ => (dg_name sc.nd rfl (by first | exact .inl rfl | exact .inr rfl))) (fun _ _ _ _ _ => (dts_one (dt_w (dw_and (dt_eqA hr.u65 (de_ix (de_var 2) (de_var 8) (fun _ _ => rfl)) de_int) (dw_and1 (dt_notIn hr.u65 (de_var 8) (de_var 3))))))) (fun _ _ _ _ _ => (de_var 8)))
    (dss_cons (ds_ext true 3 (pv 3) (de_var 9))
    (dss_cons (ds_app true 4 (pv 4) (de_tuple (by rfl) z_tuple (da_cons (de_var 9) da_nil)))
    (dss_one (ds_app false 5 (pv 5) (de_var 7)))))))))
    (dss_one (ds_ret (de_tup (da_cons (de_var 4) (da_cons (de_var 5) da_nil)))))))

/-! ### tight_steps -/
abbrev s_tight_steps : Stmt := topS 17
theorem sc_tight_steps : FnScope ["costs", "row"] ["costs", "row"] (defScope s_tight_steps) := ⟨rfl, rfl, rfl, by decide +kernel, rfl, by decide +kernel, by decide +kernel⟩
noncomputable def g_tight_steps : Stm :=
  (mRet (mOpL dTuple (mCons (mOp2 dIx (mOpL m_tight_run (mCons (mVar 0) (mCons (mVar 1) mNil))) (mPure (.int 0))) mNil)))
noncomputable def m_tight_steps : List D → Option D := runP 2 2 g_tight_steps
theorem h_tight_steps {P : Program} {w : World} {K : PySem.W.Frag} {mg : Str → Option Value} {base : Heap} {f : Addr} {fd : FuncData} (F : Fun K "tight_steps" "tight_steps" s_tight_steps f fd) (hm : mg "tight_steps" = some (.ref f)) (b : Binds K fd ["costs", "row"] []) (h_tight_run : Has P w K mg base 2 "tight_run" 2 m_tight_run) (z_tuple : mg "tuple" = none) :
    Has P w K mg base 3 "tight_steps" 2 m_tight_steps := by
  have sc := sc_tight_steps
  refine has_P F sc rfl b hm fun cdv A outer s H hr hd => ?_
  exact (dss_one (ds_ret (de_tuple (by rfl) z_tuple (da_cons (de_ix (de_fn h_tight_run hr hd (by rfl) (da_cons (de_var 0) (da_cons (de_var 1) da_nil))) de_int (fun _ _ => rfl)) da_nil))))

/-! ### tight_way -/
abbrev s_tight_way : Stmt := topS 18
theorem sc_tight_way : FnScope ["costs", "row", "steps", "prices", "step", "lot"] ["costs", "row"] (defScope s_tight_way) := ⟨rfl, rfl, rfl, by decide +kernel, rfl, by decide +kernel, by decide +kernel⟩
noncomputable def g_tight_way : Stm :=
  (mSeq (mAsgT false (.tp [(.nm 2), (.nm 3)]) (mOpL m_tight_run (mCons (mVar 0) (mCons (mVar 1) mNil))))
    (mRet (mTup (mCons (mOpL dTuple (mCons (mOfN (mSort (mOfN (mComp2 (mItems (mVar 2)) [4, 5] (.nm 4) mTrue (mItems (mVar 4)) [5] (.nm 5) mTrue (mVar 5))))) mNil)) (mCons (mOpL dTuple (mCons (mVar 3) mNil)) mNil)))))
noncomputable def m_tight_way : List D → Option D := runP 2 6 g_tight_way
theorem h_tight_way {P : Program} {w : World} {K : PySem.W.Frag} {mg : Str → Option Value} {base : Heap} {f : Addr} {fd : FuncData} (F : Fun K "tight_way" "tight_way" s_tight_way f fd) (hm : mg "tight_way" = some (.ref f)) (b : Binds K fd ["costs", "row"] []) (h_tight_run : Has P w K mg base 2 "tight_run" 2 m_tight_run) (z_sorted : mg "sorted" = none) (z_tuple : mg "tuple" = none) :
    Has P w K mg base 3 "tight_way" 2 m_tight_way := by
  have sc := sc_tight_way
  refine has_P F sc rfl b hm fun cdv A outer s H hr hd => ?_
  exact (dss_cons (ds_asgT false (de_fn h_tight_run hr hd (by rfl) (da_cons (de_var 0) (da_cons (de_var 1) da_nil))) (dg_tup rfl (dgs_cons (dg_name sc.nd rfl (by first | exact .inl rfl | exact .inr rfl)) (dgs_cons (dg_name sc.nd rfl (by first | exact .inl rfl | exact .inr rfl)) dgs_nil)) rfl))
    (dss_one (ds_ret (de_tup (da_cons (de_tuple (by rfl) z_tuple (da_cons (de_ofN (dn_sorted (by rfl) z_sorted (de_ofN (dn_lc2 [("step", 4), ("lot", 5)] [5] rfl sc.nd (di_seq (de_var 2)) (blkOk_by rfl) (by decide) (by decide) (by decide) (by decide) (fun _ _ _ _ _ => (dg_name sc.nd rfl (by first | exact .inl rfl | exact .inr rfl))) (fun _ _ _ _ _ => dts_nil) (fun _ _ _ _ _ => (di_seq (de_var 4))) (fun _ _ _ _ _ => (dg_name sc.nd rfl (by first | exact .inl rfl | exact .inr rfl))) (fun _ _ _ _ _ => dts_nil) (fun _ _ _ _ _ => (de_var 5)))))) da_nil)) (da_cons (de_tuple (by rfl) z_tuple (da_cons (de_var 3) da_nil)) da_nil))))))

/-! ### tight_cost -/
abbrev s_tight_cost : Stmt := topS 19
theorem sc_tight_cost : FnScope ["costs", "row"] ["costs", "row"] (defScope s_tight_cost) := ⟨rfl, rfl, rfl, by decide +kernel, rfl, by decide +kernel, by decide +kernel⟩
noncomputable def g_tight_cost : Stm :=
  (mRet (mOpL m_lots_cost (mCons (mVar 0) (mCons (mOp2 dIx (mOpL m_tight_way (mCons (mVar 0) (mCons (mVar 1) mNil))) (mPure (.int 0))) mNil))))
noncomputable def m_tight_cost : List D → Option D := runP 2 2 g_tight_cost
theorem h_tight_cost {P : Program} {w : World} {K : PySem.W.Frag} {mg : Str → Option Value} {base : Heap} {f : Addr} {fd : FuncData} (F : Fun K "tight_cost" "tight_cost" s_tight_cost f fd) (hm : mg "tight_cost" = some (.ref f)) (b : Binds K fd ["costs", "row"] []) (h_lots_cost : Has P w K mg base 3 "lots_cost" 2 m_lots_cost) (h_tight_way : Has P w K mg base 3 "tight_way" 2 m_tight_way) :
    Has P w K mg base 4 "tight_cost" 2 m_tight_cost := by
  have sc := sc_tight_cost
  refine has_P F sc rfl b hm fun cdv A outer s H hr hd => ?_
  exact (dss_one (ds_ret (de_fn h_lots_cost hr hd (by rfl) (da_cons (de_var 0) (da_cons (de_ix (de_fn h_tight_way hr hd (by rfl) (da_cons (de_var 0) (da_cons (de_var 1) da_nil))) de_int (fun _ _ => rfl)) da_nil)))))

/-! ### priced_calls -/
abbrev s_priced_calls : Stmt := topS 20
theorem sc_priced_calls : FnScope ["costs", "row", "i", "price"] ["costs", "row"] (defScope s_priced_calls) := ⟨rfl, rfl, rfl, by decide +kernel, rfl, by decide +kernel, by decide +kernel⟩
noncomputable def g_priced_calls : Stm :=
  (mRet (mOpL dTuple (mCons (mOfN (mComp (mEnum (mOp2 dIx (mOpL m_tight_run (mCons (mVar 0) (mCons (mVar 1) mNil))) (mPure (.int 1)))) [2, 3] (.tp [(.nm 2), (.nm 3)]) (mBool (mOp2 dGt (mVar 3) (mPure (.int 0)))) (mVar 2))) mNil)))
noncomputable def m_priced_calls : List D → Option D := runP 2 4 g_priced_calls
theorem h_priced_calls {P : Program} {w : World} {K : PySem.W.Frag} {mg : Str → Option Value} {base : Heap} {f : Addr} {fd : FuncData} (F : Fun K "priced_calls" "priced_calls" s_priced_calls f fd) (hm : mg "priced_calls" = some (.ref f)) (b : Binds K fd ["costs", "row"] []) (h_tight_run : Has P w K mg base 2 "tight_run" 2 m_tight_run) (z_enumerate : mg "enumerate" = none) (z_tuple : mg "tuple" = none) :
    Has P w K mg base 3 "priced_calls" 2 m_priced_calls := by
  have sc := sc_priced_calls
  refine has_P F sc rfl b hm fun cdv A outer s H hr hd => ?_
  exact (dss_one (ds_ret (de_tuple (by rfl) z_tuple (da_cons (de_ofN (dn_lc [("i", 2), ("price", 3)] rfl sc.nd (di_enum (by rfl) z_enumerate (de_ix (de_fn h_tight_run hr hd (by rfl) (da_cons (de_var 0) (da_cons (de_var 1) da_nil))) de_int (fun _ _ => rfl))) (blkOk_by rfl) (by decide) (by decide) (fun _ _ _ _ _ => (dg_tup rfl (dgs_cons (dg_name sc.nd rfl (by first | exact .inl rfl | exact .inr rfl)) (dgs_cons (dg_name sc.nd rfl (by first | exact .inl rfl | exact .inr rfl)) dgs_nil)) rfl)) (fun _ _ _ _ _ => (dts_one (dt_gt (de_var 3) de_int))) (fun _ _ _ _ _ => (de_var 2)))) da_nil))))

/-! ### are_apart_calls -/
abbrev s_are_apart_calls : Stmt := topS 21
theorem sc_are_apart_calls : FnScope ["row", "numbers", "lots", "i", "lot"] ["row", "numbers"] (defScope s_are_apart_calls) := ⟨rfl, rfl, rfl, by decide +kernel, rfl, by decide +kernel, by decide +kernel⟩
noncomputable def g_are_apart_calls : Stm :=
  (mSeq (mSetN false 2 (mComp2 (mItems (mVar 1)) [3, 4] (.nm 3) mTrue (mItems (mOp2 dIx (mVar 0) (mVar 3))) [4] (.nm 4) mTrue (mVar 4)))
    (mRet (mOp2 dEqA (mOpL dLenM (mCons (mDc (mItems (mVar 2)) [4] (.nm 4) mTrue (mVar 4) (mPure (.bool true))) mNil)) (mOpL dLen (mCons (mVar 2) mNil)))))
noncomputable def m_are_apart_calls : List D → Option D := runP 2 5 g_are_apart_calls
theorem h_are_apart_calls {P : Program} {w : World} {K : PySem.W.Frag} {mg : Str → Option Value} {base : Heap} {f : Addr} {fd : FuncData} (F : Fun K "are_apart_calls" "are_apart_calls" s_are_apart_calls f fd) (hm : mg "are_apart_calls" = some (.ref f)) (b : Binds K fd ["row", "numbers"] []) (z_len : mg "len" = none) :
    Has P w K mg base 1 "are_apart_calls" 2 m_are_apart_calls := by
  have sc := sc_are_apart_calls
  refine has_P F sc rfl b hm fun cdv A outer s H hr hd => ?_
  exact (dss_cons (ds_setLc2 false [("i", 3), ("lot", 4)] [4] rfl sc.nd (by rfl) rfl (sw_true rfl rfl rfl rfl) (di_seq (de_var 1)) (blkOk_by rfl) (by decide) (by decide) (by decide) (by decide) (fun _ _ _ _ _ => (dg_name sc.nd rfl (by first | exact .inl rfl | exact .inr rfl))) (fun _ _ _ _ _ => dts_nil) (fun _ _ _ _ _ => (di_seq (de_ix (de_var 0) (de_var 3) (fun _ _ => rfl)))) (fun _ _ _ _ _ => (dg_name sc.nd rfl (by first | exact .inl rfl | exact .inr rfl))) (fun _ _ _ _ _ => dts_nil) (fun _ _ _ _ _ => (de_var 4)))
    (dss_one (ds_ret (de_eqA hr.u65 (de_lenM (by rfl) z_len (da_cons (de_dc [("lot", 4)] rfl sc.nd (di_seq (de_var 2)) (blkOk_by rfl) (by decide) (by decide) (fun _ _ _ _ _ => (dg_name sc.nd rfl (by first | exact .inl rfl | exact .inr rfl))) (fun _ _ _ _ _ => dts_nil) (fun _ _ _ _ _ => (de_var 4)) (fun _ _ _ _ _ => de_bl)) da_nil)) (de_len (by rfl) z_len (da_cons (de_var 2) da_nil))))))

/-! ### tight_share -/
abbrev s_tight_share : Stmt := topS 22
theorem sc_tight_share : FnScope ["costs", "row", "lots", "prices"] ["costs", "row"] (defScope s_tight_share) := ⟨rfl, rfl, rfl, by decide +kernel, rfl, by decide +kernel, by decide +kernel⟩
noncomputable def g_tight_share : Stm :=
  (mSeq (mAsgT false (.tp [(.nm 2), (.nm 3)]) (mOpL m_tight_way (mCons (mVar 0) (mCons (mVar 1) mNil))))
    (mRet (mIf (mBool (mOp2 dGt (mOpL dSumA (mCons (mVar 3) mNil)) (mPure (.int 0)))) (mOpL m_lowest_pair (mCons (mOpL m_lots_cost (mCons (mVar 0) (mCons (mVar 2) mNil))) (mCons (mOpL dSumA (mCons (mVar 3) mNil)) mNil))) (mPure .none))))
noncomputable def m_tight_share : List D → Option D := runP 2 4 g_tight_share
theorem h_tight_share {P : Program} {w : World} {K : PySem.W.Frag} {mg : Str → Option Value} {base : Heap} {f : Addr} {fd : FuncData} (F : Fun K "tight_share" "tight_share" s_tight_share f fd) (hm : mg "tight_share" = some (.ref f)) (b : Binds K fd ["costs", "row"] []) (h_lots_cost : Has P w K mg base 3 "lots_cost" 2 m_lots_cost) (h_lowest_pair : Has P w K mg base 3 "lowest_pair" 2 m_lowest_pair) (h_tight_way : Has P w K mg base 3 "tight_way" 2 m_tight_way) (z_sum : mg "sum" = none) :
    Has P w K mg base 4 "tight_share" 2 m_tight_share := by
  have sc := sc_tight_share
  refine has_P F sc rfl b hm fun cdv A outer s H hr hd => ?_
  exact (dss_cons (ds_asgT false (de_fn h_tight_way hr hd (by rfl) (da_cons (de_var 0) (da_cons (de_var 1) da_nil))) (dg_tup rfl (dgs_cons (dg_name sc.nd rfl (by first | exact .inl rfl | exact .inr rfl)) (dgs_cons (dg_name sc.nd rfl (by first | exact .inl rfl | exact .inr rfl)) dgs_nil)) rfl))
    (dss_one (ds_ret (de_if (dt_gt (de_sumA rfl (by rfl) z_sum (da_cons (de_var 3) da_nil)) de_int) (de_fn h_lowest_pair hr hd (by rfl) (da_cons (de_fn h_lots_cost hr hd (by rfl) (da_cons (de_var 0) (da_cons (de_var 2) da_nil))) (da_cons (de_sumA rfl (by rfl) z_sum (da_cons (de_var 3) da_nil)) da_nil))) de_non))))

/-! ### _law_of -/
abbrev s__law_of : Stmt := topS 27
theorem sc__law_of : FnScope ["source", "some"] ["source", "some"] (defScope s__law_of) := ⟨rfl, rfl, rfl, by decide +kernel, rfl, by decide +kernel, by decide +kernel⟩
noncomputable def g__law_of : Stm :=
  (mRet (mOp2 dIx (mVar 1) (mCallS 0 mPick (mCons (mOpL dLen (mCons (mVar 1) mNil)) mNil))))
noncomputable def m__law_of : MS := runS 2 2 g__law_of
theorem h__law_of {P : Program} {w : World} {K : PySem.W.Frag} {mg : Str → Option Value} {base : Heap} {f : Addr} {fd : FuncData} (F : Fun K "_law_of" "_law_of" s__law_of f fd) (hm : mg "_law_of" = some (.ref f)) (b : Binds K fd ["source", "some"] []) (h__law_pick : HasS P w K mg base 1 "_law_pick" 2 mPick) (z_len : mg "len" = none) :
    HasS P w K mg base 2 "_law_of" 2 m__law_of := by
  have sc := sc__law_of
  refine has_S F sc rfl (by decide) b hm fun cdv A outer s H hr hd => ?_
  exact (dss_one (ds_ret (de_ix (de_var 1) (de_fnS 0 h__law_pick hr hd (by rfl) (pv 0) (da_cons (de_len (by rfl) z_len (da_cons (de_var 1) da_nil)) da_nil)) (fun _ _ => rfl))))

/-! ### _law_low -/
abbrev s__law_low : Stmt := topS 28
theorem sc__law_low : FnScope ["p", "q", "a", "b"] ["p", "q"] (defScope s__law_low) := ⟨rfl, rfl, rfl, by decide +kernel, rfl, by decide +kernel, by decide +kernel⟩
noncomputable def g__law_low : Stm :=
  (mSeq (mPar false [2, 3] (mVDat (mOpL dAbs (mCons (mVar 0) mNil)) (mVDat (mVar 1) mVNil)))
    (mSeq (mWhile (mBool (mOp2 dGt (mVar 3) (mPure (.int 0)))) (mPar false [2, 3] (mVDat (mVar 3) (mVDat (mOp2 dMod (mOpL dIntA (mCons (mVar 2) mNil)) (mVar 3)) mVNil))))
    (mRet (mTup (mCons (mOp2 dFloor (mVar 0) (mVar 2)) (mCons (mOp2 dFloor (mVar 1) (mVar 2)) mNil))))))
noncomputable def m__law_low : List D → Option D := runP 2 4 g__law_low
theorem h__law_low {P : Program} {w : World} {K : PySem.W.Frag} {mg : Str → Option Value} {base : Heap} {f : Addr} {fd : FuncData} (F : Fun K "_law_low" "_law_low" s__law_low f fd) (hm : mg "_law_low" = some (.ref f)) (b : Binds K fd ["p", "q"] []) (z_abs : mg "abs" = none) (z_int : mg "int" = none) :
    Has P w K mg base 1 "_law_low" 2 m__law_low := by
  have sc := sc__law_low
  refine has_P F sc rfl b hm fun cdv A outer s H hr hd => ?_
  exact (dss_cons (ds_par false rfl sc.nd rfl rfl (by decide) rfl rfl (dv_dat (de_abs (by rfl) z_abs (da_cons (de_var 0) da_nil)) (dv_dat (de_var 1) dv_nil)) rfl)
    (dss_cons (ds_while PassesOwn.never (dt_gt (de_var 3) de_int) (dss_one (ds_par false rfl sc.nd rfl rfl (by decide) rfl rfl (dv_dat (de_var 3) (dv_dat (de_mod (de_intA (by rfl) z_int (da_cons (de_var 2) da_nil)) (de_var 3)) dv_nil)) rfl)))
    (dss_one (ds_ret (de_tup (da_cons (de_floor (de_var 0) (de_var 2)) (da_cons (de_floor (de_var 1) (de_var 2)) da_nil)))))))

/-! ### _law_lots -/
abbrev s__law_lots : Stmt := topS 29
theorem sc__law_lots : FnScope ["source", "most", "far", "many", "f", "costs", "row", "turn", "names", "lot"] ["source", "most", "far"] (defScope s__law_lots) := ⟨rfl, rfl, rfl, by decide +kernel, rfl, by decide +kernel, by decide +kernel⟩
noncomputable def g__law_lots : Stm :=
  (mSeq (mPar false [3, 4] (mVDat (mOp2 dAdd (mPure (.int 1)) (mCallS 0 mPick (mCons (mVar 1) mNil))) (mVDat (mOp2 dAdd (mPure (.int 1)) (mCallS 0 mPick (mCons (mPure (.int 4)) mNil))) mVNil)))
    (mSeq (mSet false 5 (mOpL dTuple (mCons (mOfN (mComp (mRange1 (mVar 3)) [9] (.nm 9) mTrue (mOp2 dAdd (mPure (.int 1)) (mCallS 0 mPick (mCons (mVar 2) mNil))))) mNil)))
    (mSeq (mSetN false 6 (mLst mNil))
    (mSeq (mFor (mRange1 (mCallS 0 mPick (mCons (mPure (.int 13)) mNil))) (.nm 7) (mSeq (mSet false 8 (mCallS 0 mOrder (mCons (mOfN (mLstRg (mRg1 (mVar 3)))) mNil)))
    (mApp false 6 (mOpL dTuple (mCons (mOfN (mSort (mSlice (mVar 8) mNoPart (mPart (mOp2 dAdd (mPure (.int 1)) (mCallS 0 mPick (mCons (mOpL dMin2 (mCons (mVar 4) (mCons (mVar 3) mNil))) mNil))))))) mNil)))))
    (mRet (mTup (mCons (mVar 5) (mCons (mVar 4) (mCons (mOpL dTuple (mCons (mVar 6) mNil)) mNil)))))))))
noncomputable def m__law_lots : MS := runS 3 10 g__law_lots
theorem h__law_lots {P : Program} {w : World} {K : PySem.W.Frag} {mg : Str → Option Value} {base : Heap} {f : Addr} {fd : FuncData} (F : Fun K "_law_lots" "_law_lots" s__law_lots f fd) (hm : mg "_law_lots" = some (.ref f)) (b : Binds K fd ["source", "most", "far"] []) (h__law_any_order : HasS P w K mg base 2 "_law_any_order" 2 mOrder) (h__law_pick : HasS P w K mg base 2 "_law_pick" 2 mPick) (z_list : mg "list" = none) (z_min : mg "min" = none) (z_range : mg "range" = none) (z_sorted : mg "sorted" = none) (z_tuple : mg "tuple" = none) :
    HasS P w K mg base 3 "_law_lots" 3 m__law_lots := by
  have sc := sc__law_lots
  refine has_S F sc rfl (by decide) b hm fun cdv A outer s H hr hd => ?_
  exact (dss_cons (ds_par false rfl sc.nd rfl rfl (by decide) rfl rfl (dv_dat (de_add de_int (de_fnS 0 h__law_pick hr hd (by rfl) (pv 0) (da_cons (de_var 1) da_nil))) (dv_dat (de_add de_int (de_fnS 0 h__law_pick hr hd (by rfl) (pv 0) (da_cons de_int da_nil))) dv_nil)) rfl)
    (dss_cons (ds_set false sc.nd rfl (by first | exact .inl rfl | exact .inr rfl) (de_tuple (by rfl) z_tuple (da_cons (de_ofN (dn_lc [("lot", 9)] rfl sc.nd (di_range1 (by rfl) z_range (de_var 3)) (blkOk_by rfl) (by decide) (by decide) (fun _ _ _ _ _ => (dg_name sc.nd rfl (by first | exact .inl rfl | exact .inr rfl))) (fun _ _ _ _ _ => dts_nil) (fun _ _ _ _ _ => (de_add de_int (de_fnS 0 h__law_pick hr hd (by rfl) (pv 0) (da_cons (de_var 2) da_nil)))))) da_nil)))
    (dss_cons (ds_setN false sc.nd rfl (by first | exact .inl rfl | exact .inr rfl) (dn_lst da_nil))
    (dss_cons (ds_for PassesOwn.never rfl (di_range1 (by rfl) z_range (de_fnS 0 h__law_pick hr hd (by rfl) (pv 0) (da_cons de_int da_nil))) (dg_name sc.nd rfl (by first | exact .inl rfl | exact .inr rfl)) (dss_cons (ds_set false sc.nd rfl (by first | exact .inl rfl | exact .inr rfl) (de_fnS 0 h__law_any_order hr hd (by rfl) (pv 0) (da_cons (de_ofN (dn_lstRg rfl (by rfl) z_list (dr_1 (by rfl) z_range (de_var 3)))) da_nil)))
    (dss_one (ds_app false 6 (pv 6) (de_tuple (by rfl) z_tuple (da_cons (de_ofN (dn_sorted (by rfl) z_sorted (de_slice (de_var 8) do_none (do_some (de_add de_int (de_fnS 0 h__law_pick hr hd (by rfl) (pv 0) (da_cons (de_min2 rfl (by rfl) z_min (da_cons (de_var 4) (da_cons (de_var 3) da_nil))) da_nil))))))) da_nil))))))
    (dss_one (ds_ret (de_tup (da_cons (de_var 5) (da_cons (de_var 4) (da_cons (de_tuple (by rfl) z_tuple (da_cons (de_var 6) da_nil)) da_nil))))))))))

/-! ### _law_some_lots -/
abbrev s__law_some_lots : Stmt := topS 30
theorem sc__law_some_lots : FnScope ["many", "found", "lot", "lots"] ["many"] (defScope s__law_some_lots) := ⟨rfl, rfl, rfl, by decide +kernel, rfl, by decide +kernel, by decide +kernel⟩
noncomputable def g__law_some_lots : Stm :=
  (mSeq (mSet false 1 (mOfN (mLst (mCons (mTup mNil) mNil))))
    (mSeq (mFor (mRange1 (mVar 0)) (.nm 2) (mSet false 1 (mOfN (mCatN (mVar 1) (mOfN (mComp (mItems (mVar 1)) [3] (.nm 3) mTrue (mOp2 dAdd (mVar 3) (mTup (mCons (mVar 2) mNil)))))))))
    (mRet (mVar 1))))
noncomputable def m__law_some_lots : List D → Option D := runP 1 4 g__law_some_lots
theorem h__law_some_lots {P : Program} {w : World} {K : PySem.W.Frag} {mg : Str → Option Value} {base : Heap} {f : Addr} {fd : FuncData} (F : Fun K "_law_some_lots" "_law_some_lots" s__law_some_lots f fd) (hm : mg "_law_some_lots" = some (.ref f)) (b : Binds K fd ["many"] []) (z_range : mg "range" = none) :
    Has P w K mg base 1 "_law_some_lots" 1 m__law_some_lots := by
  have sc := sc__law_some_lots
  refine has_P F sc rfl b hm fun cdv A outer s H hr hd => ?_
  exact (dss_cons (ds_set false sc.nd rfl (by first | exact .inl rfl | exact .inr rfl) (de_ofN (dn_lst (da_cons (de_tup da_nil) da_nil))))
    (dss_cons (ds_for PassesOwn.never rfl (di_range1 (by rfl) z_range (de_var 0)) (dg_name sc.nd rfl (by first | exact .inl rfl | exact .inr rfl)) (dss_one (ds_set false sc.nd rfl (by first | exact .inl rfl | exact .inr rfl) (de_ofN (dn_cat (de_var 1) (de_ofN (dn_lc [("lots", 3)] rfl sc.nd (di_seq (de_var 1)) (blkOk_by rfl) (by decide) (by decide) (fun _ _ _ _ _ => (dg_name sc.nd rfl (by first | exact .inl rfl | exact .inr rfl))) (fun _ _ _ _ _ => dts_nil) (fun _ _ _ _ _ => (de_add (de_var 3) (de_tup (da_cons (de_var 2) da_nil)))))))))))
    (dss_one (ds_ret (de_var 1)))))

/-! ### _law_is_open -/
abbrev s__law_is_open : Stmt := topS 31
theorem sc__law_is_open : FnScope ["row", "lots", "i", "call", "lot"] ["row", "lots"] (defScope s__law_is_open) := ⟨rfl, rfl, rfl, by decide +kernel, rfl, by decide +kernel, by decide +kernel⟩
noncomputable def g__law_is_open : Stm :=
  (mRet (mOfN (mComp (mEnum (mVar 0)) [2, 3] (.tp [(.nm 2), (.nm 3)]) (mBool (mOp2 dEqA (mOfN (mComp (mItems (mVar 3)) [4] (.nm 4) (mBool (mOp2 dIn (mVar 4) (mVar 1))) (mVar 4))) (mOfN (mLst mNil)))) (mVar 2))))
noncomputable def m__law_is_open : List D → Option D := runP 2 5 g__law_is_open
theorem h__law_is_open {P : Program} {w : World} {K : PySem.W.Frag} {mg : Str → Option Value} {base : Heap} {f : Addr} {fd : FuncData} (F : Fun K "_law_is_open" "_law_is_open" s__law_is_open f fd) (hm : mg "_law_is_open" = some (.ref f)) (b : Binds K fd ["row", "lots"] []) (z_enumerate : mg "enumerate" = none) :
    Has P w K mg base 1 "_law_is_open" 2 m__law_is_open := by
  have sc := sc__law_is_open
  refine has_P F sc rfl b hm fun cdv A outer s H hr hd => ?_
  exact (dss_one (ds_ret (de_ofN (dn_lc [("i", 2), ("call", 3)] rfl sc.nd (di_enum (by rfl) z_enumerate (de_var 0)) (blkOk_by rfl) (by decide) (by decide) (fun _ _ _ _ _ => (dg_tup rfl (dgs_cons (dg_name sc.nd rfl (by first | exact .inl rfl | exact .inr rfl)) (dgs_cons (dg_name sc.nd rfl (by first | exact .inl rfl | exact .inr rfl)) dgs_nil)) rfl)) (fun _ _ _ _ _ => (dts_one (dt_eqA hr.u65 (de_ofN (dn_lc [("lot", 4)] rfl sc.nd (di_seq (de_var 3)) (blkOk_by rfl) (by decide) (by decide) (fun _ _ _ _ _ => (dg_name sc.nd rfl (by first | exact .inl rfl | exact .inr rfl))) (fun _ _ _ _ _ => (dts_one (dt_in hr.u65 (de_var 4) (de_var 1)))) (fun _ _ _ _ _ => (de_var 4)))) (de_ofN (dn_lst da_nil))))) (fun _ _ _ _ _ => (de_var 2))))))

/-! ### _law_cost -/
abbrev s__law_cost : Stmt := topS 32
theorem sc__law_cost : FnScope ["costs", "lots", "lot"] ["costs", "lots"] (defScope s__law_cost) := ⟨rfl, rfl, rfl, by decide +kernel, rfl, by decide +kernel, by decide +kernel⟩
noncomputable def g__law_cost : Stm :=
  (mRet (mOpL dSumA (mCons (mOfN (mComp (mItems (mVar 1)) [2] (.nm 2) mTrue (mOp2 dIx (mVar 0) (mVar 2)))) mNil)))
noncomputable def m__law_cost : List D → Option D := runP 2 3 g__law_cost
theorem h__law_cost {P : Program} {w : World} {K : PySem.W.Frag} {mg : Str → Option Value} {base : Heap} {f : Addr} {fd : FuncData} (F : Fun K "_law_cost" "_law_cost" s__law_cost f fd) (hm : mg "_law_cost" = some (.ref f)) (b : Binds K fd ["costs", "lots"] []) (z_sum : mg "sum" = none) :
    Has P w K mg base 1 "_law_cost" 2 m__law_cost := by
  have sc := sc__law_cost
  refine has_P F sc rfl b hm fun cdv A outer s H hr hd => ?_
  exact (dss_one (ds_ret (de_sumA rfl (by rfl) z_sum (da_cons (de_ofN (dn_lc [("lot", 2)] rfl sc.nd (di_seq (de_var 1)) (blkOk_by rfl) (by decide) (by decide) (fun _ _ _ _ _ => (dg_name sc.nd rfl (by first | exact .inl rfl | exact .inr rfl))) (fun _ _ _ _ _ => dts_nil) (fun _ _ _ _ _ => (de_ix (de_var 0) (de_var 2) (fun _ _ => rfl))))) da_nil))))

/-! ### _law_least -/
abbrev s__law_least : Stmt := topS 33
theorem sc__law_least : FnScope ["costs", "row", "best", "lots", "here"] ["costs", "row"] (defScope s__law_least) := ⟨rfl, rfl, rfl, by decide +kernel, rfl, by decide +kernel, by decide +kernel⟩
noncomputable def g__law_least : Stm :=
  (mSeq (mSet false 2 (mPure .none))
    (mSeq (mFor (mItems (mOpL m__law_some_lots (mCons (mOpL dLen (mCons (mVar 0) mNil)) mNil))) (.nm 3) (mSeq (mSet false 4 (mTup (mCons (mOpL m__law_cost (mCons (mVar 0) (mCons (mVar 3) mNil))) (mCons (mVar 3) mNil))))
    (mIfS (mAnd (mOr (mBool (mOp2 dIsA (mVar 2) (mPure .none))) (mBool (mOp2 dLtA (mVar 4) (mVar 2)))) (mBool (mOp2 dEqA (mOpL m__law_is_open (mCons (mVar 1) (mCons (mVar 3) mNil))) (mOfN (mLst mNil))))) (mSet false 2 (mVar 4)) mSkip)))
    (mRet (mVar 2))))
noncomputable def m__law_least : List D → Option D := runP 2 5 g__law_least
theorem h__law_least {P : Program} {w : World} {K : PySem.W.Frag} {mg : Str → Option Value} {base : Heap} {f : Addr} {fd : FuncData} (F : Fun K "_law_least" "_law_least" s__law_least f fd) (hm : mg "_law_least" = some (.ref f)) (b : Binds K fd ["costs", "row"] []) (h__law_cost : Has P w K mg base 1 "_law_cost" 2 m__law_cost) (h__law_is_open : Has P w K mg base 1 "_law_is_open" 2 m__law_is_open) (h__law_some_lots : Has P w K mg base 1 "_law_some_lots" 1 m__law_some_lots) (z_len : mg "len" = none) :
    Has P w K mg base 2 "_law_least" 2 m__law_least := by
  have sc := sc__law_least
  refine has_P F sc rfl b hm fun cdv A outer s H hr hd => ?_
  exact (dss_cons (ds_set false sc.nd rfl (by first | exact .inl rfl | exact .inr rfl) de_non)
    (dss_cons (ds_for PassesOwn.never rfl (di_seq (de_fn h__law_some_lots hr hd (by rfl) (da_cons (de_len (by rfl) z_len (da_cons (de_var 0) da_nil)) da_nil))) (dg_name sc.nd rfl (by first | exact .inl rfl | exact .inr rfl)) (dss_cons (ds_set false sc.nd rfl (by first | exact .inl rfl | exact .inr rfl) (de_tup (da_cons (de_fn h__law_cost hr hd (by rfl) (da_cons (de_var 0) (da_cons (de_var 3) da_nil))) (da_cons (de_var 3) da_nil))))
    (dss_one (ds_if (dt_w (dw_and (dt_w (dw_or (dt_isA (de_var 2) de_non) (dw_or1 (dt_ltA hr.u66 (de_var 4) (de_var 2))))) (dw_and1 (dt_eqA hr.u65 (de_fn h__law_is_open hr hd (by rfl) (da_cons (de_var 1) (da_cons (de_var 3) da_nil))) (de_ofN (dn_lst da_nil)))))) (dss_one (ds_set false sc.nd rfl (by first | exact .inl rfl | exact .inr rfl) (de_var 4))) dss_nil))))
    (dss_one (ds_ret (de_var 2)))))

/-! ### _law_tight -/
abbrev s__law_tight : Stmt := topS 34
theorem sc__law_tight : FnScope ["costs", "row", "paid", "steps", "prices", "taken", "call", "price", "lot", "new"] ["costs", "row"] (defScope s__law_tight) := ⟨rfl, rfl, rfl, by decide +kernel, rfl, by decide +kernel, by decide +kernel⟩
noncomputable def g__law_tight : Stm :=
  (mSeq (mPar false [2, 3, 4, 5] (mVOwn (mRepN (mOfN (mLst (mCons (mPure (.int 0)) mNil))) (mOpL dLen (mCons (mVar 0) mNil))) (mVOwn (mLst mNil) (mVOwn (mLst mNil) (mVOwn (mLst mNil) mVNil)))))
    (mSeq (mFor (mItems (mVar 1)) (.nm 6) (mSeq (mSet false 7 (mPure (.int 0)))
    (mSeq (mWhile (mBool (mOp2 dEqA (mOfN (mComp (mItems (mVar 6)) [8] (.nm 8) (mBool (mOp2 dEqA (mOp2 dIx (mVar 2) (mVar 8)) (mOp2 dIx (mVar 0) (mVar 8)))) (mVar 8))) (mOfN (mLst mNil)))) (mSeq (mSet false 7 (mOp2 dAdd (mVar 7) (mPure (.int 1))))
    (mFor (mItems (mVar 6)) (.nm 8) (mSetIx true 2 (mOp2 dAdd (mOp2 dIx (mVar 2) (mVar 8)) (mPure (.int 1))) (mVar 8)))))
    (mSeq (mSetN true 9 (mComp (mItems (mVar 6)) [8] (.nm 8) (mAnd (mBool (mOp2 dEqA (mOp2 dIx (mVar 2) (mVar 8)) (mOp2 dIx (mVar 0) (mVar 8)))) (mBool (mOp2 dNotIn (mVar 8) (mVar 5)))) (mVar 8)))
    (mSeq (mSetN true 5 (mCatN (mVar 5) (mVar 9)))
    (mSeq (mApp true 3 (mOpL dTuple (mCons (mVar 9) mNil)))
    (mApp false 4 (mVar 7))))))))
    (mRet (mTup (mCons (mVar 3) (mCons (mVar 4) mNil))))))
noncomputable def m__law_tight : List D → Option D := runP 2 10 g__law_tight
theorem h__law_tight {P : Program} {w : World} {K : PySem.W.Frag} {mg : Str → Option Value} {base : Heap} {f : Addr} {fd : FuncData} (F : Fun K "_law_tight" "_law_tight" s__law_tight f fd) (hm : mg "_law_tight" = some (.ref f)) (b : Binds K fd ["costs", "row"] []) (z_len : mg "len" = none) (z_tuple : mg "tuple" = none) :
    Has P w K mg base 1 "_law_tight" 2 m__law_tight := by
  have sc := sc__law_tight
  refine has_P F sc rfl b hm fun cdv A outer s H hr hd => ?_
  exact (dss_cons (ds_parN false rfl sc.nd (.cons rfl (by first | exact .inl rfl | exact .inr rfl) (by first | exact .inl rfl | exact .inr rfl) (.cons rfl (by first | exact .inl rfl | exact .inr rfl) (by first | exact .inl rfl | exact .inr rfl) (.cons rfl (by first | exact .inl rfl | exact .inr rfl) (by first | exact .inl rfl | exact .inr rfl) (.cons rfl (by first | exact .inl rfl | exact .inr rfl) (by first | exact .inl rfl | exact .inr rfl) .nil rfl) rfl) rfl) rfl) (dv_own (dn_rep (de_ofN (dn_lst (da_cons de_int da_nil))) (de_len (by rfl) z_len (da_cons (de_var 0) da_nil))) (dv_own (dn_lst da_nil) (dv_own (dn_lst da_nil) (dv_own (dn_lst da_nil) dv_nil)))) (by decide))
    (dss_cons (ds_for PassesOwn.never rfl (di_seq (de_var 1)) (dg_name sc.nd rfl (by first | exact .inl rfl | exact .inr rfl)) (dss_cons (ds_set false sc.nd rfl (by first | exact .inl rfl | exact .inr rfl) de_int)
    (dss_cons (ds_while PassesOwn.never (dt_eqA hr.u65 (de_ofN (dn_lc [("lot", 8)] rfl sc.nd (di_seq (de_var 6)) (blkOk_by rfl) (by decide) (by decide) (fun _ _ _ _ _ => (dg_name sc.nd rfl (by first | exact .inl rfl | exact .inr rfl))) (fun _ _ _ _ _ => (dts_one (dt_eqA hr.u65 (de_ix (de_var 2) (de_var 8) (fun _ _ => rfl)) (de_ix (de_var 0) (de_var 8) (fun _ _ => rfl))))) (fun _ _ _ _ _ => (de_var 8)))) (de_ofN (dn_lst da_nil))) (dss_cons (ds_set false sc.nd rfl (by first | exact .inl rfl | exact .inr rfl) (de_add (de_var 7) de_int))
    (dss_one (ds_for PassesOwn.never rfl (di_seq (de_var 6)) (dg_name sc.nd rfl (by first | exact .inl rfl | exact .inr rfl)) (dss_one (ds_setIx true 2 (pv 2) (de_add (de_ix (de_var 2) (de_var 8) (fun _ _ => rfl)) de_int) (de_var 8)))))))
    (dss_cons (ds_setLc true [("lot", 8)] rfl sc.nd (by rfl) rfl (sw_true rfl rfl rfl rfl) (di_seq (de_var 6)) (blkOk_by rfl) (by decide) (by decide) (fun _ _ _ _ _ => (dg_name sc.nd rfl (by first | exact .inl rfl | exact .inr rfl))) (fun _ _ _ _ _ => (dts_one (dt_w (dw_and (dt_eqA hr.u65 (de_ix (de_var 2) (de_var 8) (fun _ _ => rfl)) (de_ix (de_var 0) (de_var 8) (fun _ _ => rfl))) (dw_and1 (dt_notIn hr.u65 (de_var 8) (de_var 5))))))) (fun _ _ _ _ _ => (de_var 8)))
    (dss_cons (ds_setN true sc.nd rfl (by first | exact .inl rfl | exact .inr rfl) (dn_cat (de_var 5) (de_var 9)))
    (dss_cons (ds_app true 3 (pv 3) (de_tuple (by rfl) z_tuple (da_cons (de_var 9) da_nil)))
    (dss_one (ds_app false 4 (pv 4) (de_var 7)))))))))
    (dss_one (ds_ret (de_tup (da_cons (de_var 3) (da_cons (de_var 4) da_nil)))))))

/-! ### law -/
abbrev s_law : Stmt := topS 35
theorem sc_law : FnScope ["script", "source", "lap", "costs", "f", "row", "shown", "steps", "prices", "lots", "step", "total", "cost", "due", "told", "least", "numbers", "some", "both", "i", "called", "price", "lot"] ["script"] (defScope s_law) := ⟨rfl, rfl, rfl, by decide +kernel, rfl, by decide +kernel, by decide +kernel⟩
noncomputable def g_law : Stm :=
  (mSeq (mFor (mRange1 (mPure (.int 4))) (.nm 2) (mSeq (mAsgT false (.tp [(.nm 3), (.nm 4), (.nm 5)]) (mCallS 1 m__law_lots (mCons (mOp2 dIx (mOfN (mLst (mCons (mPure (.int 3)) (mCons (mPure (.int 5)) (mCons (mPure (.int 7)) (mCons (mPure (.int 8)) mNil)))))) (mVar 2)) (mCons (mCallS 1 m__law_of (mCons (mOfN (mLst (mCons (mPure (.int 1)) (mCons (mPure (.int 4)) (mCons (mPure (.int 30)) mNil))))) mNil)) mNil))))
    (mSeq (mAsgT false (.tp [(.nm 6), (.tp [(.nm 7), (.nm 8)])]) (mTup (mCons (mOpL dRepr (mCons (mOfN (mLst (mCons (mVar 3) (mCons (mVar 5) mNil)))) mNil)) (mCons (mOpL m__law_tight (mCons (mVar 3) (mCons (mVar 5) mNil))) mNil))))
    (mSeq (mSet false 9 (mOfN (mLst mNil)))
    (mSeq (mFor (mItems (mVar 7)) (.nm 10) (mSet false 9 (mOfN (mCatN (mVar 9) (mOfN (mListOf (mVar 10)))))))
    (mSeq (mPar false [9, 11] (mVDat (mOpL dTuple (mCons (mOfN (mSort (mVar 9))) mNil)) (mVDat (mOpL dSumA (mCons (mVar 8) mNil)) mVNil)))
    (mSeq (mIfS (mBool (mOp2 dNeA (mOpL dRepr (mCons (mOfN (mLst (mCons (mOpL m_tight_way (mCons (mVar 3) (mCons (mVar 5) mNil))) (mCons (mOpL m_tight_steps (mCons (mVar 3) (mCons (mVar 5) mNil))) mNil)))) mNil)) (mOpL dRepr (mCons (mOfN (mLst (mCons (mTup (mCons (mVar 9) (mCons (mOpL dTuple (mCons (mVar 8) mNil)) mNil))) (mCons (mOpL dTuple (mCons (mVar 7) mNil)) mNil)))) mNil)))) (mRet (mPure (.bool false))) mSkip)
    (mSeq (mSet false 12 (mOpL m__law_cost (mCons (mVar 3) (mCons (mVar 9) mNil))))
    (mSeq (mSet false 13 (mIf (mBool (mOp2 dEqA (mVar 11) (mPure (.int 0)))) (mPure .none) (mOpL m__law_low (mCons (mVar 12) (mCons (mVar 11) mNil)))))
    (mSeq (mIfS (mBool (mOp2 dNeA (mOpL dRepr (mCons (mOfN (mLst (mCons (mOpL m_tight_cost (mCons (mVar 3) (mCons (mVar 5) mNil))) (mCons (mOpL m_tight_share (mCons (mVar 3) (mCons (mVar 5) mNil))) mNil)))) mNil)) (mOpL dRepr (mCons (mOfN (mLst (mCons (mVar 12) (mCons (mVar 13) mNil)))) mNil)))) (mRet (mPure (.bool false))) mSkip)
    (mSeq (mIfS (mOr (mBool (mOp2 dNotA (mOpL m_do_answer (mCons (mVar 5) (mCons (mVar 9) mNil))) (mPure (.bool true)))) (mOr (mBool (mOp2 dNeA (mOpL m_lots_cost (mCons (mVar 3) (mCons (mVar 9) mNil))) (mVar 12))) (mBool (mOp2 dGt (mVar 12) (mOp2 dMul (mVar 4) (mVar 11)))))) (mRet (mPure (.bool false))) mSkip)
    (mSeq (mSet false 14 (mOpL dTuple (mCons (mOfN (mComp (mItems (mVar 8)) [21] (.nm 21) mTrue (mTup (mCons (mVar 21) (mCons (mPure (.int 1)) mNil))))) mNil)))
    (mSeq (mIfS (mOr (mBool (mOp2 dNotA (mOpL m_are_prices (mCons (mVar 3) (mCons (mVar 5) (mCons (mVar 14) mNil)))) (mPure (.bool true)))) (mBool (mOp2 dNeA (mOpL m_prices_sum (mCons (mVar 14) mNil)) (mTup (mCons (mVar 11) (mCons (mPure (.int 1)) mNil)))))) (mRet (mPure (.bool false))) mSkip)
    (mSeq (mSet false 15 (mOp2 dIx (mOpL m__law_least (mCons (mVar 3) (mCons (mVar 5) mNil))) (mPure (.int 0))))
    (mSeq (mIfS (mOr (mBool (mOp2 dGt (mVar 11) (mVar 15))) (mOr (mBool (mOp2 dGt (mVar 12) (mOp2 dMul (mVar 4) (mVar 15)))) (mBool (mOp2 dNeA (mOpL m_least_answer (mCons (mVar 3) (mCons (mVar 5) mNil))) (mVar 15))))) (mRet (mPure (.bool false))) mSkip)
    (mSeq (mSet false 16 (mOpL dTuple (mCons (mOfN (mComp (mEnum (mVar 8)) [19, 21] (.tp [(.nm 19), (.nm 21)]) (mBool (mOp2 dGt (mVar 21) (mPure (.int 0)))) (mVar 19))) mNil)))
    (mSeq (mIfS (mBool (mOp2 dNeA (mOpL dRepr (mCons (mOpL m_priced_calls (mCons (mVar 3) (mCons (mVar 5) mNil))) mNil)) (mOpL dRepr (mCons (mVar 16) mNil)))) (mRet (mPure (.bool false))) mSkip)
    (mSeq (mSet false 17 (mOpL dTuple (mCons (mOfN (mComp (mRange1 (mOpL dLen (mCons (mVar 5) mNil))) [19] (.nm 19) (mBool (mOp2 dEqA (mCallS 1 mPick (mCons (mPure (.int 3)) mNil)) (mPure (.int 0)))) (mVar 19))) mNil)))
    (mSeq (mSet false 18 (mOfN (mLst mNil)))
    (mSeq (mFor (mItems (mVar 17)) (.nm 19) (mSet false 18 (mOfN (mCatN (mVar 18) (mOfN (mListOf (mOp2 dIx (mVar 5) (mVar 19))))))))
    (mSeq (mIfS (mBool (mOp2 dNeA (mOpL dRepr (mCons (mOpL m_are_apart_calls (mCons (mVar 5) (mCons (mVar 17) mNil))) mNil)) (mOpL dRepr (mCons (mOp2 dEqA (mOpL dLenM (mCons (mOpL dDict1 (mCons (mOfN (mComp (mItems (mVar 18)) [22] (.nm 22) mTrue (mTup (mCons (mVar 22) (mCons (mPure (.int 0)) mNil))))) mNil)) mNil)) (mOpL dLen (mCons (mVar 18) mNil))) mNil)))) (mRet (mPure (.bool false))) mSkip)
    (mSeq (mIfS (mBool (mOp2 dEqA (mOpL dMaxA (mCons (mVar 3) mNil)) (mPure (.int 1)))) (mSeq (mSet false 20 (mOfN (mLst mNil)))
    (mSeq (mFor (mItems (mVar 16)) (.nm 19) (mSet false 20 (mOfN (mCatN (mVar 20) (mOfN (mListOf (mOp2 dIx (mVar 5) (mVar 19))))))))
    (mIfS (mOr (mBool (mOp2 dNotA (mOpL m_are_apart_calls (mCons (mVar 5) (mCons (mVar 16) mNil))) (mPure (.bool true)))) (mBool (mOp2 dNeA (mOfN (mSort (mVar 20))) (mOfN (mListOf (mVar 9)))))) (mRet (mPure (.bool false))) mSkip))) mSkip)
    (mSeq (mIfS (mBool (mOp2 dNeA (mOfN (mComp (mZip (mVar 7) (mVar 8)) [10, 21] (.tp [(.nm 10), (.nm 21)]) (mBool (mOp2 dNeA (mOp2 dEqA (mVar 10) (mTup mNil)) (mOp2 dEqA (mVar 21) (mPure (.int 0))))) (mVar 10))) (mOfN (mLst mNil)))) (mRet (mPure (.bool false))) mSkip)
    (mIfS (mBool (mOp2 dNeA (mOpL dRepr (mCons (mOfN (mLst (mCons (mVar 3) (mCons (mVar 5) mNil)))) mNil)) (mVar 6))) (mRet (mPure (.bool false))) mSkip))))))))))))))))))))))))
    (mRet (mOp2 dEqA (mOpL m_tight_way (mCons (mTup (mCons (mPure (.int 2)) (mCons (mPure (.int 3)) mNil))) (mCons (mTup (mCons (mTup (mCons (mPure (.int 0)) (mCons (mPure (.int 1)) mNil))) (mCons (mTup (mCons (mPure (.int 1)) mNil)) mNil))) mNil))) (mTup (mCons (mTup (mCons (mPure (.int 0)) (mCons (mPure (.int 1)) mNil))) (mCons (mTup (mCons (mPure (.int 2)) (mCons (mPure (.int 1)) mNil))) mNil))))))
theorem b_law {P : Program} {w : World} {K : PySem.W.Frag} {mg : Str → Option Value} {base : Heap} {f : Addr} (h__law_cost : Has P w K mg base 5 "_law_cost" 2 m__law_cost) (h__law_least : Has P w K mg base 5 "_law_least" 2 m__law_least) (h__law_lots : HasS P w K mg base 5 "_law_lots" 3 m__law_lots) (h__law_low : Has P w K mg base 5 "_law_low" 2 m__law_low) (h__law_of : HasS P w K mg base 5 "_law_of" 2 m__law_of) (h__law_pick : HasS P w K mg base 5 "_law_pick" 2 mPick) (h__law_tight : Has P w K mg base 5 "_law_tight" 2 m__law_tight) (h_are_apart_calls : Has P w K mg base 5 "are_apart_calls" 2 m_are_apart_calls) (h_are_prices : Has P w K mg base 5 "are_prices" 3 m_are_prices) (h_do_answer : Has P w K mg base 5 "do_answer" 2 m_do_answer) (h_least_answer : Has P w K mg base 5 "least_answer" 2 m_least_answer) (h_lots_cost : Has P w K mg base 5 "lots_cost" 2 m_lots_cost) (h_priced_calls : Has P w K mg base 5 "priced_calls" 2 m_priced_calls) (h_prices_sum : Has P w K mg base 5 "prices_sum" 1 m_prices_sum) (h_tight_cost : Has P w K mg base 5 "tight_cost" 2 m_tight_cost) (h_tight_share : Has P w K mg base 5 "tight_share" 2 m_tight_share) (h_tight_steps : Has P w K mg base 5 "tight_steps" 2 m_tight_steps) (h_tight_way : Has P w K mg base 5 "tight_way" 2 m_tight_way) (z_dict : mg "dict" = none) (z_enumerate : mg "enumerate" = none) (z_len : mg "len" = none) (z_list : mg "list" = none) (z_max : mg "max" = none) (z_range : mg "range" = none) (z_repr : mg "repr" = none) (z_sorted : mg "sorted" = none) (z_sum : mg "sum" = none) (z_tuple : mg "tuple" = none) (z_zip : mg "zip" = none) (cdv : Value) (A : Around) (outer : List Env) (s : Shared) (H : Hp) (hr : Room 5 (A.deeper (envOfC "law" (defScope s_law) s.heap.objs.size f cdv))) (hd : A.guards = some []) :
    DSs (cxOf CX0 P w K mg base ["script", "source", "lap", "costs", "f", "row", "shown", "steps", "prices", "lots", "step", "total", "cost", "due", "told", "least", "numbers", "some", "both", "i", "called", "price", "lot"] "law" (defScope s_law) f cdv A outer s H E0).nox ((defBody s_law).drop 1) g_law := by
  have sc := sc_law
  exact (dss_cons (ds_for PassesOwn.never rfl (di_range1 (by rfl) z_range de_int) (dg_name sc.nd rfl (by first | exact .inl rfl | exact .inr rfl)) (dss_cons (ds_asgT false (de_fnS 1 h__law_lots hr hd (by rfl) (pv 1) (da_cons (de_ix (de_ofN (dn_lst (da_cons de_int (da_cons de_int (da_cons de_int (da_cons de_int da_nil)))))) (de_var 2) (fun _ _ => rfl)) (da_cons (de_fnS 1 h__law_of hr hd (by rfl) (pv 1) (da_cons (de_ofN (dn_lst (da_cons de_int (da_cons de_int (da_cons de_int da_nil))))) da_nil)) da_nil))) (dg_tup rfl (dgs_cons (dg_name sc.nd rfl (by first | exact .inl rfl | exact .inr rfl)) (dgs_cons (dg_name sc.nd rfl (by first | exact .inl rfl | exact .inr rfl)) (dgs_cons (dg_name sc.nd rfl (by first | exact .inl rfl | exact .inr rfl)) dgs_nil))) rfl))
    (dss_cons (ds_asgT false (de_tup (da_cons (de_repr hd hr.u66 (by rfl) z_repr (da_cons (de_ofN (dn_lst (da_cons (de_var 3) (da_cons (de_var 5) da_nil)))) da_nil)) (da_cons (de_fn h__law_tight hr hd (by rfl) (da_cons (de_var 3) (da_cons (de_var 5) da_nil))) da_nil))) (dg_tup rfl (dgs_cons (dg_name sc.nd rfl (by first | exact .inl rfl | exact .inr rfl)) (dgs_cons (dg_tup rfl (dgs_cons (dg_name sc.nd rfl (by first | exact .inl rfl | exact .inr rfl)) (dgs_cons (dg_name sc.nd rfl (by first | exact .inl rfl | exact .inr rfl)) dgs_nil)) rfl) dgs_nil)) rfl))
    (dss_cons (ds_set false sc.nd rfl (by first | exact .inl rfl | exact .inr rfl) (de_ofN (dn_lst da_nil)))
    (dss_cons (ds_for PassesOwn.never rfl (di_seq (de_var 7)) (dg_name sc.nd rfl (by first | exact .inl rfl | exact .inr rfl)) (dss_one (ds_set false sc.nd rfl (by first | exact .inl rfl | exact .inr rfl) (de_ofN (dn_cat (de_var 9) (de_ofN (dn_list (by rfl) z_list (de_var 10))))))))
    (dss_cons (ds_par false rfl sc.nd rfl rfl (by decide) rfl rfl (dv_dat (de_tuple (by rfl) z_tuple (da_cons (de_ofN (dn_sorted (by rfl) z_sorted (de_var 9))) da_nil)) (dv_dat (de_sumA rfl (by rfl) z_sum (da_cons (de_var 8) da_nil)) dv_nil)) rfl)
    (dss_cons (ds_if (dt_neA hr.u65 (de_repr hd hr.u66 (by rfl) z_repr (da_cons (de_ofN (dn_lst (da_cons (de_fn h_tight_way hr hd (by rfl) (da_cons (de_var 3) (da_cons (de_var 5) da_nil))) (da_cons (de_fn h_tight_steps hr hd (by rfl) (da_cons (de_var 3) (da_cons (de_var 5) da_nil))) da_nil)))) da_nil)) (de_repr hd hr.u66 (by rfl) z_repr (da_cons (de_ofN (dn_lst (da_cons (de_tup (da_cons (de_var 9) (da_cons (de_tuple (by rfl) z_tuple (da_cons (de_var 8) da_nil)) da_nil))) (da_cons (de_tuple (by rfl) z_tuple (da_cons (de_var 7) da_nil)) da_nil)))) da_nil))) (dss_one (ds_ret de_bl)) dss_nil)
    (dss_cons (ds_set false sc.nd rfl (by first | exact .inl rfl | exact .inr rfl) (de_fn h__law_cost hr hd (by rfl) (da_cons (de_var 3) (da_cons (de_var 9) da_nil))))
    (dss_cons (ds_set false sc.nd rfl (by first | exact .inl rfl | exact .inr rfl) (de_if (dt_eqA hr.u65 (de_var 11) de_int) de_non (de_fn h__law_low hr hd (by rfl) (da_cons (de_var 12) (da_cons (de_var 11) da_nil)))))
    (dss_cons (ds_if (dt_neA hr.u65 (de_repr hd hr.u66 (by rfl) z_repr (da_cons (de_ofN (dn_lst (da_cons (de_fn h_tight_cost hr hd (by rfl) (da_cons (de_var 3) (da_cons (de_var 5) da_nil))) (da_cons (de_fn h_tight_share hr hd (by rfl) (da_cons (de_var 3) (da_cons (de_var 5) da_nil))) da_nil)))) da_nil)) (de_repr hd hr.u66 (by rfl) z_repr (da_cons (de_ofN (dn_lst (da_cons (de_var 12) (da_cons (de_var 13) da_nil)))) da_nil))) (dss_one (ds_ret de_bl)) dss_nil)
    (dss_cons (ds_if (dt_w (dw_or (dt_isnotA (de_fn h_do_answer hr hd (by rfl) (da_cons (de_var 5) (da_cons (de_var 9) da_nil))) de_bl) (dw_or (dt_neA hr.u65 (de_fn h_lots_cost hr hd (by rfl) (da_cons (de_var 3) (da_cons (de_var 9) da_nil))) (de_var 12)) (dw_or1 (dt_gt (de_var 12) (de_mul (de_var 4) (de_var 11))))))) (dss_one (ds_ret de_bl)) dss_nil)
    (dss_cons (ds_set false sc.nd rfl (by first | exact .inl rfl | exact .inr rfl) (de_tuple (by rfl) z_tuple (da_cons (de_ofN (dn_lc [("price", 21)] rfl sc.nd (di_seq (de_var 8)) (blkOk_by rfl) (by decide) (by decide) (fun _ _ _ _ _ => (dg_name sc.nd rfl (by first | exact .inl rfl | exact .inr rfl))) (fun _ _ _ _ _ => dts_nil) (fun _ _ _ _ _ => (de_tup (da_cons (de_var 21) (da_cons de_int da_nil)))))) da_nil)))
    (dss_cons (ds_if (dt_w (dw_or (dt_isnotA (de_fn h_are_prices hr hd (by rfl) (da_cons (de_var 3) (da_cons (de_var 5) (da_cons (de_var 14) da_nil)))) de_bl) (dw_or1 (dt_neA hr.u65 (de_fn h_prices_sum hr hd (by rfl) (da_cons (de_var 14) da_nil)) (de_tup (da_cons (de_var 11) (da_cons de_int da_nil))))))) (dss_one (ds_ret de_bl)) dss_nil)
    (dss_cons (ds_set false sc.nd rfl (by first | exact .inl rfl | exact .inr rfl) (de_ix (de_fn h__law_least hr hd (by rfl) (da_cons (de_var 3) (da_cons (de_var 5) da_nil))) de_int (fun _ _ => rfl)))
    (dss_cons (ds_if (dt_w (dw_or (dt_gt (de_var 11) (de_var 15)) (dw_or (dt_gt (de_var 12) (de_mul (de_var 4) (de_var 15))) (dw_or1 (dt_neA hr.u65 (de_fn h_least_answer hr hd (by rfl) (da_cons (de_var 3) (da_cons (de_var 5) da_nil))) (de_var 15)))))) (dss_one (ds_ret de_bl)) dss_nil)
    (dss_cons (ds_set false sc.nd rfl (by first | exact .inl rfl | exact .inr rfl) (de_tuple (by rfl) z_tuple (da_cons (de_ofN (dn_lc [("i", 19), ("price", 21)] rfl sc.nd (di_enum (by rfl) z_enumerate (de_var 8)) (blkOk_by rfl) (by decide) (by decide) (fun _ _ _ _ _ => (dg_tup rfl (dgs_cons (dg_name sc.nd rfl (by first | exact .inl rfl | exact .inr rfl)) (dgs_cons (dg_name sc.nd rfl (by first | exact .inl rfl | exact .inr rfl)) dgs_nil)) rfl)) (fun _ _ _ _ _ => (dts_one (dt_gt (de_var 21) de_int))) (fun _ _ _ _ _ => (de_var 19)))) da_nil)))
    (dss_cons (ds_if (dt_neA hr.u65 (de_repr hd hr.u66 (by rfl) z_repr (da_cons (de_fn h_priced_calls hr hd (by rfl) (da_cons (de_var 3) (da_cons (de_var 5) da_nil))) da_nil)) (de_repr hd hr.u66 (by rfl) z_repr (da_cons (de_var 16) da_nil))) (dss_one (ds_ret de_bl)) dss_nil)
    (dss_cons (ds_set false sc.nd rfl (by first | exact .inl rfl | exact .inr rfl) (de_tuple (by rfl) z_tuple (da_cons (de_ofN (dn_lc [("i", 19)] rfl sc.nd (di_range1 (by rfl) z_range (de_len (by rfl) z_len (da_cons (de_var 5) da_nil))) (blkOk_by rfl) (by decide) (by decide) (fun _ _ _ _ _ => (dg_name sc.nd rfl (by first | exact .inl rfl | exact .inr rfl))) (fun _ _ _ _ _ => (dts_one (dt_eqA hr.u65 (de_fnS 1 h__law_pick hr hd (by rfl) (pv 1) (da_cons de_int da_nil)) de_int))) (fun _ _ _ _ _ => (de_var 19)))) da_nil)))
    (dss_cons (ds_set false sc.nd rfl (by first | exact .inl rfl | exact .inr rfl) (de_ofN (dn_lst da_nil)))
    (dss_cons (ds_for PassesOwn.never rfl (di_seq (de_var 17)) (dg_name sc.nd rfl (by first | exact .inl rfl | exact .inr rfl)) (dss_one (ds_set false sc.nd rfl (by first | exact .inl rfl | exact .inr rfl) (de_ofN (dn_cat (de_var 18) (de_ofN (dn_list (by rfl) z_list (de_ix (de_var 5) (de_var 19) (fun _ _ => rfl)))))))))
    (dss_cons (ds_if (dt_neA hr.u65 (de_repr hd hr.u66 (by rfl) z_repr (da_cons (de_fn h_are_apart_calls hr hd (by rfl) (da_cons (de_var 5) (da_cons (de_var 17) da_nil))) da_nil)) (de_repr hd hr.u66 (by rfl) z_repr (da_cons (de_eqA hr.u65 (de_lenM (by rfl) z_len (da_cons (de_dict1 rfl (by rfl) z_dict (da_cons (de_ofN (dn_lc [("lot", 22)] rfl sc.nd (di_seq (de_var 18)) (blkOk_by rfl) (by decide) (by decide) (fun _ _ _ _ _ => (dg_name sc.nd rfl (by first | exact .inl rfl | exact .inr rfl))) (fun _ _ _ _ _ => dts_nil) (fun _ _ _ _ _ => (de_tup (da_cons (de_var 22) (da_cons de_int da_nil)))))) da_nil)) da_nil)) (de_len (by rfl) z_len (da_cons (de_var 18) da_nil))) da_nil))) (dss_one (ds_ret de_bl)) dss_nil)
    (dss_cons (ds_if (dt_eqA hr.u65 (de_maxA rfl (by rfl) z_max (da_cons (de_var 3) da_nil)) de_int) (dss_cons (ds_set false sc.nd rfl (by first | exact .inl rfl | exact .inr rfl) (de_ofN (dn_lst da_nil)))
    (dss_cons (ds_for PassesOwn.never rfl (di_seq (de_var 16)) (dg_name sc.nd rfl (by first | exact .inl rfl | exact .inr rfl)) (dss_one (ds_set false sc.nd rfl (by first | exact .inl rfl | exact .inr rfl) (de_ofN (dn_cat (de_var 20) (de_ofN (dn_list (by rfl) z_list (de_ix (de_var 5) (de_var 19) (fun _ _ => rfl)))))))))
    (dss_one (ds_if (dt_w (dw_or (dt_isnotA (de_fn h_are_apart_calls hr hd (by rfl) (da_cons (de_var 5) (da_cons (de_var 16) da_nil))) de_bl) (dw_or1 (dt_neA hr.u65 (de_ofN (dn_sorted (by rfl) z_sorted (de_var 20))) (de_ofN (dn_list (by rfl) z_list (de_var 9))))))) (dss_one (ds_ret de_bl)) dss_nil)))) dss_nil)
    (dss_cons (ds_if (dt_neA hr.u65 (de_ofN (dn_lc [("step", 10), ("price", 21)] rfl sc.nd (di_zip (by rfl) z_zip (de_var 7) (de_var 8)) (blkOk_by rfl) (by decide) (by decide) (fun _ _ _ _ _ => (dg_tup rfl (dgs_cons (dg_name sc.nd rfl (by first | exact .inl rfl | exact .inr rfl)) (dgs_cons (dg_name sc.nd rfl (by first | exact .inl rfl | exact .inr rfl)) dgs_nil)) rfl)) (fun _ _ _ _ _ => (dts_one (dt_neA hr.u65 (de_eqA hr.u65 (de_var 10) (de_tup da_nil)) (de_eqA hr.u65 (de_var 21) de_int)))) (fun _ _ _ _ _ => (de_var 10)))) (de_ofN (dn_lst da_nil))) (dss_one (ds_ret de_bl)) dss_nil)
    (dss_one (ds_if (dt_neA hr.u65 (de_repr hd hr.u66 (by rfl) z_repr (da_cons (de_ofN (dn_lst (da_cons (de_var 3) (da_cons (de_var 5) da_nil)))) da_nil)) (de_var 6)) (dss_one (ds_ret de_bl)) dss_nil)))))))))))))))))))))))))
    (dss_one (ds_ret (de_eqA hr.u65 (de_fn h_tight_way hr hd (by rfl) (da_cons (de_tup (da_cons de_int (da_cons de_int da_nil))) (da_cons (de_tup (da_cons (de_tup (da_cons de_int (da_cons de_int da_nil))) (da_cons (de_tup (da_cons de_int da_nil)) da_nil))) da_nil))) (de_tup (da_cons (de_tup (da_cons de_int (da_cons de_int da_nil))) (da_cons (de_tup (da_cons de_int (da_cons de_int da_nil))) da_nil)))))))

/-! ### _law_open_cells -/
abbrev s__law_open_cells : Stmt := topS 24
theorem sc__law_open_cells : FnScope ["script", "stirred", "cell", "cells"] ["script"] (defScope s__law_open_cells) := ⟨rfl, rfl, rfl, by decide +kernel, rfl, by decide +kernel, by decide +kernel⟩
theorem h__law_open_cells {P : Program} {w : World} {K : PySem.W.Frag} {mg : Str → Option Value} {base : Heap} {f : Addr} {fd : FuncData} (F : Fun K "_law_open_cells" "_law_open_cells" s__law_open_cells f fd) (hm : mg "_law_open_cells" = some (.ref f)) (b : Binds K fd ["script"] []) (z_abs : mg "abs" = none) (z_int : mg "int" = none) : HasO P w K mg base 1 "_law_open_cells" := by
  have sc := sc__law_open_cells
  refine has_O F sc b hm fun cdv A outer s H hr => ?_
  exact pss_cons (ps_set (i := 1) sc.nd rfl (.inl rfl) pe_int)
    (pss_cons (ps_for PassesOwn.never rfl (pi_list (pv 0)) (pg_name (i := 2) sc.nd rfl (.inl rfl)) (pss_one (ps_set (i := 1) sc.nd rfl (.inl rfl) (pe_op op_mod (pe_callTy call_int1 (by rfl) z_int (by decide +kernel) (pa_cons (pe_op op_add (pe_op op_add (pe_op op_mulX (pv 1) pe_int) (pe_op op_mulX (pv 2) pe_int)) pe_int) pa_nil)) pe_int))))
    (pss_cons (ps_setLc (own := [("cell", 2)]) rfl sc.nd (by rfl) rfl (sw_true rfl rfl rfl rfl) (pi_list (pv 0)) (blkOk_by rfl) (fun _ _ _ _ _ => pg_name (i := 2) sc.nd rfl (.inl rfl)) (fun _ _ _ _ _ => pts_nil) (fun _ _ _ _ _ => pe_callB call_abs (by rfl) z_abs (by decide +kernel) (pa_cons (pv 2) pa_nil)))
    (pss_one (ps_ret (pe_disp (pps_cons pe_str (pe_revL (pv 3)) (pps_cons pe_str pe_int (pps_cons pe_str (pv 1) (pps_cons pe_str pe_int pps_nil)))) rfl rfl (by simp) (by decide))))))

/-! ### _law_pick -/
abbrev s__law_pick : Stmt := topS 25
theorem sc__law_pick : FnScope ["source", "most", "cells", "others", "lap", "stirred"] ["source", "most"] (defScope s__law_pick) := ⟨rfl, rfl, rfl, by decide +kernel, rfl, by decide +kernel, by decide +kernel⟩
theorem h__law_pick {P : Program} {w : World} {K : PySem.W.Frag} {mg : Str → Option Value} {base : Heap} {f : Addr} {fd : FuncData} (F : Fun K "_law_pick" "_law_pick" s__law_pick f fd) (hm : mg "_law_pick" = some (.ref f)) (b : Binds K fd ["source", "most"] []) (z_int : mg "int" = none) (z_len : mg "len" = none) : HasS P w K mg base 1 "_law_pick" 2 mPick := by
  have sc := sc__law_pick
  refine has_pick F sc b hm fun cdv A outer s H hr => ?_
  have hu := hu_of hr
  exact pss_cons (ps_if (pt_cmpR op_lt (pv 1) pe_int (nomark _)) (pss_one (ps_ret pe_int)) pss_nil)
    (pss_cons (ps_set (i := 2) sc.nd rfl (.inl rfl) (pe_dget hu (pv 0) pe_str (fun _ _ => rfl)))
    (pss_cons (ps_while PassesOwn.never (pw_and (pt_cmpR op_lt (pe_dget hu (pv 0) pe_str (fun _ _ => rfl)) pe_int (nomark _)) (pw_and1 (pt_cmpR op_gt (pe_callB call_len_seq (by rfl) z_len PySem.boot_len (pa_cons (pv 2) pa_nil)) pe_int (nomark _)))).pt
       (pss_one (ps_dput hu (pv 0) pe_str (pe_bm0 PySem.F.plainAttrs_list PySem.F.slot_list_pop PySem.F.type_list_pop mt_pop (pv 2)) rfl)))
    (pss_cons (ps_set (i := 3) sc.nd rfl (.inl rfl) (pe_dget hu (pv 0) pe_str (fun _ _ => rfl)))
    (pss_cons (ps_if (pt_cmpR op_gt (pv 3) pe_int (nomark _)) (pss_cons (ps_dput hu (pv 0) pe_str (pe_op op_fdivW (pv 3) (pv 1)) rfl) (pss_one (ps_ret (pe_op op_mod (pe_callTy call_int1 (by rfl) z_int (by decide +kernel) (pa_cons (pv 3) pa_nil)) (pv 1))))) pss_nil)
    (pss_cons (ps_dput hu (pv 0) pe_str (pe_op op_add (pe_dget hu (pv 0) pe_str (fun _ _ => rfl)) pe_int) rfl)
    (pss_cons (ps_set (i := 4) sc.nd rfl (.inl rfl) (pe_dget hu (pv 0) pe_str (fun _ _ => rfl)))
    (pss_cons (ps_set (i := 5) sc.nd rfl (.inl rfl) (pe_op op_mod (pe_callTy call_int1 (by rfl) z_int (by decide +kernel) (pa_cons (pe_op op_add (pe_dget hu (pv 0) pe_str (fun _ _ => rfl)) (pe_op op_mulX (pv 4) pe_int)) pa_nil)) pe_int))
    (pss_cons (ps_set (i := 5) sc.nd rfl (.inl rfl) (pe_op op_mod (pe_callTy call_int1 (by rfl) z_int (by decide +kernel) (pa_cons (pe_op op_add (pe_op op_mulX (pv 5) (pv 5)) (pe_op op_mulX (pv 4) pe_int)) pa_nil)) pe_int))
    (pss_one (ps_ret (pe_op op_mod (pe_callTy call_int1 (by rfl) z_int (by decide +kernel) (pa_cons (pe_op op_fdivW (pv 5) pe_int) pa_nil)) (pv 1))))))))))))

/-! ### _law_any_order -/
abbrev s__law_any_order : Stmt := topS 26
theorem sc__law_any_order : FnScope ["source", "things", "others", "lap"] ["source", "things"] (defScope s__law_any_order) := ⟨rfl, rfl, rfl, by decide +kernel, rfl, by decide +kernel, by decide +kernel⟩
theorem h__law_any_order {P : Program} {w : World} {K : PySem.W.Frag} {mg : Str → Option Value} {base : Heap} {f : Addr} {fd : FuncData} (F : Fun K "_law_any_order" "_law_any_order" s__law_any_order f fd) (hm : mg "_law_any_order" = some (.ref f)) (b : Binds K fd ["source", "things"] []) (h__law_pick : HasS P w K mg base 1 "_law_pick" 2 mPick) (z_len : mg "len" = none) (z_list : mg "list" = none) (z_range : mg "range" = none) : HasS P w K mg base 2 "_law_any_order" 2 mOrder := by
  have sc := sc__law_any_order
  refine has_order F sc b hm fun cdv A outer s H hr hd => ?_
  exact pss_cons (ps_set (i := 2) sc.nd rfl (by first | exact .inl rfl | exact .inr rfl) (pe_callTy call_list_of (by rfl) z_list (by decide +kernel) (pa_cons (pv 1) pa_nil)))
    (pss_one (ps_ret (pe_lc (own := [("lap", 3)]) rfl sc.nd (pi_range1 (by rfl) z_range (pa_cons (pe_callB call_len_seq (by rfl) z_len PySem.boot_len (pa_cons (pv 2) pa_nil)) pa_nil)) (blkOk_by rfl) (fun _ _ _ _ _ => pg_name (i := 3) sc.nd rfl (by first | exact .inl rfl | exact .inr rfl)) (fun _ _ _ _ _ => pts_nil)
      (fun _ _ _ _ _ => pe_bm PySem.F.plainAttrs_list PySem.F.slot_list_pop PySem.F.type_list_pop mt_popAt (pv 2) (pa_cons (pe_fnS h__law_pick hr hd (by rfl) (pa_cons (pv 0) (pa_cons (pe_callB call_len_seq (by rfl) z_len PySem.boot_len (pa_cons (pv 2) pa_nil)) pa_nil))) pa_nil)))))

theorem h_law {P : Program} {w : World} {K : PySem.W.Frag} {mg : Str → Option Value} {base : Heap} {f : Addr} {fd : FuncData} (F : Fun K "law" "law" s_law f fd) (ho : HasO P w K mg base 5 "_law_open_cells") (h__law_cost : Has P w K mg base 5 "_law_cost" 2 m__law_cost) (h__law_least : Has P w K mg base 5 "_law_least" 2 m__law_least) (h__law_lots : HasS P w K mg base 5 "_law_lots" 3 m__law_lots) (h__law_low : Has P w K mg base 5 "_law_low" 2 m__law_low) (h__law_of : HasS P w K mg base 5 "_law_of" 2 m__law_of) (h__law_pick : HasS P w K mg base 5 "_law_pick" 2 mPick) (h__law_tight : Has P w K mg base 5 "_law_tight" 2 m__law_tight) (h_are_apart_calls : Has P w K mg base 5 "are_apart_calls" 2 m_are_apart_calls) (h_are_prices : Has P w K mg base 5 "are_prices" 3 m_are_prices) (h_do_answer : Has P w K mg base 5 "do_answer" 2 m_do_answer) (h_least_answer : Has P w K mg base 5 "least_answer" 2 m_least_answer) (h_lots_cost : Has P w K mg base 5 "lots_cost" 2 m_lots_cost) (h_priced_calls : Has P w K mg base 5 "priced_calls" 2 m_priced_calls) (h_prices_sum : Has P w K mg base 5 "prices_sum" 1 m_prices_sum) (h_tight_cost : Has P w K mg base 5 "tight_cost" 2 m_tight_cost) (h_tight_share : Has P w K mg base 5 "tight_share" 2 m_tight_share) (h_tight_steps : Has P w K mg base 5 "tight_steps" 2 m_tight_steps) (h_tight_way : Has P w K mg base 5 "tight_way" 2 m_tight_way) (z_dict : mg "dict" = none) (z_enumerate : mg "enumerate" = none) (z_len : mg "len" = none) (z_list : mg "list" = none) (z_max : mg "max" = none) (z_range : mg "range" = none) (z_repr : mg "repr" = none) (z_sorted : mg "sorted" = none) (z_sum : mg "sum" = none) (z_tuple : mg "tuple" = none) (z_zip : mg "zip" = none) : FnG P w K mg base 6 f fd ["script"] (spLaw K 23 g_law) := by
  refine law_G F sc_law (by decide) fun cdv A outer s H hr hd => ?_
  exact ⟨_, _, rfl, ps_set (i := 1) sc_law.nd rfl (by first | exact .inl rfl | exact .inr rfl) (pe_open ho hr hd (by rfl) (pv 0)), b_law h__law_cost h__law_least h__law_lots h__law_low h__law_of h__law_pick h__law_tight h_are_apart_calls h_are_prices h_do_answer h_least_answer h_lots_cost h_priced_calls h_prices_sum h_tight_cost h_tight_share h_tight_steps h_tight_way z_dict z_enumerate z_len z_list z_max z_range z_repr z_sorted z_sum z_tuple z_zip cdv A outer s H hr hd⟩

theorem all_here {l : PySem.W.OpenLaw} {w : World} {K : PySem.W.Frag} {h : Heap} {mg : Str → Option Value} {fa f0 f1 f2 f3 f4 f5 f6 f7 f8 f9 f10 f11 f12 f13 f14 f15 f16 f17 f18 f19 f20 f21 f22 f23 f24 f25 f26 f27 f28 f29 f30 : Addr} (X : K.In h) (G : h.Ns mainGlobals mg) (hfa : mg "law" = some (.ref fa))
    {od0 an0 od1 an1 od2 an2 od3 an3 od4 an4 od5 an5 od6 an6 od7 an7 od8 an8 od9 an9 od10 an10 od11 an11 od12 an12 od13 an13 od14 an14 od15 an15 od16 an16 od17 an17 od18 an18 od19 an19 od20 an20 od21 an21 od22 an22 od23 an23 od24 an24 od25 an25 od26 an26 od27 an27 od28 an28 od29 an29 od30 an30 : Option Addr} {sl0 sl1 sl2 sl3 sl4 sl5 sl6 sl7 sl8 sl9 sl10 sl11 sl12 sl13 sl14 sl15 sl16 sl17 sl18 sl19 sl20 sl21 sl22 sl23 sl24 sl25 sl26 sl27 sl28 sl29 sl30 : Array (Option Value)} {oc0 kV0 dc0 pm0 cd0 ct0 oc1 kV1 dc1 pm1 cd1 ct1 oc2 kV2 dc2 pm2 cd2 ct2 oc3 kV3 dc3 pm3 cd3 ct3 oc4 kV4 dc4 pm4 cd4 ct4 oc5 kV5 dc5 pm5 cd5 ct5 oc6 kV6 dc6 pm6 cd6 ct6 oc7 kV7 dc7 pm7 cd7 ct7 oc8 kV8 dc8 pm8 cd8 ct8 oc9 kV9 dc9 pm9 cd9 ct9 oc10 kV10 dc10 pm10 cd10 ct10 oc11 kV11 dc11 pm11 cd11 ct11 oc12 kV12 dc12 pm12 cd12 ct12 oc13 kV13 dc13 pm13 cd13 ct13 oc14 kV14 dc14 pm14 cd14 ct14 oc15 kV15 dc15 pm15 cd15 ct15 oc16 kV16 dc16 pm16 cd16 ct16 oc17 kV17 dc17 pm17 cd17 ct17 oc18 kV18 dc18 pm18 cd18 ct18 oc19 kV19 dc19 pm19 cd19 ct19 oc20 kV20 dc20 pm20 cd20 ct20 oc21 kV21 dc21 pm21 cd21 ct21 oc22 kV22 dc22 pm22 cd22 ct22 oc23 kV23 dc23 pm23 cd23 ct23 oc24 kV24 dc24 pm24 cd24 ct24 oc25 kV25 dc25 pm25 cd25 ct25 oc26 kV26 dc26 pm26 cd26 ct26 oc27 kV27 dc27 pm27 cd27 ct27 oc28 kV28 dc28 pm28 cd28 ct28 oc29 kV29 dc29 pm29 cd29 ct29 oc30 kV30 dc30 pm30 cd30 ct30 : Value}
    (a0 : PySem.W.nsIn K mainGlobals "_law_open_cells" = some (some (.ref f0))) (l0 : K.lookup f0 = some ⟨oc0, od0, .func (PySem.W.fnOf "_law_open_cells" "_law_open_cells" (defArgs s__law_open_cells) (defBody s__law_open_cells) (defScope s__law_open_cells) .none kV0 dc0 pm0 an0 cd0 ct0), sl0⟩) (c0 : PySem.W.codeIn K cd0 "_law_open_cells" = true) (k0 : PySem.W.keepIn K (.ref f0) = true)
    (a1 : PySem.W.nsIn K mainGlobals "_law_pick" = some (some (.ref f1))) (l1 : K.lookup f1 = some ⟨oc1, od1, .func (PySem.W.fnOf "_law_pick" "_law_pick" (defArgs s__law_pick) (defBody s__law_pick) (defScope s__law_pick) .none kV1 dc1 pm1 an1 cd1 ct1), sl1⟩) (c1 : PySem.W.codeIn K cd1 "_law_pick" = true) (k1 : PySem.W.keepIn K (.ref f1) = true)
    (a2 : PySem.W.nsIn K mainGlobals "_law_any_order" = some (some (.ref f2))) (l2 : K.lookup f2 = some ⟨oc2, od2, .func (PySem.W.fnOf "_law_any_order" "_law_any_order" (defArgs s__law_any_order) (defBody s__law_any_order) (defScope s__law_any_order) .none kV2 dc2 pm2 an2 cd2 ct2), sl2⟩) (c2 : PySem.W.codeIn K cd2 "_law_any_order" = true) (k2 : PySem.W.keepIn K (.ref f2) = true)
    (a3 : PySem.W.nsIn K mainGlobals "lowest_pair" = some (some (.ref f3))) (l3 : K.lookup f3 = some ⟨oc3, od3, .func (PySem.W.fnOf "lowest_pair" "lowest_pair" (defArgs s_lowest_pair) (defBody s_lowest_pair) (defScope s_lowest_pair) .none kV3 dc3 pm3 an3 cd3 ct3), sl3⟩) (c3 : PySem.W.codeIn K cd3 "lowest_pair" = true) (k3 : PySem.W.keepIn K (.ref f3) = true)
    (a4 : PySem.W.nsIn K mainGlobals "summed_pairs" = some (some (.ref f4))) (l4 : K.lookup f4 = some ⟨oc4, od4, .func (PySem.W.fnOf "summed_pairs" "summed_pairs" (defArgs s_summed_pairs) (defBody s_summed_pairs) (defScope s_summed_pairs) .none kV4 dc4 pm4 an4 cd4 ct4), sl4⟩) (c4 : PySem.W.codeIn K cd4 "summed_pairs" = true) (k4 : PySem.W.keepIn K (.ref f4) = true)
    (a5 : PySem.W.nsIn K mainGlobals "is_call_answered" = some (some (.ref f5))) (l5 : K.lookup f5 = some ⟨oc5, od5, .func (PySem.W.fnOf "is_call_answered" "is_call_answered" (defArgs s_is_call_answered) (defBody s_is_call_answered) (defScope s_is_call_answered) .none kV5 dc5 pm5 an5 cd5 ct5), sl5⟩) (c5 : PySem.W.codeIn K cd5 "is_call_answered" = true) (k5 : PySem.W.keepIn K (.ref f5) = true)
    (a6 : PySem.W.nsIn K mainGlobals "do_answer" = some (some (.ref f6))) (l6 : K.lookup f6 = some ⟨oc6, od6, .func (PySem.W.fnOf "do_answer" "do_answer" (defArgs s_do_answer) (defBody s_do_answer) (defScope s_do_answer) .none kV6 dc6 pm6 an6 cd6 ct6), sl6⟩) (c6 : PySem.W.codeIn K cd6 "do_answer" = true) (k6 : PySem.W.keepIn K (.ref f6) = true)
    (a7 : PySem.W.nsIn K mainGlobals "lots_cost" = some (some (.ref f7))) (l7 : K.lookup f7 = some ⟨oc7, od7, .func (PySem.W.fnOf "lots_cost" "lots_cost" (defArgs s_lots_cost) (defBody s_lots_cost) (defScope s_lots_cost) .none kV7 dc7 pm7 an7 cd7 ct7), sl7⟩) (c7 : PySem.W.codeIn K cd7 "lots_cost" = true) (k7 : PySem.W.keepIn K (.ref f7) = true)
    (a8 : PySem.W.nsIn K mainGlobals "all_lot_rows" = some (some (.ref f8))) (l8 : K.lookup f8 = some ⟨oc8, od8, .func (PySem.W.fnOf "all_lot_rows" "all_lot_rows" (defArgs s_all_lot_rows) (defBody s_all_lot_rows) (defScope s_all_lot_rows) .none kV8 dc8 pm8 an8 cd8 ct8), sl8⟩) (c8 : PySem.W.codeIn K cd8 "all_lot_rows" = true) (k8 : PySem.W.keepIn K (.ref f8) = true)
    (a9 : PySem.W.nsIn K mainGlobals "least_lots" = some (some (.ref f9))) (l9 : K.lookup f9 = some ⟨oc9, od9, .func (PySem.W.fnOf "least_lots" "least_lots" (defArgs s_least_lots) (defBody s_least_lots) (defScope s_least_lots) .none kV9 dc9 pm9 an9 cd9 ct9), sl9⟩) (c9 : PySem.W.codeIn K cd9 "least_lots" = true) (k9 : PySem.W.keepIn K (.ref f9) = true)
    (a10 : PySem.W.nsIn K mainGlobals "least_answer" = some (some (.ref f10))) (l10 : K.lookup f10 = some ⟨oc10, od10, .func (PySem.W.fnOf "least_answer" "least_answer" (defArgs s_least_answer) (defBody s_least_answer) (defScope s_least_answer) .none kV10 dc10 pm10 an10 cd10 ct10), sl10⟩) (c10 : PySem.W.codeIn K cd10 "least_answer" = true) (k10 : PySem.W.keepIn K (.ref f10) = true)
    (a11 : PySem.W.nsIn K mainGlobals "prices_of_lot" = some (some (.ref f11))) (l11 : K.lookup f11 = some ⟨oc11, od11, .func (PySem.W.fnOf "prices_of_lot" "prices_of_lot" (defArgs s_prices_of_lot) (defBody s_prices_of_lot) (defScope s_prices_of_lot) .none kV11 dc11 pm11 an11 cd11 ct11), sl11⟩) (c11 : PySem.W.codeIn K cd11 "prices_of_lot" = true) (k11 : PySem.W.keepIn K (.ref f11) = true)
    (a12 : PySem.W.nsIn K mainGlobals "first_dear_lot" = some (some (.ref f12))) (l12 : K.lookup f12 = some ⟨oc12, od12, .func (PySem.W.fnOf "first_dear_lot" "first_dear_lot" (defArgs s_first_dear_lot) (defBody s_first_dear_lot) (defScope s_first_dear_lot) .none kV12 dc12 pm12 an12 cd12 ct12), sl12⟩) (c12 : PySem.W.codeIn K cd12 "first_dear_lot" = true) (k12 : PySem.W.keepIn K (.ref f12) = true)
    (a13 : PySem.W.nsIn K mainGlobals "are_prices" = some (some (.ref f13))) (l13 : K.lookup f13 = some ⟨oc13, od13, .func (PySem.W.fnOf "are_prices" "are_prices" (defArgs s_are_prices) (defBody s_are_prices) (defScope s_are_prices) .none kV13 dc13 pm13 an13 cd13 ct13), sl13⟩) (c13 : PySem.W.codeIn K cd13 "are_prices" = true) (k13 : PySem.W.keepIn K (.ref f13) = true)
    (a14 : PySem.W.nsIn K mainGlobals "prices_sum" = some (some (.ref f14))) (l14 : K.lookup f14 = some ⟨oc14, od14, .func (PySem.W.fnOf "prices_sum" "prices_sum" (defArgs s_prices_sum) (defBody s_prices_sum) (defScope s_prices_sum) .none kV14 dc14 pm14 an14 cd14 ct14), sl14⟩) (c14 : PySem.W.codeIn K cd14 "prices_sum" = true) (k14 : PySem.W.keepIn K (.ref f14) = true)
    (a15 : PySem.W.nsIn K mainGlobals "tight_run" = some (some (.ref f15))) (l15 : K.lookup f15 = some ⟨oc15, od15, .func (PySem.W.fnOf "tight_run" "tight_run" (defArgs s_tight_run) (defBody s_tight_run) (defScope s_tight_run) .none kV15 dc15 pm15 an15 cd15 ct15), sl15⟩) (c15 : PySem.W.codeIn K cd15 "tight_run" = true) (k15 : PySem.W.keepIn K (.ref f15) = true)
    (a16 : PySem.W.nsIn K mainGlobals "tight_steps" = some (some (.ref f16))) (l16 : K.lookup f16 = some ⟨oc16, od16, .func (PySem.W.fnOf "tight_steps" "tight_steps" (defArgs s_tight_steps) (defBody s_tight_steps) (defScope s_tight_steps) .none kV16 dc16 pm16 an16 cd16 ct16), sl16⟩) (c16 : PySem.W.codeIn K cd16 "tight_steps" = true) (k16 : PySem.W.keepIn K (.ref f16) = true)
    (a17 : PySem.W.nsIn K mainGlobals "tight_way" = some (some (.ref f17))) (l17 : K.lookup f17 = some ⟨oc17, od17, .func (PySem.W.fnOf "tight_way" "tight_way" (defArgs s_tight_way) (defBody s_tight_way) (defScope s_tight_way) .none kV17 dc17 pm17 an17 cd17 ct17), sl17⟩) (c17 : PySem.W.codeIn K cd17 "tight_way" = true) (k17 : PySem.W.keepIn K (.ref f17) = true)
    (a18 : PySem.W.nsIn K mainGlobals "tight_cost" = some (some (.ref f18))) (l18 : K.lookup f18 = some ⟨oc18, od18, .func (PySem.W.fnOf "tight_cost" "tight_cost" (defArgs s_tight_cost) (defBody s_tight_cost) (defScope s_tight_cost) .none kV18 dc18 pm18 an18 cd18 ct18), sl18⟩) (c18 : PySem.W.codeIn K cd18 "tight_cost" = true) (k18 : PySem.W.keepIn K (.ref f18) = true)
    (a19 : PySem.W.nsIn K mainGlobals "priced_calls" = some (some (.ref f19))) (l19 : K.lookup f19 = some ⟨oc19, od19, .func (PySem.W.fnOf "priced_calls" "priced_calls" (defArgs s_priced_calls) (defBody s_priced_calls) (defScope s_priced_calls) .none kV19 dc19 pm19 an19 cd19 ct19), sl19⟩) (c19 : PySem.W.codeIn K cd19 "priced_calls" = true) (k19 : PySem.W.keepIn K (.ref f19) = true)
    (a20 : PySem.W.nsIn K mainGlobals "are_apart_calls" = some (some (.ref f20))) (l20 : K.lookup f20 = some ⟨oc20, od20, .func (PySem.W.fnOf "are_apart_calls" "are_apart_calls" (defArgs s_are_apart_calls) (defBody s_are_apart_calls) (defScope s_are_apart_calls) .none kV20 dc20 pm20 an20 cd20 ct20), sl20⟩) (c20 : PySem.W.codeIn K cd20 "are_apart_calls" = true) (k20 : PySem.W.keepIn K (.ref f20) = true)
    (a21 : PySem.W.nsIn K mainGlobals "tight_share" = some (some (.ref f21))) (l21 : K.lookup f21 = some ⟨oc21, od21, .func (PySem.W.fnOf "tight_share" "tight_share" (defArgs s_tight_share) (defBody s_tight_share) (defScope s_tight_share) .none kV21 dc21 pm21 an21 cd21 ct21), sl21⟩) (c21 : PySem.W.codeIn K cd21 "tight_share" = true) (k21 : PySem.W.keepIn K (.ref f21) = true)
    (a22 : PySem.W.nsIn K mainGlobals "_law_of" = some (some (.ref f22))) (l22 : K.lookup f22 = some ⟨oc22, od22, .func (PySem.W.fnOf "_law_of" "_law_of" (defArgs s__law_of) (defBody s__law_of) (defScope s__law_of) .none kV22 dc22 pm22 an22 cd22 ct22), sl22⟩) (c22 : PySem.W.codeIn K cd22 "_law_of" = true) (k22 : PySem.W.keepIn K (.ref f22) = true)
    (a23 : PySem.W.nsIn K mainGlobals "_law_low" = some (some (.ref f23))) (l23 : K.lookup f23 = some ⟨oc23, od23, .func (PySem.W.fnOf "_law_low" "_law_low" (defArgs s__law_low) (defBody s__law_low) (defScope s__law_low) .none kV23 dc23 pm23 an23 cd23 ct23), sl23⟩) (c23 : PySem.W.codeIn K cd23 "_law_low" = true) (k23 : PySem.W.keepIn K (.ref f23) = true)
    (a24 : PySem.W.nsIn K mainGlobals "_law_lots" = some (some (.ref f24))) (l24 : K.lookup f24 = some ⟨oc24, od24, .func (PySem.W.fnOf "_law_lots" "_law_lots" (defArgs s__law_lots) (defBody s__law_lots) (defScope s__law_lots) .none kV24 dc24 pm24 an24 cd24 ct24), sl24⟩) (c24 : PySem.W.codeIn K cd24 "_law_lots" = true) (k24 : PySem.W.keepIn K (.ref f24) = true)
    (a25 : PySem.W.nsIn K mainGlobals "_law_some_lots" = some (some (.ref f25))) (l25 : K.lookup f25 = some ⟨oc25, od25, .func (PySem.W.fnOf "_law_some_lots" "_law_some_lots" (defArgs s__law_some_lots) (defBody s__law_some_lots) (defScope s__law_some_lots) .none kV25 dc25 pm25 an25 cd25 ct25), sl25⟩) (c25 : PySem.W.codeIn K cd25 "_law_some_lots" = true) (k25 : PySem.W.keepIn K (.ref f25) = true)
    (a26 : PySem.W.nsIn K mainGlobals "_law_is_open" = some (some (.ref f26))) (l26 : K.lookup f26 = some ⟨oc26, od26, .func (PySem.W.fnOf "_law_is_open" "_law_is_open" (defArgs s__law_is_open) (defBody s__law_is_open) (defScope s__law_is_open) .none kV26 dc26 pm26 an26 cd26 ct26), sl26⟩) (c26 : PySem.W.codeIn K cd26 "_law_is_open" = true) (k26 : PySem.W.keepIn K (.ref f26) = true)
    (a27 : PySem.W.nsIn K mainGlobals "_law_cost" = some (some (.ref f27))) (l27 : K.lookup f27 = some ⟨oc27, od27, .func (PySem.W.fnOf "_law_cost" "_law_cost" (defArgs s__law_cost) (defBody s__law_cost) (defScope s__law_cost) .none kV27 dc27 pm27 an27 cd27 ct27), sl27⟩) (c27 : PySem.W.codeIn K cd27 "_law_cost" = true) (k27 : PySem.W.keepIn K (.ref f27) = true)
    (a28 : PySem.W.nsIn K mainGlobals "_law_least" = some (some (.ref f28))) (l28 : K.lookup f28 = some ⟨oc28, od28, .func (PySem.W.fnOf "_law_least" "_law_least" (defArgs s__law_least) (defBody s__law_least) (defScope s__law_least) .none kV28 dc28 pm28 an28 cd28 ct28), sl28⟩) (c28 : PySem.W.codeIn K cd28 "_law_least" = true) (k28 : PySem.W.keepIn K (.ref f28) = true)
    (a29 : PySem.W.nsIn K mainGlobals "_law_tight" = some (some (.ref f29))) (l29 : K.lookup f29 = some ⟨oc29, od29, .func (PySem.W.fnOf "_law_tight" "_law_tight" (defArgs s__law_tight) (defBody s__law_tight) (defScope s__law_tight) .none kV29 dc29 pm29 an29 cd29 ct29), sl29⟩) (c29 : PySem.W.codeIn K cd29 "_law_tight" = true) (k29 : PySem.W.keepIn K (.ref f29) = true)
    (a30 : PySem.W.nsIn K mainGlobals "law" = some (some (.ref f30))) (l30 : K.lookup f30 = some ⟨oc30, od30, .func (PySem.W.fnOf "law" "law" (defArgs s_law) (defBody s_law) (defScope s_law) .none kV30 dc30 pm30 an30 cd30 ct30), sl30⟩) (c30 : PySem.W.codeIn K cd30 "law" = true) (k30 : PySem.W.keepIn K (.ref f30) = true)
    (y_abs : PySem.W.nsIn K mainGlobals "abs" = some none)
    (y_all : PySem.W.nsIn K mainGlobals "all" = some none)
    (y_any : PySem.W.nsIn K mainGlobals "any" = some none)
    (y_dict : PySem.W.nsIn K mainGlobals "dict" = some none)
    (y_enumerate : PySem.W.nsIn K mainGlobals "enumerate" = some none)
    (y_int : PySem.W.nsIn K mainGlobals "int" = some none)
    (y_len : PySem.W.nsIn K mainGlobals "len" = some none)
    (y_list : PySem.W.nsIn K mainGlobals "list" = some none)
    (y_max : PySem.W.nsIn K mainGlobals "max" = some none)
    (y_min : PySem.W.nsIn K mainGlobals "min" = some none)
    (y_range : PySem.W.nsIn K mainGlobals "range" = some none)
    (y_repr : PySem.W.nsIn K mainGlobals "repr" = some none)
    (y_sorted : PySem.W.nsIn K mainGlobals "sorted" = some none)
    (y_sum : PySem.W.nsIn K mainGlobals "sum" = some none)
    (y_tuple : PySem.W.nsIn K mainGlobals "tuple" = some none)
    (y_zip : PySem.W.nsIn K mainGlobals "zip" = some none) :
    ∃ fd : FuncData, (∀ (s : Shared) (u : Value), BindsTo s fd ⟨[u], []⟩ [("script", u)]) ∧ ∀ base : Heap, K.In base → base.Ns mainGlobals mg → FnG l.prog w K mg base 6 fa fd ["script"] (spLaw K 23 g_law) := by
  cases hfa.symm.trans (PySem.W.mg_of X G a30)
  have z_abs := PySem.W.mg_none_of X G y_abs
  have z_all := PySem.W.mg_none_of X G y_all
  have z_any := PySem.W.mg_none_of X G y_any
  have z_dict := PySem.W.mg_none_of X G y_dict
  have z_enumerate := PySem.W.mg_none_of X G y_enumerate
  have z_int := PySem.W.mg_none_of X G y_int
  have z_len := PySem.W.mg_none_of X G y_len
  have z_list := PySem.W.mg_none_of X G y_list
  have z_max := PySem.W.mg_none_of X G y_max
  have z_min := PySem.W.mg_none_of X G y_min
  have z_range := PySem.W.mg_none_of X G y_range
  have z_repr := PySem.W.mg_none_of X G y_repr
  have z_sorted := PySem.W.mg_none_of X G y_sorted
  have z_sum := PySem.W.mg_none_of X G y_sum
  have z_tuple := PySem.W.mg_none_of X G y_tuple
  have z_zip := PySem.W.mg_none_of X G y_zip
  have F0 := fun_mk (st := s__law_open_cells) l0 c0 k0
  have b0 := F0.binds (ps := ["script"]) fun _ _ _ _ _ _ us hl => match us, hl with | [_], _ => rfl
  have F1 := fun_mk (st := s__law_pick) l1 c1 k1
  have b1 := F1.binds (ps := ["source", "most"]) fun _ _ _ _ _ _ us hl => match us, hl with | [_, _], _ => rfl
  have F2 := fun_mk (st := s__law_any_order) l2 c2 k2
  have b2 := F2.binds (ps := ["source", "things"]) fun _ _ _ _ _ _ us hl => match us, hl with | [_, _], _ => rfl
  have F3 := fun_mk (st := s_lowest_pair) l3 c3 k3
  have b3 := F3.binds (ps := ["p", "q"]) fun _ _ _ _ _ _ us hl => match us, hl with | [_, _], _ => rfl
  have F4 := fun_mk (st := s_summed_pairs) l4 c4 k4
  have b4 := F4.binds (ps := ["some"]) fun _ _ _ _ _ _ us hl => match us, hl with | [_], _ => rfl
  have F5 := fun_mk (st := s_is_call_answered) l5 c5 k5
  have b5 := F5.binds (ps := ["call", "lots"]) fun _ _ _ _ _ _ us hl => match us, hl with | [_, _], _ => rfl
  have F6 := fun_mk (st := s_do_answer) l6 c6 k6
  have b6 := F6.binds (ps := ["row", "lots"]) fun _ _ _ _ _ _ us hl => match us, hl with | [_, _], _ => rfl
  have F7 := fun_mk (st := s_lots_cost) l7 c7 k7
  have b7 := F7.binds (ps := ["costs", "lots"]) fun _ _ _ _ _ _ us hl => match us, hl with | [_, _], _ => rfl
  have F8 := fun_mk (st := s_all_lot_rows) l8 c8 k8
  have b8 := F8.binds (ps := ["many"]) fun _ _ _ _ _ _ us hl => match us, hl with | [_], _ => rfl
  have F9 := fun_mk (st := s_least_lots) l9 c9 k9
  have b9 := F9.binds (ps := ["costs", "row"]) fun _ _ _ _ _ _ us hl => match us, hl with | [_, _], _ => rfl
  have F10 := fun_mk (st := s_least_answer) l10 c10 k10
  have b10 := F10.binds (ps := ["costs", "row"]) fun _ _ _ _ _ _ us hl => match us, hl with | [_, _], _ => rfl
  have F11 := fun_mk (st := s_prices_of_lot) l11 c11 k11
  have b11 := F11.binds (ps := ["row", "prices", "lot"]) fun _ _ _ _ _ _ us hl => match us, hl with | [_, _, _], _ => rfl
  have F12 := fun_mk (st := s_first_dear_lot) l12 c12 k12
  have b12 := F12.binds (ps := ["costs", "row", "prices"]) fun _ _ _ _ _ _ us hl => match us, hl with | [_, _, _], _ => rfl
  have F13 := fun_mk (st := s_are_prices) l13 c13 k13
  have b13 := F13.binds (ps := ["costs", "row", "prices"]) fun _ _ _ _ _ _ us hl => match us, hl with | [_, _, _], _ => rfl
  have F14 := fun_mk (st := s_prices_sum) l14 c14 k14
  have b14 := F14.binds (ps := ["prices"]) fun _ _ _ _ _ _ us hl => match us, hl with | [_], _ => rfl
  have F15 := fun_mk (st := s_tight_run) l15 c15 k15
  have b15 := F15.binds (ps := ["costs", "row"]) fun _ _ _ _ _ _ us hl => match us, hl with | [_, _], _ => rfl
  have F16 := fun_mk (st := s_tight_steps) l16 c16 k16
  have b16 := F16.binds (ps := ["costs", "row"]) fun _ _ _ _ _ _ us hl => match us, hl with | [_, _], _ => rfl
  have F17 := fun_mk (st := s_tight_way) l17 c17 k17
  have b17 := F17.binds (ps := ["costs", "row"]) fun _ _ _ _ _ _ us hl => match us, hl with | [_, _], _ => rfl
  have F18 := fun_mk (st := s_tight_cost) l18 c18 k18
  have b18 := F18.binds (ps := ["costs", "row"]) fun _ _ _ _ _ _ us hl => match us, hl with | [_, _], _ => rfl
  have F19 := fun_mk (st := s_priced_calls) l19 c19 k19
  have b19 := F19.binds (ps := ["costs", "row"]) fun _ _ _ _ _ _ us hl => match us, hl with | [_, _], _ => rfl
  have F20 := fun_mk (st := s_are_apart_calls) l20 c20 k20
  have b20 := F20.binds (ps := ["row", "numbers"]) fun _ _ _ _ _ _ us hl => match us, hl with | [_, _], _ => rfl
  have F21 := fun_mk (st := s_tight_share) l21 c21 k21
  have b21 := F21.binds (ps := ["costs", "row"]) fun _ _ _ _ _ _ us hl => match us, hl with | [_, _], _ => rfl
  have F22 := fun_mk (st := s__law_of) l22 c22 k22
  have b22 := F22.binds (ps := ["source", "some"]) fun _ _ _ _ _ _ us hl => match us, hl with | [_, _], _ => rfl
  have F23 := fun_mk (st := s__law_low) l23 c23 k23
  have b23 := F23.binds (ps := ["p", "q"]) fun _ _ _ _ _ _ us hl => match us, hl with | [_, _], _ => rfl
  have F24 := fun_mk (st := s__law_lots) l24 c24 k24
  have b24 := F24.binds (ps := ["source", "most", "far"]) fun _ _ _ _ _ _ us hl => match us, hl with | [_, _, _], _ => rfl
  have F25 := fun_mk (st := s__law_some_lots) l25 c25 k25
  have b25 := F25.binds (ps := ["many"]) fun _ _ _ _ _ _ us hl => match us, hl with | [_], _ => rfl
  have F26 := fun_mk (st := s__law_is_open) l26 c26 k26
  have b26 := F26.binds (ps := ["row", "lots"]) fun _ _ _ _ _ _ us hl => match us, hl with | [_, _], _ => rfl
  have F27 := fun_mk (st := s__law_cost) l27 c27 k27
  have b27 := F27.binds (ps := ["costs", "lots"]) fun _ _ _ _ _ _ us hl => match us, hl with | [_, _], _ => rfl
  have F28 := fun_mk (st := s__law_least) l28 c28 k28
  have b28 := F28.binds (ps := ["costs", "row"]) fun _ _ _ _ _ _ us hl => match us, hl with | [_, _], _ => rfl
  have F29 := fun_mk (st := s__law_tight) l29 c29 k29
  have b29 := F29.binds (ps := ["costs", "row"]) fun _ _ _ _ _ _ us hl => match us, hl with | [_, _], _ => rfl
  have F30 := fun_mk (st := s_law) l30 c30 k30
  refine ⟨PySem.W.fnOf "law" "law" (defArgs s_law) (defBody s_law) (defScope s_law) .none kV30 dc30 pm30 an30 cd30 ct30, fun s v => .of_eq rfl, fun base _ _ => ?_⟩
  have H__law_open_cells : HasO l.prog w K mg base 1 "_law_open_cells" := h__law_open_cells F0 (PySem.W.mg_of X G a0) b0 z_abs z_int
  have H__law_pick : HasS l.prog w K mg base 1 "_law_pick" 2 mPick := h__law_pick F1 (PySem.W.mg_of X G a1) b1 z_int z_len
  have H__law_any_order : HasS l.prog w K mg base 2 "_law_any_order" 2 mOrder := h__law_any_order F2 (PySem.W.mg_of X G a2) b2 H__law_pick z_len z_list z_range
  have H_lowest_pair : Has l.prog w K mg base 1 "lowest_pair" 2 m_lowest_pair := h_lowest_pair F3 (PySem.W.mg_of X G a3) b3
  have H_summed_pairs : Has l.prog w K mg base 2 "summed_pairs" 1 m_summed_pairs := h_summed_pairs F4 (PySem.W.mg_of X G a4) b4 (H_lowest_pair.mono (by decide))
  have H_is_call_answered : Has l.prog w K mg base 1 "is_call_answered" 2 m_is_call_answered := h_is_call_answered F5 (PySem.W.mg_of X G a5) b5 z_any
  have H_do_answer : Has l.prog w K mg base 2 "do_answer" 2 m_do_answer := h_do_answer F6 (PySem.W.mg_of X G a6) b6 (H_is_call_answered.mono (by decide)) z_all
  have H_lots_cost : Has l.prog w K mg base 1 "lots_cost" 2 m_lots_cost := h_lots_cost F7 (PySem.W.mg_of X G a7) b7 z_sum
  have H_all_lot_rows : Has l.prog w K mg base 1 "all_lot_rows" 1 m_all_lot_rows := h_all_lot_rows F8 (PySem.W.mg_of X G a8) b8 z_list z_range
  have H_least_lots : Has l.prog w K mg base 3 "least_lots" 2 m_least_lots := h_least_lots F9 (PySem.W.mg_of X G a9) b9 (H_all_lot_rows.mono (by decide)) (H_do_answer.mono (by decide)) (H_lots_cost.mono (by decide)) z_len z_min
  have H_least_answer : Has l.prog w K mg base 4 "least_answer" 2 m_least_answer := h_least_answer F10 (PySem.W.mg_of X G a10) b10 (H_least_lots.mono (by decide)) (H_lots_cost.mono (by decide))
  have H_prices_of_lot : Has l.prog w K mg base 3 "prices_of_lot" 3 m_prices_of_lot := h_prices_of_lot F11 (PySem.W.mg_of X G a11) b11 (H_summed_pairs.mono (by decide)) z_zip
  have H_first_dear_lot : Has l.prog w K mg base 4 "first_dear_lot" 3 m_first_dear_lot := h_first_dear_lot F12 (PySem.W.mg_of X G a12) b12 (H_prices_of_lot.mono (by decide)) z_enumerate
  have H_are_prices : Has l.prog w K mg base 5 "are_prices" 3 m_are_prices := h_are_prices F13 (PySem.W.mg_of X G a13) b13 (H_first_dear_lot.mono (by decide))
  have H_prices_sum : Has l.prog w K mg base 3 "prices_sum" 1 m_prices_sum := h_prices_sum F14 (PySem.W.mg_of X G a14) b14 (H_summed_pairs.mono (by decide))
  have H_tight_run : Has l.prog w K mg base 2 "tight_run" 2 m_tight_run := h_tight_run F15 (PySem.W.mg_of X G a15) b15 (H_is_call_answered.mono (by decide)) z_list z_min z_tuple
  have H_tight_steps : Has l.prog w K mg base 3 "tight_steps" 2 m_tight_steps := h_tight_steps F16 (PySem.W.mg_of X G a16) b16 (H_tight_run.mono (by decide)) z_tuple
  have H_tight_way : Has l.prog w K mg base 3 "tight_way" 2 m_tight_way := h_tight_way F17 (PySem.W.mg_of X G a17) b17 (H_tight_run.mono (by decide)) z_sorted z_tuple
  have H_tight_cost : Has l.prog w K mg base 4 "tight_cost" 2 m_tight_cost := h_tight_cost F18 (PySem.W.mg_of X G a18) b18 (H_lots_cost.mono (by decide)) (H_tight_way.mono (by decide))
  have H_priced_calls : Has l.prog w K mg base 3 "priced_calls" 2 m_priced_calls := h_priced_calls F19 (PySem.W.mg_of X G a19) b19 (H_tight_run.mono (by decide)) z_enumerate z_tuple
  have H_are_apart_calls : Has l.prog w K mg base 1 "are_apart_calls" 2 m_are_apart_calls := h_are_apart_calls F20 (PySem.W.mg_of X G a20) b20 z_len
  have H_tight_share : Has l.prog w K mg base 4 "tight_share" 2 m_tight_share := h_tight_share F21 (PySem.W.mg_of X G a21) b21 (H_lots_cost.mono (by decide)) (H_lowest_pair.mono (by decide)) (H_tight_way.mono (by decide)) z_sum
  have H__law_of : HasS l.prog w K mg base 2 "_law_of" 2 m__law_of := h__law_of F22 (PySem.W.mg_of X G a22) b22 (H__law_pick.mono (by decide)) z_len
  have H__law_low : Has l.prog w K mg base 1 "_law_low" 2 m__law_low := h__law_low F23 (PySem.W.mg_of X G a23) b23 z_abs z_int
  have H__law_lots : HasS l.prog w K mg base 3 "_law_lots" 3 m__law_lots := h__law_lots F24 (PySem.W.mg_of X G a24) b24 (H__law_any_order.mono (by decide)) (H__law_pick.mono (by decide)) z_list z_min z_range z_sorted z_tuple
  have H__law_some_lots : Has l.prog w K mg base 1 "_law_some_lots" 1 m__law_some_lots := h__law_some_lots F25 (PySem.W.mg_of X G a25) b25 z_range
  have H__law_is_open : Has l.prog w K mg base 1 "_law_is_open" 2 m__law_is_open := h__law_is_open F26 (PySem.W.mg_of X G a26) b26 z_enumerate
  have H__law_cost : Has l.prog w K mg base 1 "_law_cost" 2 m__law_cost := h__law_cost F27 (PySem.W.mg_of X G a27) b27 z_sum
  have H__law_least : Has l.prog w K mg base 2 "_law_least" 2 m__law_least := h__law_least F28 (PySem.W.mg_of X G a28) b28 (H__law_cost.mono (by decide)) (H__law_is_open.mono (by decide)) (H__law_some_lots.mono (by decide)) z_len
  have H__law_tight : Has l.prog w K mg base 1 "_law_tight" 2 m__law_tight := h__law_tight F29 (PySem.W.mg_of X G a29) b29 z_len z_tuple
  exact h_law F30 (H__law_open_cells.mono (by decide)) (H__law_cost.mono (by decide)) (H__law_least.mono (by decide)) (H__law_lots.mono (by decide)) (H__law_low.mono (by decide)) (H__law_of.mono (by decide)) (H__law_pick.mono (by decide)) (H__law_tight.mono (by decide)) (H_are_apart_calls.mono (by decide)) (H_are_prices.mono (by decide)) (H_do_answer.mono (by decide)) (H_least_answer.mono (by decide)) (H_lots_cost.mono (by decide)) (H_priced_calls.mono (by decide)) (H_prices_sum.mono (by decide)) (H_tight_cost.mono (by decide)) (H_tight_share.mono (by decide)) (H_tight_steps.mono (by decide)) (H_tight_way.mono (by decide)) z_dict z_enumerate z_len z_list z_max z_range z_repr z_sorted z_sum z_tuple z_zip

end W92

namespace Cov
open PySem DL TL
noncomputable def p_lowest_pair (a_p : Int) (a_q : Int) : Tm (Int × Int) :=
  (Tm.bind (Tm.o2 tPair (Tm.pure a_p) (Tm.pure a_q)) fun (v1 : Int × Int) => (Tm.bind (Tm.wl (fun (s2 : Int × Int) => (Tm.o2 tGt (Tm.pure s2.2) (Tm.pure (0 : Int)))) (v1.1, v1.2) (fun (s2 : Int × Int) => (Tm.bind (Tm.o2 tPair (Tm.pure s2.2) (Tm.o2 tMod (Tm.pure s2.1) (Tm.pure s2.2))) fun (v3 : Int × Int) => Tm.pure (v3.1, v3.2)))) fun (v4 : Int × Int) => (Tm.o2 tPair (Tm.o2 tDiv (Tm.pure a_p) (Tm.pure v4.1)) (Tm.o2 tDiv (Tm.pure a_q) (Tm.pure v4.1)))))
noncomputable def p_summed_pairs (a_some : (List (Int × Int))) : Tm (Int × Int) :=
  (Tm.bind (Tm.o2 tPair (Tm.pure (0 : Int)) (Tm.pure (1 : Int))) fun (v1 : Int × Int) => (Tm.bind (Tm.fold (Tm.pure a_some) (v1.1, v1.2) (fun (x3 : (Int × Int)) (s2 : Int × Int) => (Tm.bind (Tm.o2 p_lowest_pair (Tm.o2 tAdd (Tm.o2 tMul (Tm.pure s2.1) (Tm.pure x3.2)) (Tm.o2 tMul (Tm.pure x3.1) (Tm.pure s2.2))) (Tm.o2 tMul (Tm.pure s2.2) (Tm.pure x3.2))) fun (v5 : (Int × Int)) => Tm.pure (v5.1, v5.2)))) fun (v6 : Int × Int) => (Tm.o2 tPair (Tm.pure v6.1) (Tm.pure v6.2))))
noncomputable def p_are_answered (a_parts : (List (Int × Int))) (a_call : (List Int)) : Tm Bool :=
  (Tm.bind (Tm.o1 p_summed_pairs (Tm.amap (Tm.pure a_call) (fun (x2 : Int) => (Tm.o2 tIx (Tm.pure a_parts) (Tm.pure x2))))) fun (v4 : (Int × Int)) => (Tm.o2 tGe (Tm.pure v4.1) (Tm.pure v4.2)))
noncomputable def p_grown_part (a_cost : Int) (a_f : Int) (a_part : (Int × Int)) : Tm (Int × Int) :=
  (Tm.bind (Tm.pure a_part) fun (v2 : (Int × Int)) => (Tm.o1 p_summed_pairs (Tm.lim (Tm.cons (Tm.o2 tPair (Tm.o2 tMul (Tm.pure v2.1) (Tm.o2 tAdd (Tm.pure a_cost) (Tm.pure (1 : Int)))) (Tm.o2 tMul (Tm.pure v2.2) (Tm.pure a_cost))) (Tm.cons (Tm.o2 tPair (Tm.pure (1 : Int)) (Tm.o2 tMul (Tm.pure a_f) (Tm.pure a_cost))) (Tm.nil (α := (Int × Int))))))))
noncomputable def p_one_turn_more (a_costs : (List Int)) (a_f : Int) (a_parts : (List (Int × Int))) (a_call : (List Int)) : Tm (List (Int × Int)) :=
  (Tm.o1 tTup (Tm.amap (Tm.mp (enuI 0) (Tm.pure a_parts)) (fun (x1 : (Int × (Int × Int))) => (Tm.ite (Tm.o2 tIn (Tm.pure x1.1) (Tm.pure a_call)) (Tm.o3 p_grown_part (Tm.o2 tIx (Tm.pure a_costs) (Tm.pure x1.1)) (Tm.pure a_f) (Tm.pure x1.2)) (Tm.pure x1.2)))))
noncomputable def p_growing_parts (a_costs : (List Int)) (a_f : Int) (a_row : (List (List Int))) : Tm ((List (Int × Int)) × (List Int) × (Int × Int)) :=
  (Tm.bind (Tm.o2 tPair (Tm.o2 tRep (Tm.lim (Tm.cons (Tm.o2 tPair (Tm.pure (0 : Int)) (Tm.pure (1 : Int))) (Tm.nil (α := (Int × Int))))) (Tm.o1 tLen (Tm.pure a_costs))) (Tm.lim (Tm.nil (α := Int)))) fun (v1 : (List (Int × Int)) × (List Int)) => (Tm.bind (Tm.fold (Tm.pure a_row) (v1.1, v1.2) (fun (x3 : (List Int)) (s2 : (List (Int × Int)) × (List Int)) => (Tm.bind (Tm.pure (0 : Int)) fun (v_many4 : Int) => (Tm.bind (Tm.wl (fun (s5 : (List (Int × Int)) × Int) => (Tm.not (Tm.o2 p_are_answered (Tm.pure s5.1) (Tm.pure x3)))) (s2.1, v_many4) (fun (s5 : (List (Int × Int)) × Int) => (Tm.bind (Tm.o2 tPair (Tm.o4 p_one_turn_more (Tm.pure a_costs) (Tm.pure a_f) (Tm.pure s5.1) (Tm.pure x3)) (Tm.o2 tAdd (Tm.pure s5.2) (Tm.pure (1 : Int)))) fun (v6 : (List (Int × Int)) × Int) => Tm.pure (v6.1, v6.2)))) fun (v7 : (List (Int × Int)) × Int) => (Tm.bind (Tm.o1 (tApp s2.2) (Tm.pure v7.2)) fun (v8 : (List Int)) => Tm.pure (v7.1, v8)))))) fun (v9 : (List (Int × Int)) × (List Int)) => (Tm.o3 tTrip (Tm.pure v9.1) (Tm.o1 tTup (Tm.pure v9.2)) (Tm.o1 p_summed_pairs (Tm.amap (Tm.o2 tZip (Tm.pure a_costs) (Tm.pure v9.1)) (fun (x11 : (Int × (Int × Int))) => (Tm.o2 tPair (Tm.o2 tMul (Tm.pure x11.1) (Tm.pure x11.2.1)) (Tm.pure x11.2.2))))))))
noncomputable def p_power_bound (a_f : Int) : Tm Int :=
  (Tm.bind (Tm.pure (0 : Int)) fun (v_found1 : Int) => (Tm.bind (Tm.wl (fun (s2 : Int) => (Tm.o2 tLt (Tm.o2 tShl (Tm.pure (1 : Int)) (Tm.pure s2)) (Tm.o2 tAdd (Tm.pure a_f) (Tm.pure (1 : Int))))) v_found1 (fun (s2 : Int) => (Tm.bind (Tm.o2 tAdd (Tm.pure s2) (Tm.pure (1 : Int))) fun (v_found3 : Int) => Tm.pure v_found3))) fun (v4 : Int) => (Tm.pure v4)))
noncomputable def p_scaled_prices (a_f : Int) (a_turns : (List Int)) : Tm (List (Int × Int)) :=
  (Tm.o1 tTup (Tm.amap (Tm.pure a_turns) (fun (x1 : Int) => (Tm.o2 p_lowest_pair (Tm.pure x1) (Tm.o1 p_power_bound (Tm.pure a_f))))))
noncomputable def p_parts_bar (a_costs : (List Int)) (a_f : Int) (a_row : (List (List Int))) : Tm (Int × Int) :=
  (Tm.o1 p_summed_pairs (Tm.o2 p_scaled_prices (Tm.pure a_f) (Tm.mp (fun p => p.2.1) (Tm.o3 p_growing_parts (Tm.pure a_costs) (Tm.pure a_f) (Tm.pure a_row)))))
noncomputable def p_is_within_turns (a_costs : (List Int)) (a_f : Int) (a_row : (List (List Int))) : Tm Bool :=
  (Tm.bind (Tm.o3 p_growing_parts (Tm.pure a_costs) (Tm.pure a_f) (Tm.pure a_row)) fun (v2 : ((List (Int × Int)) × (List Int) × (Int × Int))) => (Tm.o2 tLe (Tm.pure v2.2.2.1) (Tm.o2 tMul (Tm.o2 tMul (Tm.pure (2 : Int)) (Tm.o1 tSum (Tm.pure v2.2.1))) (Tm.pure v2.2.2.2))))
noncomputable def p_turns_of_lot (a_row : (List (List Int))) (a_turns : (List Int)) (a_lot : Int) : Tm Int :=
  (Tm.o1 tSum (Tm.fmap (Tm.o2 tZip (Tm.pure a_row) (Tm.pure a_turns)) (fun (x1 : ((List Int) × Int)) => (Tm.o2 tIn (Tm.pure a_lot) (Tm.pure x1.1))) (fun (x1 : ((List Int) × Int)) => (Tm.pure x1.2))))
noncomputable def p_most_turns (a_f : Int) (a_cost : Int) : Tm Int :=
  (Tm.o2 tMul (Tm.o1 p_power_bound (Tm.pure a_f)) (Tm.pure a_cost))
noncomputable def p_is_call_answered (a_call : (List Int)) (a_lots : (List Int)) : Tm Bool :=
  (Tm.o1 tAny (Tm.amap (Tm.pure a_call) (fun (x1 : Int) => (Tm.o2 tIn (Tm.pure x1) (Tm.pure a_lots)))))
noncomputable def p_do_answer (a_row : (List (List Int))) (a_lots : (List Int)) : Tm Bool :=
  (Tm.o1 tAll (Tm.amap (Tm.pure a_row) (fun (x1 : (List Int)) => (Tm.o2 p_is_call_answered (Tm.pure x1) (Tm.pure a_lots)))))
noncomputable def p_lots_cost (a_costs : (List Int)) (a_lots : (List Int)) : Tm Int :=
  (Tm.o1 tSum (Tm.amap (Tm.pure a_lots) (fun (x1 : Int) => (Tm.o2 tIx (Tm.pure a_costs) (Tm.pure x1)))))
noncomputable def p_all_lot_rows (a_many : Int) : Tm (List (List Int)) :=
  (Tm.bind (Tm.lim (Tm.cons (Tm.pure []) (Tm.nil (α := (List Int))))) fun (v_found1 : (List (List Int))) => (Tm.bind (Tm.fold (Tm.o1 (tRg 0) (Tm.pure a_many)) v_found1 (fun (x3 : Int) (s2 : (List (List Int))) => (Tm.bind (Tm.o1 (tCat s2) (Tm.amap (Tm.pure s2) (fun (x4 : (List Int)) => (Tm.lim (Tm.app (Tm.pure x4) (Tm.cons (Tm.pure x3) (Tm.nil (α := Int)))))))) fun (v5 : (List (List Int))) => Tm.pure v5))) fun (v6 : (List (List Int))) => (Tm.pure v6)))
noncomputable def p_least_lots (a_costs : (List Int)) (a_row : (List (List Int))) : Tm (List Int) :=
  (Tm.mp (fun p => p.2) (Tm.o1 (tMinD (e2 eI (eT eI)) (dc2 intD (dcL intD))) (Tm.fmap (Tm.o1 p_all_lot_rows (Tm.o1 tLen (Tm.pure a_costs))) (fun (x2 : (List Int)) => (Tm.o2 p_do_answer (Tm.pure a_row) (Tm.pure x2))) (fun (x2 : (List Int)) => (Tm.o2 tPair (Tm.o2 p_lots_cost (Tm.pure a_costs) (Tm.pure x2)) (Tm.pure x2))))))
noncomputable def p_least_answer (a_costs : (List Int)) (a_row : (List (List Int))) : Tm Int :=
  (Tm.o2 p_lots_cost (Tm.pure a_costs) (Tm.o2 p_least_lots (Tm.pure a_costs) (Tm.pure a_row)))
noncomputable def p_prices_of_lot (a_row : (List (List Int))) (a_prices : (List (Int × Int))) (a_lot : Int) : Tm (Int × Int) :=
  (Tm.o1 p_summed_pairs (Tm.fmap (Tm.o2 tZip (Tm.pure a_row) (Tm.pure a_prices)) (fun (x2 : ((List Int) × (Int × Int))) => (Tm.o2 tIn (Tm.pure a_lot) (Tm.pure x2.1))) (fun (x2 : ((List Int) × (Int × Int))) => (Tm.pure x2.2))))
noncomputable def p_first_dear_lot (a_costs : (List Int)) (a_row : (List (List Int))) (a_prices : (List (Int × Int))) : Tm (Option Int) :=
  (Tm.lp (Tm.forX (δ := (Option Int)) (Tm.mp (enuI 0) (Tm.pure a_costs)) () (fun (x2 : (Int × Int)) (s1 : Unit) => (Tm.bind (Tm.o3 p_prices_of_lot (Tm.pure a_row) (Tm.pure a_prices) (Tm.pure x2.1)) fun (v4 : (Int × Int)) => (Tm.ite (Tm.o2 tGt (Tm.pure v4.1) (Tm.o2 tMul (Tm.pure x2.2) (Tm.pure v4.2))) (Tm.mp .rt (Tm.mp some (Tm.pure x2.1))) (Tm.pure (.nx ())))))) (fun (r5 : Unit) => (Tm.pure none)) Tm.pure)
noncomputable def p_are_prices (a_costs : (List Int)) (a_row : (List (List Int))) (a_prices : (List (Int × Int))) : Tm Bool :=
  (Tm.o2 tIsN (Tm.o3 p_first_dear_lot (Tm.pure a_costs) (Tm.pure a_row) (Tm.pure a_prices)) (Tm.pure ()))
noncomputable def p_prices_sum (a_prices : (List (Int × Int))) : Tm (Int × Int) :=
  (Tm.o1 p_summed_pairs (Tm.pure a_prices))
noncomputable def p__law_low (a_p : Int) (a_q : Int) : Tm (Int × Int) :=
  (Tm.bind (Tm.o2 tPair (Tm.o1 tAbs (Tm.pure a_p)) (Tm.pure a_q)) fun (v1 : Int × Int) => (Tm.bind (Tm.wl (fun (s2 : Int × Int) => (Tm.o2 tGt (Tm.pure s2.2) (Tm.pure (0 : Int)))) (v1.1, v1.2) (fun (s2 : Int × Int) => (Tm.bind (Tm.o2 tPair (Tm.pure s2.2) (Tm.o2 tMod (Tm.o1 tInt (Tm.pure s2.1)) (Tm.pure s2.2))) fun (v3 : Int × Int) => Tm.pure (v3.1, v3.2)))) fun (v4 : Int × Int) => (Tm.o2 tPair (Tm.o2 tDiv (Tm.pure a_p) (Tm.pure v4.1)) (Tm.o2 tDiv (Tm.pure a_q) (Tm.pure v4.1)))))
noncomputable def p__law_sum (a_some : (List (Int × Int))) : Tm (Int × Int) :=
  (Tm.bind (Tm.o2 tPair (Tm.pure (0 : Int)) (Tm.pure (1 : Int))) fun (v_total1 : (Int × Int)) => (Tm.bind (Tm.fold (Tm.pure a_some) v_total1 (fun (x3 : (Int × Int)) (s2 : (Int × Int)) => (Tm.bind (Tm.o2 p__law_low (Tm.o2 tAdd (Tm.o2 tMul (Tm.mp (fun p => p.1) (Tm.pure s2)) (Tm.pure x3.2)) (Tm.o2 tMul (Tm.pure x3.1) (Tm.mp (fun p => p.2) (Tm.pure s2)))) (Tm.o2 tMul (Tm.mp (fun p => p.2) (Tm.pure s2)) (Tm.pure x3.2))) fun (v_total4 : (Int × Int)) => Tm.pure v_total4))) fun (v5 : (Int × Int)) => (Tm.pure v5)))
noncomputable def p__law_lots (a_most : Int) (a_far : Int) : SM ((List Int) × Int × (List (List Int))) :=
  (SM.bind (SM.o2 tPair (SM.o2 tAdd (SM.lift (Tm.pure (1 : Int))) (SM.s1 pick (SM.lift (Tm.pure a_most)))) (SM.o2 tAdd (SM.lift (Tm.pure (1 : Int))) (SM.s1 pick (SM.lift (Tm.pure (4 : Int)))))) fun (v1 : Int × Int) => (SM.bind (SM.o1 tTup (SM.amap (SM.lift (Tm.o1 (tRg 0) (Tm.pure v1.1))) (fun (x2 : Int) => (SM.o2 tAdd (SM.lift (Tm.pure (1 : Int))) (SM.s1 pick (SM.lift (Tm.pure a_far))))))) fun (v_costs3 : (List Int)) => (SM.bind (SM.lift (Tm.lim (Tm.nil (α := (List Int))))) fun (v_row4 : (List (List Int))) => (SM.bind (SM.fold (SM.o1 (tRg 0) (SM.s1 pick (SM.lift (Tm.pure (13 : Int))))) v_row4 (fun (x6 : Int) (s5 : (List (List Int))) => (SM.bind (SM.s1 order (SM.lift (Tm.o1 tRgP (Tm.mp (fun n => ((0 : Int), n)) (Tm.pure v1.1))))) fun (v_names7 : (List Int)) => (SM.bind (SM.o1 (tApp s5) (SM.o1 tTup (SM.o1 tSort (SM.o3 tSlc (SM.lift (Tm.pure v_names7)) (SM.lift (Tm.pure none)) (SM.mp some (SM.o2 tAdd (SM.lift (Tm.pure (1 : Int))) (SM.s1 pick (SM.lift (Tm.o2 tMin (Tm.pure v1.2) (Tm.pure v1.1)))))))))) fun (v8 : (List (List Int))) => SM.pure v8)))) fun (v9 : (List (List Int))) => (SM.lift (Tm.o3 tTrip (Tm.pure v_costs3) (Tm.pure v1.2) (Tm.o1 tTup (Tm.pure v9))))))))
noncomputable def p__law_some_lots (a_many : Int) : Tm (List (List Int)) :=
  (Tm.bind (Tm.lim (Tm.cons (Tm.pure []) (Tm.nil (α := (List Int))))) fun (v_found1 : (List (List Int))) => (Tm.bind (Tm.fold (Tm.o1 (tRg 0) (Tm.pure a_many)) v_found1 (fun (x3 : Int) (s2 : (List (List Int))) => (Tm.bind (Tm.o2 tCat (Tm.pure s2) (Tm.amap (Tm.pure s2) (fun (x4 : (List Int)) => (Tm.o2 tCat (Tm.pure x4) (Tm.lim (Tm.cons (Tm.pure x3) (Tm.nil (α := Int)))))))) fun (v_found5 : (List (List Int))) => Tm.pure v_found5))) fun (v6 : (List (List Int))) => (Tm.pure v6)))
noncomputable def p__law_is_open (a_row : (List (List Int))) (a_lots : (List Int)) : Tm (List Int) :=
  (Tm.fmap (Tm.mp (enuI 0) (Tm.pure a_row)) (fun (x1 : (Int × (List Int))) => (Tm.o2 tEq (Tm.fmap (Tm.pure x1.2) (fun (x3 : Int) => (Tm.o2 tIn (Tm.pure x3) (Tm.pure a_lots))) (fun (x3 : Int) => (Tm.pure x3))) (Tm.lim (Tm.nil (α := Int))))) (fun (x1 : (Int × (List Int))) => (Tm.pure x1.1)))
noncomputable def p__law_cost (a_costs : (List Int)) (a_lots : (List Int)) : Tm Int :=
  (Tm.o1 tSum (Tm.amap (Tm.pure a_lots) (fun (x1 : Int) => (Tm.o2 tIx (Tm.pure a_costs) (Tm.pure x1)))))
noncomputable def p__law_least (a_costs : (List Int)) (a_row : (List (List Int))) : Tm (Option (Int × (List Int))) :=
  (Tm.bind (Tm.pure none) fun (v_best1 : (Option (Int × (List Int)))) => (Tm.bind (Tm.fold (Tm.o1 p__law_some_lots (Tm.o1 tLen (Tm.pure a_costs))) v_best1 (fun (x3 : (List Int)) (s2 : (Option (Int × (List Int)))) => (Tm.bind (Tm.o2 tPair (Tm.o2 p__law_cost (Tm.pure a_costs) (Tm.pure x3)) (Tm.pure x3)) fun (v_here4 : (Int × (List Int))) => (Tm.ite (Tm.and (Tm.or (Tm.o2 tIsN (Tm.pure s2) (Tm.pure ())) (Tm.o2 (tB2 dLtA) (Tm.mp (e2 eI (eT eI)) (Tm.pure v_here4)) (Tm.mp (eO (e2 eI (eT eI))) (Tm.pure s2)))) (Tm.o2 tEq (Tm.o2 p__law_is_open (Tm.pure a_row) (Tm.pure x3)) (Tm.lim (Tm.nil (α := Int))))) (Tm.bind (Tm.mp some (Tm.pure v_here4)) fun (v_best5 : (Option (Int × (List Int)))) => Tm.pure v_best5) (Tm.pure s2))))) fun (v6 : (Option (Int × (List Int)))) => (Tm.pure v6)))
noncomputable def p__law_dear (a_costs : (List Int)) (a_row : (List (List Int))) (a_prices : (List (Int × Int))) : Tm (List Int) :=
  (Tm.bind (Tm.lim (Tm.nil (α := Int))) fun (v_found1 : (List Int)) => (Tm.bind (Tm.fold (Tm.mp (enuI 0) (Tm.pure a_costs)) v_found1 (fun (x3 : (Int × Int)) (s2 : (List Int)) => (Tm.bind (Tm.o1 p__law_sum (Tm.fmap (Tm.o2 tZip (Tm.pure a_row) (Tm.pure a_prices)) (fun (x4 : ((List Int) × (Int × Int))) => (Tm.o2 tIn (Tm.pure x3.1) (Tm.pure x4.1))) (fun (x4 : ((List Int) × (Int × Int))) => (Tm.pure x4.2)))) fun (v6 : (Int × Int)) => (Tm.bind (Tm.o2 tCat (Tm.pure s2) (Tm.o2 tRep (Tm.lim (Tm.cons (Tm.pure x3.1) (Tm.nil (α := Int)))) (Tm.o1 tIntB (Tm.o2 tGt (Tm.pure v6.1) (Tm.o2 tMul (Tm.pure x3.2) (Tm.pure v6.2)))))) fun (v_found7 : (List Int)) => Tm.pure v_found7)))) fun (v8 : (List Int)) => (Tm.pure v8)))
noncomputable def p_tight_run (a_costs : (List Int)) (a_row : (List (List Int))) : Tm ((List (List Int)) × (List Int)) :=
  (Tm.bind (Tm.o4 tFour (Tm.pure a_costs) (Tm.lim (Tm.nil (α := Int))) (Tm.lim (Tm.nil (α := (List Int)))) (Tm.lim (Tm.nil (α := Int)))) fun (v1 : (List Int) × (List Int) × (List (List Int)) × (List Int)) => (Tm.bind (Tm.fold (Tm.pure a_row) (v1.1, v1.2.1, v1.2.2.1, v1.2.2.2) (fun (x3 : (List Int)) (s2 : (List Int) × (List Int) × (List (List Int)) × (List Int)) => (Tm.bind (Tm.ite (Tm.o2 p_is_call_answered (Tm.pure x3) (Tm.pure s2.2.1)) (Tm.pure (0 : Int)) (Tm.o1 tMinL (Tm.amap (Tm.pure x3) (fun (x5 : Int) => (Tm.o2 tIx (Tm.pure s2.1) (Tm.pure x5)))))) fun (v_price6 : Int) => (Tm.bind (Tm.fold (Tm.pure x3) s2.1 (fun (x8 : Int) (s7 : (List Int)) => (Tm.bind (Tm.o2 (tPut s7) (Tm.o2 tSub (Tm.o2 tIx (Tm.pure s7) (Tm.pure x8)) (Tm.pure v_price6)) (Tm.pure x8)) fun (v9 : (List Int)) => Tm.pure v9))) fun (v10 : (List Int)) => (Tm.bind (Tm.fmap (Tm.pure x3) (fun (x11 : Int) => (Tm.and (Tm.o2 tEq (Tm.o2 tIx (Tm.pure v10) (Tm.pure x11)) (Tm.pure (0 : Int))) (Tm.o2 tNin (Tm.pure x11) (Tm.pure s2.2.1)))) (fun (x11 : Int) => (Tm.pure x11))) fun (v_new12 : (List Int)) => (Tm.bind (Tm.o1 (tCat s2.2.1) (Tm.pure v_new12)) fun (v13 : (List Int)) => (Tm.bind (Tm.o1 (tApp s2.2.2.1) (Tm.o1 tTup (Tm.pure v_new12))) fun (v14 : (List (List Int))) => (Tm.bind (Tm.o1 (tApp s2.2.2.2) (Tm.pure v_price6)) fun (v15 : (List Int)) => Tm.pure (v10, v13, v14, v15))))))))) fun (v16 : (List Int) × (List Int) × (List (List Int)) × (List Int)) => (Tm.o2 tPair (Tm.pure v16.2.2.1) (Tm.pure v16.2.2.2))))
noncomputable def p_tight_steps (a_costs : (List Int)) (a_row : (List (List Int))) : Tm (List (List Int)) :=
  (Tm.o1 tTup (Tm.mp (fun p => p.1) (Tm.o2 p_tight_run (Tm.pure a_costs) (Tm.pure a_row))))
noncomputable def p_tight_way (a_costs : (List Int)) (a_row : (List (List Int))) : Tm ((List Int) × (List Int)) :=
  (Tm.bind (Tm.o2 p_tight_run (Tm.pure a_costs) (Tm.pure a_row)) fun (v2 : ((List (List Int)) × (List Int))) => (Tm.o2 tPair (Tm.o1 tTup (Tm.o1 tSort (Tm.fmap2 (Tm.pure v2.1) (fun (x3 : (List Int)) => (Tm.pure true)) (fun (x3 : (List Int)) => (Tm.pure x3)) (fun (x3 : (List Int)) (x4 : Int) => (Tm.pure true)) (fun (x3 : (List Int)) (x4 : Int) => (Tm.pure x4))))) (Tm.o1 tTup (Tm.pure v2.2))))
noncomputable def p_tight_cost (a_costs : (List Int)) (a_row : (List (List Int))) : Tm Int :=
  (Tm.o2 p_lots_cost (Tm.pure a_costs) (Tm.mp (fun p => p.1) (Tm.o2 p_tight_way (Tm.pure a_costs) (Tm.pure a_row))))
noncomputable def p_priced_calls (a_costs : (List Int)) (a_row : (List (List Int))) : Tm (List Int) :=
  (Tm.o1 tTup (Tm.fmap (Tm.mp (enuI 0) (Tm.mp (fun p => p.2) (Tm.o2 p_tight_run (Tm.pure a_costs) (Tm.pure a_row)))) (fun (x1 : (Int × Int)) => (Tm.o2 tGt (Tm.pure x1.2) (Tm.pure (0 : Int)))) (fun (x1 : (Int × Int)) => (Tm.pure x1.1))))
noncomputable def p_are_apart_calls (a_row : (List (List Int))) (a_numbers : (List Int)) : Tm Bool :=
  (Tm.bind (Tm.fmap2 (Tm.pure a_numbers) (fun (x1 : Int) => (Tm.pure true)) (fun (x1 : Int) => (Tm.o2 tIx (Tm.pure a_row) (Tm.pure x1))) (fun (x1 : Int) (x2 : Int) => (Tm.pure true)) (fun (x1 : Int) (x2 : Int) => (Tm.pure x2))) fun (v_lots3 : (List Int)) => (Tm.o2 tEq (Tm.o1 tLen (Tm.o1 tDict (Tm.amap (Tm.pure v_lots3) (fun (x5 : Int) => (Tm.o2 tPair (Tm.pure x5) (Tm.pure true)))))) (Tm.o1 tLen (Tm.pure v_lots3))))
noncomputable def p_tight_share (a_costs : (List Int)) (a_row : (List (List Int))) : Tm (Option (Int × Int)) :=
  (Tm.bind (Tm.o2 p_tight_way (Tm.pure a_costs) (Tm.pure a_row)) fun (v2 : ((List Int) × (List Int))) => (Tm.ite (Tm.o2 tGt (Tm.o1 tSum (Tm.pure v2.2)) (Tm.pure (0 : Int))) (Tm.mp some (Tm.o2 p_lowest_pair (Tm.o2 p_lots_cost (Tm.pure a_costs) (Tm.pure v2.1)) (Tm.o1 tSum (Tm.pure v2.2)))) (Tm.pure none)))
noncomputable def p__law_of (a_some : (List D)) : SM D :=
  (SM.o2 tIx (SM.lift (Tm.pure a_some)) (SM.s1 pick (SM.lift (Tm.o1 tLen (Tm.pure a_some)))))
noncomputable def p__law_tight (a_costs : (List Int)) (a_row : (List (List Int))) : Tm ((List (List Int)) × (List Int)) :=
  (Tm.bind (Tm.o4 tFour (Tm.o2 tRep (Tm.lim (Tm.cons (Tm.pure (0 : Int)) (Tm.nil (α := Int)))) (Tm.o1 tLen (Tm.pure a_costs))) (Tm.lim (Tm.nil (α := (List Int)))) (Tm.lim (Tm.nil (α := Int))) (Tm.lim (Tm.nil (α := Int)))) fun (v1 : (List Int) × (List (List Int)) × (List Int) × (List Int)) => (Tm.bind (Tm.fold (Tm.pure a_row) (v1.1, v1.2.1, v1.2.2.1, v1.2.2.2) (fun (x3 : (List Int)) (s2 : (List Int) × (List (List Int)) × (List Int) × (List Int)) => (Tm.bind (Tm.pure (0 : Int)) fun (v_price4 : Int) => (Tm.bind (Tm.wl (fun (s5 : (List Int) × Int) => (Tm.o2 tEq (Tm.fmap (Tm.pure x3) (fun (x7 : Int) => (Tm.o2 tEq (Tm.o2 tIx (Tm.pure s5.1) (Tm.pure x7)) (Tm.o2 tIx (Tm.pure a_costs) (Tm.pure x7)))) (fun (x7 : Int) => (Tm.pure x7))) (Tm.lim (Tm.nil (α := Int))))) (s2.1, v_price4) (fun (s5 : (List Int) × Int) => (Tm.bind (Tm.o2 tAdd (Tm.pure s5.2) (Tm.pure (1 : Int))) fun (v_price8 : Int) => (Tm.bind (Tm.fold (Tm.pure x3) s5.1 (fun (x10 : Int) (s9 : (List Int)) => (Tm.bind (Tm.o2 (tPut s9) (Tm.o2 tAdd (Tm.o2 tIx (Tm.pure s9) (Tm.pure x10)) (Tm.pure (1 : Int))) (Tm.pure x10)) fun (v11 : (List Int)) => Tm.pure v11))) fun (v12 : (List Int)) => Tm.pure (v12, v_price8))))) fun (v13 : (List Int) × Int) => (Tm.bind (Tm.fmap (Tm.pure x3) (fun (x14 : Int) => (Tm.and (Tm.o2 tEq (Tm.o2 tIx (Tm.pure v13.1) (Tm.pure x14)) (Tm.o2 tIx (Tm.pure a_costs) (Tm.pure x14))) (Tm.o2 tNin (Tm.pure x14) (Tm.pure s2.2.2.2)))) (fun (x14 : Int) => (Tm.pure x14))) fun (v_new15 : (List Int)) => (Tm.bind (Tm.o2 tCat (Tm.pure s2.2.2.2) (Tm.pure v_new15)) fun (v_taken16 : (List Int)) => (Tm.bind (Tm.o1 (tApp s2.2.1) (Tm.o1 tTup (Tm.pure v_new15))) fun (v17 : (List (List Int))) => (Tm.bind (Tm.o1 (tApp s2.2.2.1) (Tm.pure v13.2)) fun (v18 : (List Int)) => Tm.pure (v13.1, v17, v18, v_taken16))))))))) fun (v19 : (List Int) × (List (List Int)) × (List Int) × (List Int)) => (Tm.o2 tPair (Tm.pure v19.2.1) (Tm.pure v19.2.2.1))))
end Cov

/-! CovA: the cover laws' fractions. -/
namespace Cov
open PySem DL TL FR

theorem okBy_gcd {p d : Int} (hd : 0 < d) (hs : d.natAbs.log2 < 9000) : OkBy (Int.gcd d p : Int) := by
  have h1 : 0 < Int.gcd d p := Int.gcd_pos_of_ne_zero_left p (by omega)
  refine ⟨by omega, ?_⟩
  have h2 : Int.gcd d p ≤ d.natAbs := Nat.le_of_dvd (by omega) (Nat.gcd_dvd_left _ _)
  have h3 := lt_pow hs
  exact log2_lt (Nat.lt_of_le_of_lt (by rw [Int.natAbs_natCast]; exact h2) h3) (by decide)
theorem low_is {p d : Int} (hd : 0 < d) (hs : d.natAbs.log2 < 9000) : Is (p_lowest_pair p d) (fr ((p : Rat) / (d : Rat))) := by
  have e := euclid (c := fun (s2 : Int × Int) => Tm.o2 tGt (Tm.pure s2.2) (Tm.pure (0 : Int)))
    (f := fun (s2 : Int × Int) => Tm.bind (Tm.o2 tPair (Tm.pure s2.2) (Tm.o2 tMod (Tm.pure s2.1) (Tm.pure s2.2))) fun (v3 : Int × Int) => Tm.pure (v3.1, v3.2))
    (fun s => ⟨⟨trivial, trivial, trivial⟩, rfl⟩) (fun s hs => ⟨⟨⟨trivial, ⟨trivial, trivial, hs⟩, trivial⟩, trivial⟩, rfl⟩) (a := p) (b := d) (by omega) (.inl hd) hs
  unfold p_lowest_pair
  refine Is.bind (a := (p, d)) ⟨⟨trivial, trivial, trivial⟩, rfl⟩ (Is.bind (Is.of e.1) ⟨⟨⟨trivial, trivial, ?_⟩, ⟨trivial, trivial, ?_⟩, trivial⟩, ?_⟩)
  · show OkBy _
    rw [show (_ : Int × Int).1 = _ from e.2]
    exact okBy_gcd hd hs
  · show OkBy _
    rw [show (_ : Int × Int).1 = _ from e.2]
    exact okBy_gcd hd hs
  · rw [← fr_low hd, ← e.2]; rfl
theorem gcd_abs (d p : Int) : Int.gcd d (absI p) = Int.gcd d p := by
  unfold absI
  split
  · rw [Int.gcd_neg]
  · rfl
theorem llow_is {p d : Int} (hd : 0 < d) (hs : d.natAbs.log2 < 9000) : Is (p__law_low p d) (fr ((p : Rat) / (d : Rat))) := by
  have e := euclid (c := fun (s2 : Int × Int) => Tm.o2 tGt (Tm.pure s2.2) (Tm.pure (0 : Int)))
    (f := fun (s2 : Int × Int) => Tm.bind (Tm.o2 tPair (Tm.pure s2.2) (Tm.o2 tMod (Tm.o1 tInt (Tm.pure s2.1)) (Tm.pure s2.2))) fun (v3 : Int × Int) => Tm.pure (v3.1, v3.2))
    (fun s => ⟨⟨trivial, trivial, trivial⟩, rfl⟩) (fun s hs => ⟨⟨⟨trivial, ⟨⟨trivial, trivial⟩, trivial, hs⟩, trivial⟩, trivial⟩, rfl⟩) (a := absI p) (b := d) (by omega) (.inl hd) hs
  unfold p__law_low
  refine Is.bind (a := (absI p, d)) ⟨⟨⟨trivial, trivial⟩, trivial, trivial⟩, rfl⟩ (Is.bind (Is.of e.1) ⟨⟨⟨trivial, trivial, ?_⟩, ⟨trivial, trivial, ?_⟩, trivial⟩, ?_⟩)
  · show OkBy _
    rw [show (_ : Int × Int).1 = _ from e.2, gcd_abs]
    exact okBy_gcd hd hs
  · show OkBy _
    rw [show (_ : Int × Int).1 = _ from e.2, gcd_abs]
    exact okBy_gcd hd hs
  · rw [← fr_low hd, ← gcd_abs, ← e.2]; rfl
theorem num_big {s : Rat} (h : Bd (Big - 1) s) : s.num.natAbs < Big ∧ ((s.den : Int)).natAbs < Big := by
  have hb : 0 < Big := Nat.pow_pos (by decide)
  have h1 := h.1
  have h2 := h.2
  exact ⟨by omega, by rw [Int.natAbs_natCast]; omega⟩
/-- the sum of two fractions, before it is made low -/
theorem pair_ok {p : Int × Int} {s : Rat} (h2 : p.1.natAbs < Big) (h3 : p.2.natAbs < Big) (hb : Bd (Big - 1) s) : okMul s.num p.2 = true ∧ okMul p.1 (s.den : Int) = true ∧ okMul (s.den : Int) p.2 = true ∧ ((s.den : Int) * p.2).natAbs.log2 < 9000 := by
  obtain ⟨b1, b2⟩ := num_big hb
  exact ⟨okMul_big b1 h3, okMul_big h2 b2, okMul_big b2 h3, big2_log b2 h3⟩
theorem sum_is {D B : Nat} {ps : List (Int × Int)} (hD : 0 < D) (h : ∀ p ∈ ps, OkP D B p) (hN : (ps.length * B + 1) * D < Big) : Is (p_summed_pairs ps) (fr (ps.map q).sum) := by
  unfold p_summed_pairs
  refine Is.bind (a := ((0 : Int), (1 : Int))) ⟨⟨trivial, trivial, trivial⟩, rfl⟩ (Is.bind (adding (D := D) (B := B) (fun p s h1 h2 h3 hb => ?_) hD h hN (Is.pure ps)) ⟨⟨trivial, trivial, trivial⟩, rfl⟩)
  obtain ⟨k1, k2, k3, k4⟩ := pair_ok h2 h3 hb
  have hl := low_is (p := s.num * p.2 + p.1 * (s.den : Int)) (d := (s.den : Int) * p.2) (Int.mul_pos (by have := s.den_pos; omega) h1) k4
  rw [add_q h1] at hl
  exact Is.bind (Is.o2 ⟨⟨⟨trivial, trivial, k1⟩, ⟨trivial, trivial, k2⟩, trivial⟩, rfl⟩ ⟨⟨trivial, trivial, k3⟩, rfl⟩ hl) (Is.pure _)
theorem lsum_is {D B : Nat} {ps : List (Int × Int)} (hD : 0 < D) (h : ∀ p ∈ ps, OkP D B p) (hN : (ps.length * B + 1) * D < Big) : Is (p__law_sum ps) (fr (ps.map q).sum) := by
  unfold p__law_sum
  refine Is.bind (a := ((0 : Int), (1 : Int))) ⟨⟨trivial, trivial, trivial⟩, rfl⟩ (Is.bind (adding (D := D) (B := B) (fun p s h1 h2 h3 hb => ?_) hD h hN (Is.pure ps)) (Is.pure _))
  obtain ⟨k1, k2, k3, k4⟩ := pair_ok h2 h3 hb
  have hl := llow_is (p := s.num * p.2 + p.1 * (s.den : Int)) (d := (s.den : Int) * p.2) (Int.mul_pos (by have := s.den_pos; omega) h1) k4
  rw [add_q h1] at hl
  exact Is.bind (Is.o2 ⟨⟨⟨trivial, trivial, k1⟩, ⟨trivial, trivial, k2⟩, trivial⟩, rfl⟩ ⟨⟨trivial, trivial, k3⟩, rfl⟩ hl) (Is.pure _)
end Cov

/-! CovB: lots that answer, their cost, the least of them. -/
namespace Cov
open PySem DL TL FR

def ans (lots call : List Int) : Bool := call.any fun l => decide (l ∈ lots)
def ansR (lots : List Int) (row : List (List Int)) : Bool := row.all (ans lots)
def costL (cs lots : List Int) : Int := (lots.map (ixD cs)).sum
def Okl (n : Nat) (lots : List Int) : Prop := ∀ l ∈ lots, 0 ≤ l ∧ l < n
theorem okIx {n : Nat} {l : Int} (h : 0 ≤ l ∧ l < n) : OkIx n l := ⟨by omega, h.2⟩
theorem ixD_get {α : Type} [Inhabited α] {xs : List α} {i : Int} (h : 0 ≤ i) : ixD xs i = (xs[i.toNat]?).getD default := by
  unfold ixD L2.atI L2.ixN
  rw [if_pos h]
  by_cases hi : i < xs.length
  · rw [if_pos (by omega)]; rfl
  · rw [if_neg (by omega), List.getElem?_eq_none (by omega)]; rfl
theorem called_is (call lots : List Int) : Is (p_is_call_answered call lots) (ans lots call) :=
  ⟨⟨⟨trivial, fun _ _ => ⟨trivial, trivial, trivial⟩⟩, trivial⟩, by
    show (call.map fun x => decide (x ∈ lots)).any (fun b => b) = _
    rw [List.any_map]; rfl⟩
theorem answer_is (row : List (List Int)) (lots : List Int) : Is (p_do_answer row lots) (ansR lots row) := by
  unfold p_do_answer
  refine Is.o1 (Is.amap (g := ans lots) (Is.pure row) fun c _ => Is.o2 (Is.pure c) (Is.pure lots) (called_is c lots)) ⟨trivial, ?_⟩
  show (row.map (ans lots)).all (fun b => b) = _
  rw [List.all_map]; rfl
theorem cost_is {cs lots : List Int} (h : Okl cs.length lots) : Is (p_lots_cost cs lots) (costL cs lots) :=
  ⟨⟨⟨trivial, fun l hl => ⟨trivial, trivial, okIx (h l hl)⟩⟩, trivial⟩, rfl⟩
theorem lcost_is {cs lots : List Int} (h : Okl cs.length lots) : Is (p__law_cost cs lots) (costL cs lots) :=
  ⟨⟨⟨trivial, fun l hl => ⟨trivial, trivial, okIx (h l hl)⟩⟩, trivial⟩, rfl⟩
/-! ### all lots -/
def subs : Nat → List (List Int)
  | 0 => [[]]
  | n + 1 => subs n ++ (subs n).map (· ++ [(n : Int)])
theorem subs_len : ∀ n, (subs n).length = 2 ^ n
  | 0 => rfl
  | n + 1 => by rw [subs, List.length_append, List.length_map, subs_len n, Nat.pow_succ]; omega
theorem subs_row : ∀ (n : Nat) (s : List Int), s ∈ subs n → s.length ≤ n
  | 0, s, h => by simp [subs] at h; simp [h]
  | n + 1, s, h => by
    rw [subs, List.mem_append, List.mem_map] at h
    rcases h with h | ⟨t, h, rfl⟩
    · exact Nat.le_succ_of_le (subs_row n s h)
    · have := subs_row n t h
      simp
      omega
theorem subs_ok : ∀ (n : Nat) (s : List Int), s ∈ subs n → Okl n s
  | 0, s, h => by simp [subs] at h; subst h; intro l hl; simp at hl
  | n + 1, s, h => by
    rw [subs, List.mem_append, List.mem_map] at h
    rcases h with h | ⟨t, h, rfl⟩
    · intro l hl
      have := subs_ok n s h l hl
      omega
    · intro l hl
      rw [List.mem_append] at hl
      rcases hl with hl | hl
      · have := subs_ok n t h l hl
        omega
      · simp at hl; omega
theorem subs_rising : ∀ (n : Nat) (s : List Int), s ∈ subs n → s.Pairwise (· < ·)
  | 0, s, h => by simp [subs] at h; subst h; exact .nil
  | n + 1, s, h => by
    rw [subs, List.mem_append, List.mem_map] at h
    rcases h with h | ⟨t, h, rfl⟩
    · exact subs_rising n s h
    · rw [List.pairwise_append]
      refine ⟨subs_rising n t h, .cons (by simp) .nil, fun a ha b hb => ?_⟩
      simp at hb
      have := subs_ok n t h a ha
      omega
/-- every rising row of lots is there -/
theorem subs_all : ∀ (n : Nat) (s : List Int), s.Pairwise (· < ·) → Okl n s → s ∈ subs n
  | 0, s, _, h => by
    cases s with
    | nil => simp [subs]
    | cons x r => have := h x List.mem_cons_self; omega
  | n + 1, s, hp, h => by
    rw [subs, List.mem_append, List.mem_map]
    by_cases hn : (n : Int) ∈ s
    · right
      have hne : s ≠ [] := fun e => by rw [e] at hn; cases hn
      have hs := List.dropLast_concat_getLast hne
      have hlast : s.getLast hne = (n : Int) := by
        rw [← hs, List.pairwise_append] at hp
        rw [← hs, List.mem_append] at hn
        rcases hn with hn | hn
        · have h1 := hp.2.2 _ hn _ (List.mem_singleton.mpr rfl)
          have h2 := h (s.getLast hne) (List.getLast_mem hne)
          omega
        · exact (List.mem_singleton.mp hn).symm
      refine ⟨s.dropLast, subs_all n _ (List.Pairwise.sublist (List.dropLast_sublist s) hp) fun l hl => ?_, by rw [← hlast]; exact hs⟩
      have h1 := h l ((List.dropLast_sublist s).subset hl)
      rw [← hs, List.pairwise_append] at hp
      have h2 := hp.2.2 l hl _ (List.mem_singleton.mpr rfl)
      omega
    · left
      refine subs_all n s hp fun l hl => ?_
      have := h l hl
      have : l ≠ n := fun e => hn (e ▸ hl)
      omega
theorem rgI_nat (n : Nat) : rgI 0 (n : Int) = (List.range n).map fun i => ((i : Nat) : Int) := by
  unfold rgI
  rw [Int.sub_zero, Int.toNat_natCast]
  exact List.map_congr_left fun i _ => by omega
theorem rgI_pre {n : Nat} {d r : List Int} {x : Int} (h : rgI 0 (n : Int) = d ++ x :: r) : x = d.length ∧ d.length < n := by
  rw [rgI_nat] at h
  have h1 : (((List.range n).map fun i => ((i : Nat) : Int))[d.length]?) = some x := by rw [h]; simp
  rw [List.getElem?_map] at h1
  obtain ⟨i, h2, h3⟩ := Option.map_eq_some_iff.mp h1
  obtain ⟨h4, h5⟩ := List.getElem?_eq_some_iff.mp h2
  rw [List.getElem_range] at h5
  rw [List.length_range] at h4
  omega
theorem rgI_len (n : Nat) : (rgI 0 (n : Int)).length = n := by rw [rgI_nat]; simp
theorem okRg (n : Nat) (h : n ≤ 2 ^ 24) : OkRg 0 (n : Int) := by
  unfold OkRg
  omega
theorem pow_le20 {i n : Nat} (hi : i ≤ n) (hn : n ≤ 20) : 2 ^ i ≤ 2 ^ 20 := Nat.pow_le_pow_right (by decide) (by omega)
theorem rows_is {n : Nat} (hn : n ≤ 20) : Is (p_all_lot_rows (n : Int)) (subs n) := by
  unfold p_all_lot_rows
  refine Is.bind (Is.lim (Is.cons (Is.pure _) Is.nil) (by decide)) ?_
  obtain ⟨h1, h2⟩ := Tm.fold_pre (m := Tm.o1 (tRg 0) (Tm.pure (n : Int))) (s := [[]]) (xs := rgI 0 (n : Int)) (f := fun (x3 : Int) (s2 : (List (List Int))) => (Tm.bind (Tm.o1 (tCat s2) (Tm.amap (Tm.pure s2) (fun (x4 : (List Int)) => (Tm.lim (Tm.app (Tm.pure x4) (Tm.cons (Tm.pure x3) (Tm.nil (α := Int)))))))) fun (v5 : (List (List Int))) => Tm.pure v5))
    (fun d s => s = subs d.length) ⟨⟨trivial, okRg n (by omega)⟩, rfl⟩ rfl (by
      rintro d x r s e rfl
      obtain ⟨rfl, hd⟩ := rgI_pre e
      have p1 := pow_le20 (show d.length + 1 ≤ n from hd) hn
      rw [Nat.pow_succ] at p1
      refine ⟨⟨⟨⟨trivial, fun t ht => ⟨⟨trivial, trivial, trivial⟩, ?_⟩⟩, ?_⟩, trivial⟩, ?_⟩
      · have := subs_row _ t ht
        show (t ++ [(d.length : Int)]).length ≤ 2 ^ 24
        rw [List.length_append, List.length_singleton]
        omega
      · show (subs d.length).length + ((subs d.length).map fun t => t ++ [(d.length : Int)]).length ≤ 2 ^ 24
        rw [List.length_map, subs_len]
        omega
      · rw [List.length_append, List.length_singleton]; rfl)
  rw [rgI_len] at h2
  exact Is.bind ⟨h1, h2⟩ (Is.pure _)
theorem lrows_is {n : Nat} (hn : n ≤ 20) : Is (p__law_some_lots (n : Int)) (subs n) := by
  unfold p__law_some_lots
  refine Is.bind (Is.lim (Is.cons (Is.pure _) Is.nil) (by decide)) ?_
  obtain ⟨h1, h2⟩ := Tm.fold_pre (m := Tm.o1 (tRg 0) (Tm.pure (n : Int))) (s := [[]]) (xs := rgI 0 (n : Int)) (f := fun (x3 : Int) (s2 : (List (List Int))) => (Tm.bind (Tm.o2 tCat (Tm.pure s2) (Tm.amap (Tm.pure s2) (fun (x4 : (List Int)) => (Tm.o2 tCat (Tm.pure x4) (Tm.lim (Tm.cons (Tm.pure x3) (Tm.nil (α := Int)))))))) fun (v_found5 : (List (List Int))) => Tm.pure v_found5))
    (fun d s => s = subs d.length) ⟨⟨trivial, okRg n (by omega)⟩, rfl⟩ rfl (by
      rintro d x r s e rfl
      obtain ⟨rfl, hd⟩ := rgI_pre e
      have p1 := pow_le20 (show d.length + 1 ≤ n from hd) hn
      rw [Nat.pow_succ] at p1
      refine ⟨⟨⟨trivial, ⟨trivial, fun t ht => ⟨trivial, ⟨⟨trivial, trivial⟩, (by show 1 ≤ 2 ^ 24; decide)⟩, ?_⟩⟩, ?_⟩, trivial⟩, ?_⟩
      · have := subs_row _ t ht
        show t.length + [(d.length : Int)].length ≤ 2 ^ 24
        rw [List.length_singleton]
        omega
      · show (subs d.length).length + ((subs d.length).map fun t => t ++ [(d.length : Int)]).length ≤ 2 ^ 24
        rw [List.length_map, subs_len]
        omega
      · rw [List.length_append, List.length_singleton]; rfl)
  rw [rgI_len] at h2
  exact Is.bind ⟨h1, h2⟩ (Is.pure _)
/-! ### the order of cost and lots -/
abbrev eC : Int × List Int → D := e2 eI (eT eI)
theorem ltA_ints : ∀ xs ys : List Int, ∃ b, ltA (xs.map eI) (ys.map eI) = some b
  | [], [] => ⟨false, by simp [ltA]⟩
  | [], y :: ys => ⟨true, by simp [ltA]⟩
  | x :: xs, [] => ⟨false, by simp [ltA]⟩
  | x :: xs, y :: ys => by
    obtain ⟨b, h⟩ := ltA_ints xs ys
    simp only [List.map_cons, ltA, h]
    by_cases e : PyData.eqv (eI x) (eI y) = true
    · rw [if_pos e]; exact ⟨b, rfl⟩
    · rw [if_neg e]; exact ⟨_, by simp only [eI, ltD]; rfl⟩
theorem ltD_eC (a b : Int × List Int) : ∃ r, ltD (eC a) (eC b) = some r ∧ (r = true → a.1 ≤ b.1) ∧ (r = false → b.1 ≤ a.1) := by
  obtain ⟨x, s⟩ := a
  obtain ⟨y, t⟩ := b
  obtain ⟨b, hb⟩ := ltA_ints s t
  have h1 : ∃ c, ltA [eT eI s] [eT eI t] = some c := by
    simp only [ltA]
    by_cases e : PyData.eqv (eT eI s) (eT eI t) = true
    · rw [if_pos e]; exact ⟨_, rfl⟩
    · rw [if_neg e]; exact ⟨b, by simp only [eT, ltD, hb]⟩
  obtain ⟨c, hc⟩ := h1
  have e0 : ltD (eC (x, s)) (eC (y, t)) = ltA [eI x, eT eI s] [eI y, eT eI t] := by simp only [eC, e2, ltD]
  rw [e0]
  have e1 : ltA [eI x, eT eI s] [eI y, eT eI t] = if PyData.eqv (eI x) (eI y) = true then some c else ltD (eI x) (eI y) := by
    rw [ltA, hc]
  rw [e1]
  by_cases e : x = y
  · rw [if_pos (by simp only [eI, PyData.eqv, e]; exact beq_self_eq_true _)]
    exact ⟨c, rfl, fun _ => by show x ≤ y; omega, fun _ => by show y ≤ x; omega⟩
  · rw [if_neg (by simp only [eI, PyData.eqv]; simpa using e)]
    refine ⟨_, by simp only [eI, ltD]; rfl, fun h => ?_, fun h => ?_⟩
    · have := of_decide_eq_true h; show x ≤ y; omega
    · have := of_decide_eq_false h; show y ≤ x; omega
def lt2 (a b : Int × List Int) : Bool := (ltD (eC a) (eC b)).getD false
theorem ltD_lt2 (a b : Int × List Int) : ltD (eC a) (eC b) = some (lt2 a b) := by
  obtain ⟨r, h, _⟩ := ltD_eC a b
  unfold lt2
  rw [h]; rfl
theorem lt2_le {a b : Int × List Int} (h : lt2 a b = true) : a.1 ≤ b.1 := by
  obtain ⟨r, h1, h2, _⟩ := ltD_eC a b
  rw [ltD_lt2] at h1
  cases h1
  exact h2 h
theorem lt2_ge {a b : Int × List Int} (h : lt2 a b = false) : b.1 ≤ a.1 := by
  obtain ⟨r, h1, _, h2⟩ := ltD_eC a b
  rw [ltD_lt2] at h1
  cases h1
  exact h2 h
def pickMin (best : Option (Int × List Int)) (x : Int × List Int) : Option (Int × List Int) := match best with
  | none => some x
  | some b => if lt2 x b = true then some x else some b
theorem minGo_pick : ∀ (xs : List (Int × List Int)) (m : Int × List Int), ∃ y, xs.foldl pickMin (some m) = some y ∧ minGo (eC m) (xs.map eC) = some (eC y) ∧ y ∈ m :: xs ∧ ∀ z ∈ m :: xs, y.1 ≤ z.1
  | [], m => ⟨m, rfl, rfl, List.mem_cons_self, fun z hz => by simp at hz; rw [hz]; exact Int.le_refl _⟩
  | x :: xs, m => by
    cases h : lt2 x m with
    | true =>
      obtain ⟨y, h1, h2, h3, h4⟩ := minGo_pick xs x
      refine ⟨y, by simp only [List.foldl_cons, pickMin, h, if_true]; exact h1, by simp only [List.map_cons, minGo, ltD_lt2, h]; exact h2, List.mem_cons_of_mem _ h3, fun z hz => ?_⟩
      rcases List.mem_cons.mp hz with rfl | hz
      · have := h4 x List.mem_cons_self
        have := lt2_le h
        omega
      · exact h4 z hz
    | false =>
      obtain ⟨y, h1, h2, h3, h4⟩ := minGo_pick xs m
      refine ⟨y, by simp only [List.foldl_cons, pickMin, h, Bool.false_eq_true, if_false]; exact h1, by simp only [List.map_cons, minGo, ltD_lt2, h]; exact h2, ?_, fun z hz => ?_⟩
      · rcases List.mem_cons.mp h3 with rfl | h3
        · exact List.mem_cons_self
        · exact List.mem_cons_of_mem _ (List.mem_cons_of_mem _ h3)
      · rcases List.mem_cons.mp hz with rfl | hz
        · exact h4 _ List.mem_cons_self
        · rcases List.mem_cons.mp hz with rfl | hz
          · have := h4 m List.mem_cons_self
            have := lt2_ge h
            omega
          · exact h4 z (List.mem_cons_of_mem _ hz)
theorem lay_eC (a : Int × List Int) : Lay 2 (eC a) := .tup fun d hd => by
  simp at hd
  rcases hd with rfl | rfl
  · exact .int _
  · exact lay_it a.2
theorem dMinA_eC {xs : List (Int × List Int)} (h : xs ≠ []) : ∃ y, xs.foldl pickMin none = some y ∧ dMinB [eL eC xs] = some (eC y) ∧ dMinA [eL eC xs] = some (eC y) ∧ y ∈ xs ∧ ∀ z ∈ xs, y.1 ≤ z.1 := by
  cases xs with
  | nil => exact absurd rfl h
  | cons x xs =>
    obtain ⟨y, h1, h2, h3, h4⟩ := minGo_pick xs x
    have e1 : dMinL [eL eC (x :: xs)] = none := by simp [dMinL, dInts, intsOf, eL, eC, e2]
    have sh : SeqAt.shaped (.list ((x :: xs).map eC)) = true := (Lay.lst (Lay.map fun s _ => lay_eC s)).shaped (by decide)
    have al : allLt ((x :: xs).map eC) = true := by
      unfold allLt
      rw [List.all_eq_true]
      intro a ha
      rw [List.all_eq_true]
      intro b hb
      obtain ⟨s, _, rfl⟩ := List.mem_map.mp ha
      obtain ⟨t, _, rfl⟩ := List.mem_map.mp hb
      rw [ltD_lt2]; rfl
    have hA : dMinA [eL eC (x :: xs)] = some (eC y) := by
      unfold dMinA dOrL
      rw [e1]
      show (if (SeqAt.shaped (.list (eC x :: xs.map eC)) && allLt (eC x :: xs.map eC)) = true then minGo (eC x) (xs.map eC) else none) = _
      have sh' : SeqAt.shaped (.list (eC x :: xs.map eC)) = true := sh
      have al' : allLt (eC x :: xs.map eC) = true := al
      rw [sh', al']
      exact h2
    exact ⟨y, h1, orL_of hA, hA, h3, h4⟩
/-! ### the least lots -/
def cands (cs : List Int) (row : List (List Int)) : List (Int × List Int) := ((subs cs.length).filter fun s => ansR s row).map fun s => (costL cs s, s)
def leastP (cs : List Int) (row : List (List Int)) : Option (Int × List Int) := (cands cs row).foldl pickMin none
structure Least (cs : List Int) (row : List (List Int)) (c : Int) (s : List Int) : Prop where
  eq : leastP cs row = some (c, s)
  mem : s ∈ subs cs.length
  ans : ansR s row = true
  cost : c = costL cs s
  low : ∀ t ∈ subs cs.length, ansR t row = true → c ≤ costL cs t
theorem dc_eC (a : Int × List Int) : dc2 intD (dcL intD) (eC a) = a := by
  obtain ⟨x, s⟩ := a
  have : (s.map eI).map intD = s := by rw [List.map_map]; exact List.map_id' s
  show (x, (s.map eI).map intD) = _
  rw [this]
theorem least_is {cs : List Int} {row : List (List Int)} (hn : cs.length ≤ 20) {t : List Int} (ht : t ∈ subs cs.length) (ha : ansR t row = true) :
    ∃ c s, Least cs row c s ∧ Is (p_least_lots cs row) s ∧ Is (p_least_answer cs row) c := by
  have hne : cands cs row ≠ [] := fun e => by
    have : (costL cs t, t) ∈ cands cs row := List.mem_map.mpr ⟨t, List.mem_filter.mpr ⟨ht, ha⟩, rfl⟩
    rw [e] at this
    cases this
  obtain ⟨⟨c, s⟩, h1, h2, h2', h3, h4⟩ := dMinA_eC hne
  obtain ⟨u, h5, h6⟩ := List.mem_map.mp h3
  obtain ⟨rfl, rfl⟩ : costL cs u = c ∧ u = s := by cases h6; exact ⟨rfl, rfl⟩
  obtain ⟨h7, h8⟩ := List.mem_filter.mp h5
  have hl : Is (p_least_lots cs row) u := by
    unfold p_least_lots
    have hf : Is (Tm.fmap (Tm.o1 p_all_lot_rows (Tm.o1 tLen (Tm.pure cs))) (fun (x2 : (List Int)) => (Tm.o2 p_do_answer (Tm.pure row) (Tm.pure x2))) (fun (x2 : (List Int)) => (Tm.o2 tPair (Tm.o2 p_lots_cost (Tm.pure cs) (Tm.pure x2)) (Tm.pure x2)))) (cands cs row) :=
      Is.fmap (g := fun s => (costL cs s, s)) (Is.o1 (a := (cs.length : Int)) ⟨⟨trivial, trivial⟩, rfl⟩ (rows_is hn)) (fun s _ => Is.o2 (Is.pure row) (Is.pure s) (answer_is row s)) (fun s hs _ => Is.o2 (Is.o2 (Is.pure cs) (Is.pure s) (cost_is (subs_ok _ s hs))) (Is.pure s) (Is.pure _))
    refine Is.mp (f := fun (p : Int × List Int) => p.2) (a := (costL cs u, u)) (Is.o1 hf ⟨⟨by rw [h2']; rfl, fun d hd => ?_⟩, ?_⟩)
    · rw [h2'] at hd
      cases hd
      rw [dc_eC]
    · show dc2 intD (dcL intD) ((dMinA [eL eC (cands cs row)]).getD .none) = _
      rw [h2']
      exact dc_eC _
  refine ⟨_, u, ⟨h1, h7, h8, rfl, fun t ht hat => h4 _ (List.mem_map.mpr ⟨t, List.mem_filter.mpr ⟨ht, hat⟩, rfl⟩)⟩, hl, ?_⟩
  exact Is.o2 (Is.pure cs) (Is.o2 (Is.pure cs) (Is.pure row) hl) (cost_is (subs_ok _ u h7))
/-! the law's own -/
def openL (row : List (List Int)) (lots : List Int) : List Int := ((enuI 0 row).filter fun x => decide (x.2.filter (fun l => decide (l ∈ lots)) = [])).map fun x => x.1
theorem open_is (row : List (List Int)) (lots : List Int) : Is (p__law_is_open row lots) (openL row lots) := by
  unfold p__law_is_open
  refine Is.fmap (Is.mp (Is.pure row)) (fun x _ => ?_) (fun x _ _ => Is.pure _)
  refine Is.o2 (a := x.2.filter fun l => decide (l ∈ lots)) ?_ (Is.lim Is.nil (by decide)) (Is.pure _)
  have := Is.fmap (m := Tm.pure x.2) (t := fun x3 => Tm.o2 tIn (Tm.pure x3) (Tm.pure lots)) (p := fun l => decide (l ∈ lots)) (f := fun x3 => Tm.pure x3) (g := fun x => x) (Is.pure x.2) (fun y _ => Is.o2 (Is.pure y) (Is.pure lots) (Is.pure _)) (fun y _ _ => Is.pure y)
  rw [List.map_id'] at this
  exact this
theorem mem_enuI {α : Type} : ∀ {xs : List α} {n : Nat} {p : Int × α}, p ∈ enuI n xs ↔ ∃ i : Nat, xs[i]? = some p.2 ∧ p.1 = ((n + i : Nat) : Int)
  | [], n, p => by simp [enuI]
  | x :: xs, n, p => by
    rw [enuI, List.mem_cons, mem_enuI (xs := xs)]
    constructor
    · rintro (rfl | ⟨i, h1, h2⟩)
      · exact ⟨0, rfl, rfl⟩
      · exact ⟨i + 1, by simpa using h1, by rw [h2]; congr 1; omega⟩
    · rintro ⟨i, h1, h2⟩
      cases i with
      | zero =>
        left
        simp at h1
        exact Prod.ext (by rw [h2]; rfl) h1.symm
      | succ i => exact .inr ⟨i, by simpa using h1, by rw [h2]; congr 1; omega⟩
theorem filter_ans {lots call : List Int} : (call.filter fun l => decide (l ∈ lots)) = [] ↔ ans lots call = false := by
  unfold ans
  rw [List.filter_eq_nil_iff, List.any_eq_false]
theorem open_nil {row : List (List Int)} {lots : List Int} : openL row lots = [] ↔ ansR lots row = true := by
  unfold openL ansR
  rw [List.map_eq_nil_iff, List.filter_eq_nil_iff, List.all_eq_true]
  constructor
  · intro h c hc
    obtain ⟨i, hi⟩ := List.getElem?_of_mem hc
    have := h ((i : Int), c) (mem_enuI.mpr ⟨i, hi, by simp⟩)
    cases ha : ans lots c with
    | true => rfl
    | false => exact absurd (decide_eq_true (filter_ans.mpr ha)) this
  · intro h p hp
    obtain ⟨i, h1, _⟩ := mem_enuI.mp hp
    have := h p.2 (List.mem_of_getElem? h1)
    intro hd
    rw [filter_ans.mp (of_decide_eq_true hd)] at this
    cases this
theorem dLtA_eC (a b : Int × List Int) : dLtA (eC a) (eC b) = some (.bool (lt2 a b)) := by
  unfold dLtA dOr
  have h1 : dLt (eC a) (eC b) = none := rfl
  rw [h1]
  show dLtD (eC a) (eC b) = _
  unfold dLtD okLt
  rw [(lay_eC a).shaped (by decide), (lay_eC b).shaped (by decide), ltD_lt2]; rfl
theorem lleast_is {cs : List Int} {row : List (List Int)} (hn : cs.length ≤ 20) : Is (p__law_least cs row) (leastP cs row) := by
  unfold p__law_least
  refine Is.bind (Is.pure _) (Is.bind (b := leastP cs row) (a := leastP cs row) ?_ (Is.pure _))
  have := Is.fold (m := Tm.o1 p__law_some_lots (Tm.o1 tLen (Tm.pure cs))) (s := none) (g := fun best s => if ansR s row = true then pickMin best (costL cs s, s) else best)
    (Is.o1 (a := (cs.length : Int)) ⟨⟨trivial, trivial⟩, rfl⟩ (lrows_is hn)) (fun _ => True) trivial (f := fun (x3 : (List Int)) (s2 : (Option (Int × (List Int)))) => (Tm.bind (Tm.o2 tPair (Tm.o2 p__law_cost (Tm.pure cs) (Tm.pure x3)) (Tm.pure x3)) fun (v_here4 : (Int × (List Int))) => (Tm.ite (Tm.and (Tm.or (Tm.o2 tIsN (Tm.pure s2) (Tm.pure ())) (Tm.o2 (tB2 dLtA) (Tm.mp (e2 eI (eT eI)) (Tm.pure v_here4)) (Tm.mp (eO (e2 eI (eT eI))) (Tm.pure s2)))) (Tm.o2 tEq (Tm.o2 p__law_is_open (Tm.pure row) (Tm.pure x3)) (Tm.lim (Tm.nil (α := Int))))) (Tm.bind (Tm.mp some (Tm.pure v_here4)) fun (v_best5 : (Option (Int × (List Int)))) => Tm.pure v_best5) (Tm.pure s2)))) (by
      intro s best hs _
      refine ⟨Is.bind (Is.o2 (Is.o2 (Is.pure cs) (Is.pure s) (lcost_is (subs_ok _ s hs))) (Is.pure s) (Is.pure _)) ?_, trivial⟩
      have hopen : Is (Tm.o2 tEq (Tm.o2 p__law_is_open (Tm.pure row) (Tm.pure s)) (Tm.lim (Tm.nil (α := Int)))) (ansR s row) := by
        refine Is.o2 (Is.o2 (Is.pure row) (Is.pure s) (open_is row s)) (Is.lim Is.nil (by decide)) ⟨trivial, ?_⟩
        show decide (openL row s = []) = _
        cases ha : ansR s row with
        | true => exact decide_eq_true (open_nil.mpr ha)
        | false => exact decide_eq_false fun e => by rw [open_nil.mp e] at ha; cases ha
      cases best with
      | none =>
        refine Is.ite (b := (true || blD ((dLtA (eC (costL cs s, s)) (eO eC none)).getD .none)) && ansR s row) (Is.and (Is.or (a := true) ⟨⟨trivial, trivial, trivial⟩, rfl⟩ (fun e => by cases e)) fun _ => hopen) (fun h => ?_) (fun h => ?_)
        · rw [Bool.true_or, Bool.true_and] at h
          rw [if_pos h]
          exact ⟨⟨trivial, trivial⟩, rfl⟩
        · rw [Bool.true_or, Bool.true_and] at h
          rw [if_neg (by rw [h]; decide)]
          exact Is.pure _
      | some b =>
        refine Is.ite (b := (false || lt2 (costL cs s, s) b) && ansR s row) (Is.and (Is.or (a := false) ⟨⟨trivial, trivial, trivial⟩, rfl⟩ (fun _ => ?_)) fun _ => hopen) (fun h => ?_) (fun h => ?_)
        · refine Is.o2 (Is.mp (Is.pure _)) (Is.mp (Is.pure _)) ⟨⟨_, dLtA_eC _ _⟩, ?_⟩
          show blD ((dLtA (eC (costL cs s, s)) (eC b)).getD .none) = _
          rw [dLtA_eC]; rfl
        · rw [Bool.false_or, Bool.and_eq_true] at h
          rw [if_pos h.2]
          show Is _ (if lt2 (costL cs s, s) b = true then some (costL cs s, s) else some b)
          rw [if_pos h.1]
          exact ⟨⟨trivial, trivial⟩, rfl⟩
        · rw [Bool.false_or] at h
          show Is _ (if ansR s row = true then (if lt2 (costL cs s, s) b = true then some (costL cs s, s) else some b) else some b)
          by_cases h1 : ansR s row = true
          · rw [h1, Bool.and_true] at h
            rw [if_pos h1, if_neg (by rw [h]; decide)]
            exact Is.pure _
          · rw [if_neg h1]
            exact Is.pure _)
  have e : (subs cs.length).foldl (fun best s => if ansR s row = true then pickMin best (costL cs s, s) else best) none = leastP cs row := by
    unfold leastP cands
    rw [List.foldl_map, List.foldl_filter]
  rw [← e]
  exact this
end Cov

/-! CovC: prices bar costs; drawn lots. -/
namespace Cov
open PySem DL TL FR

/-! ### prices -/
def hit (lot : Int) (p : List Int × Rat) : Rat := if lot ∈ p.1 then p.2 else 0
def pr (row : List (List Int)) (xs : List Rat) (lot : Int) : Rat := ((row.zip xs).map (hit lot)).sum
theorem pr_filter (lot : Int) : ∀ l : List (List Int × Rat), ((l.filter fun p => decide (lot ∈ p.1)).map fun p => p.2).sum = (l.map (hit lot)).sum
  | [] => rfl
  | p :: l => by
    by_cases h : lot ∈ p.1
    · rw [List.filter_cons_of_pos (by simpa using h), List.map_cons, List.map_cons, List.sum_cons, List.sum_cons, pr_filter lot l]
      unfold hit
      rw [if_pos h]
    · rw [List.filter_cons_of_neg (by simpa using h), List.map_cons, List.sum_cons, pr_filter lot l]
      unfold hit
      rw [if_neg h, Rat.zero_add]
/-- prices that may be looked at -/
structure OkX (D B : Nat) (xs : List Rat) : Prop where
  pos : 0 < D
  dv : ∀ x ∈ xs, Dv D x
  lo : ∀ x ∈ xs, 0 ≤ x
  hi : ∀ x ∈ xs, x ≤ (B : Rat)
  big : (xs.length * B + B + 1) * D < Big
theorem OkX.p {D B : Nat} {xs : List Rat} (h : OkX D B xs) {x : Rat} (hx : x ∈ xs) : OkP D B (fr x) := by
  refine OkP.fr h.pos (h.dv x hx) ?_ (h.hi x hx) ?_
  · have h0 := h.lo x hx
    have hB : (0 : Rat) ≤ (B : Rat) := Rat.natCast_nonneg
    grind
  · have := h.big
    have e : (B + 1) * D ≤ (xs.length * B + B + 1) * D := Nat.mul_le_mul_right D (by omega)
    omega
theorem map_q_fr (l : List Rat) : (l.map fr).map q = l := by
  rw [List.map_map]
  have : (q ∘ fr) = id := funext fun x => q_fr x
  rw [this, List.map_id]
theorem zip_fr (row : List (List Int)) (xs : List Rat) : row.zip (xs.map fr) = (row.zip xs).map fun p => (p.1, fr p.2) := by
  rw [List.zip_map_right]
  rfl
theorem filt_fr (lot : Int) (l : List (List Int × Rat)) : ((l.map fun p => (p.1, fr p.2)).filter fun p => decide (lot ∈ p.1)).map (fun p => p.2) = ((l.filter fun p => decide (lot ∈ p.1)).map fun p => p.2).map fr := by
  rw [List.filter_map, List.map_map, List.map_map]
  rfl
theorem filt_is (row : List (List Int)) (xs : List Rat) (lot : Int) : Is (Tm.fmap (Tm.o2 tZip (Tm.pure row) (Tm.pure (xs.map fr))) (fun (x2 : ((List Int) × (Int × Int))) => (Tm.o2 tIn (Tm.pure lot) (Tm.pure x2.1))) (fun (x2 : ((List Int) × (Int × Int))) => (Tm.pure x2.2)))
    ((((row.zip xs).filter fun p => decide (lot ∈ p.1)).map fun p => p.2).map fr) := by
  rw [← filt_fr, ← zip_fr]
  exact Is.fmap (Is.o2 (Is.pure row) (Is.pure _) (Is.pure _)) (fun x _ => Is.o2 (Is.pure lot) (Is.pure x.1) (Is.pure _)) (fun x _ _ => Is.pure _)
theorem filt_ok {D B : Nat} {row : List (List Int)} {xs : List Rat} (h : OkX D B xs) (lot : Int) : (∀ p ∈ (((row.zip xs).filter fun p => decide (lot ∈ p.1)).map fun p => p.2).map fr, OkP D B p) ∧ (((((row.zip xs).filter fun p => decide (lot ∈ p.1)).map fun p => p.2).map fr).length * B + 1) * D < Big := by
  constructor
  · intro p hp
    obtain ⟨x, hx, rfl⟩ := List.mem_map.mp hp
    obtain ⟨y, hy, rfl⟩ := List.mem_map.mp hx
    exact h.p (List.of_mem_zip (List.mem_filter.mp hy).1).2
  · have h1 : ((((row.zip xs).filter fun p => decide (lot ∈ p.1)).map fun p => p.2).map fr).length ≤ xs.length := by
      rw [List.length_map, List.length_map]
      refine Nat.le_trans (List.length_filter_le _ _) ?_
      rw [List.length_zip]
      exact Nat.min_le_right _ _
    have h2 := h.big
    have h3 := Nat.mul_le_mul_right B h1
    have h4 := Nat.mul_le_mul_right D (show ((((row.zip xs).filter fun p => decide (lot ∈ p.1)).map fun p => p.2).map fr).length * B + 1 ≤ xs.length * B + B + 1 by omega)
    omega
theorem priceof_is {D B : Nat} {xs : List Rat} (h : OkX D B xs) (row : List (List Int)) (lot : Int) : Is (p_prices_of_lot row (xs.map fr) lot) (fr (pr row xs lot)) := by
  obtain ⟨h1, h2⟩ := filt_ok (row := row) h lot
  have := sum_is h.pos h1 h2
  rw [map_q_fr, pr_filter] at this
  exact Is.o1 (filt_is row xs lot) this
theorem lpriceof_is {D B : Nat} {xs : List Rat} (h : OkX D B xs) (row : List (List Int)) (lot : Int) : Is (Tm.o1 p__law_sum (Tm.fmap (Tm.o2 tZip (Tm.pure row) (Tm.pure (xs.map fr))) (fun (x2 : ((List Int) × (Int × Int))) => (Tm.o2 tIn (Tm.pure lot) (Tm.pure x2.1))) (fun (x2 : ((List Int) × (Int × Int))) => (Tm.pure x2.2)))) (fr (pr row xs lot)) := by
  obtain ⟨h1, h2⟩ := filt_ok (row := row) h lot
  have := lsum_is h.pos h1 h2
  rw [map_q_fr, pr_filter] at this
  exact Is.o1 (filt_is row xs lot) this
theorem pr_bd {D B : Nat} {xs : List Rat} (h : OkX D B xs) (row : List (List Int)) (lot : Int) : (fr (pr row xs lot)).1.natAbs < Big ∧ (fr (pr row xs lot)).2.natAbs < Big := by
  have hz : ∀ y ∈ (row.zip xs).map (hit lot), Dv D y ∧ 0 ≤ y ∧ y ≤ (B : Rat) := by
    intro y hy
    obtain ⟨p, hp, rfl⟩ := List.mem_map.mp hy
    have hx := (List.of_mem_zip hp).2
    unfold hit
    split
    · exact ⟨h.dv _ hx, h.lo _ hx, h.hi _ hx⟩
    · exact ⟨Dv.zero D, Rat.le_refl, Rat.natCast_nonneg⟩
  have hl : ((row.zip xs).map (hit lot)).length ≤ xs.length := by
    rw [List.length_map, List.length_zip]
    exact Nat.min_le_right _ _
  have h1 := sum_le (B := B) fun y hy => (hz y hy).2.2
  have h2 := le_sum (B := B) (l := (row.zip xs).map (hit lot)) fun y hy => by
    have := (hz y hy).2.1
    have hB : (0 : Rat) ≤ (B : Rat) := Rat.natCast_nonneg
    grind
  have := Bd.of h.pos (Dv.sum fun y hy => (hz y hy).1) h2 h1 (Nat.le_refl _)
  have h3 := h.big
  have h4 := Nat.mul_le_mul_right B hl
  have h5 := Nat.mul_le_mul_right D (show ((row.zip xs).map (hit lot)).length * B + 1 ≤ xs.length * B + B + 1 by omega)
  exact ⟨by have := this.1; show (pr row xs lot).num.natAbs < Big; unfold pr; omega, by have := this.2; show ((pr row xs lot).den : Int).natAbs < Big; rw [Int.natAbs_natCast]; unfold pr; omega⟩
theorem gt_fr (x : Rat) (c : Int) : decide (c * (fr x).2 < (fr x).1) = decide ((c : Rat) < x) := by
  have : ((c : Rat) < x) ↔ c * (fr x).2 < (fr x).1 := by
    rw [Rat.lt_iff]
    show c * (x.den : Int) < x.num * ((1 : Nat) : Int) ↔ _
    rw [Int.natCast_one, Int.mul_one]; rfl
  exact decide_eq_decide.mpr this.symm
/-- the lots whose prices are above their cost -/
def dearL (cs : List Int) (row : List (List Int)) (xs : List Rat) : List (Int × Int) := (enuI 0 cs).filter fun x => decide ((x.2 : Rat) < pr row xs x.1)
theorem first_is {D B : Nat} {cs : List Int} {xs : List Rat} (h : OkX D B xs) (hc : ∀ c ∈ cs, c.natAbs < Big) (row : List (List Int)) : Is (p_first_dear_lot cs row (xs.map fr)) (((enuI 0 cs).find? fun x => decide ((x.2 : Rat) < pr row xs x.1)).map fun x => x.1) := by
  unfold p_first_dear_lot
  refine Is.lp (Is.find (p := fun x : Int × Int => decide ((x.2 : Rat) < pr row xs x.1)) (d := fun x => some x.1) (s := ()) (Is.mp (Is.pure cs)) fun x hx => ?_) ?_
  · obtain ⟨i, hi, _⟩ := mem_enuI.mp hx
    have hcx := hc x.2 (List.mem_of_getElem? hi)
    have hb := pr_bd h row x.1
    refine Is.bind (Is.o3 (Is.pure _) (Is.pure _) (Is.pure _) (priceof_is h row x.1)) ?_
    refine Is.ite (b := decide ((x.2 : Rat) < pr row xs x.1)) ?_ (fun e => ?_) (fun e => ?_)
    · rw [← gt_fr]
      exact ⟨⟨trivial, ⟨trivial, trivial, okMul_big hcx hb.2⟩, trivial⟩, rfl⟩
    · rw [if_pos e]; exact ⟨trivial, rfl⟩
    · rw [if_neg (by rw [e]; decide)]; exact ⟨trivial, rfl⟩
  · cases (enuI 0 cs).find? fun x => decide ((x.2 : Rat) < pr row xs x.1) with
    | none => exact Is.pure _
    | some x => exact Is.pure _
def fitsX (cs : List Int) (row : List (List Int)) (xs : List Rat) : Prop := ∀ (i : Nat) (c : Int), cs[i]? = some c → pr row xs i ≤ c
theorem find_none {cs : List Int} {row : List (List Int)} {xs : List Rat} : ((enuI 0 cs).find? fun x => decide ((x.2 : Rat) < pr row xs x.1)) = none ↔ fitsX cs row xs := by
  rw [List.find?_eq_none]
  constructor
  · intro h i c hc
    have := h ((i : Int), c) (mem_enuI.mpr ⟨i, hc, by simp⟩)
    exact Rat.not_lt.mp fun e => this (decide_eq_true e)
  · intro h p hp
    obtain ⟨i, h1, h2⟩ := mem_enuI.mp hp
    have := h i p.2 h1
    intro e
    have e' := of_decide_eq_true e
    rw [h2, Nat.zero_add] at e'
    exact absurd this (Rat.not_le.mpr e')
open Classical in
theorem are_is {D B : Nat} {cs : List Int} {xs : List Rat} (h : OkX D B xs) (hc : ∀ c ∈ cs, c.natAbs < Big) (row : List (List Int)) : Is (p_are_prices cs row (xs.map fr)) (decide (fitsX cs row xs)) := by
  refine Is.o2 (Is.o3 (Is.pure _) (Is.pure _) (Is.pure _) (first_is h hc row)) (Is.pure ()) ⟨trivial, ?_⟩
  show Option.isNone _ = _
  cases e : (enuI 0 cs).find? fun x => decide ((x.2 : Rat) < pr row xs x.1) with
  | none => exact (decide_eq_true (find_none.mp e)).symm
  | some x => exact (decide_eq_false fun z => by rw [find_none.mpr z] at e; cases e).symm
theorem psum_is {D B : Nat} {xs : List Rat} (h : OkX D B xs) : Is (p_prices_sum (xs.map fr)) (fr xs.sum) := by
  have := sum_is (ps := xs.map fr) h.pos (fun p hp => by
    obtain ⟨x, hx, rfl⟩ := List.mem_map.mp hp
    exact h.p hx) (by
    have h2 := h.big
    have h4 := Nat.mul_le_mul_right D (show (xs.map fr).length * B + 1 ≤ xs.length * B + B + 1 by rw [List.length_map]; omega)
    omega)
  rw [map_q_fr] at this
  exact Is.o1 (Is.pure _) this
theorem lxsum_is {D B : Nat} {xs : List Rat} (h : OkX D B xs) : Is (p__law_sum (xs.map fr)) (fr xs.sum) := by
  have := lsum_is (ps := xs.map fr) h.pos (fun p hp => by
    obtain ⟨x, hx, rfl⟩ := List.mem_map.mp hp
    exact h.p hx) (by
    have h2 := h.big
    have h4 := Nat.mul_le_mul_right D (show (xs.map fr).length * B + 1 ≤ xs.length * B + B + 1 by rw [List.length_map]; omega)
    omega)
  rw [map_q_fr] at this
  exact this
theorem enuI_len {α : Type} : ∀ (xs : List α) (n : Nat), (enuI n xs).length = xs.length
  | [], _ => rfl
  | x :: xs, n => by rw [enuI, List.length_cons, List.length_cons, enuI_len xs]
theorem ldear_is {D B : Nat} {cs : List Int} {xs : List Rat} (h : OkX D B xs) (hc : ∀ c ∈ cs, c.natAbs < Big) (hl : cs.length ≤ 20) (row : List (List Int)) : Is (p__law_dear cs row (xs.map fr)) ((dearL cs row xs).map fun x => x.1) := by
  unfold p__law_dear
  refine Is.bind (Is.lim Is.nil (by decide)) ?_
  obtain ⟨h1, h2⟩ := Tm.fold_pre (m := Tm.mp (enuI 0) (Tm.pure cs)) (s := ([] : List Int)) (xs := enuI 0 cs) (f := fun (x3 : (Int × Int)) (s2 : (List Int)) => (Tm.bind (Tm.o1 p__law_sum (Tm.fmap (Tm.o2 tZip (Tm.pure row) (Tm.pure (xs.map fr))) (fun (x4 : ((List Int) × (Int × Int))) => (Tm.o2 tIn (Tm.pure x3.1) (Tm.pure x4.1))) (fun (x4 : ((List Int) × (Int × Int))) => (Tm.pure x4.2)))) fun (v6 : (Int × Int)) => (Tm.bind (Tm.o2 tCat (Tm.pure s2) (Tm.o2 tRep (Tm.lim (Tm.cons (Tm.pure x3.1) (Tm.nil (α := Int)))) (Tm.o1 tIntB (Tm.o2 tGt (Tm.pure v6.1) (Tm.o2 tMul (Tm.pure x3.2) (Tm.pure v6.2)))))) fun (v_found7 : (List Int)) => Tm.pure v_found7)))
    (fun d s => s = (d.filter fun x => decide ((x.2 : Rat) < pr row xs x.1)).map fun x => x.1) ⟨trivial, rfl⟩ rfl (by
      rintro d x r s e rfl
      have hx : x ∈ enuI 0 cs := by rw [e]; simp
      obtain ⟨i, hi, _⟩ := mem_enuI.mp hx
      have hcx := hc x.2 (List.mem_of_getElem? hi)
      have hb := pr_bd h row x.1
      have hdl : d.length ≤ 20 := by
        have := congrArg List.length e
        rw [enuI_len, List.length_append] at this
        omega
      have hfl := List.length_filter_le (fun x : Int × Int => decide ((x.2 : Rat) < pr row xs x.1)) d
      have : Is (Tm.bind (Tm.o1 p__law_sum (Tm.fmap (Tm.o2 tZip (Tm.pure row) (Tm.pure (xs.map fr))) (fun (x4 : ((List Int) × (Int × Int))) => (Tm.o2 tIn (Tm.pure x.1) (Tm.pure x4.1))) (fun (x4 : ((List Int) × (Int × Int))) => (Tm.pure x4.2)))) fun (v6 : (Int × Int)) => (Tm.bind (Tm.o2 tCat (Tm.pure ((d.filter fun x => decide ((x.2 : Rat) < pr row xs x.1)).map fun x => x.1)) (Tm.o2 tRep (Tm.lim (Tm.cons (Tm.pure x.1) (Tm.nil (α := Int)))) (Tm.o1 tIntB (Tm.o2 tGt (Tm.pure v6.1) (Tm.o2 tMul (Tm.pure x.2) (Tm.pure v6.2)))))) fun (v_found7 : (List Int)) => Tm.pure v_found7))
          (((d ++ [x]).filter fun x => decide ((x.2 : Rat) < pr row xs x.1)).map fun x => x.1) := by
        refine Is.bind (lpriceof_is h row x.1) (Is.bind (Is.o2 (Is.pure _) (b := if decide ((x.2 : Rat) < pr row xs x.1) = true then [x.1] else []) ?_ ⟨?_, ?_⟩) (Is.pure _))
        · refine Is.o2 (Is.lim (Is.cons (Is.pure _) Is.nil) (by show 1 ≤ 2 ^ 24; decide)) (Is.o1 (b := if decide ((x.2 : Rat) < pr row xs x.1) = true then 1 else 0) (a := decide ((x.2 : Rat) < pr row xs x.1)) ?_ ⟨trivial, rfl⟩) ?_
          · rw [← gt_fr]
            exact ⟨⟨trivial, ⟨trivial, trivial, okMul_big hcx hb.2⟩, trivial⟩, rfl⟩
          · cases decide ((x.2 : Rat) < pr row xs x.1) with
            | true => exact ⟨by show okRep 1 1 = true; unfold okRep; rw [line24]; decide, rfl⟩
            | false => exact ⟨by show okRep 1 0 = true; unfold okRep; rw [line24]; decide, rfl⟩
        · show (List.map _ _).length + (if _ then _ else _ : List Int).length ≤ 2 ^ 24
          rw [List.length_map]
          split
          · rw [List.length_singleton]; omega
          · rw [List.length_nil]; omega
        · show _ ++ _ = _
          rw [List.filter_append, List.map_append]
          congr 1
          cases e : decide ((x.2 : Rat) < pr row xs x.1) with
          | true => rw [List.filter_cons_of_pos (p := fun x : Int × Int => decide ((x.2 : Rat) < pr row xs x.1)) e]; rfl
          | false => rw [List.filter_cons_of_neg (p := fun x : Int × Int => decide ((x.2 : Rat) < pr row xs x.1)) (by rw [e]; decide)]; rfl
      exact ⟨this.1, this.2⟩)
  exact Is.bind ⟨h1, h2⟩ (Is.pure _)
theorem dear_nil {cs : List Int} {row : List (List Int)} {xs : List Rat} : (dearL cs row xs).map (fun x => x.1) = [] ↔ fitsX cs row xs := by
  rw [List.map_eq_nil_iff, ← find_none, List.find?_eq_none]
  unfold dearL
  rw [List.filter_eq_nil_iff]
/-! ### prices bar costs -/
theorem hits_le {lots call : List Int} {x : Rat} (hx : 0 ≤ x) (h : ans lots call = true) : x ≤ (lots.map fun l => hit l (call, x)).sum := by
  unfold ans at h
  rw [List.any_eq_true] at h
  obtain ⟨l, hl, hm⟩ := h
  replace hm : l ∈ lots := of_decide_eq_true hm
  have nn : ∀ ls : List Int, 0 ≤ (ls.map fun l => hit l (call, x)).sum := by
    intro ls
    induction ls with
    | nil => exact Rat.le_refl
    | cons y ls ih =>
      rw [List.map_cons, List.sum_cons]
      have : 0 ≤ hit y (call, x) := by unfold hit; split <;> first | exact hx | exact Rat.le_refl
      grind
  induction lots with
  | nil => cases hm
  | cons y lots ih =>
    rw [List.map_cons, List.sum_cons]
    rcases List.mem_cons.mp hm with rfl | hm
    · have : hit l (call, x) = x := by unfold hit; rw [if_pos hl]
      have := nn lots
      grind
    · have h1 := ih hm
      have : 0 ≤ hit y (call, x) := by unfold hit; split <;> first | exact hx | exact Rat.le_refl
      grind
theorem sum_add {α : Type} (f g : α → Rat) : ∀ l : List α, (l.map fun x => f x + g x).sum = (l.map f).sum + (l.map g).sum
  | [] => by simp [Rat.add_zero]
  | x :: l => by
    simp only [List.map_cons, List.sum_cons, sum_add f g l]
    grind
theorem prices_le (lots : List Int) : ∀ (row : List (List Int)) (xs : List Rat), row.length = xs.length → (∀ x ∈ xs, 0 ≤ x) → ansR lots row = true → xs.sum ≤ (lots.map (pr row xs)).sum
  | [], [], _, _, _ => by
    have : ∀ ls : List Int, (ls.map (pr [] [])).sum = 0 := by
      intro ls
      induction ls with
      | nil => rfl
      | cons y ls ih => rw [List.map_cons, List.sum_cons, ih, Rat.add_zero]; rfl
    rw [this]
    exact Rat.le_refl
  | c :: row, x :: xs, hl, hx, ha => by
    unfold ansR at ha
    rw [List.all_cons, Bool.and_eq_true] at ha
    have h1 := prices_le lots row xs (by simpa using hl) (fun y hy => hx y (List.mem_cons_of_mem _ hy)) ha.2
    have h2 := hits_le (hx x List.mem_cons_self) ha.1
    have e : ∀ l, pr (c :: row) (x :: xs) l = hit l (c, x) + pr row xs l := fun l => rfl
    rw [List.sum_cons, List.map_congr_left fun l _ => e l, sum_add]
    grind
theorem sum_cost {cs lots : List Int} : (((costL cs lots : Int)) : Rat) = (lots.map fun l => ((ixD cs l : Int) : Rat)).sum := by
  unfold costL
  induction lots with
  | nil => rfl
  | cons x l ih => rw [List.map_cons, List.map_cons, List.sum_cons, List.sum_cons, Rat.intCast_add, ih]
theorem sum_mono {α : Type} {f g : α → Rat} : ∀ {l : List α}, (∀ x ∈ l, f x ≤ g x) → (l.map f).sum ≤ (l.map g).sum
  | [], _ => Rat.le_refl
  | x :: l, h => by
    have h1 := h x List.mem_cons_self
    have h2 := sum_mono (l := l) fun y hy => h y (List.mem_cons_of_mem _ hy)
    rw [List.map_cons, List.map_cons, List.sum_cons, List.sum_cons]
    grind
/-- all prices, added, are at most the cost of any lots that answer -/
theorem bar {cs lots : List Int} {row : List (List Int)} {xs : List Rat} (hl : row.length = xs.length) (hx : ∀ x ∈ xs, 0 ≤ x) (hf : fitsX cs row xs) (ho : Okl cs.length lots) (ha : ansR lots row = true) : xs.sum ≤ ((costL cs lots : Int) : Rat) := by
  refine Rat.le_trans (prices_le lots row xs hl hx ha) ?_
  rw [sum_cost]
  refine sum_mono fun l hl => ?_
  obtain ⟨h0, h1⟩ := ho l hl
  have hi : l.toNat < cs.length := by omega
  have := hf l.toNat cs[l.toNat] (List.getElem?_eq_getElem hi)
  rw [Int.toNat_of_nonneg h0] at this
  rw [ixD_get h0, List.getElem?_eq_getElem hi]
  exact this
end Cov

/-! CovD: growing parts, in plain. -/
namespace Cov
open PySem DL TL FR

theorem pow_ge_one {r : Rat} (h : 1 ≤ r) : ∀ n : Nat, 1 ≤ r ^ n
  | 0 => by rw [Rat.pow_zero]; exact Rat.le_refl
  | n + 1 => by
    have ih := pow_ge_one h n
    rw [Rat.pow_succ]
    have h0 : (0 : Rat) ≤ r := by grind
    have := Rat.mul_le_mul_of_nonneg_right ih h0
    grind
theorem pow_mono {r : Rat} (h : 1 ≤ r) {m n : Nat} (hmn : m ≤ n) : r ^ m ≤ r ^ n := by
  obtain ⟨k, rfl⟩ : ∃ k, n = m + k := ⟨n - m, by omega⟩
  clear hmn
  induction k with
  | zero => exact Rat.le_refl
  | succ k ih =>
    rw [← Nat.add_assoc, Rat.pow_succ]
    have h1 := pow_ge_one h (m + k)
    have := Rat.mul_le_mul_of_nonneg_left h (show (0 : Rat) ≤ r ^ (m + k) by grind)
    grind
theorem pow_le_pow {r s : Rat} (h0 : 0 ≤ r) (h : r ≤ s) : ∀ n : Nat, r ^ n ≤ s ^ n
  | 0 => by rw [Rat.pow_zero, Rat.pow_zero]; exact Rat.le_refl
  | n + 1 => by
    have ih := pow_le_pow h0 h n
    rw [Rat.pow_succ, Rat.pow_succ]
    have h1 := Rat.mul_le_mul_of_nonneg_right ih h0
    have h2 := Rat.mul_le_mul_of_nonneg_left h (Rat.pow_nonneg (n := n) (show (0 : Rat) ≤ s by grind))
    grind
theorem pow_add' (r : Rat) (m n : Nat) : r ^ (m + n) = r ^ m * r ^ n := by
  induction n with
  | zero => rw [Nat.add_zero, Rat.pow_zero, Rat.mul_one]
  | succ n ih => rw [← Nat.add_assoc, Rat.pow_succ, Rat.pow_succ, ih, Rat.mul_assoc]
theorem pow_mul' (r : Rat) (m n : Nat) : r ^ (m * n) = (r ^ m) ^ n := by
  induction n with
  | zero => rw [Nat.mul_zero, Rat.pow_zero, Rat.pow_zero]
  | succ n ih => rw [Nat.mul_succ, pow_add', ih, Rat.pow_succ]
/-- Bernoulli -/
theorem bern {h : Rat} (h0 : 0 ≤ h) : ∀ n : Nat, 1 + (n : Rat) * h ≤ (1 + h) ^ n
  | 0 => by rw [Rat.pow_zero]; show 1 + ((0 : Nat) : Rat) * h ≤ 1; have : ((0 : Nat) : Rat) = 0 := rfl; rw [this]; grind
  | n + 1 => by
    have ih := bern h0 n
    rw [Rat.pow_succ]
    have h1 := Rat.mul_le_mul_of_nonneg_right ih (show (0 : Rat) ≤ 1 + h by grind)
    have h2 : (0 : Rat) ≤ (n : Rat) * h * h := Rat.mul_nonneg (Rat.mul_nonneg Rat.natCast_nonneg h0) h0
    rw [Rat.natCast_add]
    have : ((1 : Nat) : Rat) = 1 := rfl
    rw [this]
    grind

/-! ### a lot's part behind t turns -/
def rr (c : Int) : Rat := 1 + 1 / (c : Rat)
def X (c f : Int) (t : Nat) : Rat := (rr c ^ t - 1) / (f : Rat)
theorem pos_ne {c : Int} (h : 1 ≤ c) : (c : Rat) ≠ 0 := fun e => by have := Rat.intCast_eq_zero_iff.mp e; omega
theorem pos_pos {c : Int} (h : 1 ≤ c) : (0 : Rat) < (c : Rat) := Rat.intCast_pos.mpr (by omega)
theorem inv_nn {c : Int} (h : 1 ≤ c) : (0 : Rat) ≤ 1 / (c : Rat) := by
  have := Rat.inv_pos.mpr (pos_pos h)
  rw [Rat.div_def, Rat.one_mul]
  grind
theorem inv_le {c : Int} (h : 1 ≤ c) : 1 / (c : Rat) ≤ 1 := by
  have h1 : (1 : Rat) ≤ (c : Rat) := Rat.intCast_le_intCast.mpr h
  have h2 := Rat.mul_le_mul_of_nonneg_left h1 (inv_nn h)
  have h3 : 1 / (c : Rat) * (c : Rat) = 1 := Rat.div_mul_cancel (pos_ne h)
  grind
theorem rr_ge {c : Int} (h : 1 ≤ c) : 1 ≤ rr c := by have := inv_nn h; unfold rr; grind
theorem X_zero (c f : Int) : X c f 0 = 0 := by unfold X; rw [Rat.pow_zero, Rat.sub_self, Rat.div_def, Rat.zero_mul]
theorem X_succ {c f : Int} (hc : 1 ≤ c) (hf : 1 ≤ f) (t : Nat) : X c f (t + 1) = X c f t * rr c + 1 / ((f : Rat) * (c : Rat)) := by
  have h1 := pos_ne hc
  have h2 := pos_ne hf
  unfold X
  rw [Rat.pow_succ]
  have : rr c = 1 + 1 / (c : Rat) := rfl
  generalize rr c ^ t = y
  rw [this]
  grind
theorem X_nn {c f : Int} (hc : 1 ≤ c) (hf : 1 ≤ f) (t : Nat) : 0 ≤ X c f t := by
  unfold X
  rw [Rat.div_def]
  have h1 := pow_ge_one (rr_ge hc) t
  have h2 := Rat.inv_pos.mpr (pos_pos hf)
  exact Rat.mul_nonneg (by grind) (by grind)
theorem X_up {c f : Int} (hc : 1 ≤ c) (hf : 1 ≤ f) (t : Nat) : (c : Rat) * X c f (t + 1) = (c : Rat) * X c f t + (X c f t + 1 / (f : Rat)) := by
  rw [X_succ hc hf]
  have h1 := pos_ne hc
  have h2 := pos_ne hf
  have : rr c = 1 + 1 / (c : Rat) := rfl
  rw [this]
  grind
theorem rr_two {c : Int} (hc : 1 ≤ c) : 2 ≤ rr c ^ c.toNat := by
  have h := bern (inv_nn hc) c.toNat
  have e : ((c.toNat : Nat) : Rat) = (c : Rat) := by
    rw [← Rat.intCast_natCast, Int.toNat_of_nonneg (by omega)]
  rw [e] at h
  have h3 : (c : Rat) * (1 / (c : Rat)) = 1 := by rw [Rat.mul_comm]; exact Rat.div_mul_cancel (pos_ne hc)
  rw [h3] at h
  unfold rr
  grind
/-- a lot's part below 1 has few turns -/
theorem X_few {c f : Int} {L : Nat} (hc : 1 ≤ c) (hf : 1 ≤ f) (hL : (f : Rat) + 1 ≤ 2 ^ L) {t : Nat} (h : X c f t < 1) : t + 1 ≤ L * c.toNat := by
  rcases Nat.lt_or_ge t (L * c.toNat) with h1 | h1
  · exact h1
  · exfalso
    have h2 := pow_mono (rr_ge hc) h1
    rw [Nat.mul_comm, pow_mul'] at h2
    have h3 := pow_le_pow (by decide) (rr_two hc) L
    have h4 : rr c ^ t - 1 < (f : Rat) := by
      unfold X at h
      have := (Rat.div_lt_iff (pos_pos hf)).mp h
      grind
    grind
theorem X_le {c f : Int} (hc : 1 ≤ c) (hf : 1 ≤ f) (t : Nat) : X c f t ≤ ((2 ^ t : Nat) : Rat) := by
  have h1 : rr c ≤ 2 := by have := inv_le hc; unfold rr; grind
  have h2 := pow_le_pow (show 0 ≤ rr c by have := rr_ge hc; grind) h1 t
  have h3 := pow_ge_one (rr_ge hc) t
  have h4 : X c f t ≤ rr c ^ t - 1 := by
    unfold X
    have h5 := Rat.mul_le_mul_of_nonneg_left (inv_le hf) (show 0 ≤ rr c ^ t - 1 by grind)
    have e : (rr c ^ t - 1) / (f : Rat) = (rr c ^ t - 1) * (1 / (f : Rat)) := by
      rw [Rat.div_def, Rat.div_def, Rat.one_mul]
    rw [e]
    grind
  have h6 : ((2 ^ t : Nat) : Rat) = 2 ^ t := by rw [Rat.natCast_pow]; rfl
  rw [h6]
  grind
theorem rr_num {c : Int} (hc : 1 ≤ c) (t : Nat) : rr c ^ t * ((c.toNat ^ t : Nat) : Rat) = (((c + 1) ^ t : Int) : Rat) := by
  have e : ((c.toNat : Nat) : Rat) = (c : Rat) := by
    rw [← Rat.intCast_natCast, Int.toNat_of_nonneg (by omega)]
  have e2 : rr c * (c : Rat) = (((c + 1 : Int)) : Rat) := by
    have := pos_ne hc
    have h1 : ((1 : Int) : Rat) = 1 := rfl
    rw [Rat.intCast_add, h1]
    unfold rr
    grind
  induction t with
  | zero => rw [Rat.pow_zero, Nat.pow_zero, Int.pow_zero, Rat.one_mul]; rfl
  | succ t ih =>
    rw [Rat.pow_succ, Nat.pow_succ, Int.pow_succ, Rat.natCast_mul, Rat.intCast_mul, ← ih, ← e2, e]
    grind
theorem X_dv {c f : Int} (hc : 1 ≤ c) (hf : 1 ≤ f) {D : Nat} (t : Nat) (hD : f.toNat * c.toNat ^ t ∣ D) : Dv D (X c f t) := by
  refine Dv.up ?_ hD
  refine ⟨(c + 1) ^ t - (c.toNat ^ t : Nat), ?_⟩
  have e : ((f.toNat : Nat) : Rat) = (f : Rat) := by
    rw [← Rat.intCast_natCast, Int.toNat_of_nonneg (by omega)]
  have := pos_ne hf
  have h2 := rr_num hc t
  rw [Rat.natCast_mul, e, Rat.intCast_sub, ← h2, Rat.intCast_natCast]
  unfold X
  generalize rr c ^ t = y
  generalize ((c.toNat ^ t : Nat) : Rat) = z
  grind

/-! ### sums over lots -/
theorem sum_zero {α : Type} : ∀ l : List α, (l.map fun _ => (0 : Rat)).sum = 0
  | [] => rfl
  | x :: l => by rw [List.map_cons, List.sum_cons, sum_zero l, Rat.add_zero]
theorem sum_one (g : Int → Rat) : ∀ (n k : Nat), ((List.range n).map fun i => if ((i : Nat) : Int) = (k : Int) then g i else 0).sum = if k < n then g k else 0
  | 0, k => by simp
  | n + 1, k => by
    rw [List.range_succ, List.map_append, List.map_cons, List.map_nil, sum_snoc, sum_one g n k]
    by_cases h : n = k
    · subst h
      rw [if_neg (Nat.lt_irrefl n), if_pos rfl, if_pos (Nat.lt_succ_self n), Rat.zero_add]
    · rw [if_neg (show ¬ ((n : Nat) : Int) = (k : Int) by omega), Rat.add_zero]
      by_cases h2 : k < n
      · rw [if_pos h2, if_pos (by omega)]
      · rw [if_neg h2, if_neg (by omega)]
theorem sum_ind (g : Int → Rat) (n : Nat) : ∀ call : List Int, call.Nodup → Okl n call → ((List.range n).map fun i => if ((i : Nat) : Int) ∈ call then g i else 0).sum = (call.map g).sum
  | [], _, _ => by
    have : (fun i : Nat => if ((i : Nat) : Int) ∈ ([] : List Int) then g i else 0) = fun _ => (0 : Rat) := funext fun i => if_neg (by simp)
    rw [this, sum_zero]; rfl
  | x :: call, hn, ho => by
    obtain ⟨hx, hn⟩ := List.nodup_cons.mp hn
    have ih := sum_ind g n call hn fun l hl => ho l (List.mem_cons_of_mem _ hl)
    obtain ⟨k, rfl⟩ : ∃ k : Nat, x = (k : Int) := ⟨x.toNat, by have := ho x List.mem_cons_self; omega⟩
    have hk : k < n := by have := ho _ List.mem_cons_self; omega
    have e : ∀ i : Nat, (if ((i : Nat) : Int) ∈ ((k : Int) :: call) then g i else 0) = (if ((i : Nat) : Int) = (k : Int) then g i else 0) + if ((i : Nat) : Int) ∈ call then g i else 0 := by
      intro i
      by_cases h1 : ((i : Nat) : Int) = (k : Int)
      · rw [if_pos (by rw [h1]; exact List.mem_cons_self), if_pos h1, if_neg (by rw [h1]; exact hx), Rat.add_zero]
      · by_cases h2 : ((i : Nat) : Int) ∈ call
        · rw [if_pos (List.mem_cons_of_mem _ h2), if_neg h1, if_pos h2, Rat.zero_add]
        · rw [if_neg (fun h => by rcases List.mem_cons.mp h with h | h; exact h1 h; exact h2 h), if_neg h1, if_neg h2, Rat.zero_add]
    rw [List.map_congr_left fun i _ => e i, sum_add, ih, sum_one, if_pos hk, List.map_cons, List.sum_cons]

/-! ### turns -/
/-- costs, f and L -/
structure OkG (cs : List Int) (f : Int) (L : Nat) : Prop where
  cost : ∀ c ∈ cs, 1 ≤ c ∧ c ≤ 5
  f1 : 1 ≤ f
  f4 : f ≤ 4
  L3 : L ≤ 3
  fL : (f : Rat) + 1 ≤ 2 ^ L
structure OkCall (n : Nat) (f : Int) (call : List Int) : Prop where
  ne : call ≠ []
  up : call.Pairwise (· < ·)
  ok : Okl n call
  len : (call.length : Int) ≤ f
theorem OkCall.nodup {n : Nat} {f : Int} {call : List Int} (h : OkCall n f call) : call.Nodup := h.up.imp fun h => by omega
def tot (cs : List Int) (f : Int) (t : Int → Nat) (call : List Int) : Rat := (call.map fun l => X (ixD cs l) f (t l)).sum
def bump (t : Int → Nat) (call : List Int) (k : Nat) : Int → Nat := fun i => if i ∈ call then t i + k else t i
theorem bump_zero (t : Int → Nat) (call : List Int) : bump t call 0 = t := funext fun i => by unfold bump; split <;> rfl
theorem bump_succ (t : Int → Nat) (call : List Int) (k : Nat) : bump t call (k + 1) = bump (bump t call k) call 1 := funext fun i => by
  unfold bump
  split <;> omega
theorem bump_bump (t : Int → Nat) (call : List Int) (j k : Nat) : bump (bump t call j) call k = bump t call (j + k) := funext fun i => by
  unfold bump
  split <;> omega
section
variable {cs : List Int} {f : Int} {L : Nat}
theorem OkG.at (h : OkG cs f L) {l : Int} (hl : 0 ≤ l ∧ l < cs.length) : 1 ≤ ixD cs l ∧ ixD cs l ≤ 5 := by
  have hi : l.toNat < cs.length := by omega
  rw [ixD_get hl.1, List.getElem?_eq_getElem hi]
  exact h.cost _ (List.getElem_mem hi)
theorem tot_nn (h : OkG cs f L) {t : Int → Nat} {call : List Int} (ho : Okl cs.length call) : 0 ≤ tot cs f t call := by
  unfold tot
  induction call with
  | nil => exact Rat.le_refl
  | cons x r ih =>
    rw [List.map_cons, List.sum_cons]
    have h1 := X_nn (h.at (ho x List.mem_cons_self)).1 h.f1 (t x)
    have h2 := ih fun l hl => ho l (List.mem_cons_of_mem _ hl)
    grind
theorem tot_ge (h : OkG cs f L) {t : Int → Nat} : ∀ {call : List Int}, Okl cs.length call → ∀ l ∈ call, X (ixD cs l) f (t l) ≤ tot cs f t call
  | [], _, l, hl => by cases hl
  | x :: r, ho, l, hl => by
    have h2 : 0 ≤ tot cs f t r := tot_nn h fun y hy => ho y (List.mem_cons_of_mem _ hy)
    have h1 := X_nn (h.at (ho x List.mem_cons_self)).1 h.f1 (t x)
    have e : tot cs f t (x :: r) = X (ixD cs x) f (t x) + tot cs f t r := rfl
    rw [e]
    rcases List.mem_cons.mp hl with rfl | hl
    · grind
    · have := tot_ge h (t := t) (fun y hy => ho y (List.mem_cons_of_mem _ hy)) l hl
      grind
/-- no lot has more turns than L times its cost -/
def Few (cs : List Int) (L : Nat) (t : Int → Nat) : Prop := ∀ l : Int, 0 ≤ l → l < cs.length → t l ≤ L * (ixD cs l).toNat
theorem few_bump (h : OkG cs f L) {t : Int → Nat} {call : List Int} (ho : Okl cs.length call) (hf : Few cs L t) (hs : tot cs f t call < 1) : Few cs L (bump t call 1) := by
  intro l h0 h1
  unfold bump
  split
  · rename_i hl
    have := tot_ge h (t := t) ho l hl
    exact X_few (h.at ⟨h0, h1⟩).1 h.f1 h.fL (by grind)
  · exact hf l h0 h1
def whole (cs : List Int) (f : Int) (t : Int → Nat) : Rat := ((List.range cs.length).map fun i => ((ixD cs ((i : Nat) : Int) : Int) : Rat) * X (ixD cs ((i : Nat) : Int)) f (t i)).sum
theorem sum_const (x : Rat) : ∀ l : List Int, (l.map fun _ => x).sum = (l.length : Rat) * x
  | [] => by show (0 : Rat) = ((0 : Nat) : Rat) * x; have : ((0 : Nat) : Rat) = 0 := rfl; rw [this, Rat.zero_mul]
  | y :: l => by
    have : ((1 : Nat) : Rat) = 1 := rfl
    rw [List.map_cons, List.sum_cons, sum_const x l, List.length_cons, Rat.natCast_add, this]
    grind
/-- a turn costs less than 2 -/
theorem turn_cost (h : OkG cs f L) {t : Int → Nat} {call : List Int} (hc : OkCall cs.length f call) (hs : tot cs f t call < 1) : whole cs f (bump t call 1) ≤ whole cs f t + 2 := by
  have e : whole cs f (bump t call 1) = whole cs f t + (call.map fun l => X (ixD cs l) f (t l) + 1 / (f : Rat)).sum := by
    unfold whole
    rw [← sum_ind (fun l => X (ixD cs l) f (t l) + 1 / (f : Rat)) cs.length call hc.nodup hc.ok, ← sum_add]
    refine congrArg List.sum (List.map_congr_left fun i hi => ?_)
    have hi' : i < cs.length := List.mem_range.mp hi
    unfold bump
    split
    · exact X_up (h.at ⟨by omega, by omega⟩).1 h.f1 _
    · rw [Rat.add_zero]
  rw [e, sum_add, sum_const]
  have h1 : (call.length : Rat) * (1 / (f : Rat)) ≤ 1 := by
    have h2 : ((call.length : Nat) : Rat) ≤ (f : Rat) := by
      rw [← Rat.intCast_natCast]
      exact Rat.intCast_le_intCast.mpr hc.len
    have h3 := Rat.mul_le_mul_of_nonneg_right h2 (inv_nn h.f1)
    have h4 : (f : Rat) * (1 / (f : Rat)) = 1 := by rw [Rat.mul_comm]; exact Rat.div_mul_cancel (pos_ne h.f1)
    grind
  unfold tot at hs
  grind
/-- how many turns a call makes -/
structure First (cs : List Int) (f : Int) (t : Int → Nat) (call : List Int) (k : Nat) : Prop where
  at_ : 1 ≤ tot cs f (bump t call k) call
  below : ∀ j < k, tot cs f (bump t call j) call < 1
theorem First.one {t : Int → Nat} {call : List Int} {j k : Nat} (h : First cs f t call j) (h2 : First cs f t call k) : j = k := by
  rcases Nat.lt_trichotomy j k with e | e | e
  · have a := h2.below j e
    have b := h.at_
    exact absurd b (Rat.not_le.mpr a)
  · exact e
  · have a := h.below k e
    have b := h2.at_
    exact absurd b (Rat.not_le.mpr a)
/-- the run over a row -/
def Run (cs : List Int) (f : Int) : (Int → Nat) → List (List Int) → List Nat → (Int → Nat) → Prop
  | t, [], ks, t' => ks = [] ∧ t' = t
  | t, c :: row, ks, t' => ∃ k ks', ks = k :: ks' ∧ First cs f t c k ∧ Run cs f (bump t c k) row ks' t'
theorem Run.one : ∀ {row : List (List Int)} {t : Int → Nat} {ks ks2 : List Nat} {t1 t2 : Int → Nat}, Run cs f t row ks t1 → Run cs f t row ks2 t2 → ks = ks2 ∧ t1 = t2
  | [], _, _, _, _, _, h, h2 => ⟨h.1.trans h2.1.symm, h.2.trans h2.2.symm⟩
  | c :: row, _, _, _, _, _, h, h2 => by
    obtain ⟨k, ks, rfl, h3, h4⟩ := h
    obtain ⟨k', ks', rfl, h5, h6⟩ := h2
    obtain rfl := h3.one h5
    obtain ⟨rfl, h7⟩ := h4.one h6
    exact ⟨rfl, h7⟩
theorem Run.snoc : ∀ {row : List (List Int)} {t : Int → Nat} {ks : List Nat} {t1 : Int → Nat} {c : List Int} {k : Nat}, Run cs f t row ks t1 → First cs f t1 c k → Run cs f t (row ++ [c]) (ks ++ [k]) (bump t1 c k)
  | [], _, _, _, c, k, h, h2 => by
    obtain ⟨rfl, rfl⟩ := h
    exact ⟨k, [], rfl, h2, rfl, rfl⟩
  | d :: row, _, _, _, c, k, h, h2 => by
    obtain ⟨j, ks, rfl, h3, h4⟩ := h
    exact ⟨j, ks ++ [k], rfl, h3, h4.snoc h2⟩
theorem first_few (h : OkG cs f L) {t : Int → Nat} {call : List Int} (hc : OkCall cs.length f call) (hf : Few cs L t) : ∀ k : Nat, (∀ j < k, tot cs f (bump t call j) call < 1) → Few cs L (bump t call k) ∧ whole cs f (bump t call k) ≤ whole cs f t + 2 * (k : Rat)
  | 0, _ => by
    rw [bump_zero]
    refine ⟨hf, ?_⟩
    have : ((0 : Nat) : Rat) = 0 := rfl
    rw [this]
    grind
  | k + 1, hb => by
    obtain ⟨h1, h2⟩ := first_few h hc hf k fun j hj => hb j (by omega)
    have h3 := hb k (by omega)
    have h4 := turn_cost h hc h3
    rw [← bump_succ] at h4
    refine ⟨by rw [bump_succ]; exact few_bump h hc.ok h1 h3, ?_⟩
    rw [Rat.natCast_add]
    have : ((1 : Nat) : Rat) = 1 := rfl
    rw [this]
    grind
def turnsOf (row : List (List Int)) (ks : List Nat) (l : Int) : Nat := ((row.zip ks).map fun p => if l ∈ p.1 then p.2 else 0).sum
theorem Run.facts (h : OkG cs f L) : ∀ {row : List (List Int)} {t : Int → Nat} {ks : List Nat} {t' : Int → Nat}, (∀ c ∈ row, OkCall cs.length f c) → Few cs L t → Run cs f t row ks t' →
    Few cs L t' ∧ whole cs f t' ≤ whole cs f t + 2 * ((ks.sum : Nat) : Rat) ∧ (∀ l, t' l = t l + turnsOf row ks l) ∧ ks.length = row.length
  | [], t, _, _, _, hf, hr => by
    obtain ⟨rfl, rfl⟩ := hr
    refine ⟨hf, ?_, fun l => rfl, rfl⟩
    have : (([].sum : Nat) : Rat) = 0 := rfl
    rw [this]
    grind
  | c :: row, t, _, t', hc, hf, hr => by
    obtain ⟨k, ks, rfl, h1, h2⟩ := hr
    obtain ⟨h3, h4⟩ := first_few h (hc c List.mem_cons_self) hf k h1.below
    obtain ⟨h5, h6, h7, h8⟩ := Run.facts h (fun d hd => hc d (List.mem_cons_of_mem _ hd)) h3 h2
    refine ⟨h5, ?_, fun l => ?_, by rw [List.length_cons, List.length_cons, h8]⟩
    · rw [List.sum_cons, Rat.natCast_add]
      grind
    · rw [h7]
      have e : turnsOf (c :: row) (k :: ks) l = (if l ∈ c then k else 0) + turnsOf row ks l := rfl
      rw [e]
      unfold bump
      split <;> omega
end
end Cov

/-! CovE: the growing way, run; drawn lots; what may be shown. -/
namespace Cov
open PySem DL TL FR

/-! ### what may be shown -/
theorem shI {i : Int} (h : i.natAbs < Big) {k : Nat} : Shw k 2000 (eI i) := by
  have := big_log h
  exact ⟨.int i, by show (decide (i.natAbs.log2 < 1920)) = true; exact decide_eq_true (by omega), by show i.natAbs.log2 + 2 ≤ 2000; omega⟩
theorem shB {b : Bool} {k n : Nat} (hn : 5 ≤ n) : Shw k n (eB b) := ⟨.bool b, by simp [eB, PyData.showable], by show 5 ≤ n; exact hn⟩
theorem Shw.mono {j k m n : Nat} {d : D} (h : Shw j m d) (hj : j ≤ k) (hm : m ≤ n) : Shw k n d := ⟨h.1.mono hj, h.2.1, Nat.le_trans h.2.2 hm⟩
theorem sh2 {α β : Type} {ea : α → D} {eb : β → D} {p : α × β} {k n r : Nat} (h1 : Shw k n (ea p.1)) (h2 : Shw k n (eb p.2)) (hr : 3 + 2 * (n + 2) ≤ r) : Shw (k + 1) r (e2 ea eb p) :=
  Shw.tup (m := 2) (fun d hd => by
    simp at hd
    rcases hd with rfl | rfl
    · exact h1
    · exact h2) (by simp) hr
theorem sh3 {α β γ : Type} {ea : α → D} {eb : β → D} {ec : γ → D} {p : α × β × γ} {k n r : Nat} (h1 : Shw k n (ea p.1)) (h2 : Shw k n (eb p.2.1)) (h3 : Shw k n (ec p.2.2)) (hr : 3 + 3 * (n + 2) ≤ r) : Shw (k + 1) r (e3 ea eb ec p) :=
  Shw.tup (m := 3) (fun d hd => by
    simp at hd
    rcases hd with rfl | rfl | rfl
    · exact h1
    · exact h2
    · exact h3) (by simp) hr
theorem shT {α : Type} {e : α → D} {xs : List α} {k n m r : Nat} (h : ∀ x ∈ xs, Shw k n (e x)) (hm : xs.length ≤ m) (hr : 3 + m * (n + 2) ≤ r) : Shw (k + 1) r (eT e xs) :=
  Shw.tup (Shw.map h) (by rw [List.length_map]; exact hm) hr
theorem shL {α : Type} {e : α → D} {xs : List α} {k n m r : Nat} (h : ∀ x ∈ xs, Shw k n (e x)) (hm : xs.length ≤ m) (hr : 3 + m * (n + 2) ≤ r) : Shw (k + 1) r (eL e xs) :=
  Shw.lst (Shw.map h) (by rw [List.length_map]; exact hm) hr
theorem okR {d : D} {k n : Nat} (h : Shw k n d) (hk : k ≤ 64) (hn : n ≤ 2 ^ 24) : okRepr d = true := by
  unfold okRepr
  rw [h.1.shaped hk, h.2.1]
  have l := h.2.2
  have e := line24
  exact decide_eq_true (by rw [e]; omega)
theorem rep_is {α : Type} {e : α → D} {m : Tm α} {a : α} (h : Is m a) (hr : okRepr (e a) = true) : Is (Tm.o1 (tRepr e) m) (e a).shown := Is.o1 h ⟨hr, rfl⟩
/-- two shows of the same -/
theorem same_is {α : Type} {e : α → D} {m n : Tm α} {a : α} (h : Is m a) (h2 : Is n a) (hr : okRepr (e a) = true) : Is (Tm.o2 tNe (Tm.o1 (tRepr e) m) (Tm.o1 (tRepr e) n)) false :=
  Is.o2 (rep_is h hr) (rep_is h2 hr) ⟨trivial, by show (!decide _) = false; rw [decide_eq_true rfl]; rfl⟩
theorem eq_is {α : Type} [DecidableEq α] {m n : Tm α} {a : α} (h : Is m a) (h2 : Is n a) : Is (Tm.o2 tNe m n) false := Is.o2 h h2 ⟨trivial, by show (!decide _) = false; rw [decide_eq_true rfl]; rfl⟩
theorem or_ff {a b : Tm Bool} (h : Is a false) (h2 : Is b false) : Is (.or a b) false := Is.or h fun _ => h2
theorem shFr {x : Rat} {k : Nat} (h : (fr x).1.natAbs < Big ∧ (fr x).2.natAbs < Big) : Shw (k + 1) 5000 (e2 eI eI (fr x)) := sh2 (shI h.1) (shI h.2) (by decide)

/-! ### the numbers of growing parts -/
def DD : Nat := 12 * 60 ^ 17
def BB : Nat := 2 ^ 20
theorem dvd60 {c : Int} (h1 : 1 ≤ c) (h5 : c ≤ 5) : c.toNat ∣ 60 := by
  have : c = 1 ∨ c = 2 ∨ c = 3 ∨ c = 4 ∨ c = 5 := by omega
  rcases this with rfl | rfl | rfl | rfl | rfl <;> decide
theorem dvd12 {f : Int} (h1 : 1 ≤ f) (h4 : f ≤ 4) : f.toNat ∣ 12 := by
  have : f = 1 ∨ f = 2 ∨ f = 3 ∨ f = 4 := by omega
  rcases this with rfl | rfl | rfl | rfl <;> decide
theorem dvd_DD {c f : Int} {t k : Nat} (hc : 1 ≤ c ∧ c ≤ 5) (hf : 1 ≤ f ∧ f ≤ 4) (ht : t ≤ k) : f.toNat * c.toNat ^ t ∣ 12 * 60 ^ k := by
  refine Nat.mul_dvd_mul (dvd12 hf.1 hf.2) (Nat.dvd_trans ?_ (Nat.pow_dvd_pow 60 ht))
  cases t with
  | zero => exact Nat.dvd_refl _
  | succ t => exact (Nat.pow_dvd_pow_iff (by omega)).mpr (dvd60 hc.1 hc.2)
theorem DD_pos : 0 < DD := by unfold DD; decide
theorem BB_nn : (0 : Rat) ≤ (BB : Rat) := Rat.natCast_nonneg
theorem small_big {n : Nat} (h : n ≤ 40) : (n * BB + BB + 1) * DD < Big := by
  refine big_lt (k := 300) ?_ (by decide)
  have h1 : n * BB ≤ 40 * BB := Nat.mul_le_mul_right _ h
  have h2 : (n * BB + BB + 1) * DD ≤ (40 * BB + BB + 1) * DD := Nat.mul_le_mul_right _ (by omega)
  refine Nat.le_trans h2 ?_
  unfold BB DD
  decide +kernel
theorem BD_big : (BB + 1) * DD < Big := by
  have := small_big (n := 0) (by decide)
  simpa using this
theorem X_p {c f : Int} {t : Nat} (hc : 1 ≤ c ∧ c ≤ 5) (hf : 1 ≤ f ∧ f ≤ 4) (ht : t ≤ 16) : Dv DD (X c f t) ∧ 0 ≤ X c f t ∧ X c f t ≤ (BB : Rat) := by
  refine ⟨X_dv hc.1 hf.1 t (dvd_DD hc hf (by omega)), X_nn hc.1 hf.1 t, Rat.le_trans (X_le hc.1 hf.1 t) ?_⟩
  refine Rat.natCast_le_natCast.mpr ?_
  unfold BB
  exact Nat.pow_le_pow_right (by decide) (by omega)
theorem neg_BB {x : Rat} (h : 0 ≤ x) : -(BB : Rat) ≤ x := by have := BB_nn; grind
theorem X_ok {c f : Int} {t : Nat} (hc : 1 ≤ c ∧ c ≤ 5) (hf : 1 ≤ f ∧ f ≤ 4) (ht : t ≤ 16) : OkP DD BB (fr (X c f t)) := by
  obtain ⟨h1, h2, h3⟩ := X_p hc hf ht
  exact OkP.fr DD_pos h1 (neg_BB h2) h3 BD_big
def parts (cs : List Int) (f : Int) (t : Int → Nat) : List (Int × Int) := (List.range cs.length).map fun i => fr (X (ixD cs ((i : Nat) : Int)) f (t i))
theorem parts_len (cs : List Int) (f : Int) (t : Int → Nat) : (parts cs f t).length = cs.length := by unfold parts; simp
theorem parts_get (cs : List Int) (f : Int) (t : Int → Nat) {i : Nat} (hi : i < cs.length) : (parts cs f t)[i]? = some (fr (X (ixD cs ((i : Nat) : Int)) f (t i))) := by
  unfold parts
  rw [List.getElem?_map, List.getElem?_range hi]; rfl
theorem parts_at (cs : List Int) (f : Int) (t : Int → Nat) {l : Int} (hl : 0 ≤ l ∧ l < cs.length) : ixD (parts cs f t) l = fr (X (ixD cs l) f (t l)) := by
  rw [ixD_get hl.1, parts_get cs f t (by omega)]
  rw [Int.toNat_of_nonneg hl.1]; rfl
section
variable {cs : List Int} {f : Int} {L : Nat}
theorem Few.le (h : OkG cs f L) {t : Int → Nat} (hf : Few cs L t) {l : Int} (hl : 0 ≤ l ∧ l < cs.length) : t l ≤ 15 := by
  have h1 := hf l hl.1 hl.2
  have h2 := (h.at hl).2
  have h3 := h.L3
  have h4 : L * (ixD cs l).toNat ≤ 3 * 5 := Nat.mul_le_mul h3 (by omega)
  omega
theorem tot_is (h : OkG cs f L) {t : Int → Nat} (hf : Few cs L t) {call : List Int} (hc : OkCall cs.length f call) : (∀ p ∈ call.map fun l => ixD (parts cs f t) l, OkP DD BB p) ∧ ((call.map fun l => ixD (parts cs f t) l).length * BB + 1) * DD < Big ∧ ((call.map fun l => ixD (parts cs f t) l).map q).sum = tot cs f t call := by
  have hl4 : call.length ≤ 4 := by have := hc.len; have := h.f4; omega
  refine ⟨fun p hp => ?_, ?_, ?_⟩
  · obtain ⟨l, hl, rfl⟩ := List.mem_map.mp hp
    rw [parts_at cs f t (hc.ok l hl)]
    exact X_ok (h.at (hc.ok l hl)) ⟨h.f1, h.f4⟩ (by have := hf.le h (hc.ok l hl); omega)
  · have := small_big (n := (call.map fun l => ixD (parts cs f t) l).length) (by rw [List.length_map]; omega)
    have e : ((call.map fun l => ixD (parts cs f t) l).length * BB + 1) * DD ≤ ((call.map fun l => ixD (parts cs f t) l).length * BB + BB + 1) * DD := Nat.mul_le_mul_right _ (by omega)
    omega
  · unfold tot
    rw [List.map_map]
    refine congrArg List.sum (List.map_congr_left fun l hl => ?_)
    show q (ixD (parts cs f t) l) = _
    rw [parts_at cs f t (hc.ok l hl), q_fr]
theorem items_is (h : OkG cs f L) {t : Int → Nat} {call : List Int} (hc : OkCall cs.length f call) : Is (Tm.amap (Tm.pure call) (fun (x2 : Int) => (Tm.o2 tIx (Tm.pure (parts cs f t)) (Tm.pure x2)))) (call.map fun l => ixD (parts cs f t) l) :=
  Is.amap (Is.pure call) fun l hl => Is.o2 (Is.pure _) (Is.pure l) ⟨okIx (by rw [parts_len]; exact hc.ok l hl), rfl⟩
theorem ge_fr (x : Rat) : decide ((fr x).2 ≤ (fr x).1) = decide (1 ≤ x) := by
  have : (1 ≤ x) ↔ (fr x).2 ≤ (fr x).1 := by
    rw [Rat.le_iff]
    show (1 : Int) * (x.den : Int) ≤ x.num * ((1 : Nat) : Int) ↔ _
    rw [Int.natCast_one, Int.mul_one, Int.one_mul]; rfl
  exact decide_eq_decide.mpr this.symm
theorem answered_is (h : OkG cs f L) {t : Int → Nat} (hf : Few cs L t) {call : List Int} (hc : OkCall cs.length f call) : Is (p_are_answered (parts cs f t) call) (decide (1 ≤ tot cs f t call)) := by
  obtain ⟨h1, h2, h3⟩ := tot_is h hf hc
  unfold p_are_answered
  refine Is.bind (Is.o1 (items_is h hc) (sum_is DD_pos h1 h2)) ?_
  rw [h3]
  exact Is.o2 (Is.pure _) (Is.pure _) ⟨trivial, ge_fr _⟩
theorem ltot_is (h : OkG cs f L) {t : Int → Nat} (hf : Few cs L t) {call : List Int} (hc : OkCall cs.length f call) : Is (Tm.o1 p__law_sum (Tm.amap (Tm.pure call) (fun (x10 : Int) => (Tm.o2 tIx (Tm.pure (parts cs f t)) (Tm.pure x10))))) (fr (tot cs f t call)) := by
  obtain ⟨h1, h2, h3⟩ := tot_is h hf hc
  rw [← h3]
  exact Is.o1 (items_is h hc) (lsum_is DD_pos h1 h2)
theorem one_div (c f : Int) : q (1, f * c) = 1 / ((f : Rat) * (c : Rat)) := by
  unfold q
  show ((1 : Int) : Rat) / ((f * c : Int) : Rat) = _
  rw [Rat.intCast_mul]; rfl
theorem small_nat {i : Int} (h : i.natAbs ≤ 2 ^ 100) : i.natAbs < Big := big_lt h (by decide)
/-- the last of a turn's fractions -/
theorem unit_ok {c : Int} (hc : 1 ≤ c ∧ c ≤ 5) (hf : 1 ≤ f ∧ f ≤ 4) : OkP DD BB (1, f * c) := by
  have hp : 1 ≤ f * c := by have := Int.mul_le_mul hf.1 hc.1 (by decide) (by omega); simpa using this
  have hp2 : f * c ≤ 20 := by
    have := Int.mul_le_mul hf.2 hc.2 (by omega) (by decide)
    simpa using this
  have e : 1 / ((f : Rat) * (c : Rat)) = X c f 1 := by
    rw [X_succ hc.1 hf.1, X_zero, Rat.zero_mul, Rat.zero_add]
  obtain ⟨h1, h2, h3⟩ := X_p (t := 1) hc hf (by decide)
  exact ⟨by show 0 < f * c; omega, small_nat (by show 1 ≤ 2 ^ 100; decide), small_nat (by show (f * c).natAbs ≤ 2 ^ 100; omega), by rw [one_div, e]; exact h1, by rw [one_div, e]; exact neg_BB h2, by rw [one_div, e]; exact h3⟩
theorem num_le {x : Rat} (h1 : Dv DD x) (h2 : 0 ≤ x) (h3 : x ≤ (BB : Rat)) : (fr x).1.natAbs ≤ 2 ^ 200 ∧ (fr x).2.natAbs ≤ 2 ^ 200 := by
  have b := Bd.of DD_pos h1 (neg_BB h2) h3 (Nat.le_refl _)
  have e : (BB + 1) * DD ≤ 2 ^ 200 := by unfold BB DD; decide +kernel
  refine ⟨by have := b.1; show x.num.natAbs ≤ _; omega, ?_⟩
  show ((x.den : Int)).natAbs ≤ _
  rw [Int.natAbs_natCast]
  have := b.2
  omega
theorem mul_le200 {i j : Int} (h : i.natAbs ≤ 2 ^ 200) (h2 : j.natAbs ≤ 2 ^ 10) : (i * j).natAbs < Big := by
  rw [Int.natAbs_mul]
  have := Nat.mul_le_mul h h2
  rw [← Nat.pow_add] at this
  exact big_lt this (by decide)
theorem grown_is {c : Int} (hc : 1 ≤ c ∧ c ≤ 5) (hf : 1 ≤ f ∧ f ≤ 4) {t : Nat} (ht : t ≤ 15) : Is (p_grown_part c f (fr (X c f t))) (fr (X c f (t + 1))) := by
  obtain ⟨h1, h2, h3⟩ := X_p (t := t) hc hf (by omega)
  obtain ⟨n1, n2⟩ := num_le h1 h2 h3
  have hpos := fr_pos (X c f t)
  have hc10 : c.natAbs ≤ 2 ^ 10 := by omega
  have hc11 : (c + 1).natAbs ≤ 2 ^ 10 := by omega
  have e1 : q ((fr (X c f t)).1 * (c + 1), (fr (X c f t)).2 * c) = X c f t * rr c := by
    have h5 : X c f t = q (fr (X c f t)) := (q_fr _).symm
    have h6 : ((fr (X c f t)).2 : Rat) ≠ 0 := pos_ne (by omega)
    have h7 := pos_ne hc.1
    have h8 : q (fr (X c f t)) = ((fr (X c f t)).1 : Rat) / ((fr (X c f t)).2 : Rat) := rfl
    rw [h8] at h5
    unfold q rr
    show (((fr (X c f t)).1 * (c + 1) : Int) : Rat) / (((fr (X c f t)).2 * c : Int) : Rat) = X c f t * (1 + 1 / (c : Rat))
    have h9 : ((1 : Int) : Rat) = 1 := rfl
    rw [Rat.intCast_mul, Rat.intCast_mul, Rat.intCast_add, h9]
    generalize ((fr (X c f t)).1 : Rat) = a at *
    generalize ((fr (X c f t)).2 : Rat) = b at *
    rw [h5]
    grind
  have u := unit_ok hc hf
  have es : X c f t * rr c + 1 / ((f : Rat) * (c : Rat)) = X c f (t + 1) := (X_succ hc.1 hf.1 t).symm
  obtain ⟨g1, g2, g3⟩ := X_p (t := t + 1) hc hf (by omega)
  have hu : 0 ≤ q (1, f * c) := by rw [one_div]; have := X_nn hc.1 hf.1 1; rw [X_succ hc.1 hf.1, X_zero, Rat.zero_mul, Rat.zero_add] at this; exact this
  have hd : Dv DD (X c f t * rr c) := by
    have e : X c f t * rr c = X c f (t + 1) + -(q (1, f * c)) := by rw [← es, one_div]; grind
    rw [e]
    refine g1.add ?_
    obtain ⟨n, hn⟩ := u.dv
    exact ⟨-n, by rw [Rat.neg_mul, hn]; rfl⟩
  have hnn : 0 ≤ X c f t * rr c := Rat.mul_nonneg h2 (by have := rr_ge hc.1; grind)
  have ok1 : OkP DD BB ((fr (X c f t)).1 * (c + 1), (fr (X c f t)).2 * c) := ⟨Int.mul_pos hpos (by omega), mul_le200 n1 hc11, mul_le200 n2 hc10, by rw [e1]; exact hd, by rw [e1]; exact neg_BB hnn, by
    rw [e1]
    rw [one_div] at hu
    rw [← es] at g3
    grind⟩
  unfold p_grown_part
  refine Is.bind (Is.pure _) (Is.o1 (Is.lim (xs := [((fr (X c f t)).1 * (c + 1), (fr (X c f t)).2 * c), (1, f * c)]) (Is.cons ?_ (Is.cons ?_ Is.nil)) (by show 2 ≤ 2 ^ 24; decide)) ?_)
  · exact Is.o2 (Is.o2 (Is.pure _) (Is.o2 (Is.pure c) (Is.pure 1) (Is.pure (c + 1))) ⟨okMul_big (Nat.lt_of_le_of_lt n1 (by exact big_lt (Nat.le_refl _) (by decide))) (small_nat (by omega)), rfl⟩) (Is.o2 (Is.pure _) (Is.pure c) ⟨okMul_big (Nat.lt_of_le_of_lt n2 (big_lt (Nat.le_refl _) (by decide))) (small_nat (by omega)), rfl⟩) (Is.pure _)
  · exact Is.o2 (Is.pure 1) (Is.o2 (Is.pure f) (Is.pure c) ⟨okMul_big (small_nat (by omega)) (small_nat (by omega)), rfl⟩) (Is.pure _)
  · have := sum_is (ps := [((fr (X c f t)).1 * (c + 1), (fr (X c f t)).2 * c), (1, f * c)]) DD_pos (fun p hp => by
      simp at hp
      rcases hp with rfl | rfl
      · exact ok1
      · exact u) (by
      have := small_big (n := 2) (by decide)
      have e : (2 * BB + 1) * DD ≤ (2 * BB + BB + 1) * DD := Nat.mul_le_mul_right _ (by omega)
      show (2 * BB + 1) * DD < Big
      omega)
    have e2 : ([((fr (X c f t)).1 * (c + 1), (fr (X c f t)).2 * c), (1, f * c)].map q).sum = X c f (t + 1) := by
      rw [← es, ← e1, ← one_div]
      show q _ + (q _ + 0) = _
      rw [Rat.add_zero]
    rw [e2] at this
    exact this
theorem enu_parts (t : Int → Nat) : enuI 0 (parts cs f t) = (List.range cs.length).map fun i => (((i : Nat) : Int), fr (X (ixD cs ((i : Nat) : Int)) f (t i))) := by
  refine List.ext_getElem? fun i => ?_
  have key : ∀ {α : Type} (xs : List α) (n i : Nat), (enuI n xs)[i]? = (xs[i]?).map fun x => (((n + i : Nat) : Int), x) := by
    intro α xs
    induction xs with
    | nil => intro n i; rfl
    | cons x xs ih =>
      intro n i
      cases i with
      | zero => rfl
      | succ i =>
        rw [enuI, List.getElem?_cons_succ, ih, List.getElem?_cons_succ]
        congr 1
        funext y
        congr 2
        omega
  rw [key]
  unfold parts
  rw [List.getElem?_map, List.getElem?_map]
  cases h : (List.range cs.length)[i]? with
  | none => rfl
  | some j =>
    obtain ⟨_, h2⟩ := List.getElem?_eq_some_iff.mp h
    rw [List.getElem_range] at h2
    subst h2
    show some (((0 + i : Nat) : Int), _) = some _
    rw [Nat.zero_add]
theorem turn_is (h : OkG cs f L) {t : Int → Nat} (hf : Few cs L t) {call : List Int} (hc : OkCall cs.length f call) : Is (p_one_turn_more cs f (parts cs f t) call) (parts cs f (bump t call 1)) := by
  unfold p_one_turn_more
  refine Is.o1 (a := parts cs f (bump t call 1)) ?_ (Is.pure _)
  have := Is.amap (m := Tm.mp (enuI 0) (Tm.pure (parts cs f t))) (f := fun (x1 : (Int × (Int × Int))) => (Tm.ite (Tm.o2 tIn (Tm.pure x1.1) (Tm.pure call)) (Tm.o3 p_grown_part (Tm.o2 tIx (Tm.pure cs) (Tm.pure x1.1)) (Tm.pure f) (Tm.pure x1.2)) (Tm.pure x1.2)))
    (g := fun x1 => fr (X (ixD cs x1.1) f (bump t call 1 x1.1))) (xs := enuI 0 (parts cs f t)) (Is.mp (Is.pure _)) (by
      intro x hx
      rw [enu_parts] at hx
      obtain ⟨i, hi, rfl⟩ := List.mem_map.mp hx
      have hi := List.mem_range.mp hi
      have hl : 0 ≤ ((i : Nat) : Int) ∧ ((i : Nat) : Int) < cs.length := by omega
      refine Is.ite (b := decide (((i : Nat) : Int) ∈ call)) (Is.o2 (Is.pure _) (Is.pure _) (Is.pure _)) (fun e => ?_) (fun e => ?_)
      · have he := of_decide_eq_true e
        have eb : bump t call 1 ((i : Nat) : Int) = t i + 1 := by unfold bump; rw [if_pos he]
        rw [eb]
        exact Is.o3 (Is.o2 (Is.pure _) (Is.pure _) ⟨okIx hl, rfl⟩) (Is.pure _) (Is.pure _) (grown_is (h.at hl) ⟨h.f1, h.f4⟩ (hf.le h hl))
      · have he := of_decide_eq_false e
        have eb : bump t call 1 ((i : Nat) : Int) = t i := by unfold bump; rw [if_neg he]
        rw [eb]
        exact Is.pure _)
  rw [enu_parts, List.map_map] at this
  exact this
/-! ### the loop of a call -/
theorem call_loop (h : OkG cs f L) {t : Int → Nat} (hf : Few cs L t) {call : List Int} (hc : OkCall cs.length f call) :
    ∃ k, First cs f t call k ∧ Is (Tm.wl (fun (s5 : (List (Int × Int)) × Int) => (Tm.not (Tm.o2 p_are_answered (Tm.pure s5.1) (Tm.pure call)))) (parts cs f t, (0 : Int)) (fun (s5 : (List (Int × Int)) × Int) => (Tm.bind (Tm.o2 tPair (Tm.o4 p_one_turn_more (Tm.pure cs) (Tm.pure f) (Tm.pure s5.1) (Tm.pure call)) (Tm.o2 tAdd (Tm.pure s5.2) (Tm.pure (1 : Int)))) fun (v6 : (List (Int × Int)) × Int) => Tm.pure (v6.1, v6.2)))) (parts cs f (bump t call k), (k : Int)) := by
  obtain ⟨l0, hl0⟩ := List.exists_mem_of_ne_nil call hc.ne
  have hr := Tm.wl_run (c := fun (s5 : (List (Int × Int)) × Int) => (Tm.not (Tm.o2 p_are_answered (Tm.pure s5.1) (Tm.pure call)))) (s := (parts cs f t, (0 : Int))) (f := fun (s5 : (List (Int × Int)) × Int) => (Tm.bind (Tm.o2 tPair (Tm.o4 p_one_turn_more (Tm.pure cs) (Tm.pure f) (Tm.pure s5.1) (Tm.pure call)) (Tm.o2 tAdd (Tm.pure s5.2) (Tm.pure (1 : Int)))) fun (v6 : (List (Int × Int)) × Int) => Tm.pure (v6.1, v6.2)))
    (fun n s => ∃ k : Nat, s = (parts cs f (bump t call k), (k : Int)) ∧ (∀ j < k, tot cs f (bump t call j) call < 1) ∧ k + n = 20) (fun s => ∃ k : Nat, s = (parts cs f (bump t call k), (k : Int)) ∧ First cs f t call k) 20 (by decide)
    ⟨0, by rw [bump_zero]; rfl, fun j hj => absurd hj (Nat.not_lt_zero _), rfl⟩ (by
      rintro n s ⟨k, rfl, hb, hn⟩
      obtain ⟨hfk, _⟩ := first_few h hc hf k hb
      have ha : Is (Tm.not (Tm.o2 p_are_answered (Tm.pure (parts cs f (bump t call k))) (Tm.pure call))) (!decide (1 ≤ tot cs f (bump t call k) call)) := Is.not (Is.o2 (Is.pure _) (Is.pure _) (answered_is h hfk hc))
      refine ⟨ha.1, ?_⟩
      rw [ha.2]
      by_cases he : 1 ≤ tot cs f (bump t call k) call
      · left
        exact ⟨by rw [decide_eq_true he]; rfl, k, rfl, he, hb⟩
      · right
        have hlt := Rat.not_le.mp he
        have hk15 : bump t call k l0 ≤ 15 := hfk.le h (hc.ok l0 hl0)
        have hb0 : bump t call k l0 = t l0 + k := by unfold bump; rw [if_pos hl0]
        have hbody : Is (Tm.bind (Tm.o2 tPair (Tm.o4 p_one_turn_more (Tm.pure cs) (Tm.pure f) (Tm.pure (parts cs f (bump t call k))) (Tm.pure call)) (Tm.o2 tAdd (Tm.pure (k : Int)) (Tm.pure (1 : Int)))) fun (v6 : (List (Int × Int)) × Int) => Tm.pure (v6.1, v6.2)) (parts cs f (bump t call (k + 1)), ((k + 1 : Nat) : Int)) := by
          have ht := turn_is h hfk hc
          rw [← bump_succ] at ht
          exact Is.bind (Is.o2 ⟨⟨trivial, trivial, trivial, trivial, ht.1⟩, ht.2⟩ (Is.o2 (Is.pure _) (Is.pure _) (Is.pure _)) (Is.pure _)) (Is.pure _)
        refine ⟨by rw [decide_eq_false he]; rfl, hbody.1, n - 1, by omega, k + 1, hbody.2, fun j hj => ?_, by omega⟩
        rcases Nat.lt_or_ge j k with h1 | h1
        · exact hb j h1
        · obtain rfl : j = k := by omega
          exact hlt)
  obtain ⟨h1, k, h2, h3⟩ := hr
  exact ⟨k, h3, h1, h2⟩
def ksI (ks : List Nat) : List Int := ks.map fun (k : Nat) => (k : Int)
theorem okMul_comm (i j : Int) : okMul i j = okMul j i := by unfold okMul; rw [Nat.add_comm]
theorem cs_eq (cs : List Int) : cs = (List.range cs.length).map fun i => ixD cs ((i : Nat) : Int) := by
  refine List.ext_getElem? fun i => ?_
  rw [List.getElem?_map]
  by_cases hi : i < cs.length
  · rw [List.getElem?_range hi, List.getElem?_eq_getElem hi]
    show _ = some (ixD cs ((i : Nat) : Int))
    rw [ixD_get (by omega), Int.toNat_natCast, List.getElem?_eq_getElem hi]; rfl
  · rw [List.getElem?_eq_none (by omega), List.getElem?_eq_none (by rw [List.length_range]; omega)]; rfl
theorem zip_parts (t : Int → Nat) : cs.zip (parts cs f t) = (List.range cs.length).map fun i => (ixD cs ((i : Nat) : Int), fr (X (ixD cs ((i : Nat) : Int)) f (t i))) := by
  have h : cs.zip (parts cs f t) = ((List.range cs.length).map fun i => ixD cs ((i : Nat) : Int)).zip (parts cs f t) := by rw [← cs_eq cs]
  rw [h]
  unfold parts
  rw [List.zip_map']
theorem cX_ok (h : OkG cs f L) {t : Int → Nat} (hf : Few cs L t) {l : Int} (hl : 0 ≤ l ∧ l < cs.length) : OkP DD BB (ixD cs l * (fr (X (ixD cs l) f (t l))).1, (fr (X (ixD cs l) f (t l))).2) ∧ q (ixD cs l * (fr (X (ixD cs l) f (t l))).1, (fr (X (ixD cs l) f (t l))).2) = ((ixD cs l : Int) : Rat) * X (ixD cs l) f (t l) ∧ okMul (ixD cs l) (fr (X (ixD cs l) f (t l))).1 = true := by
  have hc := h.at hl
  have ht := hf.le h hl
  obtain ⟨h1, h2, h3⟩ := X_p (t := t l) hc ⟨h.f1, h.f4⟩ (by omega)
  obtain ⟨n1, n2⟩ := num_le h1 h2 h3
  have hx := X_le hc.1 h.f1 (t l)
  generalize ixD cs l = c at *
  generalize X c f (t l) = x at *
  have e : q (c * (fr x).1, (fr x).2) = (c : Rat) * x := by
    have h5 : x = ((fr x).1 : Rat) / ((fr x).2 : Rat) := (q_fr x).symm
    have h6 : ((fr x).2 : Rat) ≠ 0 := pos_ne (by have := fr_pos x; omega)
    unfold q
    show ((c * (fr x).1 : Int) : Rat) / ((fr x).2 : Rat) = _
    rw [Rat.intCast_mul]
    generalize ((fr x).1 : Rat) = a at *
    generalize ((fr x).2 : Rat) = b at *
    rw [h5]
    grind
  have hc0 : (0 : Rat) ≤ (c : Rat) := by have := pos_pos hc.1; grind
  have hc5 : (c : Rat) ≤ 5 := Rat.intCast_le_intCast.mpr hc.2
  have hcx : 0 ≤ (c : Rat) * x := Rat.mul_nonneg hc0 h2
  have hle : (c : Rat) * x ≤ (BB : Rat) := by
    have a1 := Rat.mul_le_mul_of_nonneg_right hc5 h2
    have a2 : x ≤ ((2 ^ 15 : Nat) : Rat) := Rat.le_trans hx (Rat.natCast_le_natCast.mpr (Nat.pow_le_pow_right (by decide) ht))
    have a3 : ((5 * 2 ^ 15 : Nat) : Rat) ≤ (BB : Rat) := Rat.natCast_le_natCast.mpr (by unfold BB; decide)
    rw [Rat.natCast_mul] at a3
    have a4 : ((5 : Nat) : Rat) = 5 := rfl
    rw [a4] at a3
    grind
  have hm : (c * (fr x).1).natAbs < Big := by rw [Int.mul_comm]; exact mul_le200 n1 (by omega)
  refine ⟨⟨fr_pos x, hm, Nat.lt_of_le_of_lt n2 (big_lt (Nat.le_refl _) (by decide)), ?_, by rw [e]; exact neg_BB hcx, by rw [e]; exact hle⟩, e, okMul_big (small_nat (by omega)) (Nat.lt_of_le_of_lt n1 (big_lt (Nat.le_refl _) (by decide)))⟩
  rw [e]
  obtain ⟨n, hn⟩ := h1
  exact ⟨c * n, by rw [Rat.mul_assoc, hn, Rat.intCast_mul]⟩
theorem whole_ps (h : OkG cs f L) {t : Int → Nat} (hf : Few cs L t) (hn : cs.length ≤ 8) : (∀ p ∈ (List.range cs.length).map fun i => (ixD cs ((i : Nat) : Int) * (fr (X (ixD cs ((i : Nat) : Int)) f (t i))).1, (fr (X (ixD cs ((i : Nat) : Int)) f (t i))).2), OkP DD BB p) ∧ (((List.range cs.length).map fun i => (ixD cs ((i : Nat) : Int) * (fr (X (ixD cs ((i : Nat) : Int)) f (t i))).1, (fr (X (ixD cs ((i : Nat) : Int)) f (t i))).2)).length * BB + 1) * DD < Big ∧ (((List.range cs.length).map fun i => (ixD cs ((i : Nat) : Int) * (fr (X (ixD cs ((i : Nat) : Int)) f (t i))).1, (fr (X (ixD cs ((i : Nat) : Int)) f (t i))).2)).map q).sum = whole cs f t := by
  refine ⟨fun p hp => ?_, ?_, ?_⟩
  · obtain ⟨i, hi, rfl⟩ := List.mem_map.mp hp
    have hi := List.mem_range.mp hi
    exact (cX_ok h hf (l := ((i : Nat) : Int)) (by omega)).1
  · have := small_big (n := cs.length) (by omega)
    have e : (cs.length * BB + 1) * DD ≤ (cs.length * BB + BB + 1) * DD := Nat.mul_le_mul_right _ (by omega)
    rw [List.length_map, List.length_range]
    omega
  · unfold whole
    rw [List.map_map]
    refine congrArg List.sum (List.map_congr_left fun i hi => ?_)
    have hi := List.mem_range.mp hi
    exact (cX_ok h hf (l := ((i : Nat) : Int)) (by omega)).2.1
theorem whole_is (h : OkG cs f L) {t : Int → Nat} (hf : Few cs L t) (hn : cs.length ≤ 8) : Is (Tm.o1 p_summed_pairs (Tm.amap (Tm.o2 tZip (Tm.pure cs) (Tm.pure (parts cs f t))) (fun (x11 : (Int × (Int × Int))) => (Tm.o2 tPair (Tm.o2 tMul (Tm.pure x11.1) (Tm.pure x11.2.1)) (Tm.pure x11.2.2))))) (fr (whole cs f t)) := by
  obtain ⟨h1, h2, h3⟩ := whole_ps h hf hn
  have hz : Is (Tm.o2 tZip (Tm.pure cs) (Tm.pure (parts cs f t))) (cs.zip (parts cs f t)) := ⟨⟨trivial, trivial, trivial⟩, rfl⟩
  rw [zip_parts] at hz
  have := Is.amap (f := fun (x11 : (Int × (Int × Int))) => (Tm.o2 tPair (Tm.o2 tMul (Tm.pure x11.1) (Tm.pure x11.2.1)) (Tm.pure x11.2.2))) (g := fun x11 => (x11.1 * x11.2.1, x11.2.2)) hz (by
    intro x hx
    obtain ⟨i, hi, rfl⟩ := List.mem_map.mp hx
    have hi := List.mem_range.mp hi
    exact Is.o2 (Is.o2 (Is.pure _) (Is.pure _) ⟨(cX_ok h hf (l := ((i : Nat) : Int)) (by omega)).2.2, rfl⟩) (Is.pure _) (Is.pure _))
  rw [List.map_map] at this
  rw [← h3]
  exact Is.o1 this (sum_is DD_pos h1 h2)
theorem lwhole_is (h : OkG cs f L) {t : Int → Nat} (hf : Few cs L t) (hn : cs.length ≤ 8) : Is (Tm.o1 p__law_sum (Tm.amap (Tm.o2 tZip (Tm.pure cs) (Tm.pure (parts cs f t))) (fun (x24 : (Int × (Int × Int))) => (Tm.o2 tPair (Tm.o2 tMul (Tm.pure x24.2.1) (Tm.pure x24.1)) (Tm.pure x24.2.2))))) (fr (whole cs f t)) := by
  obtain ⟨h1, h2, h3⟩ := whole_ps h hf hn
  have hz : Is (Tm.o2 tZip (Tm.pure cs) (Tm.pure (parts cs f t))) (cs.zip (parts cs f t)) := ⟨⟨trivial, trivial, trivial⟩, rfl⟩
  rw [zip_parts] at hz
  have := Is.amap (f := fun (x24 : (Int × (Int × Int))) => (Tm.o2 tPair (Tm.o2 tMul (Tm.pure x24.2.1) (Tm.pure x24.1)) (Tm.pure x24.2.2))) (g := fun x11 => (x11.1 * x11.2.1, x11.2.2)) hz (by
    intro x hx
    obtain ⟨i, hi, rfl⟩ := List.mem_map.mp hx
    have hi := List.mem_range.mp hi
    have := (cX_ok h hf (l := ((i : Nat) : Int)) (by omega)).2.2
    exact Is.o2 (Is.o2 (Is.pure _) (Is.pure _) ⟨(okMul_comm _ _).trans this, Int.mul_comm _ _⟩) (Is.pure _) (Is.pure _))
  rw [List.map_map] at this
  rw [← h3]
  exact Is.o1 this (lsum_is DD_pos h1 h2)
theorem few_zero (cs : List Int) (L : Nat) : Few cs L fun _ => 0 := fun l _ _ => Nat.zero_le _
theorem parts_zero (cs : List Int) (f : Int) : parts cs f (fun _ => 0) = (List.replicate (cs.length : Int).toNat [((0 : Int), (1 : Int))]).flatten := by
  unfold parts
  rw [rep_flat, Int.toNat_natCast]
  have e : ∀ i : Nat, fr (X (ixD cs ((i : Nat) : Int)) f 0) = (0, 1) := fun i => by rw [X_zero]; rfl
  rw [List.map_congr_left fun i _ => e i]
  rw [List.map_const', List.length_range]
theorem zeros_is (hn : cs.length ≤ 8) : Is (Tm.o2 tRep (Tm.lim (Tm.cons (Tm.o2 tPair (Tm.pure (0 : Int)) (Tm.pure (1 : Int))) (Tm.nil (α := (Int × Int))))) (Tm.o1 tLen (Tm.pure cs))) (parts cs f fun _ => 0) := by
  refine Is.o2 (Is.lim (Is.cons (Is.o2 (Is.pure _) (Is.pure _) (Is.pure _)) Is.nil) (by show 1 ≤ 2 ^ 24; decide)) (Is.o1 (Is.pure cs) (Is.pure _)) ⟨?_, ?_⟩
  · show okRep 1 (cs.length : Int) = true
    unfold okRep
    rw [line24]
    simp only [Bool.and_eq_true, decide_eq_true_eq]
    omega
  · exact (parts_zero cs f).symm
theorem growing_is (h : OkG cs f L) (hn : cs.length ≤ 8) {row : List (List Int)} (hr : row.length ≤ 20) (hc : ∀ c ∈ row, OkCall cs.length f c) :
    ∃ ks t', Run cs f (fun _ => 0) row ks t' ∧ Is (p_growing_parts cs f row) (parts cs f t', ksI ks, fr (whole cs f t')) := by
  have hloop := Tm.fold_pre (m := Tm.pure row) (s := (parts cs f fun _ => 0, ([] : List Int))) (xs := row) (f := fun (x3 : (List Int)) (s2 : (List (Int × Int)) × (List Int)) => (Tm.bind (Tm.pure (0 : Int)) fun (v_many4 : Int) => (Tm.bind (Tm.wl (fun (s5 : (List (Int × Int)) × Int) => (Tm.not (Tm.o2 p_are_answered (Tm.pure s5.1) (Tm.pure x3)))) (s2.1, v_many4) (fun (s5 : (List (Int × Int)) × Int) => (Tm.bind (Tm.o2 tPair (Tm.o4 p_one_turn_more (Tm.pure cs) (Tm.pure f) (Tm.pure s5.1) (Tm.pure x3)) (Tm.o2 tAdd (Tm.pure s5.2) (Tm.pure (1 : Int)))) fun (v6 : (List (Int × Int)) × Int) => Tm.pure (v6.1, v6.2)))) fun (v7 : (List (Int × Int)) × Int) => (Tm.bind (Tm.o1 (tApp s2.2) (Tm.pure v7.2)) fun (v8 : (List Int)) => Tm.pure (v7.1, v8)))))
    (fun d s => ∃ ks t', Run cs f (fun _ => 0) d ks t' ∧ s = (parts cs f t', ksI ks)) (Is.pure row) ⟨[], fun _ => 0, ⟨rfl, rfl⟩, rfl⟩ (by
      rintro d x r s e ⟨ks, t, hrun, rfl⟩
      have hd : ∀ c ∈ d, OkCall cs.length f c := fun c hc' => hc c (by rw [e]; simp [hc'])
      obtain ⟨g1, _, _, g4⟩ := hrun.facts h hd (few_zero cs L)
      obtain ⟨k, h1, h2⟩ := call_loop h g1 (hc x (by rw [e]; simp))
      have hlen : d.length < 20 := by
        have := congrArg List.length e
        rw [List.length_append, List.length_cons] at this
        omega
      have hb : Is (Tm.bind (Tm.pure (0 : Int)) fun (v_many4 : Int) => (Tm.bind (Tm.wl (fun (s5 : (List (Int × Int)) × Int) => (Tm.not (Tm.o2 p_are_answered (Tm.pure s5.1) (Tm.pure x)))) ((parts cs f t, ksI ks).1, v_many4) (fun (s5 : (List (Int × Int)) × Int) => (Tm.bind (Tm.o2 tPair (Tm.o4 p_one_turn_more (Tm.pure cs) (Tm.pure f) (Tm.pure s5.1) (Tm.pure x)) (Tm.o2 tAdd (Tm.pure s5.2) (Tm.pure (1 : Int)))) fun (v6 : (List (Int × Int)) × Int) => Tm.pure (v6.1, v6.2)))) fun (v7 : (List (Int × Int)) × Int) => (Tm.bind (Tm.o1 (tApp (parts cs f t, ksI ks).2) (Tm.pure v7.2)) fun (v8 : (List Int)) => Tm.pure (v7.1, v8)))) (parts cs f (bump t x k), ksI (ks ++ [k])) :=
        Is.bind (Is.pure _) (Is.bind h2 (Is.bind (Is.o1 (Is.pure _) ⟨by show (ksI ks).length < 2 ^ 24; unfold ksI; rw [List.length_map, g4]; omega, by show ksI ks ++ [(k : Int)] = ksI (ks ++ [k]); unfold ksI; rw [List.map_append]; rfl⟩) (Is.pure _)))
      exact ⟨hb.1, ks ++ [k], bump t x k, hrun.snoc h1, hb.2⟩)
  obtain ⟨h1, ks, t', h2, h3⟩ := hloop
  obtain ⟨g1, _⟩ := h2.facts h hc (few_zero cs L)
  refine ⟨ks, t', h2, ?_⟩
  unfold p_growing_parts
  exact Is.bind (Is.o2 (zeros_is hn) (Is.lim Is.nil (by decide)) (Is.pure _)) (Is.bind ⟨h1, h3⟩ (Is.o3 (Is.pure _) (Is.o1 (Is.pure _) (Is.pure _)) (whole_is h g1 hn) (Is.pure _)))
end
end Cov

/-! CovF: drawn lots. -/
namespace Cov
open PySem DL TL FR

/-- calls of n lots, at most f of them -/
structure OkRow (n : Nat) (f : Int) (row : List (List Int)) : Prop where
  len : row.length ≤ 12
  call : ∀ c ∈ row, OkCall n f c
structure OkLots (most : Nat) (far : Int) (r : List Int × Int × List (List Int)) : Prop where
  n1 : 1 ≤ r.1.length
  n2 : r.1.length ≤ most
  cost : ∀ c ∈ r.1, 1 ≤ c ∧ c ≤ far
  f1 : 1 ≤ r.2.1
  f4 : r.2.1 ≤ 4
  row : OkRow r.1.length r.2.1 r.2.2
theorem slc_take {α : Type} (xs : List α) (k : Nat) : slc xs none (some (k : Int)) = xs.take k := by
  unfold slc
  rw [HT.sIx_none, HT.sIx_nat, List.drop_zero, Nat.sub_zero]
  rcases Nat.le_total k xs.length with h | h
  · rw [Nat.min_eq_left h]
  · rw [Nat.min_eq_right h, List.take_length, List.take_of_length_le h]
theorem slc_drop {α : Type} (xs : List α) (k : Nat) (h : k ≤ xs.length) : slc xs (some (k : Int)) none = xs.drop k := by
  unfold slc
  rw [HT.sIx_nat, HT.sIx_none, Nat.min_eq_left h]
  rw [List.take_of_length_le (by rw [List.length_drop]; exact Nat.le_refl _)]
theorem sort_up {xs : List Int} (h : xs.Nodup) : (xs.mergeSort leI).Pairwise (· < ·) := by
  have h1 := List.pairwise_mergeSort (le := leI) (fun a b c h1 h2 => by
    have := of_decide_eq_true h1
    have := of_decide_eq_true h2
    exact decide_eq_true (by omega)) (fun a b => by
    unfold leI
    rcases Int.le_total a b with h | h
    · rw [decide_eq_true h]; rfl
    · rw [decide_eq_true h, Bool.or_true]) xs
  have h2 : (xs.mergeSort leI).Nodup := (List.mergeSort_perm xs leI).nodup_iff.mpr h
  have h3 := List.Pairwise.and h1 h2
  exact h3.imp fun {a b} h => by
    have := of_decide_eq_true h.1
    have := h.2
    omega
theorem rgI_nodup (n : Nat) : (rgI 0 (n : Int)).Nodup := by
  rw [rgI_nat]
  exact List.Pairwise.map _ (fun a b h e => h (by omega)) (List.nodup_range (n := n))
theorem call_of {n k : Nat} {f : Int} {names : List Int} (hp : names.Perm (rgI 0 (n : Int))) (h1 : 1 ≤ k) (hn : 1 ≤ n) (hk : (k : Int) ≤ f) : OkCall n f ((names.take k).mergeSort leI) := by
  have hl : names.length = n := by rw [hp.length_eq, rgI_len]
  have pm := List.mergeSort_perm (names.take k) leI
  refine ⟨fun e => ?_, sort_up ((List.take_sublist k names).nodup (hp.nodup_iff.mpr (rgI_nodup n))), fun l hl => ?_, ?_⟩
  · have := pm.length_eq
    rw [e, List.length_take, List.length_nil] at this
    omega
  · have h2 := hp.subset ((List.take_sublist k names).subset (pm.subset hl))
    rw [rgI_nat] at h2
    obtain ⟨i, hi, rfl⟩ := List.mem_map.mp h2
    have := List.mem_range.mp hi
    omega
  · have := pm.length_eq
    rw [List.length_take] at this
    omega
theorem lots_sp {most : Nat} {far : Int} (hm1 : 1 ≤ most) (hm2 : most ≤ 20) (hf1 : 1 ≤ far) (hf2 : far < 2 ^ 60) : Sp 400 (p__law_lots (most : Int) far) (OkLots most far) := by
  unfold p__law_lots
  -- many, f
  refine Sp.bind (a := 2) (b := 398) (P := fun p : Int × Int => (1 ≤ p.1 ∧ p.1 ≤ most) ∧ 1 ≤ p.2 ∧ p.2 ≤ 4) ?_ ?_ (by decide)
  · refine Sp.o2 (a := 1) (b := 1) (P := fun p => 1 ≤ p ∧ p ≤ (most : Int)) (P' := fun p => 1 ≤ p ∧ p ≤ 4) ?_ ?_ (fun x y hx hy => ⟨trivial, hx, hy⟩) (by decide)
    · refine Sp.o2 (a := 0) (b := 1) (P := fun x => x = 1) (P' := fun r => 0 ≤ r ∧ r < (most : Int)) (Sp.pure') (Sp.s1 (a := 0) (b := 1) (P := fun x => x = (most : Int)) Sp.pure' (fun x hx => by rw [hx]; exact Sp.pick (by omega) (by omega)) (by decide)) (fun x y hx hy => ⟨trivial, ?_⟩) (by decide)
      rw [hx]
      show 1 ≤ 1 + y ∧ 1 + y ≤ most
      omega
    · refine Sp.o2 (a := 0) (b := 1) (P := fun x => x = 1) (P' := fun r => 0 ≤ r ∧ r < 4) (Sp.pure') (Sp.s1 (a := 0) (b := 1) (P := fun x => x = 4) Sp.pure' (fun x hx => by rw [hx]; exact Sp.pick (by decide) (by decide)) (by decide)) (fun x y hx hy => ⟨trivial, ?_⟩) (by decide)
      rw [hx]
      show 1 ≤ 1 + y ∧ 1 + y ≤ 4
      omega
  rintro ⟨many, f⟩ ⟨⟨m1, m2⟩, f1, f4⟩
  obtain ⟨n, rfl⟩ : ∃ n : Nat, many = (n : Int) := ⟨many.toNat, by simp only at m1; omega⟩
  simp only at m1 m2 f1 f4
  -- costs
  refine Sp.bind (a := 20) (b := 378) (P := fun cs : List Int => cs.length = n ∧ ∀ c ∈ cs, 1 ≤ c ∧ c ≤ far) ?_ ?_ (by decide)
  · refine Sp.o1 (a := 20) (P := fun cs : List Int => cs.length = n ∧ ∀ c ∈ cs, 1 ≤ c ∧ c ≤ far) ?_ (fun x hx => ⟨trivial, hx⟩) (by decide)
    refine Sp.amap (a := 1) (n := 20) (b := 0) (P := fun l => l = rgI 0 (n : Int)) (R := fun c => 1 ≤ c ∧ c ≤ far) (Sp.lift ⟨trivial, okRg n (by omega)⟩ rfl) (fun xs e => by rw [e, rgI_len]; omega) (fun xs e x hx => ?_) (fun xs ys e hl hy => ⟨by rw [hl, e, rgI_len], hy⟩) (by decide)
    refine Sp.o2 (a := 0) (b := 1) (P := fun x => x = 1) (P' := fun r => 0 ≤ r ∧ r < far) (Sp.pure') (Sp.s1 (a := 0) (b := 1) (P := fun x => x = far) Sp.pure' (fun x hx => by rw [hx]; exact Sp.pick hf1 hf2) (by decide)) (fun x y hx hy => ⟨trivial, ?_⟩) (by decide)
    rw [hx]
    show 1 ≤ 1 + y ∧ 1 + y ≤ far
    omega
  rintro cs ⟨hcl, hcs⟩
  -- rows
  refine Sp.bind (a := 0) (b := 378) (P := fun l => l = ([] : List (List Int))) (Sp.is (Is.lim Is.nil (by decide)) rfl) ?_ (by decide)
  rintro _ rfl
  refine Sp.bind (a := 378) (b := 0) (P := OkRow n f) ?_ ?_ (by decide)
  · refine Sp.fold (a := 21) (b := 1) (n := 12) (P := fun l => l.length ≤ 12) (fun d s => s.length = d.length ∧ ∀ c ∈ s, OkCall n f c) ?_ (fun xs h => h) ⟨rfl, fun c hc => by cases hc⟩ ?_ (fun xs s h hs => ⟨by omega, hs.2⟩) (by decide)
    · refine Sp.o1 (a := 1) (P := fun r => 0 ≤ r ∧ r < 13) (Sp.s1 (a := 0) (b := 1) (P := fun x => x = 13) Sp.pure' (fun x hx => by rw [hx]; exact Sp.pick (by decide) (by decide)) (by decide)) (fun x hx => ?_) (by decide)
      obtain ⟨k, rfl⟩ : ∃ k : Nat, x = (k : Int) := ⟨x.toNat, by omega⟩
      exact ⟨okRg k (by omega), by show (rgI 0 (k : Int)).length ≤ 12; rw [rgI_len]; omega⟩
    · rintro xs d x r s hxs rfl ⟨hsl, hs⟩
      have hd : s.length < 2 ^ 24 := by
        rw [List.length_append, List.length_cons] at hxs
        omega
      refine Sp.bind (a := 20) (b := 1) (P := fun names : List Int => names.Perm (rgI 0 (n : Int))) (Sp.s1 (a := 0) (b := 20) (P := fun l => l = rgI 0 (n : Int)) (Sp.lift ⟨trivial, okRg n (by omega)⟩ rfl) (fun l e => by rw [e]; exact Sp.order (by rw [rgI_len]; omega) (by decide)) (by decide)) ?_ (by decide)
      intro names hp
      refine Sp.bind (a := 1) (b := 0) (P := fun s' : List (List Int) => s'.length = (d ++ [x]).length ∧ ∀ c ∈ s', OkCall n f c) ?_ (fun s' hs' => Sp.pure hs') (by decide)
      refine Sp.o1 (a := 1) (P := OkCall n f) ?_ (fun c hc => ⟨hd, ?_⟩) (by decide)
      · refine Sp.o1 (a := 1) (P := OkCall n f) ?_ (fun c hc => ⟨trivial, hc⟩) (by decide)
        refine Sp.o1 (a := 1) (P := fun l => ∃ k : Nat, l = names.take k ∧ 1 ≤ k ∧ (k : Int) ≤ f) ?_ ?_ (by decide)
        · refine Sp.o3 (a := 0) (b := 0) (d := 1) (P := fun l => l = names) (P' := fun o => o = none) (P3 := fun o => ∃ k : Nat, o = some (k : Int) ∧ 1 ≤ k ∧ (k : Int) ≤ f) Sp.pure' Sp.pure' ?_ ?_ (by decide)
          · refine Sp.mp (a := 1) (P := fun r => 1 ≤ r ∧ r ≤ f) ?_ (fun r hr => ⟨r.toNat, by rw [Int.toNat_of_nonneg (by omega)], by omega, by omega⟩) (by decide)
            refine Sp.o2 (a := 0) (b := 1) (P := fun x => x = 1) (P' := fun r => 0 ≤ r ∧ r < f) (Sp.pure') (Sp.s1 (a := 0) (b := 1) (P := fun x => x = if (n : Int) < f then (n : Int) else f) (Sp.lift ⟨trivial, trivial, trivial⟩ rfl) (fun x hx => ?_) (by decide)) (fun x y hx hy => ⟨trivial, ?_⟩) (by decide)
            · refine (Sp.pick (most := x) ?_ ?_).mono (Nat.le_refl _) fun r hr => ⟨hr.1, ?_⟩
              · rw [hx]; split <;> omega
              · rw [hx]; split <;> omega
              · have := hr.2
                rw [hx] at this
                split at this <;> omega
            · rw [hx]
              show 1 ≤ 1 + y ∧ 1 + y ≤ f
              omega
          · rintro l o o' rfl rfl ⟨k, rfl, k1, k2⟩
            exact ⟨trivial, k, slc_take l k, k1, k2⟩
        · rintro l ⟨k, rfl, k1, k2⟩
          refine ⟨?_, call_of hp k1 (by omega) k2⟩
          show (names.take k).length ≤ 2 ^ 24
          have := hp.length_eq
          rw [rgI_len] at this
          rw [List.length_take]
          omega
      · refine ⟨by show (s ++ [c]).length = _; rw [List.length_append, List.length_append, hsl]; rfl, fun c' hc' => ?_⟩
        have hc' : c' ∈ s ++ [c] := hc'
        rcases List.mem_append.mp hc' with h | h
        · exact hs c' h
        · rw [List.mem_singleton.mp h]; exact hc
  intro row hrow
  refine Sp.is (Is.o3 (Is.pure _) (Is.pure _) (Is.o1 (Is.pure _) (Is.pure _)) (Is.pure _)) ?_
  exact ⟨by show 1 ≤ cs.length; omega, by show cs.length ≤ most; omega, hcs, f1, f4, by show OkRow cs.length f row; rw [hcl]; exact hrow⟩
end Cov

/-! CovG: powers, prices of turns, sums of turns. -/
namespace Cov
open PySem DL TL FR

def powL (f : Int) : Nat := if f = 1 then 1 else if f ≤ 3 then 2 else 3
theorem f_cases {f : Int} (h1 : 1 ≤ f) (h4 : f ≤ 4) : f = 1 ∨ f = 2 ∨ f = 3 ∨ f = 4 := by omega
theorem powL_fit {f : Int} (h1 : 1 ≤ f) (h4 : f ≤ 4) : (f : Rat) + 1 ≤ 2 ^ powL f ∧ powL f ≤ 3 ∧ 1 ≤ powL f := by
  have e : ((2 ^ powL f : Nat) : Rat) = 2 ^ powL f := Rat.natCast_pow 2 (powL f)
  have h : f.toNat + 1 ≤ 2 ^ powL f ∧ powL f ≤ 3 ∧ 1 ≤ powL f := by
    rcases f_cases h1 h4 with rfl | rfl | rfl | rfl <;> decide
  refine ⟨?_, h.2⟩
  have h3 : ((f.toNat + 1 : Nat) : Rat) ≤ ((2 ^ powL f : Nat) : Rat) := Rat.natCast_le_natCast.mpr h.1
  rw [e, Rat.natCast_add] at h3
  have h5 : ((f.toNat : Nat) : Rat) = (f : Rat) := by rw [← Rat.intCast_natCast, Int.toNat_of_nonneg (by omega)]
  rw [h5] at h3
  exact h3
theorem log_pow {f : Int} {L : Nat} (h : L ≤ 3) : ((L : Int)).natAbs.log2 < 9000 := by
  have : L = 0 ∨ L = 1 ∨ L = 2 ∨ L = 3 := by omega
  rcases this with rfl | rfl | rfl | rfl <;> decide
theorem okPow_ {s : Int} (h0 : 0 ≤ s) (h1 : s ≤ 100) : okPow 1 s = true := by
  unfold okPow
  simp only [Bool.and_eq_true, decide_eq_true_eq]
  refine ⟨⟨h0, by omega⟩, by decide⟩
theorem power_is {f : Int} (h1 : 1 ≤ f) (h4 : f ≤ 4) : Is (p_power_bound f) (powL f : Int) := by
  have hr := Tm.wl_run (c := fun (s2 : Int) => (Tm.o2 tLt (Tm.o2 tShl (Tm.pure (1 : Int)) (Tm.pure s2)) (Tm.o2 tAdd (Tm.pure f) (Tm.pure (1 : Int))))) (s := (0 : Int)) (f := fun (s2 : Int) => (Tm.bind (Tm.o2 tAdd (Tm.pure s2) (Tm.pure (1 : Int))) fun (v_found3 : Int) => Tm.pure v_found3))
    (fun n s => ∃ k : Nat, s = (k : Int) ∧ k ≤ powL f ∧ k + n = 10) (fun s => s = (powL f : Int)) 10 (by decide) ⟨0, rfl, Nat.zero_le _, rfl⟩ (by
      rintro n s ⟨k, rfl, hk, hn⟩
      refine ⟨⟨⟨trivial, trivial, okPow_ (s := (k : Int)) (by omega) (by omega)⟩, ⟨trivial, trivial, trivial⟩, trivial⟩, ?_⟩
      have hv : (Tm.o2 tLt (Tm.o2 tShl (Tm.pure (1 : Int)) (Tm.pure (k : Int))) (Tm.o2 tAdd (Tm.pure f) (Tm.pure (1 : Int)))).val = decide (1 * 2 ^ (k : Int).toNat < f + 1) := rfl
      rw [hv, Int.toNat_natCast]
      have hk3 : k = 0 ∨ k = 1 ∨ k = 2 ∨ k = 3 := by have := (powL_fit h1 h4).2.1; omega
      rcases Nat.lt_or_ge k (powL f) with e | e
      · right
        refine ⟨?_, ⟨⟨trivial, trivial, trivial⟩, trivial⟩, n - 1, by omega, k + 1, rfl, by omega, by omega⟩
        revert e
        rcases f_cases h1 h4 with rfl | rfl | rfl | rfl <;> rcases hk3 with rfl | rfl | rfl | rfl <;> decide
      · left
        obtain rfl : k = powL f := by omega
        refine ⟨?_, rfl⟩
        rcases f_cases h1 h4 with rfl | rfl | rfl | rfl <;> decide)
  unfold p_power_bound
  exact Is.bind (Is.pure _) (Is.bind ⟨hr.1, hr.2⟩ (Is.pure _))
theorem lpower_is {f : Int} (h1 : 1 ≤ f) (h4 : f ≤ 4) : Is (Tm.o1 tMinL (Tm.fmap (Tm.o1 (tRg 0) (Tm.pure (8 : Int))) (fun (x26 : Int) => (Tm.o2 tGt (Tm.o2 tShl (Tm.pure (1 : Int)) (Tm.pure x26)) (Tm.pure f))) (fun (x26 : Int) => (Tm.pure x26)))) (powL f : Int) := by
  have hm := Is.fmap (m := Tm.o1 (tRg 0) (Tm.pure (8 : Int))) (xs := rgI 0 8) (t := fun (x26 : Int) => (Tm.o2 tGt (Tm.o2 tShl (Tm.pure (1 : Int)) (Tm.pure x26)) (Tm.pure f))) (p := fun x => decide (f < 1 * 2 ^ x.toNat)) (f := fun (x26 : Int) => (Tm.pure x26)) (g := fun x => x) ⟨⟨trivial, okRg 8 (by decide)⟩, rfl⟩ (fun x hx => by
    have hx : x ∈ rgI 0 ((8 : Nat) : Int) := hx
    rw [rgI_nat] at hx
    obtain ⟨i, hi, rfl⟩ := List.mem_map.mp hx
    have := List.mem_range.mp hi
    exact Is.o2 (Is.o2 (Is.pure _) (Is.pure _) ⟨okPow_ (s := (i : Int)) (by omega) (by omega), rfl⟩) (Is.pure _) (Is.pure _)) (fun x _ _ => Is.pure x)
  rw [List.map_id'] at hm
  refine Is.o1 hm ?_
  rcases f_cases h1 h4 with rfl | rfl | rfl | rfl
  all_goals exact ⟨by show _ ≠ []; decide, by decide⟩
/-- the turns by L -/
def scaled (L : Nat) (ks : List Nat) : List Rat := ks.map fun (k : Nat) => (k : Rat) / (L : Rat)
theorem ksI_map {β : Type} (ks : List Nat) (g : Int → β) : (ksI ks).map g = ks.map fun (k : Nat) => g (k : Int) := by
  unfold ksI
  rw [List.map_map]; rfl
theorem nat_low (k L : Nat) : ((k : Int) : Rat) / ((L : Int) : Rat) = (k : Rat) / (L : Rat) := rfl
theorem lprices_is {L : Nat} (hL : 1 ≤ L) (hL3 : L ≤ 3) (ks : List Nat) : Is (Tm.o1 tTup (Tm.amap (Tm.pure (ksI ks)) (fun (x28 : Int) => (Tm.o2 p__law_low (Tm.pure x28) (Tm.pure (L : Int)))))) ((scaled L ks).map fr) := by
  have := Is.amap (m := Tm.pure (ksI ks)) (f := fun (x28 : Int) => (Tm.o2 p__law_low (Tm.pure x28) (Tm.pure (L : Int)))) (g := fun x => fr ((x : Rat) / ((L : Int) : Rat))) (Is.pure _) fun x _ => Is.o2 (Is.pure _) (Is.pure _) (llow_is (by omega) (log_pow (f := 0) hL3))
  rw [ksI_map] at this
  refine Is.o1 this ⟨trivial, ?_⟩
  unfold scaled
  rw [List.map_map]; rfl
theorem scaled_is {f : Int} (h1 : 1 ≤ f) (h4 : f ≤ 4) (ks : List Nat) : Is (p_scaled_prices f (ksI ks)) ((scaled (powL f) ks).map fr) := by
  obtain ⟨_, hL3, hL⟩ := powL_fit h1 h4
  have := Is.amap (m := Tm.pure (ksI ks)) (f := fun (x1 : Int) => (Tm.o2 p_lowest_pair (Tm.pure x1) (Tm.o1 p_power_bound (Tm.pure f)))) (g := fun x => fr ((x : Rat) / ((powL f : Int) : Rat))) (Is.pure _) fun x _ => Is.o2 (Is.pure _) (Is.o1 (Is.pure _) (power_is h1 h4)) (low_is (by omega) (log_pow (f := 0) hL3))
  rw [ksI_map] at this
  refine Is.o1 this ⟨trivial, ?_⟩
  unfold scaled
  rw [List.map_map]; rfl
theorem scaled_ok {L : Nat} (hL : 1 ≤ L) (hL3 : L ≤ 3) {ks : List Nat} (hk : ∀ k ∈ ks, k ≤ 15) (hl : ks.length ≤ 20) : OkX DD BB (scaled L ks) := by
  have hLr : (0 : Rat) < (L : Rat) := Rat.natCast_pos.mpr hL
  refine ⟨DD_pos, fun x hx => ?_, fun x hx => ?_, fun x hx => ?_, ?_⟩
  · obtain ⟨k, _, rfl⟩ := List.mem_map.mp hx
    refine Dv.up (D := L) ?_ ?_
    · have := Dv.of_div (n := (k : Int)) (D := L) hL
      exact this
    · have : L = 1 ∨ L = 2 ∨ L = 3 := by omega
      unfold DD
      refine Nat.dvd_trans ?_ (Nat.dvd_mul_right 12 _)
      rcases this with rfl | rfl | rfl <;> decide
  · obtain ⟨k, _, rfl⟩ := List.mem_map.mp hx
    rw [Rat.div_def]
    have := Rat.inv_pos.mpr hLr
    exact Rat.mul_nonneg Rat.natCast_nonneg (by grind)
  · obtain ⟨k, hk', rfl⟩ := List.mem_map.mp hx
    have h1 : (k : Rat) ≤ (BB : Rat) := Rat.natCast_le_natCast.mpr (by have := hk k hk'; unfold BB; omega)
    have h2 : (1 : Rat) ≤ (L : Rat) := Rat.natCast_le_natCast.mpr hL
    have h3 : (k : Rat) / (L : Rat) * (L : Rat) = (k : Rat) := Rat.div_mul_cancel (by grind)
    have h0 : 0 ≤ (k : Rat) / (L : Rat) := by
      rw [Rat.div_def]
      have := Rat.inv_pos.mpr hLr
      exact Rat.mul_nonneg Rat.natCast_nonneg (by grind)
    have h4 := Rat.mul_le_mul_of_nonneg_left h2 h0
    grind
  · have := small_big (n := (scaled L ks).length) (by unfold scaled; rw [List.length_map]; omega)
    exact this
theorem pr_turns {L : Nat} (hL : 1 ≤ L) (l : Int) : ∀ (row : List (List Int)) (ks : List Nat), pr row (scaled L ks) l = (turnsOf row ks l : Rat) / (L : Rat)
  | [], ks => by
    show (0 : Rat) = ((0 : Nat) : Rat) / (L : Rat)
    have : ((0 : Nat) : Rat) = 0 := rfl
    rw [this, Rat.div_def, Rat.zero_mul]
  | c :: row, [] => by
    show (0 : Rat) = ((0 : Nat) : Rat) / (L : Rat)
    have : ((0 : Nat) : Rat) = 0 := rfl
    rw [this, Rat.div_def, Rat.zero_mul]
  | c :: row, k :: ks => by
    have e1 : pr (c :: row) (scaled L (k :: ks)) l = hit l (c, (k : Rat) / (L : Rat)) + pr row (scaled L ks) l := rfl
    have e2 : turnsOf (c :: row) (k :: ks) l = (if l ∈ c then k else 0) + turnsOf row ks l := rfl
    rw [e1, e2, pr_turns hL l row ks, Rat.natCast_add]
    unfold hit
    split
    · simp only [Rat.div_def, Rat.add_mul]
    · have : ((0 : Nat) : Rat) = 0 := rfl
      rw [this, Rat.zero_add, Rat.zero_add]
theorem sum_scaled {L : Nat} : ∀ ks : List Nat, (scaled L ks).sum = ((ks.sum : Nat) : Rat) / (L : Rat)
  | [] => by
    show (0 : Rat) = ((0 : Nat) : Rat) / (L : Rat)
    have : ((0 : Nat) : Rat) = 0 := rfl
    rw [this, Rat.div_def, Rat.zero_mul]
  | k :: ks => by
    have e : scaled L (k :: ks) = (k : Rat) / (L : Rat) :: scaled L ks := rfl
    rw [e, List.sum_cons, List.sum_cons, sum_scaled ks, Rat.natCast_add]
    simp only [Rat.div_def, Rat.add_mul]
theorem fits_scaled {cs : List Int} {f : Int} {L : Nat} (h : OkG cs f L) (hL : 1 ≤ L) {row : List (List Int)} {ks : List Nat} {t' : Int → Nat} (hf : Few cs L t') (ht : ∀ l, t' l = 0 + turnsOf row ks l) : fitsX cs row (scaled L ks) := by
  intro i c hc
  obtain ⟨hi, rfl⟩ := List.getElem?_eq_some_iff.mp hc
  rw [pr_turns hL]
  have h1 := hf (i : Int) (by omega) (by omega)
  rw [ht, Nat.zero_add, ixD_get (by omega), Int.toNat_natCast, hc] at h1
  have hc1 := (h.cost cs[i] (List.getElem_mem hi)).1
  have hLr : (0 : Rat) < (L : Rat) := Rat.natCast_pos.mpr hL
  have h2 : ((turnsOf row ks (i : Int) : Nat) : Rat) ≤ (L : Rat) * ((cs[i] : Int) : Rat) := by
    have h3 := Rat.natCast_le_natCast.mpr h1
    rw [Rat.natCast_mul] at h3
    have e : (((some cs[i]).getD default).toNat : Rat) = ((cs[i] : Int) : Rat) := by
      show ((cs[i].toNat : Nat) : Rat) = _
      rw [← Rat.intCast_natCast, Int.toNat_of_nonneg (by omega)]
    rw [e] at h3
    exact h3
  have h3 : (turnsOf row ks (i : Int) : Rat) / (L : Rat) * (L : Rat) = (turnsOf row ks (i : Int) : Rat) := Rat.div_mul_cancel (by grind)
  rw [← h3, Rat.mul_comm (L : Rat)] at h2
  exact Rat.le_of_mul_le_mul_right h2 hLr
theorem Run.small {cs : List Int} {f : Int} {L : Nat} (h : OkG cs f L) : ∀ {row : List (List Int)} {t : Int → Nat} {ks : List Nat} {t' : Int → Nat}, (∀ c ∈ row, OkCall cs.length f c) → Few cs L t → Run cs f t row ks t' → ∀ k ∈ ks, k ≤ 15
  | [], t, _, _, _, _, hr, k, hk => by
    obtain ⟨rfl, _⟩ := hr
    cases hk
  | c :: row, t, _, t', hc, hf, hr, k, hk => by
    obtain ⟨j, ks, rfl, h1, h2⟩ := hr
    have hcc := hc c List.mem_cons_self
    obtain ⟨h3, h4⟩ := first_few h hcc hf j h1.below
    rcases List.mem_cons.mp hk with rfl | hk
    · obtain ⟨l0, hl0⟩ := List.exists_mem_of_ne_nil c hcc.ne
      have h5 := h3.le h (hcc.ok l0 hl0)
      have hb0 : bump t c k l0 = t l0 + k := by unfold bump; rw [if_pos hl0]
      omega
    · exact Run.small h (fun d hd => hc d (List.mem_cons_of_mem _ hd)) h3 h2 k hk
theorem sum_ksI (ks : List Nat) : (ksI ks).sum = ((ks.sum : Nat) : Int) := by
  induction ks with
  | nil => rfl
  | cons k ks ih =>
    show (k : Int) + (ksI ks).sum = _
    rw [ih, List.sum_cons, Int.natCast_add]
theorem turns_sum (l : Int) : ∀ (row : List (List Int)) (ks : List Nat), (((row.zip (ksI ks)).filter fun p => decide (l ∈ p.1)).map fun p => p.2).sum = ((turnsOf row ks l : Nat) : Int)
  | [], ks => rfl
  | c :: row, [] => rfl
  | c :: row, k :: ks => by
    have e2 : turnsOf (c :: row) (k :: ks) l = (if l ∈ c then k else 0) + turnsOf row ks l := rfl
    have e1 : (c :: row).zip (ksI (k :: ks)) = (c, (k : Int)) :: row.zip (ksI ks) := rfl
    rw [e1, e2]
    by_cases h : l ∈ c
    · rw [List.filter_cons_of_pos (by simpa using h), List.map_cons, List.sum_cons, turns_sum l row ks, if_pos h, Int.natCast_add]
    · rw [List.filter_cons_of_neg (by simpa using h), turns_sum l row ks, if_neg h, Nat.zero_add]
theorem turnsum_is (row : List (List Int)) (ks : List Nat) (l : Int) : Is (Tm.o1 tSum (Tm.fmap (Tm.o2 tZip (Tm.pure row) (Tm.pure (ksI ks))) (fun (x33 : ((List Int) × Int)) => (Tm.o2 tIn (Tm.pure l) (Tm.pure x33.1))) (fun (x33 : ((List Int) × Int)) => (Tm.pure x33.2)))) ((turnsOf row ks l : Nat) : Int) := by
  refine Is.o1 (Is.fmap (p := fun p : List Int × Int => decide (l ∈ p.1)) (g := fun p => p.2) (Is.o2 (Is.pure _) (Is.pure _) (Is.pure _)) (fun x _ => Is.o2 (Is.pure _) (Is.pure _) (Is.pure _)) (fun x _ _ => Is.pure _)) ⟨trivial, ?_⟩
  exact turns_sum l row ks
/-- all lots answer -/
theorem all_answer {n : Nat} {f : Int} {row : List (List Int)} (h : ∀ c ∈ row, OkCall n f c) : rgI 0 (n : Int) ∈ subs n ∧ ansR (rgI 0 (n : Int)) row = true := by
  constructor
  · refine subs_all n _ ?_ fun l hl => ?_
    · rw [rgI_nat]
      exact List.Pairwise.map _ (fun a b h => by omega) (List.pairwise_lt_range (n := n))
    · rw [rgI_nat] at hl
      obtain ⟨i, hi, rfl⟩ := List.mem_map.mp hl
      have := List.mem_range.mp hi
      omega
  · unfold ansR
    rw [List.all_eq_true]
    intro c hc
    have hcc := h c hc
    obtain ⟨l0, hl0⟩ := List.exists_mem_of_ne_nil c hcc.ne
    unfold ans
    rw [List.any_eq_true]
    refine ⟨l0, hl0, decide_eq_true ?_⟩
    rw [rgI_nat]
    have := hcc.ok l0 hl0
    exact List.mem_map.mpr ⟨l0.toNat, List.mem_range.mpr (by omega), by omega⟩
theorem le_fr (x : Rat) (n : Int) : x ≤ (n : Rat) ↔ (fr x).1 ≤ n * (fr x).2 := by
  rw [Rat.le_iff]
  show x.num * ((1 : Nat) : Int) ≤ n * (x.den : Int) ↔ _
  rw [Int.natCast_one, Int.mul_one]; rfl
end Cov

/-! CovH: the growing way of the law k94. -/
namespace Cov
open PySem DL TL FR

section
variable {cs : List Int} {f : Int} {L : Nat}
theorem putIx_eq {α : Type} {xs : List α} {v : α} {i : Int} (h0 : 0 ≤ i) (h1 : i < xs.length) : putIx xs i v = xs.set i.toNat v := by
  unfold putIx L2.ixN
  rw [if_pos h0, if_pos (by omega)]
theorem lgrown_is {c : Int} (hc : 1 ≤ c ∧ c ≤ 5) (hf : 1 ≤ f ∧ f ≤ 4) {t : Nat} (ht : t ≤ 15) {mi : Tm Int} (hm : Is mi c) : Is (Tm.o1 p__law_sum (Tm.lim (Tm.cons (Tm.o2 tPair (Tm.pure (fr (X c f t)).1) (Tm.pure (fr (X c f t)).2)) (Tm.cons (Tm.o2 p__law_low (Tm.pure (fr (X c f t)).1) (Tm.o2 tMul (Tm.pure (fr (X c f t)).2) mi)) (Tm.cons (Tm.o2 tPair (Tm.pure (1 : Int)) (Tm.o2 tMul (Tm.pure f) mi)) (Tm.nil (α := (Int × Int)))))))) (fr (X c f (t + 1))) := by
  obtain ⟨h1, h2, h3⟩ := X_p (t := t) hc hf (by omega)
  obtain ⟨n1, n2⟩ := num_le h1 h2 h3
  have hpos := fr_pos (X c f t)
  have hc10 : c.natAbs ≤ 2 ^ 10 := by omega
  have hb := mul_le200 n2 hc10
  have hden : 0 < (fr (X c f t)).2 * c := Int.mul_pos hpos (by omega)
  have e1 : (((fr (X c f t)).1 : Int) : Rat) / (((fr (X c f t)).2 * c : Int) : Rat) = X c f t * (1 / (c : Rat)) := by
    have h5 : X c f t = q (fr (X c f t)) := (q_fr _).symm
    have h6 : ((fr (X c f t)).2 : Rat) ≠ 0 := pos_ne (by omega)
    have h7 := pos_ne hc.1
    have h8 : q (fr (X c f t)) = ((fr (X c f t)).1 : Rat) / ((fr (X c f t)).2 : Rat) := rfl
    rw [h8] at h5
    rw [Rat.intCast_mul]
    generalize ((fr (X c f t)).1 : Rat) = a at *
    generalize ((fr (X c f t)).2 : Rat) = b at *
    rw [h5]
    grind
  have u := unit_ok hc hf
  have es : X c f t + (X c f t * (1 / (c : Rat)) + 1 / ((f : Rat) * (c : Rat))) = X c f (t + 1) := by
    rw [X_succ hc.1 hf.1 t]
    unfold rr
    grind
  obtain ⟨g1, g2, g3⟩ := X_p (t := t + 1) hc hf (by omega)
  have hu : 0 ≤ 1 / ((f : Rat) * (c : Rat)) := by have := X_nn hc.1 hf.1 1; rw [X_succ hc.1 hf.1, X_zero, Rat.zero_mul, Rat.zero_add] at this; exact this
  have hd : Dv DD (X c f t * (1 / (c : Rat))) := by
    have e : X c f t * (1 / (c : Rat)) = X c f (t + 1) + (-(q (1, f * c)) + -(X c f t)) := by rw [← es, one_div]; grind
    rw [e]
    refine g1.add (Dv.add ?_ ?_)
    · obtain ⟨n, hn⟩ := u.dv
      exact ⟨-n, by rw [Rat.neg_mul, hn]; rfl⟩
    · obtain ⟨n, hn⟩ := h1
      exact ⟨-n, by rw [Rat.neg_mul, hn]; rfl⟩
  have hnn : 0 ≤ X c f t * (1 / (c : Rat)) := Rat.mul_nonneg h2 (inv_nn hc.1)
  have hle : X c f t * (1 / (c : Rat)) ≤ (BB : Rat) := by grind
  have ok1 : OkP DD BB (fr (X c f t * (1 / (c : Rat)))) := OkP.fr DD_pos hd (neg_BB hnn) hle BD_big
  have hlow := llow_is (p := (fr (X c f t)).1) hden (by have := big_log hb; omega)
  rw [e1] at hlow
  refine Is.o1 (Is.lim (xs := [fr (X c f t), fr (X c f t * (1 / (c : Rat))), (1, f * c)]) (Is.cons (Is.o2 (Is.pure _) (Is.pure _) (Is.pure _)) (Is.cons (Is.o2 (Is.pure _) (Is.o2 (Is.pure _) hm ⟨okMul_big (Nat.lt_of_le_of_lt n2 (big_lt (Nat.le_refl _) (by decide))) (small_nat (by omega)), rfl⟩) hlow) (Is.cons ?_ Is.nil))) (by show 3 ≤ 2 ^ 24; decide)) ?_
  · exact Is.o2 (Is.pure 1) (Is.o2 (Is.pure f) hm ⟨okMul_big (small_nat (by omega)) (small_nat (by omega)), rfl⟩) (Is.pure _)
  · have := lsum_is (ps := [fr (X c f t), fr (X c f t * (1 / (c : Rat))), (1, f * c)]) DD_pos (fun p hp => by
      simp at hp
      rcases hp with rfl | rfl | rfl
      · exact X_ok hc hf (by omega)
      · exact ok1
      · exact u) (by
      have := small_big (n := 3) (by decide)
      have e : (3 * BB + 1) * DD ≤ (3 * BB + BB + 1) * DD := Nat.mul_le_mul_right _ (by omega)
      show (3 * BB + 1) * DD < Big
      omega)
    have e2 : ([fr (X c f t), fr (X c f t * (1 / (c : Rat))), (1, f * c)].map q).sum = X c f (t + 1) := by
      rw [← es, ← one_div]
      show q _ + (q _ + (q _ + 0)) = _
      rw [Rat.add_zero, q_fr, q_fr]
    rw [e2] at this
    exact this
theorem parts_put {t : Int → Nat} {d : List Int} {x : Int} (hx : 0 ≤ x ∧ x < cs.length) (hd : x ∉ d) : putIx (parts cs f (bump t d 1)) x (fr (X (ixD cs x) f (t x + 1))) = parts cs f (bump t (d ++ [x]) 1) := by
  rw [putIx_eq hx.1 (by rw [parts_len]; exact hx.2)]
  refine List.ext_getElem? fun i => ?_
  by_cases hi : i < cs.length
  · rw [List.getElem?_set, parts_get _ _ _ hi]
    by_cases e : x.toNat = i
    · rw [if_pos e, if_pos (by rw [parts_len]; omega), parts_get _ _ _ hi]
      have e' : ((i : Nat) : Int) = x := by omega
      rw [e']
      have : bump t (d ++ [x]) 1 x = t x + 1 := by unfold bump; rw [if_pos (by simp)]
      rw [this]
    · rw [if_neg e, parts_get _ _ _ hi]
      have e' : ((i : Nat) : Int) ≠ x := by omega
      have : bump t (d ++ [x]) 1 ((i : Nat) : Int) = bump t d 1 ((i : Nat) : Int) := by
        unfold bump
        by_cases h : ((i : Nat) : Int) ∈ d
        · rw [if_pos (by simp [h]), if_pos h]
        · rw [if_neg (by simp [h, e']), if_neg h]
      rw [this]
  · rw [List.getElem?_eq_none (by rw [List.length_set, parts_len]; omega), List.getElem?_eq_none (by rw [parts_len]; omega)]
theorem late_sp (h : OkG cs f L) {t : Int → Nat} (hf : Few cs L t) {call : List Int} (hc : OkCall cs.length f call) : Sp 0 (SM.fold (SM.lift (Tm.pure call)) (parts cs f t) (fun (x15 : Int) (s14 : (List (Int × Int))) => (SM.bind (SM.lift (Tm.o2 tIx (Tm.pure (parts cs f t)) (Tm.pure x15))) fun (v17 : (Int × Int)) => (SM.bind (SM.o2 (tPut s14) (SM.lift (Tm.o1 p__law_sum (Tm.lim (Tm.cons (Tm.o2 tPair (Tm.pure v17.1) (Tm.pure v17.2)) (Tm.cons (Tm.o2 p__law_low (Tm.pure v17.1) (Tm.o2 tMul (Tm.pure v17.2) (Tm.o2 tIx (Tm.pure cs) (Tm.pure x15)))) (Tm.cons (Tm.o2 tPair (Tm.pure (1 : Int)) (Tm.o2 tMul (Tm.pure f) (Tm.o2 tIx (Tm.pure cs) (Tm.pure x15)))) (Tm.nil (α := (Int × Int))))))))) (SM.lift (Tm.pure x15))) fun (v18 : (List (Int × Int))) => SM.pure v18)))) (fun l => l = parts cs f (bump t call 1)) := by
  refine Sp.fold (a := 0) (b := 0) (n := 4) (P := fun l => l = call) (fun d s => s = parts cs f (bump t d 1)) Sp.pure' (fun xs e => by rw [e]; have := hc.len; have := h.f4; omega) ?_ ?_ (fun xs s e hs => by rw [hs, e]) (by decide)
  · show parts cs f t = parts cs f (bump t [] 1)
    have : bump t [] 1 = t := funext fun i => by unfold bump; rw [if_neg (by simp)]
    rw [this]
  · rintro xs d x r s e hxs rfl
    have hx : x ∈ call := by rw [← e, hxs]; simp
    have hl := hc.ok x hx
    have hnd : x ∉ d := by
      have hn := hc.nodup
      rw [← e, hxs] at hn
      intro hd
      have := (List.nodup_append.mp hn).2.2 x hd x (by simp)
      exact this rfl
    refine Sp.bind (a := 0) (b := 0) (P := fun v => v = fr (X (ixD cs x) f (t x))) (Sp.is (Is.o2 (Is.pure _) (Is.pure x) ⟨okIx (by rw [parts_len]; exact hl), parts_at cs f t hl⟩) rfl) ?_ (by decide)
    rintro _ rfl
    refine Sp.bind (a := 0) (b := 0) (P := fun l => l = parts cs f (bump t (d ++ [x]) 1)) ?_ (fun l e => Sp.pure e) (by decide)
    refine Sp.o2 (a := 0) (b := 0) (P := fun v => v = fr (X (ixD cs x) f (t x + 1))) (P' := fun i => i = x) (Sp.is (lgrown_is (h.at hl) ⟨h.f1, h.f4⟩ (hf.le h hl) (Is.o2 (Is.pure _) (Is.pure _) ⟨okIx hl, rfl⟩)) rfl) Sp.pure' ?_ (by decide)
    rintro _ _ rfl rfl
    exact ⟨okIx (by rw [parts_len]; exact hl), parts_put hl hnd⟩
theorem shParts (h : OkG cs f L) {t : Int → Nat} (ht : ∀ l : Int, 0 ≤ l → l < cs.length → t l ≤ 16) (hn : cs.length ≤ 8) : Shw 2 60000 (eT (e2 eI eI) (parts cs f t)) := by
  refine shT (n := 5000) (m := 8) (fun x hx => ?_) (by rw [parts_len]; exact hn) (by decide)
  unfold parts at hx
  obtain ⟨i, hi, rfl⟩ := List.mem_map.mp hx
  have hi := List.mem_range.mp hi
  have hl : 0 ≤ ((i : Nat) : Int) ∧ ((i : Nat) : Int) < cs.length := by omega
  obtain ⟨h1, h2, h3⟩ := X_p (t := t i) (h.at hl) ⟨h.f1, h.f4⟩ (ht _ hl.1 hl.2)
  obtain ⟨n1, n2⟩ := num_le h1 h2 h3
  exact shFr (k := 0) ⟨Nat.lt_of_le_of_lt n1 (big_lt (Nat.le_refl _) (by decide)), Nat.lt_of_le_of_lt n2 (big_lt (Nat.le_refl _) (by decide))⟩
/-- the loop of a call, as the law runs it -/
theorem lcall_sp (h : OkG cs f L) (hn : cs.length ≤ 8) {t : Int → Nat} (hf : Few cs L t) {call : List Int} (hc : OkCall cs.length f call) : Sp 0 (SM.whX (δ := Bool) (fun (s9 : (List (Int × Int)) × Int) => (SM.lift (Tm.pure true))) (parts cs f t, (0 : Int)) (fun (s9 : (List (Int × Int)) × Int) => (SM.bind (SM.lift (Tm.o1 p__law_sum (Tm.amap (Tm.pure call) (fun (x10 : Int) => (Tm.o2 tIx (Tm.pure s9.1) (Tm.pure x10)))))) fun (v12 : (Int × Int)) => (SM.ite (SM.lift (Tm.o2 tNe (Tm.o1 (tRepr eB) (Tm.o2 p_are_answered (Tm.o1 tTup (Tm.pure s9.1)) (Tm.pure call))) (Tm.o1 (tRepr eB) (Tm.o2 tGe (Tm.pure v12.1) (Tm.pure v12.2))))) (SM.mp .rt (SM.lift (Tm.pure false))) (SM.ite (SM.lift (Tm.o2 tGe (Tm.pure v12.1) (Tm.pure v12.2))) (SM.pure (.bk (s9.1, s9.2))) (SM.bind (SM.lift (Tm.pure s9.1)) fun (v_late13 : (List (Int × Int))) => (SM.bind (SM.fold (SM.lift (Tm.pure call)) v_late13 (fun (x15 : Int) (s14 : (List (Int × Int))) => (SM.bind (SM.lift (Tm.o2 tIx (Tm.pure s9.1) (Tm.pure x15))) fun (v17 : (Int × Int)) => (SM.bind (SM.o2 (tPut s14) (SM.lift (Tm.o1 p__law_sum (Tm.lim (Tm.cons (Tm.o2 tPair (Tm.pure v17.1) (Tm.pure v17.2)) (Tm.cons (Tm.o2 p__law_low (Tm.pure v17.1) (Tm.o2 tMul (Tm.pure v17.2) (Tm.o2 tIx (Tm.pure cs) (Tm.pure x15)))) (Tm.cons (Tm.o2 tPair (Tm.pure (1 : Int)) (Tm.o2 tMul (Tm.pure f) (Tm.o2 tIx (Tm.pure cs) (Tm.pure x15)))) (Tm.nil (α := (Int × Int))))))))) (SM.lift (Tm.pure x15))) fun (v18 : (List (Int × Int))) => SM.pure v18)))) fun (v19 : (List (Int × Int))) => (SM.ite (SM.lift (Tm.o2 tNe (Tm.o1 (tRepr (eT (e2 eI eI))) (Tm.o4 p_one_turn_more (Tm.pure cs) (Tm.pure f) (Tm.o1 tTup (Tm.pure s9.1)) (Tm.pure call))) (Tm.o1 (tRepr (eT (e2 eI eI))) (Tm.o1 tTup (Tm.pure v19))))) (SM.mp .rt (SM.lift (Tm.pure false))) (SM.bind (SM.o2 tPair (SM.lift (Tm.pure v19)) (SM.lift (Tm.o2 tAdd (Tm.pure s9.2) (Tm.pure (1 : Int))))) fun (v20 : (List (Int × Int)) × Int) => SM.pure (.nx (v20.1, v20.2)))))))))))
    (fun r => ∃ s, r = .nx s ∧ ∃ k, First cs f t call k ∧ s = (parts cs f (bump t call k), (k : Int))) := by
  obtain ⟨l0, hl0⟩ := List.exists_mem_of_ne_nil call hc.ne
  refine Sp.whX (a := 0) (n := 20) (fun n s => ∃ k : Nat, s = (parts cs f (bump t call k), (k : Int)) ∧ (∀ j < k, tot cs f (bump t call j) call < 1) ∧ k + n = 20) (fun s => ∃ k, First cs f t call k ∧ s = (parts cs f (bump t call k), (k : Int))) ⟨0, by rw [bump_zero]; rfl, fun j hj => absurd hj (Nat.not_lt_zero _), rfl⟩ (by decide) ?_ (by decide)
  rintro n s ⟨k, rfl, hb, hkn⟩
  refine ⟨fun b => b = true, Sp.pure', fun e => (by cases e), fun _ => ?_⟩
  obtain ⟨hfk, _⟩ := first_few h hc hf k hb
  have hk15 : bump t call k l0 ≤ 15 := hfk.le h (hc.ok l0 hl0)
  have hb0 : bump t call k l0 = t l0 + k := by unfold bump; rw [if_pos hl0]
  refine Sp.bind (a := 0) (b := 0) (P := fun v => v = fr (tot cs f (bump t call k) call)) (Sp.is (ltot_is h hfk hc) rfl) ?_ (by decide)
  rintro _ rfl
  have hge : Is (Tm.o2 tGe (Tm.pure (fr (tot cs f (bump t call k) call)).1) (Tm.pure (fr (tot cs f (bump t call k) call)).2)) (decide (1 ≤ tot cs f (bump t call k) call)) := Is.o2 (Is.pure _) (Is.pure _) ⟨trivial, ge_fr _⟩
  refine Sp.chk (b := 0) (same_is (a := decide (1 ≤ tot cs f (bump t call k) call)) (Is.o2 (Is.o1 (Is.pure _) (Is.pure _)) (Is.pure _) (answered_is h hfk hc)) hge (okR (shB (k := 0) (n := 5) (by decide)) (by decide) (by decide))) ?_ (by decide)
  refine Sp.ite (a := 0) (b := 0) (P := fun b => b = decide (1 ≤ tot cs f (bump t call k) call)) (Sp.is hge rfl) (fun e => ?_) (fun e => ?_) (by decide)
  · have he := of_decide_eq_true e.symm
    exact Sp.pure (.inr ⟨_, rfl, k, ⟨he, hb⟩, rfl⟩)
  · have he := of_decide_eq_false e.symm
    have hlt := Rat.not_le.mp he
    refine Sp.bind (a := 0) (b := 0) (P := fun v => v = parts cs f (bump t call k)) Sp.pure' ?_ (by decide)
    rintro _ rfl
    refine Sp.bind (a := 0) (b := 0) (P := fun l => l = parts cs f (bump (bump t call k) call 1)) (late_sp h hfk hc) ?_ (by decide)
    rintro _ rfl
    have ht := turn_is h hfk hc
    have sh := shParts h (t := bump (bump t call k) call 1) (fun l h0 h1 => by
      have := hfk.le h ⟨h0, h1⟩
      have e : ∀ (t : Int → Nat) (call : List Int) (l : Int), bump t call 1 l ≤ t l + 1 := fun t call l => by
        unfold bump
        split <;> omega
      have := e (bump t call k) call l
      omega) hn
    refine Sp.chk (b := 0) (same_is (a := parts cs f (bump (bump t call k) call 1)) ⟨⟨trivial, trivial, ⟨trivial, trivial⟩, trivial, ht.1⟩, ht.2⟩ (Is.o1 (Is.pure _) (Is.pure _)) (okR sh (by decide) (by decide))) ?_ (by decide)
    refine Sp.bind (a := 0) (b := 0) (P := fun v => v = (parts cs f (bump t call (k + 1)), ((k + 1 : Nat) : Int))) ?_ ?_ (by decide)
    · refine Sp.o2 (a := 0) (b := 0) (P := fun v => v = parts cs f (bump (bump t call k) call 1)) (P' := fun v => v = ((k + 1 : Nat) : Int)) Sp.pure' (Sp.is (Is.o2 (Is.pure _) (Is.pure _) (Is.pure _)) rfl) ?_ (by decide)
      rintro _ _ rfl rfl
      exact ⟨trivial, by show (_, _) = _; rw [bump_succ t call k]⟩
    · rintro _ rfl
      refine Sp.pure (.inl ⟨_, .inl rfl, n - 1, by omega, k + 1, rfl, fun j hj => ?_, by omega⟩)
      rcases Nat.lt_or_ge j k with h1 | h1
      · exact hb j h1
      · obtain rfl : j = k := by omega
        exact hlt
end
end Cov

/-! CovI: the end of a lap of the law k94. -/
namespace Cov
open PySem DL TL FR

section
variable {cs : List Int} {f : Int} {L : Nat}
/-- what is known behind the rows -/
structure Lap (cs : List Int) (f : Int) (L : Nat) (row : List (List Int)) (ks : List Nat) (t' : Int → Nat) : Prop where
  ok : OkG cs f L
  L1 : 1 ≤ L
  n1 : 1 ≤ cs.length
  n6 : cs.length ≤ 6
  len : row.length ≤ 12
  call : ∀ c ∈ row, OkCall cs.length f c
  run : Run cs f (fun _ => 0) row ks t'
  few : Few cs L t'
  low : whole cs f t' ≤ 2 * ((ks.sum : Nat) : Rat)
  turn : ∀ l, t' l = turnsOf row ks l
  klen : ks.length = row.length
theorem Lap.of (h : OkG cs f L) (h1 : 1 ≤ L) (hn1 : 1 ≤ cs.length) (hn : cs.length ≤ 6) {row : List (List Int)} {ks : List Nat} {t' : Int → Nat} (hr : row.length ≤ 12) (hc : ∀ c ∈ row, OkCall cs.length f c) (run : Run cs f (fun _ => 0) row ks t') : Lap cs f L row ks t' := by
  obtain ⟨g1, g2, g3, g4⟩ := run.facts h hc (few_zero cs L)
  refine ⟨h, h1, hn1, hn, hr, hc, run, g1, ?_, fun l => by rw [g3 l, Nat.zero_add], g4⟩
  have e : whole cs f (fun _ => 0) = 0 := by
    unfold whole
    have : ∀ i : Nat, ((ixD cs ((i : Nat) : Int) : Int) : Rat) * X (ixD cs ((i : Nat) : Int)) f 0 = 0 := fun i => by rw [X_zero, Rat.mul_zero]
    rw [List.map_congr_left fun i _ => this i]
    exact sum_zero _
  rw [e, Rat.zero_add] at g2
  exact g2
variable {row : List (List Int)} {ks : List Nat} {t' : Int → Nat}
theorem Lap.small (h : Lap cs f L row ks t') : ∀ k ∈ ks, k ≤ 15 := Run.small h.ok h.call (few_zero cs L) h.run
theorem Lap.xs (h : Lap cs f L row ks t') : OkX DD BB (scaled L ks) := scaled_ok h.L1 h.ok.L3 h.small (by have := h.klen; have := h.len; omega)
theorem Lap.sum_le (h : Lap cs f L row ks t') : ks.sum ≤ 12 * 15 := by
  have : ∀ l : List Nat, (∀ k ∈ l, k ≤ 15) → l.sum ≤ l.length * 15 := by
    intro l
    induction l with
    | nil => intro _; exact Nat.le_refl _
    | cons k l ih =>
      intro hk
      have := ih fun j hj => hk j (List.mem_cons_of_mem _ hj)
      have := hk k List.mem_cons_self
      rw [List.sum_cons, List.length_cons]
      omega
  have h1 := this ks h.small
  have h2 := h.klen
  have h3 := h.len
  omega
theorem whole_bd (h : OkG cs f L) {t : Int → Nat} (hf : Few cs L t) (hn : cs.length ≤ 8) : (fr (whole cs f t)).1.natAbs < Big ∧ (fr (whole cs f t)).2.natAbs < Big := by
  obtain ⟨h1, h2, h3⟩ := whole_ps h hf hn
  rw [← h3]
  generalize hps : ((List.range cs.length).map fun i => (ixD cs ((i : Nat) : Int) * (fr (X (ixD cs ((i : Nat) : Int)) f (t i))).1, (fr (X (ixD cs ((i : Nat) : Int)) f (t i))).2)) = ps at *
  have hq : ∀ y ∈ ps.map q, Dv DD y ∧ -(BB : Rat) ≤ y ∧ y ≤ (BB : Rat) := by
    intro y hy
    obtain ⟨p, hp, rfl⟩ := List.mem_map.mp hy
    have := h1 p hp
    exact ⟨this.dv, this.lo, this.hi⟩
  have a1 := FR.sum_le (B := BB) (l := ps.map q) fun y hy => (hq y hy).2.2
  have a2 := le_sum (B := BB) (l := ps.map q) fun y hy => (hq y hy).2.1
  have := Bd.of DD_pos (Dv.sum fun y hy => (hq y hy).1) a2 a1 (Nat.le_refl _)
  rw [List.length_map] at this
  exact ⟨by have := this.1; show ((ps.map q).sum).num.natAbs < Big; omega, by have := this.2; show (((ps.map q).sum).den : Int).natAbs < Big; rw [Int.natAbs_natCast]; omega⟩
theorem Lap.grown (h : Lap cs f L row ks t') : Is (p_growing_parts cs f row) (parts cs f t', ksI ks, fr (whole cs f t')) := by
  obtain ⟨ks2, t2, h1, h2⟩ := growing_is h.ok (by have := h.n6; omega) (by have := h.len; omega) h.call
  obtain ⟨rfl, rfl⟩ := h1.one h.run
  exact h2
theorem Lap.shKs (h : Lap cs f L row ks t') : Shw 2 60000 (eT eI (ksI ks)) := by
  refine shT (k := 1) (n := 2000) (m := 12) (fun x hx => ?_) (by unfold ksI; rw [List.length_map, h.klen]; exact h.len) (by decide)
  unfold ksI at hx
  obtain ⟨k, hk, rfl⟩ := List.mem_map.mp hx
  have := h.small k hk
  exact shI (small_nat (by omega))
theorem Lap.shAll (h : Lap cs f L row ks t') : okRepr (e3 (eT (e2 eI eI)) (eT eI) (e2 eI eI) (parts cs f t', ksI ks, fr (whole cs f t'))) = true := by
  have h1 := shParts h.ok (t := t') (fun l h0 h1 => by have := h.few.le h.ok ⟨h0, h1⟩; omega) (by have := h.n6; omega)
  have h2 := h.shKs
  have h3 : Shw 2 60000 (e2 eI eI (fr (whole cs f t'))) := Shw.mono (shFr (k := 1) (whole_bd h.ok h.few (by have := h.n6; omega))) (by decide) (by decide)
  exact okR (sh3 (k := 2) (n := 60000) (r := 200000) h1 h2 h3 (by decide)) (by decide) (by decide)
theorem Lap.shPrices (h : Lap cs f L row ks t') : Shw 2 100000 (eT (e2 eI eI) ((scaled L ks).map fr)) := by
  refine shT (k := 1) (n := 5000) (m := 12) (fun x hx => ?_) (by unfold scaled; rw [List.length_map, List.length_map, h.klen]; exact h.len) (by decide)
  obtain ⟨y, hy, rfl⟩ := List.mem_map.mp hx
  have := h.xs.p hy
  exact shFr (k := 0) ⟨this.n1, this.n2⟩
theorem Lap.shTwo (h : Lap cs f L row ks t') : okRepr (eL eD [eI (L : Int), eT (e2 eI eI) ((scaled L ks).map fr)]) = true := by
  have h1 := h.shPrices
  have h2 : Shw 2 100000 (eI (L : Int)) := Shw.mono (shI (k := 0) (small_nat (by have := h.ok.L3; omega))) (by decide) (by decide)
  exact okR (shL (e := eD) (k := 2) (n := 100000) (m := 2) (r := 300000) (fun d hd => by
    simp at hd
    rcases hd with rfl | rfl
    · exact h2
    · exact h1) (by simp) (by decide)) (by decide) (by decide)
theorem Lap.shSum (h : Lap cs f L row ks t') : okRepr (e2 eI eI (fr (scaled L ks).sum)) = true := by
  have hx := h.xs
  have a1 := FR.sum_le (B := BB) (l := scaled L ks) fun y hy => hx.hi y hy
  have a2 := le_sum (B := BB) (l := scaled L ks) fun y hy => neg_BB (hx.lo y hy)
  have := Bd.of DD_pos (Dv.sum fun y hy => hx.dv y hy) a2 a1 (Nat.le_refl _)
  have hb := hx.big
  have e : ((scaled L ks).length * BB + 1) * DD ≤ ((scaled L ks).length * BB + BB + 1) * DD := Nat.mul_le_mul_right _ (by omega)
  exact okR (shFr (k := 0) ⟨by have := this.1; show ((scaled L ks).sum).num.natAbs < Big; omega, by have := this.2; show (((scaled L ks).sum).den : Int).natAbs < Big; rw [Int.natAbs_natCast]; omega⟩) (by decide) (by decide)
theorem Lap.fits (h : Lap cs f L row ks t') : fitsX cs row (scaled L ks) := fits_scaled h.ok h.L1 h.few fun l => by rw [h.turn l, Nat.zero_add]
theorem Lap.costs (h : Lap cs f L row ks t') : ∀ c ∈ cs, c.natAbs < Big := fun c hc => small_nat (by have := h.ok.cost c hc; omega)
theorem Lap.bar (h : Lap cs f L row ks t') {c : Int} {s : List Int} (hl : Least cs row c s) : ((ks.sum : Nat) : Rat) ≤ (L : Rat) * (c : Rat) := by
  have h1 := Cov.bar (cs := cs) (lots := s) (row := row) (xs := scaled L ks) (by unfold scaled; rw [List.length_map, h.klen]) h.xs.lo h.fits (subs_ok _ s hl.mem) hl.ans
  rw [← hl.cost, sum_scaled] at h1
  have hLr : (0 : Rat) < (L : Rat) := Rat.natCast_pos.mpr h.L1
  have h3 : ((ks.sum : Nat) : Rat) / (L : Rat) * (L : Rat) = ((ks.sum : Nat) : Rat) := Rat.div_mul_cancel (by grind)
  have h4 := Rat.mul_le_mul_of_nonneg_right h1 (show (0 : Rat) ≤ (L : Rat) by grind)
  rw [h3, Rat.mul_comm] at h4
  exact h4
theorem Lap.barI (h : Lap cs f L row ks t') {c : Int} {s : List Int} (hl : Least cs row c s) : ((ks.sum : Nat) : Int) ≤ (L : Int) * c := by
  have := h.bar hl
  have e : (((ks.sum : Nat) : Int) : Rat) ≤ (((L : Int) * c : Int) : Rat) := by rw [Rat.intCast_mul]; exact this
  exact Rat.intCast_le_intCast.mp e
theorem costL_small (h : Lap cs f L row ks t') {c : Int} {s : List Int} (hl : Least cs row c s) : c.natAbs ≤ 100 := by
  have hok := subs_ok _ s hl.mem
  have hlen := subs_row _ s hl.mem
  have key : ∀ l : List Int, Okl cs.length l → 0 ≤ costL cs l ∧ costL cs l ≤ l.length * 5 := by
    intro l
    induction l with
    | nil => intro _; exact ⟨Int.le_refl 0, Int.le_refl 0⟩
    | cons x l ih =>
      intro ho
      have h1 := ih fun y hy => ho y (List.mem_cons_of_mem _ hy)
      have h2 := h.ok.at (ho x List.mem_cons_self)
      have e : costL cs (x :: l) = ixD cs x + costL cs l := by unfold costL; rw [List.map_cons, List.sum_cons]
      rw [e, List.length_cons]
      omega
  have := key s hok
  rw [hl.cost]
  have := h.n6
  omega
theorem Lap.cost_le (h : Lap cs f L row ks t') : (fr (whole cs f t')).1 ≤ 2 * ((ks.sum : Nat) : Int) * (fr (whole cs f t')).2 := by
  have h1 := h.low
  have e : (2 : Rat) * ((ks.sum : Nat) : Rat) = ((2 * ((ks.sum : Nat) : Int) : Int) : Rat) := by rw [Rat.intCast_mul]; rfl
  rw [e, le_fr] at h1
  exact h1
theorem Lap.cost_le2 (h : Lap cs f L row ks t') {c : Int} {s : List Int} (hl : Least cs row c s) : (fr (whole cs f t')).1 ≤ 2 * (L : Int) * c * (fr (whole cs f t')).2 := by
  refine Int.le_trans h.cost_le (Int.mul_le_mul_of_nonneg_right ?_ (Int.le_of_lt (fr_pos _)))
  have := h.barI hl
  rw [Int.mul_assoc]
  omega
theorem Lap.within (h : Lap cs f L row ks t') : Is (p_is_within_turns cs f row) true := by
  unfold p_is_within_turns
  obtain ⟨b1, b2⟩ := whole_bd h.ok h.few (by have := h.n6; omega)
  have hs := h.sum_le
  refine Is.bind (Is.o3 (Is.pure _) (Is.pure _) (Is.pure _) h.grown) ?_
  refine Is.o2 (Is.pure _) (Is.o2 (Is.o2 (c := 2 * ((ks.sum : Nat) : Int)) (Is.pure (2 : Int)) (Is.o1 (a := ksI ks) (Is.pure _) ⟨trivial, sum_ksI ks⟩) ⟨okMul_big (small_nat (by decide)) (small_nat (by omega)), rfl⟩) (Is.pure _) ⟨okMul_big (small_nat (by omega)) b2, rfl⟩) ⟨trivial, ?_⟩
  exact decide_eq_true h.cost_le
theorem ff_of {a b : Int} {m n : Tm Int} (hm : Is m a) (hn : Is n b) (h : a ≤ b) : Is (Tm.o2 tGt m n) false := Is.o2 hm hn ⟨trivial, decide_eq_false (by omega)⟩
theorem isT {m : Tm Bool} (h : Is m true) : Is (Tm.o2 (fun a b => Tm.pure (!(a == b))) m (Tm.pure true)) false := Is.o2 h (Is.pure _) ⟨trivial, rfl⟩
theorem Lap.cost1 (h : Lap cs f L row ks t') : Is (Tm.o2 tGt (Tm.mp (fun p => p.1) (Tm.pure (fr (whole cs f t')))) (Tm.o2 tMul (Tm.o2 tMul (Tm.pure (2 : Int)) (Tm.o1 tSum (Tm.pure (ksI ks)))) (Tm.mp (fun p => p.2) (Tm.pure (fr (whole cs f t')))))) false := by
  obtain ⟨b1, b2⟩ := whole_bd h.ok h.few (by have := h.n6; omega)
  have hs := h.sum_le
  exact ff_of (Is.mp (Is.pure _)) (Is.o2 (Is.o2 (c := 2 * ((ks.sum : Nat) : Int)) (Is.pure (2 : Int)) (Is.o1 (a := ksI ks) (Is.pure _) ⟨trivial, sum_ksI ks⟩) ⟨okMul_big (small_nat (by decide)) (small_nat (by omega)), rfl⟩) (Is.mp (Is.pure _)) ⟨okMul_big (small_nat (by omega)) b2, rfl⟩) h.cost_le
theorem Lap.cost2 (h : Lap cs f L row ks t') {c : Int} {s : List Int} (hl : Least cs row c s) : Is (Tm.o2 tGt (Tm.mp (fun p => p.1) (Tm.pure (fr (whole cs f t')))) (Tm.o2 tMul (Tm.o2 tMul (Tm.o2 tMul (Tm.pure (2 : Int)) (Tm.pure (L : Int))) (Tm.pure c)) (Tm.mp (fun p => p.2) (Tm.pure (fr (whole cs f t')))))) false := by
  obtain ⟨b1, b2⟩ := whole_bd h.ok h.few (by have := h.n6; omega)
  have hs := costL_small h hl
  have hL := h.ok.L3
  have hm : (2 * (L : Int) * c).natAbs ≤ 2 ^ 100 := by
    rw [Int.natAbs_mul]
    have := Nat.mul_le_mul (show (2 * (L : Int)).natAbs ≤ 6 by omega) hs
    omega
  exact ff_of (Is.mp (Is.pure _)) (Is.o2 (Is.o2 (c := 2 * (L : Int) * c) (Is.o2 (c := 2 * (L : Int)) (Is.pure (2 : Int)) (Is.pure (L : Int)) ⟨okMul_big (small_nat (by decide)) (small_nat (by omega)), rfl⟩) (Is.pure c) ⟨okMul_big (small_nat (by omega)) (small_nat (by omega)), rfl⟩) (Is.mp (Is.pure _)) ⟨okMul_big (small_nat hm) b2, rfl⟩) (h.cost_le2 hl)
theorem Lap.sums (h : Lap cs f L row ks t') {c : Int} {s : List Int} (hl : Least cs row c s) : Is (Tm.o2 tGt (Tm.o1 tSum (Tm.pure (ksI ks))) (Tm.o2 tMul (Tm.pure (L : Int)) (Tm.pure c))) false := by
  have hs := costL_small h hl
  have hL := h.ok.L3
  exact ff_of (Is.o1 (a := ksI ks) (Is.pure _) ⟨trivial, sum_ksI ks⟩) (Is.o2 (Is.pure _) (Is.pure _) ⟨okMul_big (small_nat (by omega)) (small_nat (by omega)), rfl⟩) (h.barI hl)
theorem Lap.pbar (h : Lap cs f (powL f) row ks t') : Is (p_parts_bar cs f row) (fr (scaled (powL f) ks).sum) := by
  have := psum_is h.xs
  unfold p_parts_bar
  exact Is.o1 (Is.o2 (Is.pure _) (Is.mp (Is.o3 (Is.pure _) (Is.pure _) (Is.pure _) h.grown)) (scaled_is h.ok.f1 h.ok.f4 ks)) ⟨this.1.2, this.2⟩
theorem Lap.leasts (h : Lap cs f L row ks t') : ∃ c s, Least cs row c s ∧ Is (p_least_answer cs row) c ∧ Is (Tm.mp (fun p => p.1) ⟨((Tm.o2 p__law_least (Tm.pure cs) (Tm.pure row))).ok ∧ ((Tm.o2 p__law_least (Tm.pure cs) (Tm.pure row))).val.isSome = true, ((Tm.o2 p__law_least (Tm.pure cs) (Tm.pure row))).val.getD default⟩) c := by
  obtain ⟨h1, h2⟩ := all_answer h.call
  obtain ⟨c, s, hl, _, hi⟩ := least_is (by have := h.n6; omega) h1 h2
  have hll := lleast_is (cs := cs) (row := row) (by have := h.n6; omega)
  refine ⟨c, s, hl, hi, ?_⟩
  have hv : (Tm.o2 p__law_least (Tm.pure cs) (Tm.pure row)).val = some (c, s) := hll.2.trans hl.eq
  refine ⟨⟨⟨trivial, trivial, hll.1⟩, by rw [hv]; rfl⟩, ?_⟩
  show ((Tm.o2 p__law_least (Tm.pure cs) (Tm.pure row)).val.getD default).1 = c
  rw [hv]; rfl
end
end Cov

/-! CovJ: the tight way, in plain. -/
namespace Cov
open PySem DL TL FR

def rngL (n : Nat) (F : Int → Int) : List Int := (List.range n).map fun i => F ((i : Nat) : Int)
theorem rng_len (n : Nat) (F : Int → Int) : (rngL n F).length = n := by unfold rngL; simp
theorem rng_get {n : Nat} (F : Int → Int) {i : Nat} (h : i < n) : (rngL n F)[i]? = some (F i) := by
  unfold rngL
  rw [List.getElem?_map, List.getElem?_range h]; rfl
theorem rng_at {n : Nat} (F : Int → Int) {l : Int} (h : 0 ≤ l ∧ l < n) : ixD (rngL n F) l = F l := by
  rw [ixD_get h.1, rng_get F (by omega), Int.toNat_of_nonneg h.1]; rfl
theorem rng_put {n : Nat} {F G : Int → Int} {x : Int} {v : Int} (hx : 0 ≤ x ∧ x < n) (h1 : G x = v) (h2 : ∀ i, i ≠ x → G i = F i) : putIx (rngL n F) x v = rngL n G := by
  rw [putIx_eq hx.1 (by rw [rng_len]; exact hx.2)]
  refine List.ext_getElem? fun i => ?_
  by_cases hi : i < n
  · rw [List.getElem?_set, rng_get G hi]
    by_cases e : x.toNat = i
    · have e' : ((i : Nat) : Int) = x := by omega
      rw [if_pos e, if_pos (by rw [rng_len]; omega), e', h1]
    · rw [if_neg e, rng_get F hi, h2 _ (by omega)]
  · rw [List.getElem?_eq_none (by rw [List.length_set, rng_len]; omega), List.getElem?_eq_none (by rw [rng_len]; omega)]
theorem cs_rng (cs : List Int) : cs = rngL cs.length (ixD cs) := cs_eq cs
/-- a walk over a call that changes the entries of its lots by k -/
theorem puts_is {n : Nat} {F : Int → Int} {k : Int} {call : List Int} (hok : Okl n call) (hn : call.Nodup) {f : Int → List Int → Tm (List Int)}
    (hf : ∀ x s, x ∈ call → s.length = n → Is (f x s) (putIx s x (ixD s x + k))) : Is (Tm.fold (Tm.pure call) (rngL n F) f) (rngL n fun i => if i ∈ call then F i + k else F i) := by
  have := Tm.fold_pre (m := Tm.pure call) (s := rngL n F) (xs := call) (f := f) (fun d s => s = rngL n fun i => if i ∈ d then F i + k else F i) (Is.pure _) (by simp) (by
    rintro d x r s e rfl
    have hx : x ∈ call := by rw [e]; simp
    have hl := hok x hx
    have hnd : x ∉ d := by
      intro hd
      rw [e] at hn
      exact (List.nodup_append.mp hn).2.2 x hd x (by simp) rfl
    have h := hf x _ hx (rng_len n fun i => if i ∈ d then F i + k else F i)
    refine ⟨h.1, ?_⟩
    rw [h.2, rng_at _ hl]
    refine rng_put hl ?_ fun i hi => ?_
    · simp [hnd]
    · by_cases h : i ∈ d
      · simp [h]
      · simp [h, hi])
  exact ⟨this.1, this.2⟩
def pay (p : Int → Int) (call : List Int) (k : Int) : Int → Int := fun i => if i ∈ call then p i + k else p i
def mn (cs : List Int) (p : Int → Int) (call : List Int) : Int := (minI (call.map fun l => ixD cs l - p l)).getD 0
def newT (cs : List Int) (p : Int → Int) (taken call : List Int) : List Int := call.filter fun l => decide (p l = ixD cs l) && !decide (l ∈ taken)
structure TS where
  p : Int → Int
  taken : List Int
  steps : List (List Int)
  prices : List Int
def stepT (cs : List Int) (s : TS) (call : List Int) : TS :=
  ⟨pay s.p call (mn cs s.p call), s.taken ++ newT cs (pay s.p call (mn cs s.p call)) s.taken call, s.steps ++ [newT cs (pay s.p call (mn cs s.p call)) s.taken call], s.prices ++ [mn cs s.p call]⟩
def runT (cs : List Int) (row : List (List Int)) : TS := row.foldl (stepT cs) ⟨fun _ => 0, [], [], []⟩
theorem runT_snoc (cs : List Int) (d : List (List Int)) (c : List Int) : runT cs (d ++ [c]) = stepT cs (runT cs d) c := by
  unfold runT
  rw [List.foldl_append]; rfl
theorem mn_spec {cs : List Int} {p : Int → Int} {call : List Int} (h : call ≠ []) : (∃ l ∈ call, mn cs p call = ixD cs l - p l) ∧ ∀ l ∈ call, mn cs p call ≤ ixD cs l - p l := by
  have hm : ∃ m, minI (call.map fun l => ixD cs l - p l) = some m := by
    cases call with
    | nil => exact absurd rfl h
    | cons x r => exact ⟨_, rfl⟩
  obtain ⟨m, hm⟩ := hm
  obtain ⟨h1, h2⟩ := minI_spec hm
  have e : mn cs p call = m := by unfold mn; rw [hm]; rfl
  rw [e]
  obtain ⟨l, hl, h3⟩ := List.mem_map.mp h1
  exact ⟨⟨l, hl, h3.symm⟩, fun l hl => h2 _ (List.mem_map_of_mem hl)⟩
def psum (n : Nat) (p : Int → Int) : Int := ((List.range n).map fun i => p ((i : Nat) : Int)).sum
theorem sum_addI {α : Type} (f g : α → Int) : ∀ l : List α, (l.map fun x => f x + g x).sum = (l.map f).sum + (l.map g).sum
  | [] => rfl
  | x :: l => by
    simp only [List.map_cons, List.sum_cons, sum_addI f g l]
    omega
theorem sum_indI (k : Int) (n : Nat) : ∀ call : List Int, call.Nodup → Okl n call → ((List.range n).map fun i => if ((i : Nat) : Int) ∈ call then k else 0).sum = call.length * k := by
  have one : ∀ (n k' : Nat), ((List.range n).map fun i => if ((i : Nat) : Int) = (k' : Int) then k else 0).sum = if k' < n then k else 0 := by
    intro n
    induction n with
    | zero => intro k'; simp
    | succ n ih =>
      intro k'
      have e1 : ([if ((n : Nat) : Int) = (k' : Int) then k else 0] : List Int).sum = if ((n : Nat) : Int) = (k' : Int) then k else 0 := by simp
      rw [List.range_succ, List.map_append, List.map_cons, List.map_nil, List.sum_append, ih k', e1]
      by_cases h : n = k'
      · subst h
        rw [if_neg (Nat.lt_irrefl _), if_pos rfl, if_pos (Nat.lt_succ_self _)]; omega
      · by_cases h2 : k' < n
        · rw [if_pos h2, if_neg (by omega), if_pos (by omega)]; omega
        · rw [if_neg h2, if_neg (by omega), if_neg (by omega)]; rfl
  intro call
  induction call with
  | nil =>
    intro _ _
    have : ∀ l : List Nat, (l.map fun i => if ((i : Nat) : Int) ∈ ([] : List Int) then k else 0).sum = 0 := by
      intro l
      induction l with
      | nil => rfl
      | cons x l ih => rw [List.map_cons, List.sum_cons, ih]; simp
    rw [this]; simp
  | cons x r ih =>
    intro hn ho
    have hx := List.nodup_cons.mp hn
    have hxo := ho x List.mem_cons_self
    have e : ∀ i : Nat, (if ((i : Nat) : Int) ∈ x :: r then k else 0) = (if ((i : Nat) : Int) = (x.toNat : Int) then k else 0) + (if ((i : Nat) : Int) ∈ r then k else 0) := by
      intro i
      rw [Int.toNat_of_nonneg hxo.1]
      by_cases h1 : ((i : Nat) : Int) = x
      · rw [if_pos h1, if_pos (by rw [h1]; simp), if_neg (by rw [h1]; exact hx.1)]; omega
      · by_cases h2 : ((i : Nat) : Int) ∈ r
        · rw [if_neg h1, if_pos h2, if_pos (List.mem_cons_of_mem _ h2)]; omega
        · rw [if_neg h1, if_neg h2, if_neg (by simp [h1, h2])]; omega
    rw [List.map_congr_left fun i _ => e i, sum_addI, one, ih hx.2 fun l hl => ho l (List.mem_cons_of_mem _ hl), if_pos (by omega), List.length_cons, Int.natCast_add, Int.add_mul]
    omega
theorem psum_pay {n : Nat} {p : Int → Int} {k : Int} {call : List Int} (hn : call.Nodup) (ho : Okl n call) : psum n (pay p call k) = psum n p + call.length * k := by
  unfold psum
  rw [← sum_indI k n call hn ho, ← sum_addI]
  refine congrArg List.sum (List.map_congr_left fun i _ => ?_)
  unfold pay
  split <;> omega
/-- what is known behind the calls d -/
structure TI (cs : List Int) (f : Int) (d : List (List Int)) (s : TS) : Prop where
  nn : ∀ l : Int, 0 ≤ l → l < cs.length → 0 ≤ s.p l ∧ s.p l ≤ ixD cs l
  tk : ∀ l : Int, l ∈ s.taken ↔ (0 ≤ l ∧ l < cs.length) ∧ s.p l = ixD cs l
  nd : s.taken.Nodup
  l1 : s.steps.length = d.length
  l2 : s.prices.length = d.length
  k0 : ∀ k ∈ s.prices, 0 ≤ k ∧ k ≤ 30
  an : ∀ c ∈ d, ∃ l ∈ c, l ∈ s.taken
  su : ∀ l : Int, pr d (s.prices.map fun (k : Int) => (k : Rat)) l = (s.p l : Rat)
  fl : s.taken = s.steps.flatten
  co : psum cs.length s.p ≤ f * s.prices.sum
  ze : ∀ x ∈ s.steps.zip s.prices, x.1 = [] ↔ x.2 = 0
  un : (∀ c ∈ cs, c = 1) → s.steps = (d.zip s.prices).map fun x => if 0 < x.2 then x.1 else []
  st : ∀ st ∈ s.steps, ∀ l ∈ st, 0 ≤ l ∧ l < cs.length
structure OkC (cs : List Int) (n : Nat) : Prop where
  cost : ∀ c ∈ cs, 1 ≤ c ∧ c ≤ 30
  n1 : 1 ≤ cs.length
  n8 : cs.length ≤ n
theorem OkC.at {cs : List Int} {n : Nat} (h : OkC cs n) {l : Int} (hl : 0 ≤ l ∧ l < cs.length) : 1 ≤ ixD cs l ∧ ixD cs l ≤ 30 := by
  have hi : l.toNat < cs.length := by omega
  rw [ixD_get hl.1, List.getElem?_eq_getElem hi]
  exact h.cost _ (List.getElem_mem hi)
theorem TI.zero {cs : List Int} {n : Nat} (h : OkC cs n) (f : Int) : TI cs f [] ⟨fun _ => 0, [], [], []⟩ := by
  refine ⟨fun l h0 h1 => ⟨Int.le_refl 0, (by have := h.at ⟨h0, h1⟩; show 0 ≤ ixD cs l; omega)⟩, fun l => ⟨fun hl => (by cases hl), fun hl => ?_⟩, .nil, rfl, rfl, fun k hk => (by cases hk), fun c hc => (by cases hc), fun l => rfl, rfl, ?_, fun x hx => (by cases hx), fun _ => rfl, fun x hx => (by cases hx)⟩
  · have := h.at hl.1
    have := hl.2
    simp only at this
    omega
  · have : psum cs.length (fun _ => 0) = 0 := by
      unfold psum
      have : ∀ l : List Nat, (l.map fun _ => (0 : Int)).sum = 0 := by
        intro l
        induction l with
        | nil => rfl
        | cons x l ih => rw [List.map_cons, List.sum_cons, ih]; rfl
      exact this _
    show psum cs.length (fun _ => 0) ≤ f * 0
    rw [this]; omega
theorem pr_snoc {d : List (List Int)} {ks : List Rat} {c : List Int} {k : Rat} (hl : d.length = ks.length) (l : Int) : pr (d ++ [c]) (ks ++ [k]) l = pr d ks l + (if l ∈ c then k else 0) := by
  unfold pr
  rw [List.zip_append hl, List.map_append]
  show (List.map (hit l) (d.zip ks) ++ [hit l (c, k)]).sum = _
  rw [sum_snoc]; rfl
section
variable {cs : List Int} {f : Int} {n : Nat} {d : List (List Int)} {s : TS} {c : List Int}
theorem TI.mn0 (h : OkC cs n) (t : TI cs f d s) (hc : OkCall cs.length f c) : 0 ≤ mn cs s.p c ∧ mn cs s.p c ≤ 30 := by
  obtain ⟨⟨l, hl, e⟩, _⟩ := mn_spec (cs := cs) (p := s.p) hc.ne
  have h1 := t.nn l (hc.ok l hl).1 (hc.ok l hl).2
  have h2 := h.at (hc.ok l hl)
  omega
theorem TI.snoc (h : OkC cs n) (t : TI cs f d s) (hc : OkCall cs.length f c) : TI cs f (d ++ [c]) (stepT cs s c) := by
  obtain ⟨⟨l0, hl0, e0⟩, hle⟩ := mn_spec (cs := cs) (p := s.p) hc.ne
  obtain ⟨k0, k30⟩ := t.mn0 h hc
  have hpay : ∀ l, pay s.p c (mn cs s.p c) l = if l ∈ c then s.p l + mn cs s.p c else s.p l := fun l => rfl
  have hnew : ∀ l, l ∈ newT cs (pay s.p c (mn cs s.p c)) s.taken c ↔ l ∈ c ∧ pay s.p c (mn cs s.p c) l = ixD cs l ∧ l ∉ s.taken := by
    intro l
    unfold newT
    rw [List.mem_filter]
    simp
  have h0t : pay s.p c (mn cs s.p c) l0 = ixD cs l0 := by rw [hpay, if_pos hl0]; omega
  have tk : ∀ l : Int, l ∈ (stepT cs s c).taken ↔ (0 ≤ l ∧ l < cs.length) ∧ (stepT cs s c).p l = ixD cs l := by
    intro l
    show l ∈ s.taken ++ newT cs (pay s.p c (mn cs s.p c)) s.taken c ↔ _ ∧ pay s.p c (mn cs s.p c) l = _
    rw [List.mem_append, hnew, t.tk]
    constructor
    · rintro (⟨h1, h2⟩ | ⟨h1, h2, _⟩)
      · refine ⟨h1, ?_⟩
        rw [hpay]
        split
        · rename_i hm
          have := hle l hm
          omega
        · exact h2
      · exact ⟨hc.ok l h1, h2⟩
    · rintro ⟨h1, h2⟩
      by_cases hs : s.p l = ixD cs l
      · exact .inl ⟨h1, hs⟩
      · right
        refine ⟨?_, h2, fun hh => hs hh.2⟩
        rw [hpay] at h2
        split at h2
        · assumption
        · exact absurd h2 hs
  refine ⟨fun l h0 h1 => ?_, tk, ?_, ?_, ?_, ?_, ?_, ?_, ?_, ?_, ?_, ?_, ?_⟩
  · show 0 ≤ pay s.p c (mn cs s.p c) l ∧ pay s.p c (mn cs s.p c) l ≤ _
    have := t.nn l h0 h1
    rw [hpay]
    split
    · rename_i hm
      have := hle l hm
      omega
    · exact this
  · show (s.taken ++ newT cs _ s.taken c).Nodup
    refine List.nodup_append.mpr ⟨t.nd, (List.filter_sublist).nodup hc.nodup, fun a ha b hb e => ?_⟩
    subst e
    exact ((hnew a).mp hb).2.2 ha
  · show (s.steps ++ [_]).length = _
    rw [List.length_append, List.length_append, t.l1]; rfl
  · show (s.prices ++ [_]).length = _
    rw [List.length_append, List.length_append, t.l2]; rfl
  · intro k hk
    have hk : k ∈ s.prices ++ [mn cs s.p c] := hk
    rcases List.mem_append.mp hk with h1 | h1
    · exact t.k0 k h1
    · rw [List.mem_singleton.mp h1]; exact ⟨k0, k30⟩
  · intro c' hc'
    rcases List.mem_append.mp hc' with h1 | h1
    · obtain ⟨l, h2, h3⟩ := t.an c' h1
      exact ⟨l, h2, List.mem_append_left _ h3⟩
    · rw [List.mem_singleton.mp h1]
      exact ⟨l0, hl0, (tk l0).mpr ⟨hc.ok l0 hl0, h0t⟩⟩
  · intro l
    show pr (d ++ [c]) ((s.prices ++ [mn cs s.p c]).map fun (k : Int) => (k : Rat)) l = ((pay s.p c (mn cs s.p c) l : Int) : Rat)
    rw [List.map_append]
    show pr (d ++ [c]) (s.prices.map (fun (k : Int) => (k : Rat)) ++ [((mn cs s.p c : Int) : Rat)]) l = _
    rw [pr_snoc (by rw [List.length_map, t.l2]), t.su, hpay]
    split
    · rw [Rat.intCast_add]
    · rw [Rat.add_zero]
  · show s.taken ++ _ = (s.steps ++ [_]).flatten
    rw [List.flatten_append, ← t.fl]
    simp
  · show psum cs.length (pay s.p c (mn cs s.p c)) ≤ f * (s.prices ++ [mn cs s.p c]).sum
    rw [psum_pay hc.nodup hc.ok, List.sum_append]
    have h1 := t.co
    have h2 : (c.length : Int) * mn cs s.p c ≤ f * mn cs s.p c := Int.mul_le_mul_of_nonneg_right hc.len k0
    have e : ([mn cs s.p c] : List Int).sum = mn cs s.p c := by simp
    rw [e, Int.mul_add]
    omega
  · intro x hx
    have hx : x ∈ (s.steps ++ [newT cs (pay s.p c (mn cs s.p c)) s.taken c]).zip (s.prices ++ [mn cs s.p c]) := hx
    rw [List.zip_append (by rw [t.l1, t.l2])] at hx
    rcases List.mem_append.mp hx with h1 | h1
    · exact t.ze x h1
    · have h1 : x = (newT cs (pay s.p c (mn cs s.p c)) s.taken c, mn cs s.p c) := by simpa using h1
      rw [h1]
      show newT cs _ s.taken c = [] ↔ mn cs s.p c = 0
      constructor
      · intro he
        have hl : l0 ∉ newT cs (pay s.p c (mn cs s.p c)) s.taken c := by rw [he]; simp
        have : l0 ∈ s.taken := Classical.byContradiction fun hn => hl ((hnew l0).mpr ⟨hl0, h0t, hn⟩)
        have := ((t.tk l0).mp this).2
        omega
      · intro he
        refine List.eq_nil_iff_forall_not_mem.mpr fun l hl => ?_
        obtain ⟨h2, h3, h4⟩ := (hnew l).mp hl
        rw [hpay, if_pos h2, he] at h3
        exact h4 ((t.tk l).mpr ⟨hc.ok l h2, by omega⟩)
  · intro hu
    show s.steps ++ [_] = ((d ++ [c]).zip (s.prices ++ [mn cs s.p c])).map _
    rw [List.zip_append (by rw [t.l2]), List.map_append, ← t.un hu]
    congr 1
    show [newT cs (pay s.p c (mn cs s.p c)) s.taken c] = [if 0 < mn cs s.p c then c else []]
    congr 1
    have hat : ∀ l : Int, 0 ≤ l ∧ l < cs.length → ixD cs l = 1 := by
      intro l hl
      have hi : l.toNat < cs.length := by omega
      rw [ixD_get hl.1, List.getElem?_eq_getElem hi]
      exact hu _ (List.getElem_mem hi)
    split
    · rename_i hp
      unfold newT
      rw [List.filter_eq_self]
      intro l hl
      have h1 := hle l hl
      have h2 := hat l (hc.ok l hl)
      have h3 := t.nn l (hc.ok l hl).1 (hc.ok l hl).2
      have h4 : pay s.p c (mn cs s.p c) l = ixD cs l := by rw [hpay, if_pos hl]; omega
      have h5 : l ∉ s.taken := fun hh => by have := ((t.tk l).mp hh).2; omega
      simp [h4, h5]
    · rename_i hp
      have he : mn cs s.p c = 0 := by omega
      refine List.eq_nil_iff_forall_not_mem.mpr fun l hl => ?_
      obtain ⟨h2, h3, h4⟩ := (hnew l).mp hl
      rw [hpay, if_pos h2, he] at h3
      exact h4 ((t.tk l).mpr ⟨hc.ok l h2, by omega⟩)
  · intro x hx l hl
    have hx : x ∈ s.steps ++ [newT cs (pay s.p c (mn cs s.p c)) s.taken c] := hx
    rcases List.mem_append.mp hx with h1 | h1
    · exact t.st x h1 l hl
    · rw [List.mem_singleton.mp h1] at hl
      exact hc.ok l ((hnew l).mp hl).1
theorem TI.run {row : List (List Int)} (h : OkC cs n) (hc : ∀ c ∈ row, OkCall cs.length f c) : TI cs f row (runT cs row) := by
  have : ∀ (todo d : List (List Int)), row = d ++ todo → TI cs f d (runT cs d) → TI cs f row (runT cs row) := by
    intro todo
    induction todo with
    | nil =>
      intro d e t
      rw [List.append_nil] at e
      rw [e]; exact t
    | cons c todo ih =>
      intro d e t
      refine ih (d ++ [c]) (by rw [e, List.append_assoc]; rfl) ?_
      rw [runT_snoc]
      exact t.snoc h (hc c (by rw [e]; simp))
  exact this row [] rfl (TI.zero h f)
end
end Cov

/-! CovK: the tight way, run. -/
namespace Cov
open PySem DL TL FR

section
variable {cs : List Int} {f : Int} {n : Nat} {d : List (List Int)} {s : TS} {c : List Int}
theorem OkC.len {cs : List Int} {n : Nat} (h : OkC cs n) (hn : n ≤ 20) : cs.length ≤ 20 := Nat.le_trans h.n8 hn
theorem nodup_len : ∀ (l m : List Int), l.Nodup → l ⊆ m → l.length ≤ m.length
  | [], m, _, _ => Nat.zero_le _
  | x :: l, m, hn, hs => by
    have hx := List.nodup_cons.mp hn
    have hm : x ∈ m := hs List.mem_cons_self
    have h1 := nodup_len l (m.erase x) hx.2 fun y hy => (List.mem_erase_of_ne (fun e => hx.1 (by rw [← e]; exact hy))).mpr (hs (List.mem_cons_of_mem _ hy))
    have h2 := List.length_erase_of_mem hm
    have h3 : 0 < m.length := List.length_pos_of_mem hm
    rw [List.length_cons]
    omega
/-- not more lots are taken than there are -/
theorem TI.tlen (t : TI cs f d s) : s.taken.length ≤ cs.length := by
  have h1 : s.taken ⊆ rgI 0 (cs.length : Int) := fun l hl => by
    have := ((t.tk l).mp hl).1
    rw [rgI_nat]
    exact List.mem_map.mpr ⟨l.toNat, List.mem_range.mpr (by omega), by omega⟩
  have := nodup_len _ _ t.nd h1
  rw [rgI_len] at this
  exact this
theorem new_is {v : List Int} {taken : List Int} {p : Int → Int} {t1 : Int → Tm Bool} (h1 : ∀ x ∈ c, Is (t1 x) (decide (p x = ixD cs x))) : Is (Tm.fmap (Tm.pure c) (fun (x11 : Int) => (Tm.and (t1 x11) (Tm.o2 tNin (Tm.pure x11) (Tm.pure taken)))) (fun (x11 : Int) => (Tm.pure x11))) (newT cs p taken c) := by
  have := Is.fmap (m := Tm.pure c) (t := fun (x11 : Int) => (Tm.and (t1 x11) (Tm.o2 tNin (Tm.pure x11) (Tm.pure taken)))) (p := fun l => decide (p l = ixD cs l) && !decide (l ∈ taken)) (f := fun (x11 : Int) => (Tm.pure x11)) (g := fun x => x) (Is.pure c) (fun x hx => Is.and (h1 x hx) fun _ => Is.o2 (Is.pure _) (Is.pure _) (Is.pure _)) (fun x _ _ => Is.pure x)
  rw [List.map_id'] at this
  exact this
theorem answered_taken (t : TI cs f d s) (call : List Int) : ans s.taken call = true ↔ ∃ l ∈ call, l ∈ s.taken := by
  unfold ans
  rw [List.any_eq_true]
  exact ⟨fun ⟨l, h1, h2⟩ => ⟨l, h1, of_decide_eq_true h2⟩, fun ⟨l, h1, h2⟩ => ⟨l, h1, decide_eq_true h2⟩⟩
theorem price_is (h : OkC cs n) (t : TI cs f d s) (hc : OkCall cs.length f c) : Is (Tm.ite (Tm.o2 p_is_call_answered (Tm.pure c) (Tm.pure s.taken)) (Tm.pure (0 : Int)) (Tm.o1 tMinL (Tm.amap (Tm.pure c) (fun (x5 : Int) => (Tm.o2 tIx (Tm.pure (rngL cs.length fun i => ixD cs i - s.p i)) (Tm.pure x5)))))) (mn cs s.p c) := by
  refine Is.ite (Is.o2 (Is.pure _) (Is.pure _) (called_is c s.taken)) (fun e => ?_) (fun e => ?_)
  · obtain ⟨l, h1, h2⟩ := (answered_taken t c).mp e
    have h3 := ((t.tk l).mp h2).2
    have h4 := (mn_spec (cs := cs) (p := s.p) hc.ne).2 l h1
    have h5 := (t.mn0 h hc).1
    have : mn cs s.p c = 0 := by omega
    rw [this]
    exact Is.pure _
  · have := Is.amap (m := Tm.pure c) (f := fun (x5 : Int) => (Tm.o2 tIx (Tm.pure (rngL cs.length fun i => ixD cs i - s.p i)) (Tm.pure x5))) (g := fun l => ixD cs l - s.p l) (Is.pure c) fun l hl => Is.o2 (Is.pure _) (Is.pure l) ⟨okIx (by rw [rng_len]; exact hc.ok l hl), rng_at _ (hc.ok l hl)⟩
    refine Is.o1 this ⟨?_, rfl⟩
    show List.map _ c ≠ []
    intro hz
    exact hc.ne (List.map_eq_nil_iff.mp hz)
theorem run_is (h : OkC cs n) (hn : n ≤ 20) {row : List (List Int)} (hr : row.length ≤ 20) (hc : ∀ c ∈ row, OkCall cs.length f c) : Is (p_tight_run cs row) ((runT cs row).steps, (runT cs row).prices) := by
  have hloop := Tm.fold_pre (m := Tm.pure row) (s := (cs, ([] : List Int), ([] : List (List Int)), ([] : List Int))) (xs := row) (f := fun (x3 : (List Int)) (s2 : (List Int) × (List Int) × (List (List Int)) × (List Int)) => (Tm.bind (Tm.ite (Tm.o2 p_is_call_answered (Tm.pure x3) (Tm.pure s2.2.1)) (Tm.pure (0 : Int)) (Tm.o1 tMinL (Tm.amap (Tm.pure x3) (fun (x5 : Int) => (Tm.o2 tIx (Tm.pure s2.1) (Tm.pure x5)))))) fun (v_price6 : Int) => (Tm.bind (Tm.fold (Tm.pure x3) s2.1 (fun (x8 : Int) (s7 : (List Int)) => (Tm.bind (Tm.o2 (tPut s7) (Tm.o2 tSub (Tm.o2 tIx (Tm.pure s7) (Tm.pure x8)) (Tm.pure v_price6)) (Tm.pure x8)) fun (v9 : (List Int)) => Tm.pure v9))) fun (v10 : (List Int)) => (Tm.bind (Tm.fmap (Tm.pure x3) (fun (x11 : Int) => (Tm.and (Tm.o2 tEq (Tm.o2 tIx (Tm.pure v10) (Tm.pure x11)) (Tm.pure (0 : Int))) (Tm.o2 tNin (Tm.pure x11) (Tm.pure s2.2.1)))) (fun (x11 : Int) => (Tm.pure x11))) fun (v_new12 : (List Int)) => (Tm.bind (Tm.o1 (tCat s2.2.1) (Tm.pure v_new12)) fun (v13 : (List Int)) => (Tm.bind (Tm.o1 (tApp s2.2.2.1) (Tm.o1 tTup (Tm.pure v_new12))) fun (v14 : (List (List Int))) => (Tm.bind (Tm.o1 (tApp s2.2.2.2) (Tm.pure v_price6)) fun (v15 : (List Int)) => Tm.pure (v10, v13, v14, v15))))))))
    (fun d s => s = (rngL cs.length (fun i => ixD cs i - (runT cs d).p i), (runT cs d).taken, (runT cs d).steps, (runT cs d).prices)) (Is.pure row) (by
      have : rngL cs.length (fun i => ixD cs i - (runT cs []).p i) = cs := by
        have e : (fun i => ixD cs i - (runT cs []).p i) = ixD cs := funext fun i => by show ixD cs i - 0 = _; omega
        rw [e, ← cs_rng]
      rw [this]; rfl) (by
    rintro d x r s e rfl
    have hx := hc x (by rw [e]; simp)
    have t := TI.run (row := d) h fun c hc' => hc c (by rw [e]; simp [hc'])
    have t2 := t.snoc h hx
    have hlen : d.length < 20 := by
      have := congrArg List.length e
      rw [List.length_append, List.length_cons] at this
      omega
    rw [runT_snoc]
    generalize runT cs d = S at t t2
    have hpp : (rngL cs.length fun i => if i ∈ x then (ixD cs i - S.p i) + -(mn cs S.p x) else ixD cs i - S.p i) = rngL cs.length fun i => ixD cs i - pay S.p x (mn cs S.p x) i := by
      congr 1
      funext i
      unfold pay
      split <;> omega
    have hl := t2.tlen
    have hl2 : (S.taken ++ newT cs (pay S.p x (mn cs S.p x)) S.taken x).length ≤ cs.length := hl
    rw [List.length_append] at hl2
    have h20 := h.len hn
    have hb : Is (Tm.bind (Tm.ite (Tm.o2 p_is_call_answered (Tm.pure x) (Tm.pure S.taken)) (Tm.pure (0 : Int)) (Tm.o1 tMinL (Tm.amap (Tm.pure x) (fun (x5 : Int) => (Tm.o2 tIx (Tm.pure (rngL cs.length fun i => ixD cs i - S.p i)) (Tm.pure x5)))))) fun (v_price6 : Int) => (Tm.bind (Tm.fold (Tm.pure x) (rngL cs.length fun i => ixD cs i - S.p i) (fun (x8 : Int) (s7 : (List Int)) => (Tm.bind (Tm.o2 (tPut s7) (Tm.o2 tSub (Tm.o2 tIx (Tm.pure s7) (Tm.pure x8)) (Tm.pure v_price6)) (Tm.pure x8)) fun (v9 : (List Int)) => Tm.pure v9))) fun (v10 : (List Int)) => (Tm.bind (Tm.fmap (Tm.pure x) (fun (x11 : Int) => (Tm.and (Tm.o2 tEq (Tm.o2 tIx (Tm.pure v10) (Tm.pure x11)) (Tm.pure (0 : Int))) (Tm.o2 tNin (Tm.pure x11) (Tm.pure S.taken)))) (fun (x11 : Int) => (Tm.pure x11))) fun (v_new12 : (List Int)) => (Tm.bind (Tm.o1 (tCat S.taken) (Tm.pure v_new12)) fun (v13 : (List Int)) => (Tm.bind (Tm.o1 (tApp S.steps) (Tm.o1 tTup (Tm.pure v_new12))) fun (v14 : (List (List Int))) => (Tm.bind (Tm.o1 (tApp S.prices) (Tm.pure v_price6)) fun (v15 : (List Int)) => Tm.pure (v10, v13, v14, v15)))))))
        (rngL cs.length (fun i => ixD cs i - (stepT cs S x).p i), (stepT cs S x).taken, (stepT cs S x).steps, (stepT cs S x).prices) := by
      refine Is.bind (price_is h t hx) (Is.bind (a := rngL cs.length fun i => ixD cs i - pay S.p x (mn cs S.p x) i) ?_ (Is.bind (new_is (cs := cs) (p := pay S.p x (mn cs S.p x)) (v := []) fun l hl => ?_) (Is.bind (Is.o1 (Is.pure _) ⟨?_, rfl⟩) (Is.bind (Is.o1 (Is.o1 (Is.pure _) (Is.pure _)) ⟨?_, rfl⟩) (Is.bind (Is.o1 (Is.pure _) ⟨?_, rfl⟩) (Is.pure _))))))
      · rw [← hpp]
        refine puts_is (k := -(mn cs S.p x)) hx.ok hx.nodup fun l s hl hs => ?_
        exact Is.bind (Is.o2 (Is.o2 (Is.o2 (Is.pure _) (Is.pure l) ⟨okIx (by rw [hs]; exact hx.ok l hl), rfl⟩) (Is.pure _) (Is.pure _)) (Is.pure l) ⟨okIx (by rw [hs]; exact hx.ok l hl), rfl⟩) (Is.pure _)
      · refine Is.o2 (Is.o2 (Is.pure _) (Is.pure l) ⟨okIx (by rw [rng_len]; exact hx.ok l hl), rng_at _ (hx.ok l hl)⟩) (Is.pure 0) ⟨trivial, ?_⟩
        exact decide_eq_decide.mpr ⟨fun z => by omega, fun z => by omega⟩
      · show S.taken.length + (newT cs _ S.taken x).length ≤ 2 ^ 24; omega
      · show S.steps.length < 2 ^ 24; rw [t.l1]; omega
      · show S.prices.length < 2 ^ 24; rw [t.l2]; omega
    exact ⟨hb.1, hb.2⟩)
  unfold p_tight_run
  refine Is.bind (a := (cs, ([] : List Int), ([] : List (List Int)), ([] : List Int))) ⟨⟨trivial, ⟨trivial, by decide⟩, ⟨trivial, by decide⟩, ⟨trivial, by decide⟩, trivial⟩, rfl⟩ (Is.bind ⟨hloop.1, hloop.2⟩ (Is.o2 (Is.pure _) (Is.pure _) (Is.pure _)))
/-- the law's own -/
theorem lrun_is (h : OkC cs n) (hn : n ≤ 20) {row : List (List Int)} (hr : row.length ≤ 20) (hc : ∀ c ∈ row, OkCall cs.length f c) : Is (p__law_tight cs row) ((runT cs row).steps, (runT cs row).prices) := by
  have hloop := Tm.fold_pre (m := Tm.pure row) (s := (rngL cs.length (fun _ => 0), ([] : List (List Int)), ([] : List Int), ([] : List Int))) (xs := row) (f := fun (x3 : (List Int)) (s2 : (List Int) × (List (List Int)) × (List Int) × (List Int)) => (Tm.bind (Tm.pure (0 : Int)) fun (v_price4 : Int) => (Tm.bind (Tm.wl (fun (s5 : (List Int) × Int) => (Tm.o2 tEq (Tm.fmap (Tm.pure x3) (fun (x7 : Int) => (Tm.o2 tEq (Tm.o2 tIx (Tm.pure s5.1) (Tm.pure x7)) (Tm.o2 tIx (Tm.pure cs) (Tm.pure x7)))) (fun (x7 : Int) => (Tm.pure x7))) (Tm.lim (Tm.nil (α := Int))))) (s2.1, v_price4) (fun (s5 : (List Int) × Int) => (Tm.bind (Tm.o2 tAdd (Tm.pure s5.2) (Tm.pure (1 : Int))) fun (v_price8 : Int) => (Tm.bind (Tm.fold (Tm.pure x3) s5.1 (fun (x10 : Int) (s9 : (List Int)) => (Tm.bind (Tm.o2 (tPut s9) (Tm.o2 tAdd (Tm.o2 tIx (Tm.pure s9) (Tm.pure x10)) (Tm.pure (1 : Int))) (Tm.pure x10)) fun (v11 : (List Int)) => Tm.pure v11))) fun (v12 : (List Int)) => Tm.pure (v12, v_price8))))) fun (v13 : (List Int) × Int) => (Tm.bind (Tm.fmap (Tm.pure x3) (fun (x14 : Int) => (Tm.and (Tm.o2 tEq (Tm.o2 tIx (Tm.pure v13.1) (Tm.pure x14)) (Tm.o2 tIx (Tm.pure cs) (Tm.pure x14))) (Tm.o2 tNin (Tm.pure x14) (Tm.pure s2.2.2.2)))) (fun (x14 : Int) => (Tm.pure x14))) fun (v_new15 : (List Int)) => (Tm.bind (Tm.o2 tCat (Tm.pure s2.2.2.2) (Tm.pure v_new15)) fun (v_taken16 : (List Int)) => (Tm.bind (Tm.o1 (tApp s2.2.1) (Tm.o1 tTup (Tm.pure v_new15))) fun (v17 : (List (List Int))) => (Tm.bind (Tm.o1 (tApp s2.2.2.1) (Tm.pure v13.2)) fun (v18 : (List Int)) => Tm.pure (v13.1, v17, v18, v_taken16))))))))
    (fun d s => s = (rngL cs.length (runT cs d).p, (runT cs d).steps, (runT cs d).prices, (runT cs d).taken)) (Is.pure row) rfl (by
    rintro d x r s e rfl
    have hx := hc x (by rw [e]; simp)
    have t := TI.run (row := d) h fun c hc' => hc c (by rw [e]; simp [hc'])
    have t2 := t.snoc h hx
    have hlen : d.length < 20 := by
      have := congrArg List.length e
      rw [List.length_append, List.length_cons] at this
      omega
    rw [runT_snoc]
    generalize runT cs d = S at t t2
    have hl := t2.tlen
    have hl2 : (S.taken ++ newT cs (pay S.p x (mn cs S.p x)) S.taken x).length ≤ cs.length := hl
    rw [List.length_append] at hl2
    have h20 := h.len hn
    obtain ⟨k0, k30⟩ := t.mn0 h hx
    obtain ⟨⟨l0, hl0, e0⟩, hle⟩ := mn_spec (cs := cs) (p := S.p) hx.ne
    have hw := Tm.wl_run (c := fun (s5 : (List Int) × Int) => (Tm.o2 tEq (Tm.fmap (Tm.pure x) (fun (x7 : Int) => (Tm.o2 tEq (Tm.o2 tIx (Tm.pure s5.1) (Tm.pure x7)) (Tm.o2 tIx (Tm.pure cs) (Tm.pure x7)))) (fun (x7 : Int) => (Tm.pure x7))) (Tm.lim (Tm.nil (α := Int))))) (s := (rngL cs.length S.p, (0 : Int))) (f := fun (s5 : (List Int) × Int) => (Tm.bind (Tm.o2 tAdd (Tm.pure s5.2) (Tm.pure (1 : Int))) fun (v_price8 : Int) => (Tm.bind (Tm.fold (Tm.pure x) s5.1 (fun (x10 : Int) (s9 : (List Int)) => (Tm.bind (Tm.o2 (tPut s9) (Tm.o2 tAdd (Tm.o2 tIx (Tm.pure s9) (Tm.pure x10)) (Tm.pure (1 : Int))) (Tm.pure x10)) fun (v11 : (List Int)) => Tm.pure v11))) fun (v12 : (List Int)) => Tm.pure (v12, v_price8))))
      (fun n s => ∃ j : Nat, s = (rngL cs.length (pay S.p x (j : Int)), (j : Int)) ∧ j + n = (mn cs S.p x).toNat) (fun s => s = (rngL cs.length (pay S.p x (mn cs S.p x)), mn cs S.p x)) (mn cs S.p x).toNat (by omega) ⟨0, by
        have : pay S.p x ((0 : Nat) : Int) = S.p := funext fun i => by unfold pay; split <;> simp
        rw [this]; rfl, by omega⟩ (by
      rintro n s ⟨j, rfl, hj⟩
      have hf : Is (Tm.fmap (Tm.pure x) (fun (x7 : Int) => (Tm.o2 tEq (Tm.o2 tIx (Tm.pure (rngL cs.length (pay S.p x (j : Int)))) (Tm.pure x7)) (Tm.o2 tIx (Tm.pure cs) (Tm.pure x7)))) (fun (x7 : Int) => (Tm.pure x7))) ((x.filter fun l => decide (pay S.p x (j : Int) l = ixD cs l)).map fun l => l) :=
        Is.fmap (Is.pure x) (fun l hl => Is.o2 (Is.o2 (Is.pure _) (Is.pure l) ⟨okIx (by rw [rng_len]; exact hx.ok l hl), rng_at _ (hx.ok l hl)⟩) (Is.o2 (Is.pure _) (Is.pure l) ⟨okIx (hx.ok l hl), rfl⟩) ⟨trivial, rfl⟩) (fun l _ _ => Is.pure l)
      rw [List.map_id'] at hf
      have hcv : Is (Tm.o2 tEq (Tm.fmap (Tm.pure x) (fun (x7 : Int) => (Tm.o2 tEq (Tm.o2 tIx (Tm.pure (rngL cs.length (pay S.p x (j : Int)))) (Tm.pure x7)) (Tm.o2 tIx (Tm.pure cs) (Tm.pure x7)))) (fun (x7 : Int) => (Tm.pure x7))) (Tm.lim (Tm.nil (α := Int)))) (decide ((x.filter fun l => decide (pay S.p x (j : Int) l = ixD cs l)) = [])) := Is.o2 hf (Is.lim Is.nil (by decide)) ⟨trivial, rfl⟩
      refine ⟨hcv.1, ?_⟩
      show ((Tm.o2 tEq _ _ : Tm Bool).val = false ∧ _) ∨ ((Tm.o2 tEq _ _ : Tm Bool).val = true ∧ _)
      rw [hcv.2]
      rcases Nat.lt_or_ge j (mn cs S.p x).toNat with hlt | hge
      · right
        refine ⟨decide_eq_true ?_, ?_⟩
        · rw [List.filter_eq_nil_iff]
          intro l hl
          have h1 := hle l hl
          have : pay S.p x (j : Int) l = S.p l + j := by unfold pay; rw [if_pos hl]
          rw [this]
          intro z
          have := of_decide_eq_true z
          omega
        · have hb : Is (Tm.bind (Tm.o2 tAdd (Tm.pure (j : Int)) (Tm.pure (1 : Int))) fun (v_price8 : Int) => (Tm.bind (Tm.fold (Tm.pure x) (rngL cs.length (pay S.p x (j : Int))) (fun (x10 : Int) (s9 : (List Int)) => (Tm.bind (Tm.o2 (tPut s9) (Tm.o2 tAdd (Tm.o2 tIx (Tm.pure s9) (Tm.pure x10)) (Tm.pure (1 : Int))) (Tm.pure x10)) fun (v11 : (List Int)) => Tm.pure v11))) fun (v12 : (List Int)) => Tm.pure (v12, v_price8))) (rngL cs.length (pay S.p x ((j + 1 : Nat) : Int)), ((j + 1 : Nat) : Int)) := by
            refine Is.bind (Is.o2 (Is.pure _) (Is.pure _) (Is.pure _)) (Is.bind (a := rngL cs.length (pay S.p x ((j + 1 : Nat) : Int))) ?_ (Is.pure _))
            have hpp : (rngL cs.length fun i => if i ∈ x then pay S.p x (j : Int) i + 1 else pay S.p x (j : Int) i) = rngL cs.length (pay S.p x ((j + 1 : Nat) : Int)) := by
              congr 1
              funext i
              unfold pay
              split <;> omega
            rw [← hpp]
            refine puts_is (k := 1) hx.ok hx.nodup fun l s hl hs => ?_
            exact Is.bind (Is.o2 (Is.o2 (Is.o2 (Is.pure _) (Is.pure l) ⟨okIx (by rw [hs]; exact hx.ok l hl), rfl⟩) (Is.pure _) (Is.pure _)) (Is.pure l) ⟨okIx (by rw [hs]; exact hx.ok l hl), rfl⟩) (Is.pure _)
          exact ⟨hb.1, n - 1, by omega, j + 1, hb.2, by omega⟩
      · left
        have hj' : (j : Int) = mn cs S.p x := by omega
        refine ⟨decide_eq_false fun z => ?_, by rw [hj']⟩
        rw [List.filter_eq_nil_iff] at z
        refine z l0 hl0 (decide_eq_true ?_)
        unfold pay
        rw [if_pos hl0]
        omega)
    have hb : Is (Tm.bind (Tm.pure (0 : Int)) fun (v_price4 : Int) => (Tm.bind (Tm.wl (fun (s5 : (List Int) × Int) => (Tm.o2 tEq (Tm.fmap (Tm.pure x) (fun (x7 : Int) => (Tm.o2 tEq (Tm.o2 tIx (Tm.pure s5.1) (Tm.pure x7)) (Tm.o2 tIx (Tm.pure cs) (Tm.pure x7)))) (fun (x7 : Int) => (Tm.pure x7))) (Tm.lim (Tm.nil (α := Int))))) (rngL cs.length S.p, v_price4) (fun (s5 : (List Int) × Int) => (Tm.bind (Tm.o2 tAdd (Tm.pure s5.2) (Tm.pure (1 : Int))) fun (v_price8 : Int) => (Tm.bind (Tm.fold (Tm.pure x) s5.1 (fun (x10 : Int) (s9 : (List Int)) => (Tm.bind (Tm.o2 (tPut s9) (Tm.o2 tAdd (Tm.o2 tIx (Tm.pure s9) (Tm.pure x10)) (Tm.pure (1 : Int))) (Tm.pure x10)) fun (v11 : (List Int)) => Tm.pure v11))) fun (v12 : (List Int)) => Tm.pure (v12, v_price8))))) fun (v13 : (List Int) × Int) => (Tm.bind (Tm.fmap (Tm.pure x) (fun (x14 : Int) => (Tm.and (Tm.o2 tEq (Tm.o2 tIx (Tm.pure v13.1) (Tm.pure x14)) (Tm.o2 tIx (Tm.pure cs) (Tm.pure x14))) (Tm.o2 tNin (Tm.pure x14) (Tm.pure S.taken)))) (fun (x14 : Int) => (Tm.pure x14))) fun (v_new15 : (List Int)) => (Tm.bind (Tm.o2 tCat (Tm.pure S.taken) (Tm.pure v_new15)) fun (v_taken16 : (List Int)) => (Tm.bind (Tm.o1 (tApp S.steps) (Tm.o1 tTup (Tm.pure v_new15))) fun (v17 : (List (List Int))) => (Tm.bind (Tm.o1 (tApp S.prices) (Tm.pure v13.2)) fun (v18 : (List Int)) => Tm.pure (v13.1, v17, v18, v_taken16)))))))
        (rngL cs.length (stepT cs S x).p, (stepT cs S x).steps, (stepT cs S x).prices, (stepT cs S x).taken) := by
      refine Is.bind (Is.pure _) (Is.bind ⟨hw.1, hw.2⟩ (Is.bind (new_is (cs := cs) (p := pay S.p x (mn cs S.p x)) (v := []) fun l hl => ?_) (Is.bind (Is.o2 (Is.pure _) (Is.pure _) ⟨?_, rfl⟩) (Is.bind (Is.o1 (Is.o1 (Is.pure _) (Is.pure _)) ⟨?_, rfl⟩) (Is.bind (Is.o1 (Is.pure _) ⟨?_, rfl⟩) (Is.pure _))))))
      · exact Is.o2 (Is.o2 (Is.pure _) (Is.pure l) ⟨okIx (by rw [rng_len]; exact hx.ok l hl), rng_at _ (hx.ok l hl)⟩) (Is.o2 (Is.pure _) (Is.pure l) ⟨okIx (hx.ok l hl), rfl⟩) ⟨trivial, rfl⟩
      · show S.taken.length + (newT cs _ S.taken x).length ≤ 2 ^ 24; omega
      · show S.steps.length < 2 ^ 24; rw [t.l1]; omega
      · show S.prices.length < 2 ^ 24; rw [t.l2]; omega
    exact ⟨hb.1, hb.2⟩)
  have h0 : Is (Tm.o2 tRep (Tm.lim (Tm.cons (Tm.pure (0 : Int)) (Tm.nil (α := Int)))) (Tm.o1 tLen (Tm.pure cs))) (rngL cs.length fun _ => 0) := by
    refine Is.o2 (Is.lim (Is.cons (Is.pure _) Is.nil) (by show 1 ≤ 2 ^ 24; decide)) (Is.o1 (Is.pure cs) (Is.pure _)) ⟨?_, ?_⟩
    · have := h.len hn
      show okRep 1 (cs.length : Int) = true
      unfold okRep
      rw [line24]
      simp only [Bool.and_eq_true, decide_eq_true_eq]
      omega
    · show (List.replicate (cs.length : Int).toNat [(0 : Int)]).flatten = _
      rw [rep_flat, Int.toNat_natCast]
      unfold rngL
      rw [List.map_const', List.length_range]
  unfold p__law_tight
  refine Is.bind (a := (rngL cs.length (fun _ => 0), ([] : List (List Int)), ([] : List Int), ([] : List Int))) ⟨⟨h0.1, ⟨trivial, by decide⟩, ⟨trivial, by decide⟩, ⟨trivial, by decide⟩, trivial⟩, ?_⟩ (Is.bind ⟨hloop.1, hloop.2⟩ (Is.o2 (Is.pure _) (Is.pure _) (Is.pure _)))
  show (_, _) = _
  rw [← h0.2]; rfl
end
end Cov

/-! CovL: what the tight way's numbers answer. -/
namespace Cov
open PySem DL TL FR

/-! ### lists of calls by their numbers -/
def keysM (ks : List Int) (ls : List Int) : List Int := ls.foldl (fun acc k => if k ∈ acc then acc else acc ++ [k]) ks
theorem putM_keys {α : Type} (xs : List (Int × α)) (k : Int) (v : α) : (putM xs k v).map (·.1) = if k ∈ xs.map (·.1) then xs.map (·.1) else xs.map (·.1) ++ [k] := by
  have e : (xs.any fun p => decide (p.1 = k)) = true ↔ k ∈ xs.map (·.1) := by
    rw [List.any_eq_true, List.mem_map]
    exact ⟨fun ⟨p, h1, h2⟩ => ⟨p, h1, of_decide_eq_true h2⟩, fun ⟨p, h1, h2⟩ => ⟨p, h1, decide_eq_true h2⟩⟩
  unfold putM
  by_cases h : k ∈ xs.map (·.1)
  · rw [if_pos (e.mpr h), if_pos h, List.map_map]
    refine List.map_congr_left fun p _ => ?_
    show (if p.1 = k then (p.1, v) else p).1 = p.1
    split <;> rfl
  · rw [if_neg (fun z => h (e.mp z)), if_neg h, List.map_append]; rfl
theorem mergeM_keys {α : Type} : ∀ (ps xs : List (Int × α)), (mergeM xs ps).map (·.1) = keysM (xs.map (·.1)) (ps.map (·.1))
  | [], xs => rfl
  | p :: ps, xs => by
    show (mergeM (putM xs p.1 p.2) ps).map (·.1) = _
    rw [mergeM_keys ps, putM_keys]; rfl
theorem mergeM_len {α : Type} (xs : List Int) (v : α) : (mergeM [] (xs.map fun l => (l, v))).length = (keysM [] xs).length := by
  rw [← List.length_map (f := fun p : Int × α => p.1) (as := mergeM [] (xs.map fun l => (l, v))), mergeM_keys, List.map_map]
  have : List.map ((fun x : Int × α => x.1) ∘ fun l => (l, v)) xs = xs := List.map_id' xs
  rw [this]; rfl
theorem keysM_nodup : ∀ (ls ks : List Int), (ks ++ ls).Nodup → keysM ks ls = ks ++ ls
  | [], ks, _ => by rw [List.append_nil]; rfl
  | l :: ls, ks, h => by
    have hl : l ∉ ks := fun hm => (List.nodup_append.mp h).2.2 l hm l (by simp) rfl
    show keysM (if l ∈ ks then ks else ks ++ [l]) ls = _
    rw [if_neg hl, keysM_nodup ls (ks ++ [l]) (by rw [List.append_assoc]; exact h), List.append_assoc]; rfl
def bothL (row : List (List Int)) (ns : List Int) : List Int := (ns.map (ixD row)).flatten
theorem flat_len {row : List (List Int)} (hr : ∀ c ∈ row, c.length ≤ 4) : ∀ {ns : List Int}, (∀ i ∈ ns, 0 ≤ i ∧ i < row.length) → (bothL row ns).length ≤ ns.length * 4
  | [], _ => Nat.zero_le _
  | i :: ns, h => by
    have ih := flat_len hr (ns := ns) fun j hj => h j (List.mem_cons_of_mem _ hj)
    have h1 := h i List.mem_cons_self
    have h2 : (ixD row i).length ≤ 4 := by
      have hi : i.toNat < row.length := by omega
      rw [ixD_get h1.1, List.getElem?_eq_getElem hi]
      exact hr _ (List.getElem_mem hi)
    show (ixD row i ++ bothL row ns).length ≤ _
    rw [List.length_append, List.length_cons]
    omega
theorem bothL_snoc (row : List (List Int)) (ns : List Int) (i : Int) : bothL row (ns ++ [i]) = bothL row ns ++ ixD row i := by
  unfold bothL
  rw [List.map_append, List.flatten_append]
  simp
theorem both_sp {row : List (List Int)} (hr : ∀ c ∈ row, c.length ≤ 4) {ns : List Int} (hn : ∀ i ∈ ns, 0 ≤ i ∧ i < row.length) (hl : ns.length ≤ 20) : Sp 0 (SM.fold (SM.lift (Tm.pure ns)) ([] : List Int) (fun (x24 : Int) (s23 : (List Int)) => (SM.bind (SM.lift (Tm.o2 tCat (Tm.pure s23) (Tm.o2 tIx (Tm.pure row) (Tm.pure x24)))) fun (v_both25 : (List Int)) => SM.pure v_both25))) fun l => l = bothL row ns := by
  refine Sp.fold (a := 0) (b := 0) (n := 20) (P := fun l => l = ns) (fun d s => s = bothL row d) Sp.pure' (fun xs e => by rw [e]; exact hl) rfl ?_ (fun xs s e hs => by rw [hs, e]) (by decide)
  rintro xs d x r s e hxs rfl
  subst e
  have hx := hn x (by rw [hxs]; simp)
  have h1 := flat_len hr (ns := d ++ [x]) fun j hj => hn j (by rw [hxs]; rcases List.mem_append.mp hj with h | h; exact List.mem_append_left _ h; rw [List.mem_singleton.mp h]; simp)
  have h2 : (d ++ [x]).length ≤ xs.length := by rw [hxs]; simp
  rw [bothL_snoc, List.length_append] at h1
  refine Sp.bind (a := 0) (b := 0) (P := fun l => l = bothL row (d ++ [x])) (Sp.is (Is.o2 (Is.pure _) (Is.o2 (Is.pure _) (Is.pure x) ⟨okIx hx, rfl⟩) ⟨?_, rfl⟩) (bothL_snoc row d x).symm) (fun l e => Sp.pure e) (by decide)
  show (bothL row d).length + (ixD row x).length ≤ 2 ^ 24
  omega
theorem apart_is {row : List (List Int)} (hr : ∀ c ∈ row, c.length ≤ 4) {ns : List Int} (hn : ∀ i ∈ ns, 0 ≤ i ∧ i < row.length) (hl : ns.length ≤ 20) : Is (p_are_apart_calls row ns) (decide (((keysM [] (bothL row ns)).length : Int) = ((bothL row ns).length : Int))) := by
  have e : ((ns.filter fun _ => true).flatMap fun x => ((ixD row x).filter fun _ => true).map fun y => y) = bothL row ns := by
    rw [List.filter_eq_self.mpr fun _ _ => rfl]
    unfold bothL
    rw [List.flatMap_def]
    congr 1
    refine List.map_congr_left fun x _ => ?_
    rw [List.filter_eq_self.mpr fun _ _ => rfl, List.map_id']
  have hf : Is (Tm.fmap2 (Tm.pure ns) (fun (x1 : Int) => (Tm.pure true)) (fun (x1 : Int) => (Tm.o2 tIx (Tm.pure row) (Tm.pure x1))) (fun (x1 : Int) (x2 : Int) => (Tm.pure true)) (fun (x1 : Int) (x2 : Int) => (Tm.pure x2))) (bothL row ns) := by
    refine ⟨⟨trivial, fun x hx => ⟨trivial, fun _ => ⟨⟨trivial, trivial, okIx (hn x hx)⟩, fun y _ => ⟨trivial, fun _ => trivial⟩⟩⟩, ?_⟩, e⟩
    show ((ns.filter fun _ => true).flatMap fun x => ((ixD row x).filter fun _ => true).map fun y => y).length ≤ 2 ^ 24
    rw [e]
    have := flat_len hr hn
    omega
  unfold p_are_apart_calls
  refine Is.bind hf (Is.o2 (a := ((keysM [] (bothL row ns)).length : Int)) (Is.o1 (Is.o1 (Is.amap (g := fun x => (x, true)) (Is.pure _) fun x _ => Is.o2 (Is.pure _) (Is.pure _) (Is.pure _)) (Is.pure _)) ⟨trivial, ?_⟩) (Is.o1 (Is.pure _) (Is.pure _)) ⟨trivial, rfl⟩)
  show (((mergeM [] ((bothL row ns).map fun x => (x, true))).length : Nat) : Int) = _
  rw [mergeM_len]
theorem lapart_is (xs : List Int) : Is (Tm.o2 tEq (Tm.o1 tLen (Tm.o1 tDict (Tm.amap (Tm.pure xs) (fun (x30 : Int) => (Tm.o2 tPair (Tm.pure x30) (Tm.pure (0 : Int))))))) (Tm.o1 tLen (Tm.pure xs))) (decide (((keysM [] xs).length : Int) = (xs.length : Int))) := by
  refine Is.o2 (a := ((keysM [] xs).length : Int)) (Is.o1 (Is.o1 (Is.amap (g := fun x => (x, (0 : Int))) (Is.pure _) fun x _ => Is.o2 (Is.pure _) (Is.pure _) (Is.pure _)) (Is.pure _)) ⟨trivial, ?_⟩) (Is.o1 (Is.pure _) (Is.pure _)) ⟨trivial, rfl⟩
  show (((mergeM [] (xs.map fun x => (x, (0 : Int)))).length : Nat) : Int) = _
  rw [mergeM_len]
/-- the numbers of the calls with a price -/
def numsOf (ks : List Int) : List Int := ((enuI 0 ks).filter fun x => decide (0 < x.2)).map fun x => x.1
theorem numsOf_ok {ks : List Int} : ∀ i ∈ numsOf ks, 0 ≤ i ∧ i < ks.length := by
  intro i hi
  obtain ⟨x, hx, rfl⟩ := List.mem_map.mp hi
  obtain ⟨j, h1, h2⟩ := mem_enuI.mp (List.mem_filter.mp hx).1
  obtain ⟨h3, _⟩ := List.getElem?_eq_some_iff.mp h1
  omega
theorem numsOf_len (ks : List Int) : (numsOf ks).length ≤ ks.length := by
  unfold numsOf
  rw [List.length_map]
  refine Nat.le_trans (List.length_filter_le _ _) ?_
  rw [enuI_len]; exact Nat.le_refl _
theorem nums_both (row : List (List Int)) : ∀ (ks : List Int) (i : Nat), i + ks.length = row.length → bothL row (((enuI i ks).filter fun x => decide (0 < x.2)).map fun x => x.1) = (((row.drop i).zip ks).map fun x => if 0 < x.2 then x.1 else []).flatten
  | [], i, _ => by simp [enuI, bothL]
  | k :: ks, i, h => by
    rw [List.length_cons] at h
    have hi : i < row.length := by omega
    have ih := nums_both row ks (i + 1) (by omega)
    have ed : row.drop i = row[i] :: row.drop (i + 1) := List.drop_eq_getElem_cons hi
    rw [ed, List.zip_cons_cons, List.map_cons, List.flatten_cons, enuI, ← ih]
    have ex : ixD row ((i : Nat) : Int) = row[i] := by
      rw [ixD_get (by omega), Int.toNat_natCast, List.getElem?_eq_getElem hi]; rfl
    by_cases hk : 0 < k
    · rw [List.filter_cons_of_pos (by exact decide_eq_true hk), if_pos hk]
      show ixD row ((i : Nat) : Int) ++ bothL row _ = _
      rw [ex]
    · rw [List.filter_cons_of_neg (by simpa using hk), if_neg hk]; rfl

/-! ### the law's numbers -/
section
variable {cs : List Int} {f : Int} {n : Nat} {row : List (List Int)}
structure LapT (cs : List Int) (f : Int) (n : Nat) (row : List (List Int)) : Prop where
  ok : OkC cs n
  n8 : n ≤ 8
  len : row.length ≤ 12
  f1 : 1 ≤ f
  f4 : f ≤ 4
  call : ∀ c ∈ row, OkCall cs.length f c
def lotsT (cs : List Int) (row : List (List Int)) : List Int := (runT cs row).taken.mergeSort leI
def totT (cs : List Int) (row : List (List Int)) : Int := (runT cs row).prices.sum
def xsT (cs : List Int) (row : List (List Int)) : List Rat := (runT cs row).prices.map fun (k : Int) => (k : Rat)
theorem LapT.ti (h : LapT cs f n row) : TI cs f row (runT cs row) := TI.run h.ok h.call
theorem LapT.c8 (h : LapT cs f n row) : cs.length ≤ 8 := Nat.le_trans h.ok.n8 h.n8
theorem LapT.run (h : LapT cs f n row) : Is (p_tight_run cs row) ((runT cs row).steps, (runT cs row).prices) := run_is h.ok (by have := h.n8; omega) (by have := h.len; omega) h.call
theorem LapT.lrun (h : LapT cs f n row) : Is (p__law_tight cs row) ((runT cs row).steps, (runT cs row).prices) := lrun_is h.ok (by have := h.n8; omega) (by have := h.len; omega) h.call
theorem lots_perm (cs : List Int) (row : List (List Int)) : (lotsT cs row).Perm (runT cs row).taken := List.mergeSort_perm _ _
theorem LapT.tlen (h : LapT cs f n row) : (runT cs row).taken.length ≤ 8 := Nat.le_trans h.ti.tlen h.c8
theorem LapT.way (h : LapT cs f n row) : Is (p_tight_way cs row) (lotsT cs row, (runT cs row).prices) := by
  have e : (((runT cs row).steps.filter fun _ => true).flatMap fun x => (x.filter fun _ => true).map fun y => y) = (runT cs row).taken := by
    rw [List.filter_eq_self.mpr fun _ _ => rfl, h.ti.fl, List.flatMap_def]
    congr 1
    refine (List.map_congr_left fun x _ => ?_).trans (List.map_id' _)
    rw [List.filter_eq_self.mpr fun _ _ => rfl, List.map_id']
  have hf : Is (Tm.fmap2 (Tm.pure (runT cs row).steps) (fun (x3 : (List Int)) => (Tm.pure true)) (fun (x3 : (List Int)) => (Tm.pure x3)) (fun (x3 : (List Int)) (x4 : Int) => (Tm.pure true)) (fun (x3 : (List Int)) (x4 : Int) => (Tm.pure x4))) (runT cs row).taken := by
    refine ⟨⟨trivial, fun x hx => ⟨trivial, fun _ => ⟨trivial, fun y _ => ⟨trivial, fun _ => trivial⟩⟩⟩, ?_⟩, e⟩
    show (((runT cs row).steps.filter fun _ => true).flatMap fun x => (x.filter fun _ => true).map fun y => y).length ≤ 2 ^ 24
    rw [e]
    have := h.tlen
    omega
  unfold p_tight_way
  refine Is.bind (Is.o2 (Is.pure _) (Is.pure _) h.run) (Is.o2 (Is.o1 (a := (runT cs row).taken.mergeSort leI) (Is.o1 hf ⟨?_, rfl⟩) (Is.pure _)) (Is.o1 (Is.pure _) (Is.pure _)) (Is.pure _))
  show (runT cs row).taken.length ≤ 2 ^ 24
  have := h.tlen
  omega
theorem LapT.steps_is (h : LapT cs f n row) : Is (p_tight_steps cs row) (runT cs row).steps := by
  unfold p_tight_steps
  exact Is.o1 (Is.mp (Is.o2 (Is.pure _) (Is.pure _) h.run)) (Is.pure _)
theorem LapT.okl (h : LapT cs f n row) : Okl cs.length (lotsT cs row) := fun l hl => ((h.ti.tk l).mp ((lots_perm cs row).subset hl)).1
theorem LapT.cost_is (h : LapT cs f n row) : Is (p_tight_cost cs row) (costL cs (lotsT cs row)) := by
  unfold p_tight_cost
  exact Is.o2 (Is.pure _) (Is.mp (Is.o2 (Is.pure _) (Is.pure _) h.way)) (Cov.cost_is h.okl)
theorem LapT.tot0 (h : LapT cs f n row) : 0 ≤ totT cs row ∧ totT cs row ≤ 360 := by
  have key : ∀ l : List Int, (∀ k ∈ l, 0 ≤ k ∧ k ≤ 30) → 0 ≤ l.sum ∧ l.sum ≤ l.length * 30 := by
    intro l
    induction l with
    | nil => intro _; exact ⟨Int.le_refl 0, Int.le_refl 0⟩
    | cons x l ih =>
      intro hk
      have h1 := ih fun y hy => hk y (List.mem_cons_of_mem _ hy)
      have h2 := hk x List.mem_cons_self
      rw [List.sum_cons, List.length_cons]
      omega
  have h1 := key _ h.ti.k0
  have h2 := h.ti.l2
  have h3 := h.len
  unfold totT
  omega
theorem LapT.cost0 (h : LapT cs f n row) : 0 ≤ costL cs (lotsT cs row) ∧ costL cs (lotsT cs row) ≤ 240 := by
  have key : ∀ l : List Int, Okl cs.length l → 0 ≤ costL cs l ∧ costL cs l ≤ l.length * 30 := by
    intro l
    induction l with
    | nil => intro _; exact ⟨Int.le_refl 0, Int.le_refl 0⟩
    | cons x l ih =>
      intro ho
      have h1 := ih fun y hy => ho y (List.mem_cons_of_mem _ hy)
      have h2 := h.ok.at (ho x List.mem_cons_self)
      have e : costL cs (x :: l) = ixD cs x + costL cs l := by unfold costL; rw [List.map_cons, List.sum_cons]
      rw [e, List.length_cons]
      omega
  have h1 := key _ h.okl
  have h2 := (lots_perm cs row).length_eq
  have h3 := h.tlen
  omega
def dueT (cs : List Int) (row : List (List Int)) : Option (Int × Int) := if totT cs row = 0 then none else some (fr (((costL cs (lotsT cs row) : Int) : Rat) / ((totT cs row : Int) : Rat)))
theorem small_log {i : Int} (h : i.natAbs ≤ 2 ^ 100) : i.natAbs.log2 < 9000 := by
  have := big_log (small_nat h)
  omega
theorem LapT.share_is (h : LapT cs f n row) : Is (p_tight_share cs row) (dueT cs row) := by
  have h0 := h.tot0
  unfold p_tight_share
  refine Is.bind (Is.o2 (Is.pure _) (Is.pure _) h.way) ?_
  have hs : Is (Tm.o1 tSum (Tm.pure (runT cs row).prices)) (totT cs row) := ⟨⟨trivial, trivial⟩, rfl⟩
  refine Is.ite (b := decide (0 < totT cs row)) (Is.o2 hs (Is.pure _) (Is.pure _)) (fun e => ?_) (fun e => ?_)
  · have he := of_decide_eq_true e
    unfold dueT
    rw [if_neg (by omega)]
    exact Is.mp (Is.o2 (Is.o2 (Is.pure _) (Is.pure _) (Cov.cost_is h.okl)) hs (low_is he (small_log (by omega))))
  · have he := of_decide_eq_false e
    unfold dueT
    rw [if_pos (by omega)]
    exact Is.pure _
theorem LapT.ldue_is (h : LapT cs f n row) : Is (Tm.ite (Tm.o2 tEq (Tm.pure (totT cs row)) (Tm.pure (0 : Int))) (Tm.pure none) (Tm.mp some (Tm.o2 p__law_low (Tm.pure (costL cs (lotsT cs row))) (Tm.pure (totT cs row))))) (dueT cs row) := by
  have h0 := h.tot0
  refine Is.ite (b := decide (totT cs row = 0)) (Is.o2 (Is.pure _) (Is.pure _) ⟨trivial, rfl⟩) (fun e => ?_) (fun e => ?_)
  · have he := of_decide_eq_true e
    unfold dueT
    rw [if_pos he]
    exact Is.pure _
  · have he := of_decide_eq_false e
    unfold dueT
    rw [if_neg he]
    exact Is.mp (Is.o2 (Is.pure _) (Is.pure _) (llow_is (by omega) (small_log (by omega))))
theorem LapT.answer (h : LapT cs f n row) : ansR (lotsT cs row) row = true := by
  unfold ansR
  rw [List.all_eq_true]
  intro c hc
  obtain ⟨l, h1, h2⟩ := h.ti.an c hc
  unfold ans
  rw [List.any_eq_true]
  exact ⟨l, h1, decide_eq_true ((lots_perm cs row).symm.subset h2)⟩
theorem castSum {α : Type} (g : α → Int) : ∀ l : List α, (((l.map g).sum : Int) : Rat) = (l.map fun x => ((g x : Int) : Rat)).sum
  | [] => rfl
  | x :: l => by rw [List.map_cons, List.map_cons, List.sum_cons, List.sum_cons, Rat.intCast_add, castSum g l]
theorem LapT.cost_le (h : LapT cs f n row) : costL cs (lotsT cs row) ≤ f * totT cs row := by
  have t := h.ti
  have e1 : costL cs (lotsT cs row) = costL cs (runT cs row).taken := by
    unfold costL
    exact sum_perm (ixD cs) (lots_perm cs row)
  have e2 : costL cs (runT cs row).taken = ((runT cs row).taken.map (runT cs row).p).sum := by
    unfold costL
    refine congrArg List.sum (List.map_congr_left fun l hl => ?_)
    exact ((t.tk l).mp hl).2.symm
  have e3 : (((runT cs row).taken.map (runT cs row).p).sum : Int) ≤ psum cs.length (runT cs row).p := by
    refine Rat.intCast_le_intCast.mp ?_
    unfold psum
    rw [castSum, castSum, ← sum_ind (fun l => (((runT cs row).p l : Int) : Rat)) cs.length (runT cs row).taken t.nd fun l hl => ((t.tk l).mp hl).1]
    refine sum_mono fun i hi => ?_
    have hi := List.mem_range.mp hi
    have := (t.nn ((i : Nat) : Int) (by omega) (by omega)).1
    have h0 : (0 : Rat) ≤ (((runT cs row).p ((i : Nat) : Int) : Int) : Rat) := Rat.intCast_nonneg.mpr this
    split
    · exact Rat.le_refl
    · exact h0
  have := t.co
  unfold totT
  omega
theorem LapT.xs (h : LapT cs f n row) : OkX 1 30 (xsT cs row) := by
  have hk : ∀ x ∈ xsT cs row, ∃ k : Int, x = (k : Rat) ∧ 0 ≤ k ∧ k ≤ 30 := by
    intro x hx
    obtain ⟨k, h1, rfl⟩ := List.mem_map.mp hx
    exact ⟨k, rfl, h.ti.k0 k h1⟩
  refine ⟨by decide, fun x hx => ?_, fun x hx => ?_, fun x hx => ?_, ?_⟩
  · obtain ⟨k, rfl, _⟩ := hk x hx
    exact Dv.int 1 k
  · obtain ⟨k, rfl, h1, _⟩ := hk x hx
    exact Rat.intCast_nonneg.mpr h1
  · obtain ⟨k, rfl, _, h1⟩ := hk x hx
    exact Rat.intCast_le_intCast.mpr (show k ≤ 30 from h1)
  · refine big_lt (k := 100) ?_ (by decide)
    have : (xsT cs row).length ≤ 12 := by unfold xsT; rw [List.length_map, h.ti.l2]; exact h.len
    omega
theorem told_eq (cs : List Int) (row : List (List Int)) : (runT cs row).prices.map (fun k => (k, (1 : Int))) = (xsT cs row).map fr := by
  unfold xsT
  rw [List.map_map]; rfl
theorem sum_eq (cs : List Int) (row : List (List Int)) : (xsT cs row).sum = ((totT cs row : Int) : Rat) := by
  unfold xsT totT
  have := castSum (fun k : Int => k) (runT cs row).prices
  rw [List.map_id'] at this
  exact this.symm
theorem LapT.fits (h : LapT cs f n row) : fitsX cs row (xsT cs row) := by
  intro i c hc
  obtain ⟨hi, rfl⟩ := List.getElem?_eq_some_iff.mp hc
  have h1 := h.ti.su ((i : Nat) : Int)
  have h2 := (h.ti.nn ((i : Nat) : Int) (by omega) (by omega)).2
  unfold xsT
  rw [h1]
  rw [ixD_get (by omega), Int.toNat_natCast, hc] at h2
  exact Rat.intCast_le_intCast.mpr h2
theorem LapT.bar (h : LapT cs f n row) {c : Int} {s : List Int} (hl : Least cs row c s) : totT cs row ≤ c := by
  have h1 := Cov.bar (cs := cs) (lots := s) (row := row) (xs := xsT cs row) (by unfold xsT; rw [List.length_map, h.ti.l2]) h.xs.lo h.fits (subs_ok _ s hl.mem) hl.ans
  rw [← hl.cost, sum_eq] at h1
  exact Rat.intCast_le_intCast.mp h1
theorem LapT.cost_le2 (h : LapT cs f n row) {c : Int} {s : List Int} (hl : Least cs row c s) : costL cs (lotsT cs row) ≤ f * c := by
  have h1 := h.cost_le
  have h2 := Int.mul_le_mul_of_nonneg_left (h.bar hl) (show 0 ≤ f by have := h.f1; omega)
  omega
theorem LapT.leasts (h : LapT cs f n row) : ∃ c s, Least cs row c s ∧ Is (p_least_answer cs row) c ∧ Is (Tm.mp (fun p => p.1) ⟨((Tm.o2 p__law_least (Tm.pure cs) (Tm.pure row))).ok ∧ ((Tm.o2 p__law_least (Tm.pure cs) (Tm.pure row))).val.isSome = true, ((Tm.o2 p__law_least (Tm.pure cs) (Tm.pure row))).val.getD default⟩) c ∧ c.natAbs ≤ 240 := by
  obtain ⟨h1, h2⟩ := all_answer h.call
  obtain ⟨c, s, hl, _, hi⟩ := least_is (by have := h.c8; omega) h1 h2
  have hll := lleast_is (cs := cs) (row := row) (by have := h.c8; omega)
  refine ⟨c, s, hl, hi, ?_, ?_⟩
  · have hv : (Tm.o2 p__law_least (Tm.pure cs) (Tm.pure row)).val = some (c, s) := hll.2.trans hl.eq
    refine ⟨⟨⟨trivial, trivial, hll.1⟩, by rw [hv]; rfl⟩, ?_⟩
    show ((Tm.o2 p__law_least (Tm.pure cs) (Tm.pure row)).val.getD default).1 = c
    rw [hv]; rfl
  · have key : ∀ l : List Int, Okl cs.length l → 0 ≤ costL cs l ∧ costL cs l ≤ l.length * 30 := by
      intro l
      induction l with
      | nil => intro _; exact ⟨Int.le_refl 0, Int.le_refl 0⟩
      | cons x l ih =>
        intro ho
        have h1 := ih fun y hy => ho y (List.mem_cons_of_mem _ hy)
        have h2 := h.ok.at (ho x List.mem_cons_self)
        have e : costL cs (x :: l) = ixD cs x + costL cs l := by unfold costL; rw [List.map_cons, List.sum_cons]
        rw [e, List.length_cons]
        omega
    have h3 := key s (subs_ok _ s hl.mem)
    have h4 := subs_row _ s hl.mem
    have := h.c8
    rw [hl.cost]
    omega
/-- costs that are all 1 -/
theorem LapT.unit (h : LapT cs f n row) (hu : ∀ c ∈ cs, c = 1) : bothL row (numsOf (runT cs row).prices) = (runT cs row).taken := by
  have h1 := nums_both row (runT cs row).prices 0 (by rw [h.ti.l2]; omega)
  rw [List.drop_zero] at h1
  rw [h.ti.fl, h.ti.un hu, ← h1]
  rfl
theorem LapT.nok (h : LapT cs f n row) : ∀ i ∈ numsOf (runT cs row).prices, 0 ≤ i ∧ i < row.length := fun i hi => by
  have := numsOf_ok i hi
  rw [h.ti.l2] at this
  exact this
theorem LapT.nlen (h : LapT cs f n row) : (numsOf (runT cs row).prices).length ≤ 12 := by
  have := numsOf_len (runT cs row).prices
  have h2 := h.ti.l2
  have h3 := h.len
  omega
theorem LapT.c4 (h : LapT cs f n row) : ∀ c ∈ row, c.length ≤ 4 := fun c hc => by
  have := (h.call c hc).len
  have := h.f4
  omega
theorem LapT.odd (h : LapT cs f n row) : (((runT cs row).steps.zip (runT cs row).prices).filter fun x => !decide (decide (x.1 = []) = decide (x.2 = 0))) = [] := by
  rw [List.filter_eq_nil_iff]
  intro x hx
  have := h.ti.ze x hx
  have e : decide (x.1 = []) = decide (x.2 = 0) := decide_eq_decide.mpr this
  rw [e]
  simp
/-! shows -/
theorem shInts {xs : List Int} {k : Nat} (h : ∀ x ∈ xs, x.natAbs ≤ 2 ^ 100) (hl : xs.length ≤ 12) : Shw (k + 1) 30000 (eT eI xs) :=
  shT (n := 2000) (m := 12) (fun x hx => shI (small_nat (h x hx))) hl (by decide)
theorem LapT.shRow (h : LapT cs f n row) : okRepr (eL eD [eT eI cs, eT (eT eI) row]) = true := by
  have h1 : Shw 2 400000 (eT eI cs) := Shw.mono (shInts (k := 0) (fun x hx => by have := h.ok.cost x hx; omega) (by have := h.c8; omega)) (by decide) (by decide)
  have h2 : Shw 2 400000 (eT (eT eI) row) := shT (n := 30000) (m := 12) (fun c hc => shInts (k := 0) (fun x hx => by have := (h.call c hc).ok x hx; have := h.c8; omega) (by have := h.c4 c hc; omega)) h.len (by decide)
  exact okR (shL (e := eD) (k := 2) (n := 400000) (m := 2) (r := 1000000) (fun d hd => by
    simp at hd
    rcases hd with rfl | rfl
    · exact h1
    · exact h2) (by simp) (by decide)) (by decide) (by decide)
theorem LapT.shWay (h : LapT cs f n row) : okRepr (eL eD [e2 (eT eI) (eT eI) (lotsT cs row, (runT cs row).prices), eT (eT eI) (runT cs row).steps]) = true := by
  have a1 : Shw 1 30000 (eT eI (lotsT cs row)) := shInts (k := 0) (fun x hx => by have := h.okl x hx; have := h.c8; omega) (by have := (lots_perm cs row).length_eq; have := h.tlen; omega)
  have a2 : Shw 1 30000 (eT eI (runT cs row).prices) := shInts (k := 0) (fun x hx => by have := h.ti.k0 x hx; omega) (by rw [h.ti.l2]; exact h.len)
  have h1 : Shw 2 400000 (e2 (eT eI) (eT eI) (lotsT cs row, (runT cs row).prices)) := sh2 (k := 1) (n := 30000) a1 a2 (by decide)
  have hst : ∀ st ∈ (runT cs row).steps, st.length ≤ 12 := by
    intro st hs
    have h3 : st.length ≤ (runT cs row).steps.flatten.length := (List.sublist_flatten_of_mem hs).length_le
    rw [← h.ti.fl] at h3
    have := h.tlen
    omega
  have h2 : Shw 2 400000 (eT (eT eI) (runT cs row).steps) := shT (n := 30000) (m := 12) (fun c hc => shInts (k := 0) (fun x hx => by have := h.ti.st c hc x hx; have := h.c8; omega) (hst c hc)) (by rw [h.ti.l1]; exact h.len) (by decide)
  exact okR (shL (e := eD) (k := 2) (n := 400000) (m := 2) (r := 1000000) (fun d hd => by
    simp at hd
    rcases hd with rfl | rfl
    · exact h1
    · exact h2) (by simp) (by decide)) (by decide) (by decide)
theorem fr_div_small {p d : Int} (hd : 0 < d) : (fr ((p : Rat) / (d : Rat))).1.natAbs ≤ p.natAbs ∧ (fr ((p : Rat) / (d : Rat))).2.natAbs ≤ d.natAbs := by
  rw [← fr_low hd]
  have hg : (Int.gcd d p : Int) ≠ 0 := by
    intro e
    have := Int.gcd_eq_zero_iff.mp (Int.ofNat.inj e)
    omega
  constructor
  · exact Int.natAbs_ediv_le_natAbs _ _
  · exact Int.natAbs_ediv_le_natAbs _ _
theorem LapT.shDue (h : LapT cs f n row) : okRepr (eL eD [eI (costL cs (lotsT cs row)), eO (e2 eI eI) (dueT cs row)]) = true := by
  have hc := h.cost0
  have ht := h.tot0
  have h1 : Shw 1 5000 (eI (costL cs (lotsT cs row))) := Shw.mono (shI (k := 1) (small_nat (by omega))) (by decide) (by decide)
  have h2 : Shw 1 5000 (eO (e2 eI eI) (dueT cs row)) := by
    unfold dueT
    split
    · exact ⟨⟨by rfl, by decide⟩, by rfl, by decide⟩
    · rename_i hz
      have := fr_div_small (p := costL cs (lotsT cs row)) (d := totT cs row) (by omega)
      exact shFr (k := 0) ⟨small_nat (by omega), small_nat (by omega)⟩
  exact okR (shL (e := eD) (k := 1) (n := 5000) (m := 2) (r := 1000000) (fun d hd => by
    simp at hd
    rcases hd with rfl | rfl
    · exact h1
    · exact h2) (by simp) (by decide)) (by decide) (by decide)
theorem LapT.shNums (h : LapT cs f n row) : okRepr (eT eI (numsOf (runT cs row).prices)) = true :=
  okR (shInts (k := 0) (fun x hx => by have := h.nok x hx; have := h.len; omega) h.nlen) (by decide) (by decide)
end
end Cov

namespace W92
open PySem DL TL Cov
theorem c_lowest_pair : C2 m_lowest_pair eI eI (e2 eI eI) p_lowest_pair := by
  refine C2_of (k := 2) (fun a_p a_q => ?_)
  show DR g_lowest_pair [.is (.dat (eI a_p)), .is (.dat (eI a_q)), .any, .any] (e2 eI eI) (p_lowest_pair a_p a_q)
  unfold g_lowest_pair p_lowest_pair
  exact (DR_seq (DN_par2 (EE_dat (E_var (i := 0) (ea := eI) (a := a_p) (by rfl))) (EE_dat (E_var (i := 1) (ea := eI) (a := a_q) (by rfl))) OkS.d0 OkS.d0 (by rfl) (by rfl)) fun (v1 : Int × Int) => (DR_seq (DN_wl (K := fun (s2 : Int × Int) => [.is (.dat (eI (a_p))), .is (.dat (eI (a_q))), .is (.dat (eI s2.1)), .is (.dat (eI s2.2))]) (by exact (.eq (.eq (.eq (.eq .nil))))) (fun (s2 : Int × Int) => (ET_bool (E_op2 oGt (E_var (i := 3) (ea := eI) (a := s2.2) (by rfl)) E_int))) (fun (s2 : Int × Int) => (DN_last (w := fun (v3 : Int × Int) => (v3.1, v3.2)) (DN_par2 (EE_dat (E_var (i := 3) (ea := eI) (a := s2.2) (by rfl))) (EE_dat (E_op2 oMod (E_var (i := 2) (ea := eI) (a := s2.1) (by rfl)) (E_var (i := 3) (ea := eI) (a := s2.2) (by rfl)))) OkS.d0 OkS.d0 (by rfl) (by rfl)) (fun _ => (by exact (.eq (.eq (.eq (.eq .nil))))))))) fun (v4 : Int × Int) => (DR_ret (E_t2 (E_op2 oDiv (E_var (i := 0) (ea := eI) (a := a_p) (by rfl)) (E_var (i := 2) (ea := eI) (a := v4.1) (by rfl))) (E_op2 oDiv (E_var (i := 1) (ea := eI) (a := a_q) (by rfl)) (E_var (i := 2) (ea := eI) (a := v4.1) (by rfl)))))))
theorem c_summed_pairs : C1 m_summed_pairs (eT (e2 eI eI)) (e2 eI eI) p_summed_pairs := by
  refine C1_of (k := 4) (fun a_some => ?_)
  show DR g_summed_pairs [.is (.dat ((eT (e2 eI eI)) a_some)), .any, .any, .any, .any] (e2 eI eI) (p_summed_pairs a_some)
  unfold g_summed_pairs p_summed_pairs
  exact (DR_seq (DN_par2 (EE_dat E_int) (EE_dat E_int) OkS.d0 OkS.d0 (by rfl) (by rfl)) fun (v1 : Int × Int) => (DR_seq (DN_for (K := fun (s2 : Int × Int) => [.is (.dat ((eT (e2 eI eI)) (a_some))), .is (.dat (eI s2.1)), .is (.dat (eI s2.2)), .any, .any]) (as := fun (x3 : (Int × Int)) => [(3, eI (x3.1)), (4, eI (x3.2))]) (EN_itemsT (E_var (i := 0) (ea := (eT (e2 eI eI))) (a := a_some) (by rfl))) (by exact (.eq (.eq (.eq (.an rfl (.an rfl .nil)))))) (fun _ => rfl) (fun _ _ => rfl) (fun (x3 : (Int × Int)) (s2 : Int × Int) => (DN_last (w := fun (v5 : (Int × Int)) => (v5.1, v5.2)) (DN_asg0 (as := fun (x4 : (Int × Int)) => [(1, eI (x4.1)), (2, eI (x4.2))]) (E_c2 c_lowest_pair (E_op2 oAdd (E_op2 oMul (E_var (i := 1) (ea := eI) (a := s2.1) (by rfl)) (E_var (i := 4) (ea := eI) (a := x3.2) (by rfl))) (E_op2 oMul (E_var (i := 3) (ea := eI) (a := x3.1) (by rfl)) (E_var (i := 2) (ea := eI) (a := s2.2) (by rfl)))) (E_op2 oMul (E_var (i := 2) (ea := eI) (a := s2.2) (by rfl)) (E_var (i := 4) (ea := eI) (a := x3.2) (by rfl)))) (fun _ => rfl) (fun _ => rfl)) (fun _ => (by exact (.eq (.eq (.eq (.an rfl (.an rfl .nil)))))))))) fun (v6 : Int × Int) => (DR_ret (E_t2 (E_var (i := 1) (ea := eI) (a := v6.1) (by rfl)) (E_var (i := 2) (ea := eI) (a := v6.2) (by rfl))))))
theorem c_summed_pairs_1 : C1 m_summed_pairs (eL (e2 eI eI)) (e2 eI eI) p_summed_pairs := by
  refine C1_of (k := 4) (fun a_some => ?_)
  show DR g_summed_pairs [.is (.dat ((eL (e2 eI eI)) a_some)), .any, .any, .any, .any] (e2 eI eI) (p_summed_pairs a_some)
  unfold g_summed_pairs p_summed_pairs
  exact (DR_seq (DN_par2 (EE_dat E_int) (EE_dat E_int) OkS.d0 OkS.d0 (by rfl) (by rfl)) fun (v1 : Int × Int) => (DR_seq (DN_for (K := fun (s2 : Int × Int) => [.is (.dat ((eL (e2 eI eI)) (a_some))), .is (.dat (eI s2.1)), .is (.dat (eI s2.2)), .any, .any]) (as := fun (x3 : (Int × Int)) => [(3, eI (x3.1)), (4, eI (x3.2))]) (EN_itemsL (E_var (i := 0) (ea := (eL (e2 eI eI))) (a := a_some) (by rfl))) (by exact (.eq (.eq (.eq (.an rfl (.an rfl .nil)))))) (fun _ => rfl) (fun _ _ => rfl) (fun (x3 : (Int × Int)) (s2 : Int × Int) => (DN_last (w := fun (v5 : (Int × Int)) => (v5.1, v5.2)) (DN_asg0 (as := fun (x4 : (Int × Int)) => [(1, eI (x4.1)), (2, eI (x4.2))]) (E_c2 c_lowest_pair (E_op2 oAdd (E_op2 oMul (E_var (i := 1) (ea := eI) (a := s2.1) (by rfl)) (E_var (i := 4) (ea := eI) (a := x3.2) (by rfl))) (E_op2 oMul (E_var (i := 3) (ea := eI) (a := x3.1) (by rfl)) (E_var (i := 2) (ea := eI) (a := s2.2) (by rfl)))) (E_op2 oMul (E_var (i := 2) (ea := eI) (a := s2.2) (by rfl)) (E_var (i := 4) (ea := eI) (a := x3.2) (by rfl)))) (fun _ => rfl) (fun _ => rfl)) (fun _ => (by exact (.eq (.eq (.eq (.an rfl (.an rfl .nil)))))))))) fun (v6 : Int × Int) => (DR_ret (E_t2 (E_var (i := 1) (ea := eI) (a := v6.1) (by rfl)) (E_var (i := 2) (ea := eI) (a := v6.2) (by rfl))))))
theorem c_is_call_answered : C2 m_is_call_answered (eT eI) (eT eI) eB p_is_call_answered := by
  refine C2_of (k := 1) (fun a_call a_lots => ?_)
  show DR g_is_call_answered [.is (.dat ((eT eI) a_call)), .is (.dat ((eT eI) a_lots)), .any] eB (p_is_call_answered a_call a_lots)
  unfold g_is_call_answered p_is_call_answered
  exact (DR_ret (E_c1 oAny (E_ofN (EN_compA (as := fun (x1 : Int) => [(2, eI (x1))]) (EN_itemsT (E_var (i := 0) (ea := (eT eI)) (a := a_call) (by rfl))) (fun _ => rfl) (fun (x1 : Int) => (E_op2 (oInT EqT.int) (E_var (i := 2) (ea := eI) (a := x1) (by rfl)) (E_var (i := 1) (ea := (eT eI)) (a := a_lots) (by rfl))))))))
theorem c_is_call_answered_1 : C2 m_is_call_answered (eT eI) (eL eI) eB p_is_call_answered := by
  refine C2_of (k := 1) (fun a_call a_lots => ?_)
  show DR g_is_call_answered [.is (.dat ((eT eI) a_call)), .is (.dat ((eL eI) a_lots)), .any] eB (p_is_call_answered a_call a_lots)
  unfold g_is_call_answered p_is_call_answered
  exact (DR_ret (E_c1 oAny (E_ofN (EN_compA (as := fun (x1 : Int) => [(2, eI (x1))]) (EN_itemsT (E_var (i := 0) (ea := (eT eI)) (a := a_call) (by rfl))) (fun _ => rfl) (fun (x1 : Int) => (E_op2 (oInL EqT.int) (E_var (i := 2) (ea := eI) (a := x1) (by rfl)) (E_var (i := 1) (ea := (eL eI)) (a := a_lots) (by rfl))))))))
theorem c_do_answer : C2 m_do_answer (eT (eT eI)) (eT eI) eB p_do_answer := by
  refine C2_of (k := 1) (fun a_row a_lots => ?_)
  show DR g_do_answer [.is (.dat ((eT (eT eI)) a_row)), .is (.dat ((eT eI) a_lots)), .any] eB (p_do_answer a_row a_lots)
  unfold g_do_answer p_do_answer
  exact (DR_ret (E_c1 oAll (E_ofN (EN_compA (as := fun (x1 : (List Int)) => [(2, (eT eI) (x1))]) (EN_itemsT (E_var (i := 0) (ea := (eT (eT eI))) (a := a_row) (by rfl))) (fun _ => rfl) (fun (x1 : (List Int)) => (E_c2 c_is_call_answered (E_var (i := 2) (ea := (eT eI)) (a := x1) (by rfl)) (E_var (i := 1) (ea := (eT eI)) (a := a_lots) (by rfl))))))))
theorem c_lots_cost : C2 m_lots_cost (eT eI) (eT eI) eI p_lots_cost := by
  refine C2_of (k := 1) (fun a_costs a_lots => ?_)
  show DR g_lots_cost [.is (.dat ((eT eI) a_costs)), .is (.dat ((eT eI) a_lots)), .any] eI (p_lots_cost a_costs a_lots)
  unfold g_lots_cost p_lots_cost
  exact (DR_ret (E_c1 oSumA (E_ofN (EN_compA (as := fun (x1 : Int) => [(2, eI (x1))]) (EN_itemsT (E_var (i := 1) (ea := (eT eI)) (a := a_lots) (by rfl))) (fun _ => rfl) (fun (x1 : Int) => (E_op2 oIxT (E_var (i := 0) (ea := (eT eI)) (a := a_costs) (by rfl)) (E_var (i := 2) (ea := eI) (a := x1) (by rfl))))))))
theorem c_all_lot_rows : C1 m_all_lot_rows eI (eL (eT eI)) p_all_lot_rows := by
  refine C1_of (k := 3) (fun a_many => ?_)
  show DR g_all_lot_rows [.is (.dat (eI a_many)), .any, .any, .any] (eL (eT eI)) (p_all_lot_rows a_many)
  unfold g_all_lot_rows p_all_lot_rows
  exact (DR_seq (DN_setN0 (EN_lst (EN_cons (E_t0 (ea := eI)) (EN_nil (ea := (eT eI))))) (by rfl)) fun (v_found1 : (List (List Int))) => (DR_seq (DN_for (K := fun (s2 : (List (List Int))) => [.is (.dat (eI (a_many))), .is (.own ((eL (eT eI)) s2)), .any, .any]) (as := fun (x3 : Int) => [(2, eI (x3))]) (EN_rg1 (E_var (i := 0) (ea := eI) (a := a_many) (by rfl))) (by exact (.eq (.eq (.an rfl (.an rfl .nil))))) (fun _ => rfl) (fun _ _ => rfl) (fun (x3 : Int) (s2 : (List (List Int))) => (DN_last (w := fun (v5 : (List (List Int))) => v5) (DN_ext1 (E_ofN (EN_compA (as := fun (x4 : (List Int)) => [(3, (eT eI) (x4))]) (EN_itemsL (E_ofN (EN_listL (E_var (i := 1) (ea := (eL (eT eI))) (a := s2) (by rfl))))) (fun _ => rfl) (fun (x4 : (List Int)) => (E_tN (EN_starT (E_var (i := 3) (ea := (eT eI)) (a := x4) (by rfl)) (EN_cons (E_var (i := 2) (ea := eI) (a := x3) (by rfl)) (EN_nil (ea := eI)))))))) (PuE.tup PuE.int) (by rfl)) (fun _ => (by exact (.eq (.eq (.an rfl (.an rfl .nil))))))))) fun (v6 : (List (List Int))) => (DR_ret (E_var (i := 1) (ea := (eL (eT eI))) (a := v6) (by rfl)))))
theorem c_least_lots : C2 m_least_lots (eT eI) (eT (eT eI)) (eT eI) p_least_lots := by
  refine C2_of (k := 1) (fun a_costs a_row => ?_)
  show DR g_least_lots [.is (.dat ((eT eI) a_costs)), .is (.dat ((eT (eT eI)) a_row)), .any] (eT eI) (p_least_lots a_costs a_row)
  unfold g_least_lots p_least_lots
  exact (DR_ret (E_22 (E_c1 oMinDA (E_ofN (EN_comp (as := fun (x2 : (List Int)) => [(2, (eT eI) (x2))]) (EN_itemsL (E_c1 c_all_lot_rows (E_c1 oLenT (E_var (i := 0) (ea := (eT eI)) (a := a_costs) (by rfl))))) (fun _ => rfl) (fun (x2 : (List Int)) => (ET_bool (E_c2 c_do_answer (E_var (i := 1) (ea := (eT (eT eI))) (a := a_row) (by rfl)) (E_var (i := 2) (ea := (eT eI)) (a := x2) (by rfl))))) (fun (x2 : (List Int)) => (E_t2 (E_c2 c_lots_cost (E_var (i := 0) (ea := (eT eI)) (a := a_costs) (by rfl)) (E_var (i := 2) (ea := (eT eI)) (a := x2) (by rfl))) (E_var (i := 2) (ea := (eT eI)) (a := x2) (by rfl)))))))))
theorem c_least_answer : C2 m_least_answer (eT eI) (eT (eT eI)) eI p_least_answer := by
  refine C2_of (k := 0) (fun a_costs a_row => ?_)
  show DR g_least_answer [.is (.dat ((eT eI) a_costs)), .is (.dat ((eT (eT eI)) a_row))] eI (p_least_answer a_costs a_row)
  unfold g_least_answer p_least_answer
  exact (DR_ret (E_c2 c_lots_cost (E_var (i := 0) (ea := (eT eI)) (a := a_costs) (by rfl)) (E_c2 c_least_lots (E_var (i := 0) (ea := (eT eI)) (a := a_costs) (by rfl)) (E_var (i := 1) (ea := (eT (eT eI))) (a := a_row) (by rfl)))))
theorem c_prices_of_lot : C3 m_prices_of_lot (eT (eT eI)) (eT (e2 eI eI)) eI (e2 eI eI) p_prices_of_lot := by
  refine C3_of (k := 2) (fun a_row a_prices a_lot => ?_)
  show DR g_prices_of_lot [.is (.dat ((eT (eT eI)) a_row)), .is (.dat ((eT (e2 eI eI)) a_prices)), .is (.dat (eI a_lot)), .any, .any] (e2 eI eI) (p_prices_of_lot a_row a_prices a_lot)
  unfold g_prices_of_lot p_prices_of_lot
  exact (DR_ret (E_c1 c_summed_pairs_1 (E_ofN (EN_comp (as := fun (x2 : ((List Int) × (Int × Int))) => [(3, (eT eI) (x2.1)), (4, (e2 eI eI) (x2.2))]) (EN_zip sqT sqT (E_var (i := 0) (ea := (eT (eT eI))) (a := a_row) (by rfl)) (E_var (i := 1) (ea := (eT (e2 eI eI))) (a := a_prices) (by rfl))) (fun _ => rfl) (fun (x2 : ((List Int) × (Int × Int))) => (ET_bool (E_op2 (oInT EqT.int) (E_var (i := 2) (ea := eI) (a := a_lot) (by rfl)) (E_var (i := 3) (ea := (eT eI)) (a := x2.1) (by rfl))))) (fun (x2 : ((List Int) × (Int × Int))) => (E_var (i := 4) (ea := (e2 eI eI)) (a := x2.2) (by rfl)))))))
theorem c_first_dear_lot : C3 m_first_dear_lot (eT eI) (eT (eT eI)) (eT (e2 eI eI)) (eO eI) p_first_dear_lot := by
  refine C3_of (k := 4) (fun a_costs a_row a_prices => ?_)
  show DR g_first_dear_lot [.is (.dat ((eT eI) a_costs)), .is (.dat ((eT (eT eI)) a_row)), .is (.dat ((eT (e2 eI eI)) a_prices)), .any, .any, .any, .any] (eO eI) (p_first_dear_lot a_costs a_row a_prices)
  unfold g_first_dear_lot p_first_dear_lot
  exact (DR_loop (DL_for (K := fun (s1 : Unit) => [.is (.dat ((eT eI) (a_costs))), .is (.dat ((eT (eT eI)) (a_row))), .is (.dat ((eT (e2 eI eI)) (a_prices))), .any, .any, .any, .any]) (e := (eO eI)) (as := fun (x2 : (Int × Int)) => [(3, eI (x2.1)), (4, eI (x2.2))]) (EN_enumT (E_var (i := 0) (ea := (eT eI)) (a := a_costs) (by rfl))) (by exact (.eq (.eq (.eq (.an rfl (.an rfl (.an rfl (.an rfl .nil)))))))) (fun _ => rfl) (fun _ _ => rfl) (fun (x2 : (Int × Int)) (s1 : Unit) => (DB_seq (DN_asg0 (as := fun (x3 : (Int × Int)) => [(5, eI (x3.1)), (6, eI (x3.2))]) (E_c3 c_prices_of_lot (E_var (i := 1) (ea := (eT (eT eI))) (a := a_row) (by rfl)) (E_var (i := 2) (ea := (eT (e2 eI eI))) (a := a_prices) (by rfl)) (E_var (i := 3) (ea := eI) (a := x2.1) (by rfl))) (fun _ => rfl) (fun _ => rfl)) fun (v4 : (Int × Int)) => (DB_if (ET_bool (E_op2 oGt (E_var (i := 5) (ea := eI) (a := v4.1) (by rfl)) (E_op2 oMul (E_var (i := 4) (ea := eI) (a := x2.2) (by rfl)) (E_var (i := 6) (ea := eI) (a := v4.2) (by rfl))))) (DB_ret (E_some (E_var (i := 3) (ea := eI) (a := x2.1) (by rfl)))) (DB_skip (by exact (.eq (.eq (.eq (.an rfl (.an rfl (.an rfl (.an rfl .nil))))))))))))) fun (r5 : Unit) => (DR_ret (E_none (ea := eI))))
theorem c_are_prices : C3 m_are_prices (eT eI) (eT (eT eI)) (eT (e2 eI eI)) eB p_are_prices := by
  refine C3_of (k := 0) (fun a_costs a_row a_prices => ?_)
  show DR g_are_prices [.is (.dat ((eT eI) a_costs)), .is (.dat ((eT (eT eI)) a_row)), .is (.dat ((eT (e2 eI eI)) a_prices))] eB (p_are_prices a_costs a_row a_prices)
  unfold g_are_prices p_are_prices
  exact (DR_ret (E_op2 (oIsN NonN.int) (E_c3 c_first_dear_lot (E_var (i := 0) (ea := (eT eI)) (a := a_costs) (by rfl)) (E_var (i := 1) (ea := (eT (eT eI))) (a := a_row) (by rfl)) (E_var (i := 2) (ea := (eT (e2 eI eI))) (a := a_prices) (by rfl))) E_non))
theorem c_prices_sum : C1 m_prices_sum (eT (e2 eI eI)) (e2 eI eI) p_prices_sum := by
  refine C1_of (k := 0) (fun a_prices => ?_)
  show DR g_prices_sum [.is (.dat ((eT (e2 eI eI)) a_prices))] (e2 eI eI) (p_prices_sum a_prices)
  unfold g_prices_sum p_prices_sum
  exact (DR_ret (E_c1 c_summed_pairs (E_var (i := 0) (ea := (eT (e2 eI eI))) (a := a_prices) (by rfl))))
theorem c_tight_run : C2 m_tight_run (eT eI) (eT (eT eI)) (e2 (eL (eT eI)) (eL eI)) p_tight_run := by
  refine C2_of (k := 8) (fun a_costs a_row => ?_)
  show DR g_tight_run [.is (.dat ((eT eI) a_costs)), .is (.dat ((eT (eT eI)) a_row)), .any, .any, .any, .any, .any, .any, .any, .any] (e2 (eL (eT eI)) (eL eI)) (p_tight_run a_costs a_row)
  unfold g_tight_run p_tight_run
  exact (DR_seq (DN_par4 (EE_own (EN_listT (E_var (i := 0) (ea := (eT eI)) (a := a_costs) (by rfl)))) (EE_own (EN_lst (EN_nil (ea := eI)))) (EE_own (EN_lst (EN_nil (ea := (eT eI))))) (EE_own (EN_lst (EN_nil (ea := eI)))) OkS.o0 OkS.o0 OkS.o0 OkS.o0 (by rfl) (by rfl) (by rfl) (by rfl)) fun (v1 : (List Int) × (List Int) × (List (List Int)) × (List Int)) => (DR_seq (DN_for (K := fun (s2 : (List Int) × (List Int) × (List (List Int)) × (List Int)) => [.is (.dat ((eT eI) (a_costs))), .is (.dat ((eT (eT eI)) (a_row))), .is (.own ((eL eI) s2.1)), .is (.own ((eL eI) s2.2.1)), .is (.own ((eL (eT eI)) s2.2.2.1)), .is (.own ((eL eI) s2.2.2.2)), .any, .any, .any, .any]) (as := fun (x3 : (List Int)) => [(6, (eT eI) (x3))]) (EN_itemsT (E_var (i := 1) (ea := (eT (eT eI))) (a := a_row) (by rfl))) (by exact (.eq (.eq (.eq (.eq (.eq (.eq (.an rfl (.an rfl (.an rfl (.an rfl .nil))))))))))) (fun _ => rfl) (fun _ _ => rfl) (fun (x3 : (List Int)) (s2 : (List Int) × (List Int) × (List (List Int)) × (List Int)) => (DN_seq (DN_set1 (E_if (ET_bool (E_c2 c_is_call_answered_1 (E_var (i := 6) (ea := (eT eI)) (a := x3) (by rfl)) (E_var (i := 3) (ea := (eL eI)) (a := s2.2.1) (by rfl)))) E_int (E_c1 oMinLA (E_ofN (EN_compA (as := fun (x5 : Int) => [(8, eI (x5))]) (EN_itemsT (E_var (i := 6) (ea := (eT eI)) (a := x3) (by rfl))) (fun _ => rfl) (fun (x5 : Int) => (E_op2 oIxL (E_var (i := 2) (ea := (eL eI)) (a := s2.1) (by rfl)) (E_var (i := 8) (ea := eI) (a := x5) (by rfl)))))))) PuE.int (by rfl)) fun (v_price6 : Int) => (DN_seq (DN_for (K := fun (s7 : (List Int)) => [.is (.dat ((eT eI) (a_costs))), .is (.dat ((eT (eT eI)) (a_row))), .is (.own ((eL eI) s7)), .is (.own ((eL eI) (s2.2.1))), .is (.own ((eL (eT eI)) (s2.2.2.1))), .is (.own ((eL eI) (s2.2.2.2))), .is (.dat ((eT eI) (x3))), .is (.dat (eI (v_price6))), .any, .any]) (as := fun (x8 : Int) => [(8, eI (x8))]) (EN_itemsT (E_var (i := 6) (ea := (eT eI)) (a := x3) (by rfl))) (by exact (.eq (.eq (.eq (.eq (.eq (.eq (.eq (.eq (.an rfl (.an rfl .nil))))))))))) (fun _ => rfl) (fun _ _ => rfl) (fun (x8 : Int) (s7 : (List Int)) => (DN_last (w := fun (v9 : (List Int)) => v9) (DN_put1 (E_op2 oSub (E_op2 oIxL (E_var (i := 2) (ea := (eL eI)) (a := s7) (by rfl)) (E_var (i := 8) (ea := eI) (a := x8) (by rfl))) (E_var (i := 7) (ea := eI) (a := v_price6) (by rfl))) (E_var (i := 8) (ea := eI) (a := x8) (by rfl)) PuE.int (by rfl)) (fun _ => (by exact (.eq (.eq (.eq (.eq (.eq (.eq (.eq (.eq (.an rfl (.an rfl .nil))))))))))))))) fun (v10 : (List Int)) => (DN_seq (DN_setN1 (EN_comp (as := fun (x11 : Int) => [(8, eI (x11))]) (EN_itemsT (E_var (i := 6) (ea := (eT eI)) (a := x3) (by rfl))) (fun _ => rfl) (fun (x11 : Int) => (ET_and (ET_bool (E_op2 (oEq EqT.int) (E_op2 oIxL (E_var (i := 2) (ea := (eL eI)) (a := v10) (by rfl)) (E_var (i := 8) (ea := eI) (a := x11) (by rfl))) E_int)) (ET_bool (E_op2 (oNinL EqT.int) (E_var (i := 8) (ea := eI) (a := x11) (by rfl)) (E_var (i := 3) (ea := (eL eI)) (a := s2.2.1) (by rfl)))))) (fun (x11 : Int) => (E_var (i := 8) (ea := eI) (a := x11) (by rfl)))) PuE.int (by rfl)) fun (v_new12 : (List Int)) => (DN_seq (DN_ext1 (E_var (i := 9) (ea := (eL eI)) (a := v_new12) (by rfl)) PuE.int (by rfl)) fun (v13 : (List Int)) => (DN_seq (DN_app1 (E_c1 oTupL (E_var (i := 9) (ea := (eL eI)) (a := v_new12) (by rfl))) (PuE.tup PuE.int) (by rfl)) fun (v14 : (List (List Int))) => (DN_last (w := fun (v15 : (List Int)) => (v10, v13, v14, v15)) (DN_app0 (E_var (i := 7) (ea := eI) (a := v_price6) (by rfl)) (by rfl)) (fun _ => (by exact (.eq (.eq (.eq (.eq (.eq (.eq (.an rfl (.an rfl (.an rfl (.an rfl .nil)))))))))))))))))))) fun (v16 : (List Int) × (List Int) × (List (List Int)) × (List Int)) => (DR_ret (E_t2 (E_var (i := 4) (ea := (eL (eT eI))) (a := v16.2.2.1) (by rfl)) (E_var (i := 5) (ea := (eL eI)) (a := v16.2.2.2) (by rfl))))))
theorem c_tight_steps : C2 m_tight_steps (eT eI) (eT (eT eI)) (eT (eT eI)) p_tight_steps := by
  refine C2_of (k := 0) (fun a_costs a_row => ?_)
  show DR g_tight_steps [.is (.dat ((eT eI) a_costs)), .is (.dat ((eT (eT eI)) a_row))] (eT (eT eI)) (p_tight_steps a_costs a_row)
  unfold g_tight_steps p_tight_steps
  exact (DR_ret (E_c1 oTupL (E_21 (E_c2 c_tight_run (E_var (i := 0) (ea := (eT eI)) (a := a_costs) (by rfl)) (E_var (i := 1) (ea := (eT (eT eI))) (a := a_row) (by rfl))))))
theorem c_tight_way : C2 m_tight_way (eT eI) (eT (eT eI)) (e2 (eT eI) (eT eI)) p_tight_way := by
  refine C2_of (k := 4) (fun a_costs a_row => ?_)
  show DR g_tight_way [.is (.dat ((eT eI) a_costs)), .is (.dat ((eT (eT eI)) a_row)), .any, .any, .any, .any] (e2 (eT eI) (eT eI)) (p_tight_way a_costs a_row)
  unfold g_tight_way p_tight_way
  exact (DR_seq (DN_asg0 (as := fun (x1 : ((List (List Int)) × (List Int))) => [(2, (eL (eT eI)) (x1.1)), (3, (eL eI) (x1.2))]) (E_c2 c_tight_run (E_var (i := 0) (ea := (eT eI)) (a := a_costs) (by rfl)) (E_var (i := 1) (ea := (eT (eT eI))) (a := a_row) (by rfl))) (fun _ => rfl) (fun _ => rfl)) fun (v2 : ((List (List Int)) × (List Int))) => (DR_ret (E_t2 (E_c1 oTupL (E_ofN (EN_sort (E_ofN (EN_comp2 (as := fun (x3 : (List Int)) => [(4, (eT eI) (x3))]) (as1 := fun (x3 : (List Int)) (x4 : Int) => [(5, eI (x4))]) (EN_itemsL (E_var (i := 2) (ea := (eL (eT eI))) (a := v2.1) (by rfl))) (fun _ => rfl) (fun (x3 : (List Int)) => ET_true) (fun (x3 : (List Int)) => (EN_itemsT (E_var (i := 4) (ea := (eT eI)) (a := x3) (by rfl)))) (fun _ _ => rfl) (fun (x3 : (List Int)) (x4 : Int) => ET_true) (fun (x3 : (List Int)) (x4 : Int) => (E_var (i := 5) (ea := eI) (a := x4) (by rfl)))))))) (E_c1 oTupL (E_var (i := 3) (ea := (eL eI)) (a := v2.2) (by rfl))))))
theorem c_tight_cost : C2 m_tight_cost (eT eI) (eT (eT eI)) eI p_tight_cost := by
  refine C2_of (k := 0) (fun a_costs a_row => ?_)
  show DR g_tight_cost [.is (.dat ((eT eI) a_costs)), .is (.dat ((eT (eT eI)) a_row))] eI (p_tight_cost a_costs a_row)
  unfold g_tight_cost p_tight_cost
  exact (DR_ret (E_c2 c_lots_cost (E_var (i := 0) (ea := (eT eI)) (a := a_costs) (by rfl)) (E_21 (E_c2 c_tight_way (E_var (i := 0) (ea := (eT eI)) (a := a_costs) (by rfl)) (E_var (i := 1) (ea := (eT (eT eI))) (a := a_row) (by rfl))))))
theorem c_priced_calls : C2 m_priced_calls (eT eI) (eT (eT eI)) (eT eI) p_priced_calls := by
  refine C2_of (k := 2) (fun a_costs a_row => ?_)
  show DR g_priced_calls [.is (.dat ((eT eI) a_costs)), .is (.dat ((eT (eT eI)) a_row)), .any, .any] (eT eI) (p_priced_calls a_costs a_row)
  unfold g_priced_calls p_priced_calls
  exact (DR_ret (E_c1 oTupL (E_ofN (EN_comp (as := fun (x1 : (Int × Int)) => [(2, eI (x1.1)), (3, eI (x1.2))]) (EN_enumL (E_22 (E_c2 c_tight_run (E_var (i := 0) (ea := (eT eI)) (a := a_costs) (by rfl)) (E_var (i := 1) (ea := (eT (eT eI))) (a := a_row) (by rfl))))) (fun _ => rfl) (fun (x1 : (Int × Int)) => (ET_bool (E_op2 oGt (E_var (i := 3) (ea := eI) (a := x1.2) (by rfl)) E_int))) (fun (x1 : (Int × Int)) => (E_var (i := 2) (ea := eI) (a := x1.1) (by rfl)))))))
theorem c_are_apart_calls : C2 m_are_apart_calls (eT (eT eI)) (eT eI) eB p_are_apart_calls := by
  refine C2_of (k := 3) (fun a_row a_numbers => ?_)
  show DR g_are_apart_calls [.is (.dat ((eT (eT eI)) a_row)), .is (.dat ((eT eI) a_numbers)), .any, .any, .any] eB (p_are_apart_calls a_row a_numbers)
  unfold g_are_apart_calls p_are_apart_calls
  exact (DR_seq (DN_setN0 (EN_comp2 (as := fun (x1 : Int) => [(3, eI (x1))]) (as1 := fun (x1 : Int) (x2 : Int) => [(4, eI (x2))]) (EN_itemsT (E_var (i := 1) (ea := (eT eI)) (a := a_numbers) (by rfl))) (fun _ => rfl) (fun (x1 : Int) => ET_true) (fun (x1 : Int) => (EN_itemsT (E_op2 oIxT (E_var (i := 0) (ea := (eT (eT eI))) (a := a_row) (by rfl)) (E_var (i := 3) (ea := eI) (a := x1) (by rfl))))) (fun _ _ => rfl) (fun (x1 : Int) (x2 : Int) => ET_true) (fun (x1 : Int) (x2 : Int) => (E_var (i := 4) (ea := eI) (a := x2) (by rfl)))) (by rfl)) fun (v_lots3 : (List Int)) => (DR_ret (E_op2 (oEq EqT.int) (E_c1 oLenM (E_dc (EN_compA (as := fun (x5 : Int) => [(4, eI (x5))]) (EN_itemsL (E_var (i := 2) (ea := (eL eI)) (a := v_lots3) (by rfl))) (fun _ => rfl) (fun (x5 : Int) => (E_pr (E_var (i := 4) (ea := eI) (a := x5) (by rfl)) E_bool))))) (E_c1 oLenL (E_var (i := 2) (ea := (eL eI)) (a := v_lots3) (by rfl))))))
theorem c_tight_share : C2 m_tight_share (eT eI) (eT (eT eI)) (eO (e2 eI eI)) p_tight_share := by
  refine C2_of (k := 2) (fun a_costs a_row => ?_)
  show DR g_tight_share [.is (.dat ((eT eI) a_costs)), .is (.dat ((eT (eT eI)) a_row)), .any, .any] (eO (e2 eI eI)) (p_tight_share a_costs a_row)
  unfold g_tight_share p_tight_share
  exact (DR_seq (DN_asg0 (as := fun (x1 : ((List Int) × (List Int))) => [(2, (eT eI) (x1.1)), (3, (eT eI) (x1.2))]) (E_c2 c_tight_way (E_var (i := 0) (ea := (eT eI)) (a := a_costs) (by rfl)) (E_var (i := 1) (ea := (eT (eT eI))) (a := a_row) (by rfl))) (fun _ => rfl) (fun _ => rfl)) fun (v2 : ((List Int) × (List Int))) => (DR_ret (E_if (ET_bool (E_op2 oGt (E_c1 oSumT (E_var (i := 3) (ea := (eT eI)) (a := v2.2) (by rfl))) E_int)) (E_some (E_c2 c_lowest_pair (E_c2 c_lots_cost (E_var (i := 0) (ea := (eT eI)) (a := a_costs) (by rfl)) (E_var (i := 2) (ea := (eT eI)) (a := v2.1) (by rfl))) (E_c1 oSumT (E_var (i := 3) (ea := (eT eI)) (a := v2.2) (by rfl))))) (E_none (ea := (e2 eI eI))))))
theorem c__law_of : CS1 m__law_of (eL eD) eD p__law_of := by
  refine CS1_of (k := 0) (fun a_some => ?_)
  show DRS 0 g__law_of [.is .src, .is (.dat ((eL eD) a_some))] eD (p__law_of a_some)
  unfold g__law_of p__law_of
  exact (DRS_ret (ES_op2 oIxL (ES_l (E_var (i := 1) (ea := (eL eD)) (a := a_some) (by rfl))) (ES_s1 cs_pick (ES_l (E_c1 oLenL (E_var (i := 1) (ea := (eL eD)) (a := a_some) (by rfl)))))))
theorem c__law_low : C2 m__law_low eI eI (e2 eI eI) p__law_low := by
  refine C2_of (k := 2) (fun a_p a_q => ?_)
  show DR g__law_low [.is (.dat (eI a_p)), .is (.dat (eI a_q)), .any, .any] (e2 eI eI) (p__law_low a_p a_q)
  unfold g__law_low p__law_low
  exact (DR_seq (DN_par2 (EE_dat (E_c1 oAbs (E_var (i := 0) (ea := eI) (a := a_p) (by rfl)))) (EE_dat (E_var (i := 1) (ea := eI) (a := a_q) (by rfl))) OkS.d0 OkS.d0 (by rfl) (by rfl)) fun (v1 : Int × Int) => (DR_seq (DN_wl (K := fun (s2 : Int × Int) => [.is (.dat (eI (a_p))), .is (.dat (eI (a_q))), .is (.dat (eI s2.1)), .is (.dat (eI s2.2))]) (by exact (.eq (.eq (.eq (.eq .nil))))) (fun (s2 : Int × Int) => (ET_bool (E_op2 oGt (E_var (i := 3) (ea := eI) (a := s2.2) (by rfl)) E_int))) (fun (s2 : Int × Int) => (DN_last (w := fun (v3 : Int × Int) => (v3.1, v3.2)) (DN_par2 (EE_dat (E_var (i := 3) (ea := eI) (a := s2.2) (by rfl))) (EE_dat (E_op2 oMod (E_c1 oIntA (E_var (i := 2) (ea := eI) (a := s2.1) (by rfl))) (E_var (i := 3) (ea := eI) (a := s2.2) (by rfl)))) OkS.d0 OkS.d0 (by rfl) (by rfl)) (fun _ => (by exact (.eq (.eq (.eq (.eq .nil))))))))) fun (v4 : Int × Int) => (DR_ret (E_t2 (E_op2 oDiv (E_var (i := 0) (ea := eI) (a := a_p) (by rfl)) (E_var (i := 2) (ea := eI) (a := v4.1) (by rfl))) (E_op2 oDiv (E_var (i := 1) (ea := eI) (a := a_q) (by rfl)) (E_var (i := 2) (ea := eI) (a := v4.1) (by rfl)))))))
theorem c__law_lots : CS2 m__law_lots eI eI (e3 (eT eI) eI (eT (eT eI))) p__law_lots := by
  refine CS2_of (k := 7) (fun a_most a_far => ?_)
  show DRS 0 g__law_lots [.is .src, .is (.dat (eI a_most)), .is (.dat (eI a_far)), .any, .any, .any, .any, .any, .any, .any] (e3 (eT eI) eI (eT (eT eI))) (p__law_lots a_most a_far)
  unfold g__law_lots p__law_lots
  exact (DRS_seq (DNS_par2 (EES_dat (ES_op2 oAdd (ES_l E_int) (ES_s1 cs_pick (ES_l (E_var (i := 1) (ea := eI) (a := a_most) (by rfl)))))) (EES_dat (ES_op2 oAdd (ES_l E_int) (ES_s1 cs_pick (ES_l E_int)))) OkS.d0 OkS.d0 (by rfl) (by rfl)) fun (v1 : Int × Int) => (DRS_seq (DNS_set0 (ES_c1 oTupL (ES_ofN (ENS_compA (as := fun (x2 : Int) => [(9, eI (x2))]) (ENS_l (EN_rg1 (E_var (i := 3) (ea := eI) (a := v1.1) (by rfl)))) (fun _ => rfl) (fun (x2 : Int) => (ES_op2 oAdd (ES_l E_int) (ES_s1 cs_pick (ES_l (E_var (i := 2) (ea := eI) (a := a_far) (by rfl))))))))) (by rfl)) fun (v_costs3 : (List Int)) => (DRS_seq (DNS_setN0 (ENS_l (EN_lst (EN_nil (ea := (eT eI))))) (by rfl)) fun (v_row4 : (List (List Int))) => (DRS_seq (DNS_for (K := fun (s5 : (List (List Int))) => [.is .src, .is (.dat (eI (a_most))), .is (.dat (eI (a_far))), .is (.dat (eI (v1.1))), .is (.dat (eI (v1.2))), .is (.dat ((eT eI) (v_costs3))), .is (.own ((eL (eT eI)) s5)), .any, .any, .any]) (as := fun (x6 : Int) => [(7, eI (x6))]) (ENS_rg1 (ES_s1 cs_pick (ES_l E_int))) (by exact (.eq (.eq (.eq (.eq (.eq (.eq (.eq (.an rfl (.an rfl (.an rfl .nil))))))))))) (fun _ => rfl) (fun _ _ => rfl) (fun (x6 : Int) (s5 : (List (List Int))) => (DNS_seq (DNS_set0 (ES_s1 cs_orderL (ES_l (E_ofN (EN_lstRg (ER_1 (E_var (i := 3) (ea := eI) (a := v1.1) (by rfl))))))) (by rfl)) fun (v_names7 : (List Int)) => (DNS_last (w := fun (v8 : (List (List Int))) => v8) (DNS_app0 (ES_c1 oTupL (ES_ofN (ENS_sort (ES_slcL (ES_l (E_var (i := 8) (ea := (eL eI)) (a := v_names7) (by rfl))) (EOS_l EO_none) (EOS_some (ES_op2 oAdd (ES_l E_int) (ES_s1 cs_pick (ES_l (E_c2 oMin (E_var (i := 4) (ea := eI) (a := v1.2) (by rfl)) (E_var (i := 3) (ea := eI) (a := v1.1) (by rfl))))))))))) (by rfl)) (fun _ => (by exact (.eq (.eq (.eq (.eq (.eq (.eq (.eq (.an rfl (.an rfl (.an rfl .nil)))))))))))))))) fun (v9 : (List (List Int))) => (DRS_ret (ES_l (E_t3 (E_var (i := 5) (ea := (eT eI)) (a := v_costs3) (by rfl)) (E_var (i := 4) (ea := eI) (a := v1.2) (by rfl)) (E_c1 oTupL (E_var (i := 6) (ea := (eL (eT eI))) (a := v9) (by rfl))))))))))
theorem c__law_some_lots : C1 m__law_some_lots eI (eL (eT eI)) p__law_some_lots := by
  refine C1_of (k := 3) (fun a_many => ?_)
  show DR g__law_some_lots [.is (.dat (eI a_many)), .any, .any, .any] (eL (eT eI)) (p__law_some_lots a_many)
  unfold g__law_some_lots p__law_some_lots
  exact (DR_seq (DN_set0 (E_ofN (EN_lst (EN_cons (E_t0 (ea := eI)) (EN_nil (ea := (eT eI)))))) (by rfl)) fun (v_found1 : (List (List Int))) => (DR_seq (DN_for (K := fun (s2 : (List (List Int))) => [.is (.dat (eI (a_many))), .is (.dat ((eL (eT eI)) s2)), .any, .any]) (as := fun (x3 : Int) => [(2, eI (x3))]) (EN_rg1 (E_var (i := 0) (ea := eI) (a := a_many) (by rfl))) (by exact (.eq (.eq (.an rfl (.an rfl .nil))))) (fun _ => rfl) (fun _ _ => rfl) (fun (x3 : Int) (s2 : (List (List Int))) => (DN_last (w := fun (v_found5 : (List (List Int))) => v_found5) (DN_set0 (E_ofN (EN_cat (E_var (i := 1) (ea := (eL (eT eI))) (a := s2) (by rfl)) (E_ofN (EN_compA (as := fun (x4 : (List Int)) => [(3, (eT eI) (x4))]) (EN_itemsL (E_var (i := 1) (ea := (eL (eT eI))) (a := s2) (by rfl))) (fun _ => rfl) (fun (x4 : (List Int)) => (E_op2 oCatT (E_var (i := 3) (ea := (eT eI)) (a := x4) (by rfl)) (E_tN (EN_cons (E_var (i := 2) (ea := eI) (a := x3) (by rfl)) (EN_nil (ea := eI)))))))))) (by rfl)) (fun _ => (by exact (.eq (.eq (.an rfl (.an rfl .nil))))))))) fun (v6 : (List (List Int))) => (DR_ret (E_var (i := 1) (ea := (eL (eT eI))) (a := v6) (by rfl)))))
theorem c__law_is_open : C2 m__law_is_open (eT (eT eI)) (eT eI) (eL eI) p__law_is_open := by
  refine C2_of (k := 3) (fun a_row a_lots => ?_)
  show DR g__law_is_open [.is (.dat ((eT (eT eI)) a_row)), .is (.dat ((eT eI) a_lots)), .any, .any, .any] (eL eI) (p__law_is_open a_row a_lots)
  unfold g__law_is_open p__law_is_open
  exact (DR_ret (E_ofN (EN_comp (as := fun (x1 : (Int × (List Int))) => [(2, eI (x1.1)), (3, (eT eI) (x1.2))]) (EN_enumT (E_var (i := 0) (ea := (eT (eT eI))) (a := a_row) (by rfl))) (fun _ => rfl) (fun (x1 : (Int × (List Int))) => (ET_bool (E_op2 (oEq (EqT.lst EqT.int)) (E_ofN (EN_comp (as := fun (x3 : Int) => [(4, eI (x3))]) (EN_itemsT (E_var (i := 3) (ea := (eT eI)) (a := x1.2) (by rfl))) (fun _ => rfl) (fun (x3 : Int) => (ET_bool (E_op2 (oInT EqT.int) (E_var (i := 4) (ea := eI) (a := x3) (by rfl)) (E_var (i := 1) (ea := (eT eI)) (a := a_lots) (by rfl))))) (fun (x3 : Int) => (E_var (i := 4) (ea := eI) (a := x3) (by rfl))))) (E_ofN (EN_lst (EN_nil (ea := eI))))))) (fun (x1 : (Int × (List Int))) => (E_var (i := 2) (ea := eI) (a := x1.1) (by rfl))))))
theorem c__law_cost : C2 m__law_cost (eT eI) (eT eI) eI p__law_cost := by
  refine C2_of (k := 1) (fun a_costs a_lots => ?_)
  show DR g__law_cost [.is (.dat ((eT eI) a_costs)), .is (.dat ((eT eI) a_lots)), .any] eI (p__law_cost a_costs a_lots)
  unfold g__law_cost p__law_cost
  exact (DR_ret (E_c1 oSumA (E_ofN (EN_compA (as := fun (x1 : Int) => [(2, eI (x1))]) (EN_itemsT (E_var (i := 1) (ea := (eT eI)) (a := a_lots) (by rfl))) (fun _ => rfl) (fun (x1 : Int) => (E_op2 oIxT (E_var (i := 0) (ea := (eT eI)) (a := a_costs) (by rfl)) (E_var (i := 2) (ea := eI) (a := x1) (by rfl))))))))
theorem c__law_least : C2 m__law_least (eT eI) (eT (eT eI)) (eO (e2 eI (eT eI))) p__law_least := by
  refine C2_of (k := 3) (fun a_costs a_row => ?_)
  show DR g__law_least [.is (.dat ((eT eI) a_costs)), .is (.dat ((eT (eT eI)) a_row)), .any, .any, .any] (eO (e2 eI (eT eI))) (p__law_least a_costs a_row)
  unfold g__law_least p__law_least
  exact (DR_seq (DN_set0 (E_none (ea := (e2 eI (eT eI)))) (by rfl)) fun (v_best1 : (Option (Int × (List Int)))) => (DR_seq (DN_for (K := fun (s2 : (Option (Int × (List Int)))) => [.is (.dat ((eT eI) (a_costs))), .is (.dat ((eT (eT eI)) (a_row))), .is (.dat ((eO (e2 eI (eT eI))) s2)), .any, .any]) (as := fun (x3 : (List Int)) => [(3, (eT eI) (x3))]) (EN_itemsL (E_c1 c__law_some_lots (E_c1 oLenT (E_var (i := 0) (ea := (eT eI)) (a := a_costs) (by rfl))))) (by exact (.eq (.eq (.eq (.an rfl (.an rfl .nil)))))) (fun _ => rfl) (fun _ _ => rfl) (fun (x3 : (List Int)) (s2 : (Option (Int × (List Int)))) => (DN_seq (DN_set0 (E_t2 (E_c2 c__law_cost (E_var (i := 0) (ea := (eT eI)) (a := a_costs) (by rfl)) (E_var (i := 3) (ea := (eT eI)) (a := x3) (by rfl))) (E_var (i := 3) (ea := (eT eI)) (a := x3) (by rfl))) (by rfl)) fun (v_here4 : (Int × (List Int))) => (DN_if (ET_and (ET_or (ET_bool (E_op2 (oIsN NonN.two) (E_var (i := 2) (ea := (eO (e2 eI (eT eI)))) (a := s2) (by rfl)) E_non)) (ET_bool (E_op2 oB2 (E_toD (E_var (i := 4) (ea := (e2 eI (eT eI))) (a := v_here4) (by rfl))) (E_toD (E_var (i := 2) (ea := (eO (e2 eI (eT eI)))) (a := s2) (by rfl)))))) (ET_bool (E_op2 (oEq (EqT.lst EqT.int)) (E_c2 c__law_is_open (E_var (i := 1) (ea := (eT (eT eI))) (a := a_row) (by rfl)) (E_var (i := 3) (ea := (eT eI)) (a := x3) (by rfl))) (E_ofN (EN_lst (EN_nil (ea := eI))))))) (DN_last (w := fun (v_best5 : (Option (Int × (List Int)))) => v_best5) (DN_set0 (E_some (E_var (i := 4) (ea := (e2 eI (eT eI))) (a := v_here4) (by rfl))) (by rfl)) (fun _ => (by exact (.eq (.eq (.eq (.an rfl (.an rfl .nil)))))))) (DN_skip (by exact (.eq (.eq (.eq (.an rfl (.an rfl .nil))))))))))) fun (v6 : (Option (Int × (List Int)))) => (DR_ret (E_var (i := 2) (ea := (eO (e2 eI (eT eI)))) (a := v6) (by rfl)))))
theorem c__law_tight : C2 m__law_tight (eT eI) (eT (eT eI)) (e2 (eL (eT eI)) (eL eI)) p__law_tight := by
  refine C2_of (k := 8) (fun a_costs a_row => ?_)
  show DR g__law_tight [.is (.dat ((eT eI) a_costs)), .is (.dat ((eT (eT eI)) a_row)), .any, .any, .any, .any, .any, .any, .any, .any] (e2 (eL (eT eI)) (eL eI)) (p__law_tight a_costs a_row)
  unfold g__law_tight p__law_tight
  exact (DR_seq (DN_par4 (EE_own (EN_rep (E_ofN (EN_lst (EN_cons E_int (EN_nil (ea := eI))))) (E_c1 oLenT (E_var (i := 0) (ea := (eT eI)) (a := a_costs) (by rfl))))) (EE_own (EN_lst (EN_nil (ea := (eT eI))))) (EE_own (EN_lst (EN_nil (ea := eI)))) (EE_own (EN_lst (EN_nil (ea := eI)))) OkS.o0 OkS.o0 OkS.o0 OkS.o0 (by rfl) (by rfl) (by rfl) (by rfl)) fun (v1 : (List Int) × (List (List Int)) × (List Int) × (List Int)) => (DR_seq (DN_for (K := fun (s2 : (List Int) × (List (List Int)) × (List Int) × (List Int)) => [.is (.dat ((eT eI) (a_costs))), .is (.dat ((eT (eT eI)) (a_row))), .is (.own ((eL eI) s2.1)), .is (.own ((eL (eT eI)) s2.2.1)), .is (.own ((eL eI) s2.2.2.1)), .is (.own ((eL eI) s2.2.2.2)), .any, .any, .any, .any]) (as := fun (x3 : (List Int)) => [(6, (eT eI) (x3))]) (EN_itemsT (E_var (i := 1) (ea := (eT (eT eI))) (a := a_row) (by rfl))) (by exact (.eq (.eq (.eq (.eq (.eq (.eq (.an rfl (.an rfl (.an rfl (.an rfl .nil))))))))))) (fun _ => rfl) (fun _ _ => rfl) (fun (x3 : (List Int)) (s2 : (List Int) × (List (List Int)) × (List Int) × (List Int)) => (DN_seq (DN_set0 E_int (by rfl)) fun (v_price4 : Int) => (DN_seq (DN_wl (K := fun (s5 : (List Int) × Int) => [.is (.dat ((eT eI) (a_costs))), .is (.dat ((eT (eT eI)) (a_row))), .is (.own ((eL eI) s5.1)), .is (.own ((eL (eT eI)) (s2.2.1))), .is (.own ((eL eI) (s2.2.2.1))), .is (.own ((eL eI) (s2.2.2.2))), .is (.dat ((eT eI) (x3))), .is (.dat (eI s5.2)), .any, .any]) (by exact (.eq (.eq (.eq (.eq (.eq (.eq (.eq (.eq (.an rfl (.an rfl .nil))))))))))) (fun (s5 : (List Int) × Int) => (ET_bool (E_op2 (oEq (EqT.lst EqT.int)) (E_ofN (EN_comp (as := fun (x7 : Int) => [(8, eI (x7))]) (EN_itemsT (E_var (i := 6) (ea := (eT eI)) (a := x3) (by rfl))) (fun _ => rfl) (fun (x7 : Int) => (ET_bool (E_op2 (oEq EqT.int) (E_op2 oIxL (E_var (i := 2) (ea := (eL eI)) (a := s5.1) (by rfl)) (E_var (i := 8) (ea := eI) (a := x7) (by rfl))) (E_op2 oIxT (E_var (i := 0) (ea := (eT eI)) (a := a_costs) (by rfl)) (E_var (i := 8) (ea := eI) (a := x7) (by rfl)))))) (fun (x7 : Int) => (E_var (i := 8) (ea := eI) (a := x7) (by rfl))))) (E_ofN (EN_lst (EN_nil (ea := eI))))))) (fun (s5 : (List Int) × Int) => (DN_seq (DN_set0 (E_op2 oAdd (E_var (i := 7) (ea := eI) (a := s5.2) (by rfl)) E_int) (by rfl)) fun (v_price8 : Int) => (DN_last (w := fun (v12 : (List Int)) => (v12, v_price8)) (DN_for (K := fun (s9 : (List Int)) => [.is (.dat ((eT eI) (a_costs))), .is (.dat ((eT (eT eI)) (a_row))), .is (.own ((eL eI) s9)), .is (.own ((eL (eT eI)) (s2.2.1))), .is (.own ((eL eI) (s2.2.2.1))), .is (.own ((eL eI) (s2.2.2.2))), .is (.dat ((eT eI) (x3))), .is (.dat (eI (v_price8))), .any, .any]) (as := fun (x10 : Int) => [(8, eI (x10))]) (EN_itemsT (E_var (i := 6) (ea := (eT eI)) (a := x3) (by rfl))) (by exact (.eq (.eq (.eq (.eq (.eq (.eq (.eq (.eq (.an rfl (.an rfl .nil))))))))))) (fun _ => rfl) (fun _ _ => rfl) (fun (x10 : Int) (s9 : (List Int)) => (DN_last (w := fun (v11 : (List Int)) => v11) (DN_put1 (E_op2 oAdd (E_op2 oIxL (E_var (i := 2) (ea := (eL eI)) (a := s9) (by rfl)) (E_var (i := 8) (ea := eI) (a := x10) (by rfl))) E_int) (E_var (i := 8) (ea := eI) (a := x10) (by rfl)) PuE.int (by rfl)) (fun _ => (by exact (.eq (.eq (.eq (.eq (.eq (.eq (.eq (.eq (.an rfl (.an rfl .nil))))))))))))))) (fun _ => (by exact (.eq (.eq (.eq (.eq (.eq (.eq (.eq (.eq (.an rfl (.an rfl .nil)))))))))))))))) fun (v13 : (List Int) × Int) => (DN_seq (DN_setN1 (EN_comp (as := fun (x14 : Int) => [(8, eI (x14))]) (EN_itemsT (E_var (i := 6) (ea := (eT eI)) (a := x3) (by rfl))) (fun _ => rfl) (fun (x14 : Int) => (ET_and (ET_bool (E_op2 (oEq EqT.int) (E_op2 oIxL (E_var (i := 2) (ea := (eL eI)) (a := v13.1) (by rfl)) (E_var (i := 8) (ea := eI) (a := x14) (by rfl))) (E_op2 oIxT (E_var (i := 0) (ea := (eT eI)) (a := a_costs) (by rfl)) (E_var (i := 8) (ea := eI) (a := x14) (by rfl))))) (ET_bool (E_op2 (oNinL EqT.int) (E_var (i := 8) (ea := eI) (a := x14) (by rfl)) (E_var (i := 5) (ea := (eL eI)) (a := s2.2.2.2) (by rfl)))))) (fun (x14 : Int) => (E_var (i := 8) (ea := eI) (a := x14) (by rfl)))) PuE.int (by rfl)) fun (v_new15 : (List Int)) => (DN_seq (DN_setN1 (EN_cat (E_var (i := 5) (ea := (eL eI)) (a := s2.2.2.2) (by rfl)) (E_var (i := 9) (ea := (eL eI)) (a := v_new15) (by rfl))) PuE.int (by rfl)) fun (v_taken16 : (List Int)) => (DN_seq (DN_app1 (E_c1 oTupL (E_var (i := 9) (ea := (eL eI)) (a := v_new15) (by rfl))) (PuE.tup PuE.int) (by rfl)) fun (v17 : (List (List Int))) => (DN_last (w := fun (v18 : (List Int)) => (v13.1, v17, v18, v_taken16)) (DN_app0 (E_var (i := 7) (ea := eI) (a := v13.2) (by rfl)) (by rfl)) (fun _ => (by exact (.eq (.eq (.eq (.eq (.eq (.eq (.an rfl (.an rfl (.an rfl (.an rfl .nil)))))))))))))))))))) fun (v19 : (List Int) × (List (List Int)) × (List Int) × (List Int)) => (DR_ret (E_t2 (E_var (i := 3) (ea := (eL (eT eI))) (a := v19.2.1) (by rfl)) (E_var (i := 4) (ea := (eL eI)) (a := v19.2.2.1) (by rfl))))))
noncomputable def p_law  : SM Bool :=
  (SM.lp (SM.forX (δ := Bool) (SM.lift (Tm.o1 (tRg 0) (Tm.pure (4 : Int)))) () (fun (x2 : Int) (s1 : Unit) => (SM.bind (SM.s2 p__law_lots (SM.lift (Tm.o2 tIx (Tm.lim (Tm.cons (Tm.pure (3 : Int)) (Tm.cons (Tm.pure (5 : Int)) (Tm.cons (Tm.pure (7 : Int)) (Tm.cons (Tm.pure (8 : Int)) (Tm.nil (α := Int))))))) (Tm.pure x2))) (SM.o1 cI (SM.s1 p__law_of (SM.lift (Tm.lim (Tm.cons (Tm.mp eI (Tm.pure (1 : Int))) (Tm.cons (Tm.mp eI (Tm.pure (4 : Int))) (Tm.cons (Tm.mp eI (Tm.pure (30 : Int))) (Tm.nil (α := D)))))))))) fun (v4 : ((List Int) × Int × (List (List Int)))) => (SM.bind (SM.lift (Tm.o2 tPair (Tm.o1 (tRepr (eL eD)) (Tm.lim (Tm.cons (Tm.mp (eT eI) (Tm.pure v4.1)) (Tm.cons (Tm.mp (eT (eT eI)) (Tm.pure v4.2.2)) (Tm.nil (α := D)))))) (Tm.o2 p__law_tight (Tm.pure v4.1) (Tm.pure v4.2.2)))) fun (v6 : (Str × ((List (List Int)) × (List Int)))) => (SM.bind (SM.lift (Tm.lim (Tm.nil (α := Int)))) fun (v_lots7 : (List Int)) => (SM.bind (SM.fold (SM.lift (Tm.pure v6.2.1)) v_lots7 (fun (x9 : (List Int)) (s8 : (List Int)) => (SM.bind (SM.lift (Tm.o2 tCat (Tm.pure s8) (Tm.pure x9))) fun (v_lots10 : (List Int)) => SM.pure v_lots10))) fun (v11 : (List Int)) => (SM.bind (SM.o2 tPair (SM.lift (Tm.o1 tTup (Tm.o1 tSort (Tm.pure v11)))) (SM.lift (Tm.o1 tSum (Tm.pure v6.2.2)))) fun (v12 : (List Int) × Int) => (SM.ite (SM.lift (Tm.o2 tNe (Tm.o1 (tRepr (eL eD)) (Tm.lim (Tm.cons (Tm.mp (e2 (eT eI) (eT eI)) (Tm.o2 p_tight_way (Tm.pure v4.1) (Tm.pure v4.2.2))) (Tm.cons (Tm.mp (eT (eT eI)) (Tm.o2 p_tight_steps (Tm.pure v4.1) (Tm.pure v4.2.2))) (Tm.nil (α := D)))))) (Tm.o1 (tRepr (eL eD)) (Tm.lim (Tm.cons (Tm.mp (e2 (eT eI) (eT eI)) (Tm.o2 tPair (Tm.pure v12.1) (Tm.o1 tTup (Tm.pure v6.2.2)))) (Tm.cons (Tm.mp (eT (eT eI)) (Tm.o1 tTup (Tm.pure v6.2.1))) (Tm.nil (α := D)))))))) (SM.mp .rt (SM.lift (Tm.pure false))) (SM.bind (SM.lift (Tm.o2 p__law_cost (Tm.pure v4.1) (Tm.pure v12.1))) fun (v_cost13 : Int) => (SM.bind (SM.lift (Tm.ite (Tm.o2 tEq (Tm.pure v12.2) (Tm.pure (0 : Int))) (Tm.pure none) (Tm.mp some (Tm.o2 p__law_low (Tm.pure v_cost13) (Tm.pure v12.2))))) fun (v_due14 : (Option (Int × Int))) => (SM.ite (SM.lift (Tm.o2 tNe (Tm.o1 (tRepr (eL eD)) (Tm.lim (Tm.cons (Tm.mp eI (Tm.o2 p_tight_cost (Tm.pure v4.1) (Tm.pure v4.2.2))) (Tm.cons (Tm.mp (eO (e2 eI eI)) (Tm.o2 p_tight_share (Tm.pure v4.1) (Tm.pure v4.2.2))) (Tm.nil (α := D)))))) (Tm.o1 (tRepr (eL eD)) (Tm.lim (Tm.cons (Tm.mp eI (Tm.pure v_cost13)) (Tm.cons (Tm.mp (eO (e2 eI eI)) (Tm.pure v_due14)) (Tm.nil (α := D)))))))) (SM.mp .rt (SM.lift (Tm.pure false))) (SM.ite (SM.lift (Tm.or (Tm.o2 (fun a b => Tm.pure (!(a == b))) (Tm.o2 p_do_answer (Tm.pure v4.2.2) (Tm.pure v12.1)) (Tm.pure true)) (Tm.or (Tm.o2 tNe (Tm.o2 p_lots_cost (Tm.pure v4.1) (Tm.pure v12.1)) (Tm.pure v_cost13)) (Tm.o2 tGt (Tm.pure v_cost13) (Tm.o2 tMul (Tm.pure v4.2.1) (Tm.pure v12.2)))))) (SM.mp .rt (SM.lift (Tm.pure false))) (SM.bind (SM.lift (Tm.o1 tTup (Tm.amap (Tm.pure v6.2.2) (fun (x15 : Int) => (Tm.o2 tPair (Tm.pure x15) (Tm.pure (1 : Int))))))) fun (v_told16 : (List (Int × Int))) => (SM.ite (SM.lift (Tm.or (Tm.o2 (fun a b => Tm.pure (!(a == b))) (Tm.o3 p_are_prices (Tm.pure v4.1) (Tm.pure v4.2.2) (Tm.pure v_told16)) (Tm.pure true)) (Tm.o2 tNe (Tm.o1 p_prices_sum (Tm.pure v_told16)) (Tm.o2 tPair (Tm.pure v12.2) (Tm.pure (1 : Int)))))) (SM.mp .rt (SM.lift (Tm.pure false))) (SM.bind (SM.lift (Tm.mp (fun p => p.1) ⟨((Tm.o2 p__law_least (Tm.pure v4.1) (Tm.pure v4.2.2))).ok ∧ ((Tm.o2 p__law_least (Tm.pure v4.1) (Tm.pure v4.2.2))).val.isSome = true, ((Tm.o2 p__law_least (Tm.pure v4.1) (Tm.pure v4.2.2))).val.getD default⟩)) fun (v_least17 : Int) => (SM.ite (SM.lift (Tm.or (Tm.o2 tGt (Tm.pure v12.2) (Tm.pure v_least17)) (Tm.or (Tm.o2 tGt (Tm.pure v_cost13) (Tm.o2 tMul (Tm.pure v4.2.1) (Tm.pure v_least17))) (Tm.o2 tNe (Tm.o2 p_least_answer (Tm.pure v4.1) (Tm.pure v4.2.2)) (Tm.pure v_least17))))) (SM.mp .rt (SM.lift (Tm.pure false))) (SM.bind (SM.lift (Tm.o1 tTup (Tm.fmap (Tm.mp (enuI 0) (Tm.pure v6.2.2)) (fun (x18 : (Int × Int)) => (Tm.o2 tGt (Tm.pure x18.2) (Tm.pure (0 : Int)))) (fun (x18 : (Int × Int)) => (Tm.pure x18.1))))) fun (v_numbers19 : (List Int)) => (SM.ite (SM.lift (Tm.o2 tNe (Tm.o1 (tRepr (eT eI)) (Tm.o2 p_priced_calls (Tm.pure v4.1) (Tm.pure v4.2.2))) (Tm.o1 (tRepr (eT eI)) (Tm.pure v_numbers19)))) (SM.mp .rt (SM.lift (Tm.pure false))) (SM.bind (SM.o1 tTup (SM.fmap (SM.lift (Tm.o1 (tRg 0) (Tm.o1 tLen (Tm.pure v4.2.2)))) (fun (x20 : Int) => (SM.o2 tEq (SM.s1 pick (SM.lift (Tm.pure (3 : Int)))) (SM.lift (Tm.pure (0 : Int))))) (fun (x20 : Int) => (SM.lift (Tm.pure x20))))) fun (v_some21 : (List Int)) => (SM.bind (SM.lift (Tm.lim (Tm.nil (α := Int)))) fun (v_both22 : (List Int)) => (SM.bind (SM.fold (SM.lift (Tm.pure v_some21)) v_both22 (fun (x24 : Int) (s23 : (List Int)) => (SM.bind (SM.lift (Tm.o2 tCat (Tm.pure s23) (Tm.o2 tIx (Tm.pure v4.2.2) (Tm.pure x24)))) fun (v_both25 : (List Int)) => SM.pure v_both25))) fun (v26 : (List Int)) => (SM.ite (SM.lift (Tm.o2 tNe (Tm.o1 (tRepr eB) (Tm.o2 p_are_apart_calls (Tm.pure v4.2.2) (Tm.pure v_some21))) (Tm.o1 (tRepr eB) (Tm.o2 tEq (Tm.o1 tLen (Tm.o1 tDict (Tm.amap (Tm.pure v26) (fun (x30 : Int) => (Tm.o2 tPair (Tm.pure x30) (Tm.pure (0 : Int))))))) (Tm.o1 tLen (Tm.pure v26)))))) (SM.mp .rt (SM.lift (Tm.pure false))) (SM.ite (SM.lift (Tm.o2 tEq (Tm.o1 tMaxL (Tm.pure v4.1)) (Tm.pure (1 : Int)))) (SM.bind (SM.lift (Tm.lim (Tm.nil (α := Int)))) fun (v_called31 : (List Int)) => (SM.bind (SM.fold (SM.lift (Tm.pure v_numbers19)) v_called31 (fun (x33 : Int) (s32 : (List Int)) => (SM.bind (SM.lift (Tm.o2 tCat (Tm.pure s32) (Tm.o2 tIx (Tm.pure v4.2.2) (Tm.pure x33)))) fun (v_called34 : (List Int)) => SM.pure v_called34))) fun (v35 : (List Int)) => (SM.ite (SM.lift (Tm.or (Tm.o2 (fun a b => Tm.pure (!(a == b))) (Tm.o2 p_are_apart_calls (Tm.pure v4.2.2) (Tm.pure v_numbers19)) (Tm.pure true)) (Tm.o2 tNe (Tm.o1 tSort (Tm.pure v35)) (Tm.pure v12.1)))) (SM.mp .rt (SM.lift (Tm.pure false))) (SM.ite (SM.lift (Tm.o2 tNe (Tm.fmap (Tm.o2 tZip (Tm.pure v6.2.1) (Tm.pure v6.2.2)) (fun (x37 : ((List Int) × Int)) => (Tm.o2 tNe (Tm.o2 tEq (Tm.pure x37.1) (Tm.pure [])) (Tm.o2 tEq (Tm.pure x37.2) (Tm.pure (0 : Int))))) (fun (x37 : ((List Int) × Int)) => (Tm.pure x37.1))) (Tm.lim (Tm.nil (α := (List Int)))))) (SM.mp .rt (SM.lift (Tm.pure false))) (SM.ite (SM.lift (Tm.o2 tNe (Tm.o1 (tRepr (eL eD)) (Tm.lim (Tm.cons (Tm.mp (eT eI) (Tm.pure v4.1)) (Tm.cons (Tm.mp (eT (eT eI)) (Tm.pure v4.2.2)) (Tm.nil (α := D)))))) (Tm.pure v6.1))) (SM.mp .rt (SM.lift (Tm.pure false))) (SM.pure (.nx ()))))))) (SM.ite (SM.lift (Tm.o2 tNe (Tm.fmap (Tm.o2 tZip (Tm.pure v6.2.1) (Tm.pure v6.2.2)) (fun (x39 : ((List Int) × Int)) => (Tm.o2 tNe (Tm.o2 tEq (Tm.pure x39.1) (Tm.pure [])) (Tm.o2 tEq (Tm.pure x39.2) (Tm.pure (0 : Int))))) (fun (x39 : ((List Int) × Int)) => (Tm.pure x39.1))) (Tm.lim (Tm.nil (α := (List Int)))))) (SM.mp .rt (SM.lift (Tm.pure false))) (SM.ite (SM.lift (Tm.o2 tNe (Tm.o1 (tRepr (eL eD)) (Tm.lim (Tm.cons (Tm.mp (eT eI) (Tm.pure v4.1)) (Tm.cons (Tm.mp (eT (eT eI)) (Tm.pure v4.2.2)) (Tm.nil (α := D)))))) (Tm.pure v6.1))) (SM.mp .rt (SM.lift (Tm.pure false))) (SM.pure (.nx ()))))))))))))))))))))))))))) (fun (r40 : Unit) => (SM.lift (Tm.o2 tEq (Tm.o2 p_tight_way (Tm.lim (Tm.cons (Tm.pure (2 : Int)) (Tm.cons (Tm.pure (3 : Int)) (Tm.nil (α := Int))))) (Tm.lim (Tm.cons (Tm.lim (Tm.cons (Tm.pure (0 : Int)) (Tm.cons (Tm.pure (1 : Int)) (Tm.nil (α := Int))))) (Tm.cons (Tm.lim (Tm.cons (Tm.pure (1 : Int)) (Tm.nil (α := Int)))) (Tm.nil (α := (List Int))))))) (Tm.o2 tPair (Tm.lim (Tm.cons (Tm.pure (0 : Int)) (Tm.cons (Tm.pure (1 : Int)) (Tm.nil (α := Int))))) (Tm.lim (Tm.cons (Tm.pure (2 : Int)) (Tm.cons (Tm.pure (1 : Int)) (Tm.nil (α := Int))))))))) SM.pure)
theorem c_law : DRS 1 g_law [.any, .is .src, .any, .any, .any, .any, .any, .any, .any, .any, .any, .any, .any, .any, .any, .any, .any, .any, .any, .any, .any, .any, .any] eB p_law := by
  unfold g_law p_law
  exact (DRS_loop (DLS_for (K := fun (s1 : Unit) => [.any, .is .src, .any, .any, .any, .any, .any, .any, .any, .any, .any, .any, .any, .any, .any, .any, .any, .any, .any, .any, .any, .any, .any]) (e := eB) (as := fun (x2 : Int) => [(2, eI (x2))]) (ENS_l (EN_rg1 E_int)) (by exact (.an rfl (.eq (.an rfl (.an rfl (.an rfl (.an rfl (.an rfl (.an rfl (.an rfl (.an rfl (.an rfl (.an rfl (.an rfl (.an rfl (.an rfl (.an rfl (.an rfl (.an rfl (.an rfl (.an rfl (.an rfl (.an rfl (.an rfl .nil)))))))))))))))))))))))) (fun _ => rfl) (fun _ _ => rfl) (fun (x2 : Int) (s1 : Unit) => (DBS_seq (DNS_asg0 (as := fun (x3 : ((List Int) × Int × (List (List Int)))) => [(3, (eT eI) (x3.1)), (4, eI (x3.2.1)), (5, (eT (eT eI)) (x3.2.2))]) (ES_s2 c__law_lots (ES_l (E_op2 oIxL (E_ofN (EN_lst (EN_cons E_int (EN_cons E_int (EN_cons E_int (EN_cons E_int (EN_nil (ea := eI)))))))) (E_var (i := 2) (ea := eI) (a := x2) (by rfl)))) (ES_ofI (ES_s1 c__law_of (ES_l (E_ofN (EN_lst (EN_cons (E_toD E_int) (EN_cons (E_toD E_int) (EN_cons (E_toD E_int) (EN_nil (ea := eD))))))))))) (fun _ => rfl) (fun _ => rfl)) fun (v4 : ((List Int) × Int × (List (List Int)))) => (DBS_seq (DNS_asg0 (as := fun (x5 : (Str × ((List (List Int)) × (List Int)))) => [(6, eS (x5.1)), (7, (eL (eT eI)) (x5.2.1)), (8, (eL eI) (x5.2.2))]) (ES_l (E_t2 (E_c1 oRepr (E_ofN (EN_lst (EN_cons (E_toD (E_var (i := 3) (ea := (eT eI)) (a := v4.1) (by rfl))) (EN_cons (E_toD (E_var (i := 5) (ea := (eT (eT eI))) (a := v4.2.2) (by rfl))) (EN_nil (ea := eD))))))) (E_c2 c__law_tight (E_var (i := 3) (ea := (eT eI)) (a := v4.1) (by rfl)) (E_var (i := 5) (ea := (eT (eT eI))) (a := v4.2.2) (by rfl))))) (fun _ => rfl) (fun _ => rfl)) fun (v6 : (Str × ((List (List Int)) × (List Int)))) => (DBS_seq (DNS_set0 (ES_l (E_ofN (EN_lst (EN_nil (ea := eI))))) (by rfl)) fun (v_lots7 : (List Int)) => (DBS_seq (DNS_for (K := fun (s8 : (List Int)) => [.any, .is .src, .is (.dat (eI (x2))), .is (.dat ((eT eI) (v4.1))), .is (.dat (eI (v4.2.1))), .is (.dat ((eT (eT eI)) (v4.2.2))), .is (.dat (eS (v6.1))), .is (.dat ((eL (eT eI)) (v6.2.1))), .is (.dat ((eL eI) (v6.2.2))), .is (.dat ((eL eI) s8)), .any, .any, .any, .any, .any, .any, .any, .any, .any, .any, .any, .any, .any]) (as := fun (x9 : (List Int)) => [(10, (eT eI) (x9))]) (ENS_l (EN_itemsL (E_var (i := 7) (ea := (eL (eT eI))) (a := v6.2.1) (by rfl)))) (by exact (.an rfl (.eq (.eq (.eq (.eq (.eq (.eq (.eq (.eq (.eq (.an rfl (.an rfl (.an rfl (.an rfl (.an rfl (.an rfl (.an rfl (.an rfl (.an rfl (.an rfl (.an rfl (.an rfl (.an rfl .nil)))))))))))))))))))))))) (fun _ => rfl) (fun _ _ => rfl) (fun (x9 : (List Int)) (s8 : (List Int)) => (DNS_last (w := fun (v_lots10 : (List Int)) => v_lots10) (DNS_set0 (ES_l (E_ofN (EN_cat (E_var (i := 9) (ea := (eL eI)) (a := s8) (by rfl)) (E_ofN (EN_listT (E_var (i := 10) (ea := (eT eI)) (a := x9) (by rfl))))))) (by rfl)) (fun _ => (by exact (.an rfl (.eq (.eq (.eq (.eq (.eq (.eq (.eq (.eq (.eq (.an rfl (.an rfl (.an rfl (.an rfl (.an rfl (.an rfl (.an rfl (.an rfl (.an rfl (.an rfl (.an rfl (.an rfl (.an rfl .nil)))))))))))))))))))))))))))) fun (v11 : (List Int)) => (DBS_seq (DNS_par2 (EES_dat (ES_l (E_c1 oTupL (E_ofN (EN_sort (E_var (i := 9) (ea := (eL eI)) (a := v11) (by rfl))))))) (EES_dat (ES_l (E_c1 oSumA (E_var (i := 8) (ea := (eL eI)) (a := v6.2.2) (by rfl))))) OkS.d0 OkS.d0 (by rfl) (by rfl)) fun (v12 : (List Int) × Int) => (DBS_sif (ETS_l (ET_bool (E_op2 oNeS (E_c1 oRepr (E_ofN (EN_lst (EN_cons (E_toD (E_c2 c_tight_way (E_var (i := 3) (ea := (eT eI)) (a := v4.1) (by rfl)) (E_var (i := 5) (ea := (eT (eT eI))) (a := v4.2.2) (by rfl)))) (EN_cons (E_toD (E_c2 c_tight_steps (E_var (i := 3) (ea := (eT eI)) (a := v4.1) (by rfl)) (E_var (i := 5) (ea := (eT (eT eI))) (a := v4.2.2) (by rfl)))) (EN_nil (ea := eD))))))) (E_c1 oRepr (E_ofN (EN_lst (EN_cons (E_toD (E_t2 (E_var (i := 9) (ea := (eT eI)) (a := v12.1) (by rfl)) (E_c1 oTupL (E_var (i := 8) (ea := (eL eI)) (a := v6.2.2) (by rfl))))) (EN_cons (E_toD (E_c1 oTupL (E_var (i := 7) (ea := (eL (eT eI))) (a := v6.2.1) (by rfl)))) (EN_nil (ea := eD)))))))))) (DBS_retS (ES_l E_bool)) (DBS_skp (DBS_seq (DNS_set0 (ES_l (E_c2 c__law_cost (E_var (i := 3) (ea := (eT eI)) (a := v4.1) (by rfl)) (E_var (i := 9) (ea := (eT eI)) (a := v12.1) (by rfl)))) (by rfl)) fun (v_cost13 : Int) => (DBS_seq (DNS_set0 (ES_l (E_if (ET_bool (E_op2 (oEq EqT.int) (E_var (i := 11) (ea := eI) (a := v12.2) (by rfl)) E_int)) (E_none (ea := (e2 eI eI))) (E_some (E_c2 c__law_low (E_var (i := 12) (ea := eI) (a := v_cost13) (by rfl)) (E_var (i := 11) (ea := eI) (a := v12.2) (by rfl)))))) (by rfl)) fun (v_due14 : (Option (Int × Int))) => (DBS_sif (ETS_l (ET_bool (E_op2 oNeS (E_c1 oRepr (E_ofN (EN_lst (EN_cons (E_toD (E_c2 c_tight_cost (E_var (i := 3) (ea := (eT eI)) (a := v4.1) (by rfl)) (E_var (i := 5) (ea := (eT (eT eI))) (a := v4.2.2) (by rfl)))) (EN_cons (E_toD (E_c2 c_tight_share (E_var (i := 3) (ea := (eT eI)) (a := v4.1) (by rfl)) (E_var (i := 5) (ea := (eT (eT eI))) (a := v4.2.2) (by rfl)))) (EN_nil (ea := eD))))))) (E_c1 oRepr (E_ofN (EN_lst (EN_cons (E_toD (E_var (i := 12) (ea := eI) (a := v_cost13) (by rfl))) (EN_cons (E_toD (E_var (i := 13) (ea := (eO (e2 eI eI))) (a := v_due14) (by rfl))) (EN_nil (ea := eD)))))))))) (DBS_retS (ES_l E_bool)) (DBS_skp (DBS_sif (ETS_l (ET_or (ET_bool (E_op2 oNotB (E_c2 c_do_answer (E_var (i := 5) (ea := (eT (eT eI))) (a := v4.2.2) (by rfl)) (E_var (i := 9) (ea := (eT eI)) (a := v12.1) (by rfl))) E_bool)) (ET_or (ET_bool (E_op2 (oNe EqT.int) (E_c2 c_lots_cost (E_var (i := 3) (ea := (eT eI)) (a := v4.1) (by rfl)) (E_var (i := 9) (ea := (eT eI)) (a := v12.1) (by rfl))) (E_var (i := 12) (ea := eI) (a := v_cost13) (by rfl)))) (ET_bool (E_op2 oGt (E_var (i := 12) (ea := eI) (a := v_cost13) (by rfl)) (E_op2 oMul (E_var (i := 4) (ea := eI) (a := v4.2.1) (by rfl)) (E_var (i := 11) (ea := eI) (a := v12.2) (by rfl)))))))) (DBS_retS (ES_l E_bool)) (DBS_skp (DBS_seq (DNS_set0 (ES_l (E_c1 oTupL (E_ofN (EN_compA (as := fun (x15 : Int) => [(21, eI (x15))]) (EN_itemsL (E_var (i := 8) (ea := (eL eI)) (a := v6.2.2) (by rfl))) (fun _ => rfl) (fun (x15 : Int) => (E_t2 (E_var (i := 21) (ea := eI) (a := x15) (by rfl)) E_int)))))) (by rfl)) fun (v_told16 : (List (Int × Int))) => (DBS_sif (ETS_l (ET_or (ET_bool (E_op2 oNotB (E_c3 c_are_prices (E_var (i := 3) (ea := (eT eI)) (a := v4.1) (by rfl)) (E_var (i := 5) (ea := (eT (eT eI))) (a := v4.2.2) (by rfl)) (E_var (i := 14) (ea := (eT (e2 eI eI))) (a := v_told16) (by rfl))) E_bool)) (ET_bool (E_op2 (oNe (EqT.two (EqT.mono (k := 0) EqT.int (by decide)) (EqT.mono (k := 0) EqT.int (by decide)))) (E_c1 c_prices_sum (E_var (i := 14) (ea := (eT (e2 eI eI))) (a := v_told16) (by rfl))) (E_t2 (E_var (i := 11) (ea := eI) (a := v12.2) (by rfl)) E_int))))) (DBS_retS (ES_l E_bool)) (DBS_skp (DBS_seq (DNS_set0 (ES_l (E_21 (E_get (E_c2 c__law_least (E_var (i := 3) (ea := (eT eI)) (a := v4.1) (by rfl)) (E_var (i := 5) (ea := (eT (eT eI))) (a := v4.2.2) (by rfl)))))) (by rfl)) fun (v_least17 : Int) => (DBS_sif (ETS_l (ET_or (ET_bool (E_op2 oGt (E_var (i := 11) (ea := eI) (a := v12.2) (by rfl)) (E_var (i := 15) (ea := eI) (a := v_least17) (by rfl)))) (ET_or (ET_bool (E_op2 oGt (E_var (i := 12) (ea := eI) (a := v_cost13) (by rfl)) (E_op2 oMul (E_var (i := 4) (ea := eI) (a := v4.2.1) (by rfl)) (E_var (i := 15) (ea := eI) (a := v_least17) (by rfl))))) (ET_bool (E_op2 (oNe EqT.int) (E_c2 c_least_answer (E_var (i := 3) (ea := (eT eI)) (a := v4.1) (by rfl)) (E_var (i := 5) (ea := (eT (eT eI))) (a := v4.2.2) (by rfl))) (E_var (i := 15) (ea := eI) (a := v_least17) (by rfl))))))) (DBS_retS (ES_l E_bool)) (DBS_skp (DBS_seq (DNS_set0 (ES_l (E_c1 oTupL (E_ofN (EN_comp (as := fun (x18 : (Int × Int)) => [(19, eI (x18.1)), (21, eI (x18.2))]) (EN_enumL (E_var (i := 8) (ea := (eL eI)) (a := v6.2.2) (by rfl))) (fun _ => rfl) (fun (x18 : (Int × Int)) => (ET_bool (E_op2 oGt (E_var (i := 21) (ea := eI) (a := x18.2) (by rfl)) E_int))) (fun (x18 : (Int × Int)) => (E_var (i := 19) (ea := eI) (a := x18.1) (by rfl))))))) (by rfl)) fun (v_numbers19 : (List Int)) => (DBS_sif (ETS_l (ET_bool (E_op2 oNeS (E_c1 oRepr (E_c2 c_priced_calls (E_var (i := 3) (ea := (eT eI)) (a := v4.1) (by rfl)) (E_var (i := 5) (ea := (eT (eT eI))) (a := v4.2.2) (by rfl)))) (E_c1 oRepr (E_var (i := 16) (ea := (eT eI)) (a := v_numbers19) (by rfl)))))) (DBS_retS (ES_l E_bool)) (DBS_skp (DBS_seq (DNS_set0 (ES_c1 oTupL (ES_ofN (ENS_comp (as := fun (x20 : Int) => [(19, eI (x20))]) (ENS_l (EN_rg1 (E_c1 oLenT (E_var (i := 5) (ea := (eT (eT eI))) (a := v4.2.2) (by rfl))))) (fun _ => rfl) (fun (x20 : Int) => (ETS_bool (ES_op2 (oEq EqT.int) (ES_s1 cs_pick (ES_l E_int)) (ES_l E_int)))) (fun (x20 : Int) => (ES_l (E_var (i := 19) (ea := eI) (a := x20) (by rfl))))))) (by rfl)) fun (v_some21 : (List Int)) => (DBS_seq (DNS_set0 (ES_l (E_ofN (EN_lst (EN_nil (ea := eI))))) (by rfl)) fun (v_both22 : (List Int)) => (DBS_seq (DNS_for (K := fun (s23 : (List Int)) => [.any, .is .src, .is (.dat (eI (x2))), .is (.dat ((eT eI) (v4.1))), .is (.dat (eI (v4.2.1))), .is (.dat ((eT (eT eI)) (v4.2.2))), .is (.dat (eS (v6.1))), .is (.dat ((eL (eT eI)) (v6.2.1))), .is (.dat ((eL eI) (v6.2.2))), .is (.dat ((eT eI) (v12.1))), .any, .is (.dat (eI (v12.2))), .is (.dat (eI (v_cost13))), .is (.dat ((eO (e2 eI eI)) (v_due14))), .is (.dat ((eT (e2 eI eI)) (v_told16))), .is (.dat (eI (v_least17))), .is (.dat ((eT eI) (v_numbers19))), .is (.dat ((eT eI) (v_some21))), .is (.dat ((eL eI) s23)), .any, .any, .any, .any]) (as := fun (x24 : Int) => [(19, eI (x24))]) (ENS_l (EN_itemsT (E_var (i := 17) (ea := (eT eI)) (a := v_some21) (by rfl)))) (by exact (.an rfl (.eq (.eq (.eq (.eq (.eq (.eq (.eq (.eq (.eq (.an rfl (.eq (.eq (.eq (.eq (.eq (.eq (.eq (.eq (.an rfl (.an rfl (.an rfl (.an rfl .nil)))))))))))))))))))))))) (fun _ => rfl) (fun _ _ => rfl) (fun (x24 : Int) (s23 : (List Int)) => (DNS_last (w := fun (v_both25 : (List Int)) => v_both25) (DNS_set0 (ES_l (E_ofN (EN_cat (E_var (i := 18) (ea := (eL eI)) (a := s23) (by rfl)) (E_ofN (EN_listT (E_op2 oIxT (E_var (i := 5) (ea := (eT (eT eI))) (a := v4.2.2) (by rfl)) (E_var (i := 19) (ea := eI) (a := x24) (by rfl)))))))) (by rfl)) (fun _ => (by exact (.an rfl (.eq (.eq (.eq (.eq (.eq (.eq (.eq (.eq (.eq (.an rfl (.eq (.eq (.eq (.eq (.eq (.eq (.eq (.eq (.an rfl (.an rfl (.an rfl (.an rfl .nil)))))))))))))))))))))))))))) fun (v26 : (List Int)) => (DBS_sif (ETS_l (ET_bool (E_op2 oNeS (E_c1 oRepr (E_c2 c_are_apart_calls (E_var (i := 5) (ea := (eT (eT eI))) (a := v4.2.2) (by rfl)) (E_var (i := 17) (ea := (eT eI)) (a := v_some21) (by rfl)))) (E_c1 oRepr (E_op2 (oEq EqT.int) (E_c1 oLenM (E_c1 oDict1 (E_ofN (EN_compA (as := fun (x30 : Int) => [(22, eI (x30))]) (EN_itemsL (E_var (i := 18) (ea := (eL eI)) (a := v26) (by rfl))) (fun _ => rfl) (fun (x30 : Int) => (E_t2 (E_var (i := 22) (ea := eI) (a := x30) (by rfl)) E_int)))))) (E_c1 oLenL (E_var (i := 18) (ea := (eL eI)) (a := v26) (by rfl)))))))) (DBS_retS (ES_l E_bool)) (DBS_skp (DBS_sif (ETS_l (ET_bool (E_op2 (oEq EqT.int) (E_c1 oMaxT (E_var (i := 3) (ea := (eT eI)) (a := v4.1) (by rfl))) E_int))) (DBS_ass (DBS_seq (DNS_set0 (ES_l (E_ofN (EN_lst (EN_nil (ea := eI))))) (by rfl)) fun (v_called31 : (List Int)) => (DBS_ass (DBS_seq (DNS_for (K := fun (s32 : (List Int)) => [.any, .is .src, .is (.dat (eI (x2))), .is (.dat ((eT eI) (v4.1))), .is (.dat (eI (v4.2.1))), .is (.dat ((eT (eT eI)) (v4.2.2))), .is (.dat (eS (v6.1))), .is (.dat ((eL (eT eI)) (v6.2.1))), .is (.dat ((eL eI) (v6.2.2))), .is (.dat ((eT eI) (v12.1))), .any, .is (.dat (eI (v12.2))), .is (.dat (eI (v_cost13))), .is (.dat ((eO (e2 eI eI)) (v_due14))), .is (.dat ((eT (e2 eI eI)) (v_told16))), .is (.dat (eI (v_least17))), .is (.dat ((eT eI) (v_numbers19))), .is (.dat ((eT eI) (v_some21))), .is (.dat ((eL eI) (v26))), .any, .is (.dat ((eL eI) s32)), .any, .any]) (as := fun (x33 : Int) => [(19, eI (x33))]) (ENS_l (EN_itemsT (E_var (i := 16) (ea := (eT eI)) (a := v_numbers19) (by rfl)))) (by exact (.an rfl (.eq (.eq (.eq (.eq (.eq (.eq (.eq (.eq (.eq (.an rfl (.eq (.eq (.eq (.eq (.eq (.eq (.eq (.eq (.an rfl (.eq (.an rfl (.an rfl .nil)))))))))))))))))))))))) (fun _ => rfl) (fun _ _ => rfl) (fun (x33 : Int) (s32 : (List Int)) => (DNS_last (w := fun (v_called34 : (List Int)) => v_called34) (DNS_set0 (ES_l (E_ofN (EN_cat (E_var (i := 20) (ea := (eL eI)) (a := s32) (by rfl)) (E_ofN (EN_listT (E_op2 oIxT (E_var (i := 5) (ea := (eT (eT eI))) (a := v4.2.2) (by rfl)) (E_var (i := 19) (ea := eI) (a := x33) (by rfl)))))))) (by rfl)) (fun _ => (by exact (.an rfl (.eq (.eq (.eq (.eq (.eq (.eq (.eq (.eq (.eq (.an rfl (.eq (.eq (.eq (.eq (.eq (.eq (.eq (.eq (.an rfl (.eq (.an rfl (.an rfl .nil)))))))))))))))))))))))))))) fun (v35 : (List Int)) => (DBS_sif (ETS_l (ET_or (ET_bool (E_op2 oNotB (E_c2 c_are_apart_calls (E_var (i := 5) (ea := (eT (eT eI))) (a := v4.2.2) (by rfl)) (E_var (i := 16) (ea := (eT eI)) (a := v_numbers19) (by rfl))) E_bool)) (ET_bool (E_op2 (oNe (EqT.lst EqT.int)) (E_ofN (EN_sort (E_var (i := 20) (ea := (eL eI)) (a := v35) (by rfl)))) (E_ofN (EN_listT (E_var (i := 9) (ea := (eT eI)) (a := v12.1) (by rfl)))))))) (DBS_retS (ES_l E_bool)) (DBS_skp (DBS_sif (ETS_l (ET_bool (E_op2 (oNe (EqT.lst (EqT.tup EqT.int))) (E_ofN (EN_comp (as := fun (x37 : ((List Int) × Int)) => [(10, (eT eI) (x37.1)), (21, eI (x37.2))]) (EN_zip sqL sqL (E_var (i := 7) (ea := (eL (eT eI))) (a := v6.2.1) (by rfl)) (E_var (i := 8) (ea := (eL eI)) (a := v6.2.2) (by rfl))) (fun _ => rfl) (fun (x37 : ((List Int) × Int)) => (ET_bool (E_op2 (oNe EqT.bool) (E_op2 (oEq (EqT.tup EqT.int)) (E_var (i := 10) (ea := (eT eI)) (a := x37.1) (by rfl)) (E_t0 (ea := eI))) (E_op2 (oEq EqT.int) (E_var (i := 21) (ea := eI) (a := x37.2) (by rfl)) E_int)))) (fun (x37 : ((List Int) × Int)) => (E_var (i := 10) (ea := (eT eI)) (a := x37.1) (by rfl))))) (E_ofN (EN_lst (EN_nil (ea := (eT eI)))))))) (DBS_retS (ES_l E_bool)) (DBS_skp (DBS_if (ETS_l (ET_bool (E_op2 oNeS (E_c1 oRepr (E_ofN (EN_lst (EN_cons (E_toD (E_var (i := 3) (ea := (eT eI)) (a := v4.1) (by rfl))) (EN_cons (E_toD (E_var (i := 5) (ea := (eT (eT eI))) (a := v4.2.2) (by rfl))) (EN_nil (ea := eD))))))) (E_var (i := 6) (ea := eS) (a := v6.1) (by rfl))))) (DBS_ret (ES_l E_bool)) (DBS_skip (by exact (.an rfl (.eq (.an rfl (.an rfl (.an rfl (.an rfl (.an rfl (.an rfl (.an rfl (.an rfl (.an rfl (.an rfl (.an rfl (.an rfl (.an rfl (.an rfl (.an rfl (.an rfl (.an rfl (.an rfl (.an rfl (.an rfl (.an rfl .nil)))))))))))))))))))))))))))))))))) (DBS_skp (DBS_sif (ETS_l (ET_bool (E_op2 (oNe (EqT.lst (EqT.tup EqT.int))) (E_ofN (EN_comp (as := fun (x39 : ((List Int) × Int)) => [(10, (eT eI) (x39.1)), (21, eI (x39.2))]) (EN_zip sqL sqL (E_var (i := 7) (ea := (eL (eT eI))) (a := v6.2.1) (by rfl)) (E_var (i := 8) (ea := (eL eI)) (a := v6.2.2) (by rfl))) (fun _ => rfl) (fun (x39 : ((List Int) × Int)) => (ET_bool (E_op2 (oNe EqT.bool) (E_op2 (oEq (EqT.tup EqT.int)) (E_var (i := 10) (ea := (eT eI)) (a := x39.1) (by rfl)) (E_t0 (ea := eI))) (E_op2 (oEq EqT.int) (E_var (i := 21) (ea := eI) (a := x39.2) (by rfl)) E_int)))) (fun (x39 : ((List Int) × Int)) => (E_var (i := 10) (ea := (eT eI)) (a := x39.1) (by rfl))))) (E_ofN (EN_lst (EN_nil (ea := (eT eI)))))))) (DBS_retS (ES_l E_bool)) (DBS_skp (DBS_if (ETS_l (ET_bool (E_op2 oNeS (E_c1 oRepr (E_ofN (EN_lst (EN_cons (E_toD (E_var (i := 3) (ea := (eT eI)) (a := v4.1) (by rfl))) (EN_cons (E_toD (E_var (i := 5) (ea := (eT (eT eI))) (a := v4.2.2) (by rfl))) (EN_nil (ea := eD))))))) (E_var (i := 6) (ea := eS) (a := v6.1) (by rfl))))) (DBS_ret (ES_l E_bool)) (DBS_skip (by exact (.an rfl (.eq (.an rfl (.an rfl (.an rfl (.an rfl (.an rfl (.an rfl (.an rfl (.an rfl (.an rfl (.an rfl (.an rfl (.an rfl (.an rfl (.an rfl (.an rfl (.an rfl (.an rfl (.an rfl (.an rfl (.an rfl (.an rfl .nil))))))))))))))))))))))))))))))))))))))))))))))))))))))))))) fun (r40 : Unit) => (DRS_ret (ES_l (E_op2 (oEq (EqT.two (EqT.mono (k := 1) (EqT.tup EqT.int) (by decide)) (EqT.mono (k := 1) (EqT.tup EqT.int) (by decide)))) (E_c2 c_tight_way (E_tN (EN_cons E_int (EN_cons E_int (EN_nil (ea := eI))))) (E_tN (EN_cons (E_tN (EN_cons E_int (EN_cons E_int (EN_nil (ea := eI))))) (EN_cons (E_tN (EN_cons E_int (EN_nil (ea := eI)))) (EN_nil (ea := (eT eI))))))) (E_t2 (E_tN (EN_cons E_int (EN_cons E_int (EN_nil (ea := eI))))) (E_tN (EN_cons E_int (EN_cons E_int (EN_nil (ea := eI))))))))))
end W92

namespace W92
open PySem DL TL FR Cov

/-- chosen tests of a known list -/
theorem fmap_sp {f : Int → SM Bool} : ∀ {xs : List Int}, (∀ x ∈ xs, Sp 1 (f x) fun _ => True) → Sp (xs.length * 1) (SM.fmapGo f (fun (x20 : Int) => (SM.lift (Tm.pure x20))) xs) fun ys => ys.length ≤ xs.length ∧ ∀ y ∈ ys, y ∈ xs
  | [], _ => Sp.pure ⟨Nat.le_refl _, fun y hy => by cases hy⟩
  | x :: xs, h => by
    refine Sp.bind (a := 1) (b := xs.length * 1) (h x List.mem_cons_self) (fun b _ => ?_) (by rw [List.length_cons]; omega)
    have ih := fmap_sp (f := f) (xs := xs) fun y hy => h y (List.mem_cons_of_mem _ hy)
    cases b with
    | false =>
      rw [if_neg (by decide)]
      exact ih.mono (Nat.le_refl _) fun ys hy => ⟨by rw [List.length_cons]; omega, fun y hy2 => List.mem_cons_of_mem _ (hy.2 y hy2)⟩
    | true =>
      rw [if_pos rfl]
      refine Sp.bind (a := 0) (b := xs.length * 1) (P := fun y => y = x) Sp.pure' ?_ (by omega)
      rintro _ rfl
      refine Sp.bind (a := xs.length * 1) (b := 0) ih (fun ys hy => Sp.pure ⟨by rw [List.length_cons, List.length_cons]; omega, fun y hy2 => ?_⟩) (by omega)
      rcases List.mem_cons.mp hy2 with rfl | hy2
      · exact List.mem_cons_self
      · exact List.mem_cons_of_mem _ (hy.2 y hy2)
theorem of_sp : Sp 1 (p__law_of [.int 1, .int 4, .int 30]) fun d => d = .int 1 ∨ d = .int 4 ∨ d = .int 30 := by
  unfold p__law_of
  refine Sp.o2 (a := 0) (b := 1) (P := fun l => l = [.int 1, .int 4, .int 30]) (P' := fun r => 0 ≤ r ∧ r < 3) Sp.pure' (Sp.s1 (a := 0) (b := 1) (P := fun x => x = 3) (Sp.is (Is.o1 (Is.pure _) (Is.pure _)) rfl) (fun x hx => by rw [hx]; exact Sp.pick (by decide) (by decide)) (by decide)) ?_ (by decide)
  rintro _ r rfl ⟨h1, h2⟩
  refine ⟨okIx ⟨h1, h2⟩, ?_⟩
  have : r = 0 ∨ r = 1 ∨ r = 2 := by omega
  rcases this with rfl | rfl | rfl
  · exact .inl rfl
  · exact .inr (.inl rfl)
  · exact .inr (.inr rfl)
theorem end_sp {cs : List Int} {f : Int} {n : Nat} {row : List (List Int)} (h : LapT cs f n row) : Sp 0 (SM.ite (SM.lift (Tm.o2 tNe (Tm.fmap (Tm.o2 tZip (Tm.pure (runT cs row).steps) (Tm.pure (runT cs row).prices)) (fun (x37 : ((List Int) × Int)) => (Tm.o2 tNe (Tm.o2 tEq (Tm.pure x37.1) (Tm.pure [])) (Tm.o2 tEq (Tm.pure x37.2) (Tm.pure (0 : Int))))) (fun (x37 : ((List Int) × Int)) => (Tm.pure x37.1))) (Tm.lim (Tm.nil (α := (List Int)))))) (SM.mp .rt (SM.lift (Tm.pure false))) (SM.ite (SM.lift (Tm.o2 tNe (Tm.o1 (tRepr (eL eD)) (Tm.lim (Tm.cons (Tm.mp (eT eI) (Tm.pure cs)) (Tm.cons (Tm.mp (eT (eT eI)) (Tm.pure row)) (Tm.nil (α := D)))))) (Tm.pure (eL eD [eT eI cs, eT (eT eI) row]).shown))) (SM.mp .rt (SM.lift (Tm.pure false))) (SM.pure (.nx ())))) (Go (σ := Unit) (δ := Bool) fun _ => True) := by
  have hz : Is (Tm.fmap (Tm.o2 tZip (Tm.pure (runT cs row).steps) (Tm.pure (runT cs row).prices)) (fun (x37 : ((List Int) × Int)) => (Tm.o2 tNe (Tm.o2 tEq (Tm.pure x37.1) (Tm.pure [])) (Tm.o2 tEq (Tm.pure x37.2) (Tm.pure (0 : Int))))) (fun (x37 : ((List Int) × Int)) => (Tm.pure x37.1))) ((((runT cs row).steps.zip (runT cs row).prices).filter fun x => !decide (decide (x.1 = []) = decide (x.2 = 0))).map fun x => x.1) :=
    Is.fmap (Is.o2 (Is.pure _) (Is.pure _) (Is.pure _)) (fun x _ => Is.o2 (Is.o2 (Is.pure _) (Is.pure _) ⟨trivial, rfl⟩) (Is.o2 (Is.pure _) (Is.pure _) ⟨trivial, rfl⟩) ⟨trivial, rfl⟩) (fun x _ _ => Is.pure _)
  rw [h.odd] at hz
  refine Sp.chk (b := 0) (eq_is (a := ([] : List (List Int))) hz (Is.lim Is.nil (by decide))) ?_ (by decide)
  refine Sp.chk (b := 0) (eq_is (a := (eL eD [eT eI cs, eT (eT eI) row]).shown) (rep_is (a := [eT eI cs, eT (eT eI) row]) (Is.lim (Is.cons (Is.mp (Is.pure _)) (Is.cons (Is.mp (Is.pure _)) Is.nil)) (by show 2 ≤ 2 ^ 24; decide)) h.shRow) (Is.pure _)) ?_ (by decide)
  exact Sp.pure ⟨_, .inl rfl, trivial⟩
theorem last_is : Is (Tm.o2 tEq (Tm.o2 p_tight_way (Tm.lim (Tm.cons (Tm.pure (2 : Int)) (Tm.cons (Tm.pure (3 : Int)) (Tm.nil (α := Int))))) (Tm.lim (Tm.cons (Tm.lim (Tm.cons (Tm.pure (0 : Int)) (Tm.cons (Tm.pure (1 : Int)) (Tm.nil (α := Int))))) (Tm.cons (Tm.lim (Tm.cons (Tm.pure (1 : Int)) (Tm.nil (α := Int)))) (Tm.nil (α := (List Int))))))) (Tm.o2 tPair (Tm.lim (Tm.cons (Tm.pure (0 : Int)) (Tm.cons (Tm.pure (1 : Int)) (Tm.nil (α := Int))))) (Tm.lim (Tm.cons (Tm.pure (2 : Int)) (Tm.cons (Tm.pure (1 : Int)) (Tm.nil (α := Int))))))) true := by
  have h : LapT [2, 3] 2 2 [[0, 1], [1]] := ⟨⟨fun c hc => by simp at hc; omega, by decide, by decide⟩, by decide, by decide, by decide, by decide, fun c hc => by
    simp at hc
    rcases hc with rfl | rfl
    · exact ⟨by decide, by decide, fun l hl => by simp at hl; show 0 ≤ l ∧ l < 2; omega, by decide⟩
    · exact ⟨by decide, by decide, fun l hl => by simp at hl; show 0 ≤ l ∧ l < 2; omega, by decide⟩⟩
  have hw := h.way
  have e1 : (runT [2, 3] [[0, 1], [1]]).prices = [2, 1] := by decide
  have e2 : (runT [2, 3] [[0, 1], [1]]).taken = [0, 1] := by decide
  have e3 : lotsT [2, 3] [[0, 1], [1]] = [0, 1] := by
    unfold lotsT
    rw [e2]
    exact List.mergeSort_of_pairwise (by decide)
  rw [e1, e3] at hw
  exact Is.o2 (a := ([(0 : Int), 1], [(2 : Int), 1])) (b := ([(0 : Int), 1], [(2 : Int), 1])) (Is.o2 (Is.lim (Is.cons (Is.pure _) (Is.cons (Is.pure _) Is.nil)) (by show 2 ≤ 2 ^ 24; decide)) (Is.lim (Is.cons (Is.lim (Is.cons (Is.pure _) (Is.cons (Is.pure _) Is.nil)) (by show 2 ≤ 2 ^ 24; decide)) (Is.cons (Is.lim (Is.cons (Is.pure _) Is.nil) (by show 1 ≤ 2 ^ 24; decide)) Is.nil)) (by show 2 ≤ 2 ^ 24; decide)) hw) (Is.o2 (Is.lim (Is.cons (Is.pure _) (Is.cons (Is.pure _) Is.nil)) (by show 2 ≤ 2 ^ 24; decide)) (Is.lim (Is.cons (Is.pure _) (Is.cons (Is.pure _) Is.nil)) (by show 2 ≤ 2 ^ 24; decide)) (Is.pure _)) ⟨trivial, by decide⟩
theorem law_sp : Sp 2000 p_law fun b => b = true := by
  unfold p_law
  refine Sp.lp (a := 2000) (b := 0) (I := fun _ => True) (Sp.mono (a := 2000) (Sp.forL (a := 500) (n := 4) (fun _ _ => True) (Is.o1 (Is.pure _) ⟨okRg 4 (by decide), rfl⟩) (by decide) trivial ?_ (by decide)) (Nat.le_refl _) fun r hr => hr) (fun s _ => Sp.is last_is rfl) (by decide)
  rintro d x2 r - hx -
  have hx2 : x2 = 0 ∨ x2 = 1 ∨ x2 = 2 ∨ x2 = 3 := by
    have := rgI_pre (n := 4) hx
    omega
  refine Sp.bind (a := 401) (b := 20) (P := fun v => ∃ (most : Nat) (far : Int), OkLots most far v ∧ most ≤ 8 ∧ far ≤ 30) ?_ ?_ (by decide)
  · refine Sp.s2 (a := 0) (b := 1) (d := 400) (P := fun v => v = 3 ∨ v = 5 ∨ v = 7 ∨ v = 8) (P' := fun v => v = 1 ∨ v = 4 ∨ v = 30) ?_ ?_ ?_ (by decide)
    · refine Sp.is (Is.o2 (Is.lim (Is.cons (Is.pure _) (Is.cons (Is.pure _) (Is.cons (Is.pure _) (Is.cons (Is.pure _) Is.nil)))) (by show 4 ≤ 2 ^ 24; decide)) (Is.pure x2) ⟨okIx (by show 0 ≤ x2 ∧ x2 < 4; omega), rfl⟩) ?_
      rcases hx2 with rfl | rfl | rfl | rfl <;> decide
    · refine Sp.o1 (a := 1) (P := fun d => d = .int 1 ∨ d = .int 4 ∨ d = .int 30) (Sp.s1 (a := 0) (b := 1) (P := fun l => l = [.int 1, .int 4, .int 30]) (Sp.is (Is.lim (Is.cons (Is.mp (Is.pure _)) (Is.cons (Is.mp (Is.pure _)) (Is.cons (Is.mp (Is.pure _)) Is.nil))) (by show 3 ≤ 2 ^ 24; decide)) rfl) (fun l e => by rw [e]; exact of_sp) (by decide)) ?_ (by decide)
      rintro _ (rfl | rfl | rfl)
      · exact ⟨rfl, .inl rfl⟩
      · exact ⟨rfl, .inr (.inl rfl)⟩
      · exact ⟨rfl, .inr (.inr rfl)⟩
    · intro m fa hm hfa
      have hm' : 0 ≤ m := by omega
      obtain ⟨k, rfl⟩ : ∃ k : Nat, m = (k : Int) := ⟨m.toNat, by omega⟩
      exact (lots_sp (most := k) (far := fa) (by omega) (by omega) (by omega) (by omega)).mono (Nat.le_refl _) fun v hv => ⟨k, fa, hv, by omega, by omega⟩
  rintro ⟨cs, f, row⟩ ⟨most, far, hl, hm8, hf30⟩
  have n1 := hl.n1
  have n2 := hl.n2
  have hr := hl.row.len
  have hc := hl.row.call
  have f1 := hl.f1
  have f4 := hl.f4
  have hco := hl.cost
  simp only at n1 n2 hr hc f1 f4 hco
  have h : LapT cs f most row := ⟨⟨fun c hc => by have := hco c hc; omega, n1, n2⟩, hm8, hr, f1, f4, hc⟩
  have t0 := h.tot0
  have c0 := h.cost0
  have hsh : Is (Tm.o1 (tRepr (eL eD)) (Tm.lim (Tm.cons (Tm.mp (eT eI) (Tm.pure cs)) (Tm.cons (Tm.mp (eT (eT eI)) (Tm.pure row)) (Tm.nil (α := D)))))) (eL eD [eT eI cs, eT (eT eI) row]).shown :=
    rep_is (a := [eT eI cs, eT (eT eI) row]) (Is.lim (Is.cons (Is.mp (Is.pure _)) (Is.cons (Is.mp (Is.pure _)) Is.nil)) (by show 2 ≤ 2 ^ 24; decide)) h.shRow
  refine Sp.bind (a := 0) (b := 20) (P := fun v => v = ((eL eD [eT eI cs, eT (eT eI) row]).shown, ((runT cs row).steps, (runT cs row).prices))) (Sp.is (Is.o2 hsh (Is.o2 (Is.pure _) (Is.pure _) h.lrun) (Is.pure _)) rfl) ?_ (by decide)
  rintro _ rfl
  refine Sp.bind (a := 0) (b := 20) (P := fun l => l = ([] : List Int)) (Sp.is (Is.lim Is.nil (by decide)) rfl) ?_ (by decide)
  rintro _ rfl
  refine Sp.bind (a := 0) (b := 20) (P := fun l => l = (runT cs row).taken) ?_ ?_ (by decide)
  · refine Sp.fold (a := 0) (b := 0) (n := 12) (P := fun l => l = (runT cs row).steps) (fun d s => s = d.flatten) Sp.pure' (fun xs e => by rw [e, h.ti.l1]; exact hr) rfl ?_ (fun xs s e hs => by rw [hs, e, h.ti.fl]) (by decide)
    rintro xs d x r s e hxs rfl
    subst e
    refine Sp.bind (a := 0) (b := 0) (P := fun l => l = (d ++ [x]).flatten) (Sp.is (Is.o2 (Is.pure _) (Is.pure _) ⟨?_, rfl⟩) (by rw [List.flatten_append]; simp; rfl)) (fun l e => Sp.pure e) (by decide)
    have h1 : (runT cs row).steps.flatten.length ≤ 8 := by rw [← h.ti.fl]; exact h.tlen
    rw [hxs, List.flatten_append, List.flatten_cons, List.length_append, List.length_append] at h1
    show d.flatten.length + x.length ≤ 2 ^ 24
    omega
  rintro _ rfl
  have hso : Is (Tm.o1 tTup (Tm.o1 tSort (Tm.pure (runT cs row).taken))) (lotsT cs row) := Is.o1 (a := lotsT cs row) (Is.o1 (Is.pure _) ⟨by show (runT cs row).taken.length ≤ 2 ^ 24; have := h.tlen; omega, rfl⟩) (Is.pure _)
  refine Sp.bind (a := 0) (b := 20) (P := fun v => v = (lotsT cs row, totT cs row)) ?_ ?_ (by decide)
  · refine Sp.o2 (a := 0) (b := 0) (P := fun v => v = lotsT cs row) (P' := fun v => v = totT cs row) (Sp.is hso rfl) (Sp.is (Is.o1 (Is.pure _) (Is.pure _)) rfl) ?_ (by decide)
    rintro _ _ rfl rfl
    exact ⟨trivial, rfl⟩
  rintro _ rfl
  refine Sp.chk (b := 20) (same_is (a := [e2 (eT eI) (eT eI) (lotsT cs row, (runT cs row).prices), eT (eT eI) (runT cs row).steps]) (Is.lim (Is.cons (Is.mp (Is.o2 (Is.pure _) (Is.pure _) h.way)) (Is.cons (Is.mp (Is.o2 (Is.pure _) (Is.pure _) h.steps_is)) Is.nil)) (by show 2 ≤ 2 ^ 24; decide)) (Is.lim (Is.cons (Is.mp (Is.o2 (Is.pure _) (Is.o1 (Is.pure _) (Is.pure _)) (Is.pure _))) (Is.cons (Is.mp (Is.o1 (Is.pure _) (Is.pure _))) Is.nil)) (by show 2 ≤ 2 ^ 24; decide)) h.shWay) ?_ (by decide)
  refine Sp.bind (a := 0) (b := 20) (P := fun v => v = costL cs (lotsT cs row)) (Sp.is (Is.o2 (Is.pure _) (Is.pure _) (lcost_is h.okl)) rfl) ?_ (by decide)
  rintro _ rfl
  refine Sp.bind (a := 0) (b := 20) (P := fun v => v = dueT cs row) (Sp.is h.ldue_is rfl) ?_ (by decide)
  rintro _ rfl
  refine Sp.chk (b := 20) (same_is (a := [eI (costL cs (lotsT cs row)), eO (e2 eI eI) (dueT cs row)]) (Is.lim (Is.cons (Is.mp (Is.o2 (Is.pure _) (Is.pure _) h.cost_is)) (Is.cons (Is.mp (Is.o2 (Is.pure _) (Is.pure _) h.share_is)) Is.nil)) (by show 2 ≤ 2 ^ 24; decide)) (Is.lim (Is.cons (Is.mp (Is.pure _)) (Is.cons (Is.mp (Is.pure _)) Is.nil)) (by show 2 ≤ 2 ^ 24; decide)) h.shDue) ?_ (by decide)
  have han := answer_is row (lotsT cs row)
  rw [h.answer] at han
  refine Sp.chk (b := 20) (or_ff (isT (Is.o2 (Is.pure _) (Is.pure _) han)) (or_ff (eq_is (Is.o2 (Is.pure _) (Is.pure _) (Cov.cost_is h.okl)) (Is.pure _)) (ff_of (Is.pure _) (Is.o2 (Is.pure f) (Is.pure (totT cs row)) ⟨okMul_big (small_nat (by omega)) (small_nat (by omega)), rfl⟩) h.cost_le))) ?_ (by decide)
  refine Sp.bind (a := 0) (b := 20) (P := fun v => v = (xsT cs row).map fr) (Sp.is (Is.o1 (Is.amap (g := fun k => (k, (1 : Int))) (Is.pure _) fun x _ => Is.o2 (Is.pure _) (Is.pure _) (Is.pure _)) (Is.pure _)) (told_eq cs row)) ?_ (by decide)
  rintro _ rfl
  have har0 := are_is h.xs (fun c hc => small_nat (by have := hco c hc; omega)) row
  have har : Is (p_are_prices cs row ((xsT cs row).map fr)) true := ⟨har0.1, by rw [har0.2]; simp only [h.fits, decide_true]⟩
  have hps := psum_is h.xs
  rw [sum_eq] at hps
  refine Sp.chk (b := 20) (or_ff (isT (Is.o3 (Is.pure _) (Is.pure _) (Is.pure _) har)) (eq_is (a := (totT cs row, (1 : Int))) (Is.o1 (Is.pure _) hps) (Is.o2 (Is.pure _) (Is.pure _) (Is.pure _)))) ?_ (by decide)
  obtain ⟨c, s, hle, hla, hll, hcs⟩ := h.leasts
  refine Sp.bind (a := 0) (b := 20) (P := fun v => v = c) (Sp.is hll rfl) ?_ (by decide)
  intro c' hc'
  rw [hc']
  refine Sp.chk (b := 20) (or_ff (ff_of (Is.pure _) (Is.pure _) (h.bar hle)) (or_ff (ff_of (Is.pure _) (Is.o2 (Is.pure f) (Is.pure c) ⟨okMul_big (small_nat (by omega)) (small_nat (by omega)), rfl⟩) (h.cost_le2 hle)) (eq_is (Is.o2 (Is.pure _) (Is.pure _) hla) (Is.pure _)))) ?_ (by decide)
  have hnu : Is (Tm.fmap (Tm.mp (enuI 0) (Tm.pure (runT cs row).prices)) (fun (x18 : (Int × Int)) => (Tm.o2 tGt (Tm.pure x18.2) (Tm.pure (0 : Int)))) (fun (x18 : (Int × Int)) => (Tm.pure x18.1))) (numsOf (runT cs row).prices) := Is.fmap (Is.mp (Is.pure _)) (fun x _ => Is.o2 (Is.pure _) (Is.pure _) (Is.pure _)) (fun x _ _ => Is.pure _)
  refine Sp.bind (a := 0) (b := 20) (P := fun v => v = numsOf (runT cs row).prices) (Sp.is (Is.o1 hnu (Is.pure _)) rfl) ?_ (by decide)
  rintro _ rfl
  have hpc : Is (p_priced_calls cs row) (numsOf (runT cs row).prices) := by
    unfold p_priced_calls
    exact Is.o1 (Is.fmap (xs := enuI 0 (runT cs row).prices) (p := fun x => decide (0 < x.2)) (g := fun x => x.1) (Is.mp (Is.mp (Is.o2 (Is.pure _) (Is.pure _) h.run))) (fun x _ => Is.o2 (Is.pure _) (Is.pure _) (Is.pure _)) (fun x _ _ => Is.pure _)) (Is.pure _)
  refine Sp.chk (b := 20) (same_is (a := numsOf (runT cs row).prices) (Is.o2 (Is.pure _) (Is.pure _) hpc) (Is.pure _) h.shNums) ?_ (by decide)
  refine Sp.bind (a := 12) (b := 0) (P := fun v : List Int => v.length ≤ 12 ∧ ∀ i ∈ v, 0 ≤ i ∧ i < row.length) ?_ ?_ (by decide)
  · refine Sp.o1 (a := 12) (P := fun v : List Int => v.length ≤ 12 ∧ ∀ i ∈ v, 0 ≤ i ∧ i < row.length) ?_ (fun v hv => ⟨trivial, hv⟩) (by decide)
    refine Sp.bind (a := 0) (b := 12) (P := fun l => l = rgI 0 (row.length : Int)) (Sp.is (Is.o1 (Is.o1 (Is.pure _) (Is.pure _)) ⟨okRg row.length (by omega), rfl⟩) rfl) ?_ (by decide)
    rintro _ rfl
    refine (fmap_sp fun x hx => ?_).mono (by rw [rgI_len]; omega) fun ys hy => ?_
    · refine Sp.o2 (a := 1) (b := 0) (P := fun _ => True) (P' := fun _ => True) (Sp.s1 (a := 0) (b := 1) (P := fun x => x = 3) Sp.pure' (fun x hx => by rw [hx]; exact (Sp.pick (by decide) (by decide)).mono (Nat.le_refl _) fun _ _ => trivial) (by decide)) (Sp.pure'.mono (Nat.le_refl _) fun _ _ => trivial) (fun _ _ _ _ => ⟨trivial, trivial⟩) (by decide)
    · rw [rgI_len] at hy
      refine ⟨by omega, fun i hi => ?_⟩
      have := hy.2 i hi
      rw [rgI_nat] at this
      obtain ⟨j, hj, rfl⟩ := List.mem_map.mp this
      have := List.mem_range.mp hj
      omega
  rintro some ⟨hs12, hsok⟩
  refine Sp.bind (a := 0) (b := 0) (P := fun l => l = ([] : List Int)) (Sp.is (Is.lim Is.nil (by decide)) rfl) ?_ (by decide)
  rintro _ rfl
  refine Sp.bind (a := 0) (b := 0) (P := fun l => l = bothL row some) (both_sp h.c4 hsok (by omega)) ?_ (by decide)
  rintro _ rfl
  refine Sp.chk (b := 0) (same_is (a := decide (((keysM [] (bothL row some)).length : Int) = ((bothL row some).length : Int))) (Is.o2 (Is.pure _) (Is.pure _) (apart_is h.c4 hsok (by omega))) (lapart_is _) (okR (shB (k := 0) (n := 5) (by decide)) (by decide) (by decide))) ?_ (by decide)
  refine Sp.ite (a := 0) (b := 0) (P := fun b => b = true → ∀ c ∈ cs, c = 1) ?_ (fun hu => ?_) (fun _ => end_sp h) (by decide)
  · refine Sp.is (Is.o2 (Is.o1 (Is.pure _) ⟨?_, rfl⟩) (Is.pure _) ⟨trivial, rfl⟩) fun e => ?_
    · show cs ≠ []
      intro z
      rw [z] at n1
      exact absurd n1 (by decide)
    · have e' : (maxI cs).getD 0 = 1 := of_decide_eq_true e
      cases hmx : maxI cs with
      | none => rw [hmx] at e'; cases e'
      | some m =>
        rw [hmx] at e'
        have e' : m = 1 := e'
        intro c hc
        have h1 := (maxI_spec hmx).2 c hc
        have h2 := hco c hc
        omega
  · have hu := hu rfl
    have hun := h.unit hu
    refine Sp.bind (a := 0) (b := 0) (P := fun l => l = ([] : List Int)) (Sp.is (Is.lim Is.nil (by decide)) rfl) ?_ (by decide)
    rintro _ rfl
    refine Sp.bind (a := 0) (b := 0) (P := fun l => l = bothL row (numsOf (runT cs row).prices)) (both_sp h.c4 h.nok (by have := h.nlen; omega)) ?_ (by decide)
    rintro _ rfl
    have hap := apart_is h.c4 h.nok (by have := h.nlen; omega)
    rw [hun, keysM_nodup _ [] h.ti.nd] at hap
    rw [List.nil_append, decide_eq_true rfl] at hap
    rw [hun]
    exact Sp.chk (b := 0) (or_ff (isT (Is.o2 (Is.pure _) (Is.pure _) hap)) (eq_is (a := lotsT cs row) (Is.o1 (Is.pure _) ⟨by show (runT cs row).taken.length ≤ 2 ^ 24; have := h.tlen; omega, rfl⟩) (Is.pure _))) (end_sp h) (by decide)
theorem plain92 : ∀ ns : List Int, ns.length ≤ 63 → DL.OkNs ns → DL.lawGo 23 W92.g_law ns := fun ns _ _ => lawGo_of (k := 21) c_law (law_of law_sp (by decide)).1 (law_of law_sp (by decide)).2
end W92

open PySem PySem.W PyProof.Rows
set_option maxHeartbeats 0 in
theorem PySem.Challenge.cw_beforeitcomes_k92_whole_tight_lots_holds : PySem.Challenge.rw_beforeitcomes_k92_whole_tight_lots.Holds := by
  w_on; o_law; k_head; (case hw => w_witness2)
  k_fill
  refine DL.row_walk (l := PySem.Challenge.rw_beforeitcomes_k92_whole_tight_lots) (k := 6) rfl rfl ⟨rfl, by decide, by decide⟩ (fun w h Y => PySem.W.kIn_of Y) ?G W92.plain92
  case G =>
    intro w mg fa h KX G hmg
    refine' W92.all_here KX G hmg ?a0 ?l0 ?c0 ?k0 ?a1 ?l1 ?c1 ?k1 ?a2 ?l2 ?c2 ?k2 ?a3 ?l3 ?c3 ?k3 ?a4 ?l4 ?c4 ?k4 ?a5 ?l5 ?c5 ?k5 ?a6 ?l6 ?c6 ?k6 ?a7 ?l7 ?c7 ?k7 ?a8 ?l8 ?c8 ?k8 ?a9 ?l9 ?c9 ?k9 ?a10 ?l10 ?c10 ?k10 ?a11 ?l11 ?c11 ?k11 ?a12 ?l12 ?c12 ?k12 ?a13 ?l13 ?c13 ?k13 ?a14 ?l14 ?c14 ?k14 ?a15 ?l15 ?c15 ?k15 ?a16 ?l16 ?c16 ?k16 ?a17 ?l17 ?c17 ?k17 ?a18 ?l18 ?c18 ?k18 ?a19 ?l19 ?c19 ?k19 ?a20 ?l20 ?c20 ?k20 ?a21 ?l21 ?c21 ?k21 ?a22 ?l22 ?c22 ?k22 ?a23 ?l23 ?c23 ?k23 ?a24 ?l24 ?c24 ?k24 ?a25 ?l25 ?c25 ?k25 ?a26 ?l26 ?c26 ?k26 ?a27 ?l27 ?c27 ?k27 ?a28 ?l28 ?c28 ?k28 ?a29 ?l29 ?c29 ?k29 ?a30 ?l30 ?c30 ?k30 ?y_abs ?y_all ?y_any ?y_dict ?y_enumerate ?y_int ?y_len ?y_list ?y_max ?y_min ?y_range ?y_repr ?y_sorted ?y_sum ?y_tuple ?y_zip
    (case a0 => k_is); (case l0 => k_is); (case c0 => k_is); (case k0 => k_is); (case a1 => k_is); (case l1 => k_is); (case c1 => k_is); (case k1 => k_is); (case a2 => k_is); (case l2 => k_is); (case c2 => k_is); (case k2 => k_is); (case a3 => k_is); (case l3 => k_is); (case c3 => k_is); (case k3 => k_is); (case a4 => k_is); (case l4 => k_is); (case c4 => k_is); (case k4 => k_is); (case a5 => k_is); (case l5 => k_is); (case c5 => k_is); (case k5 => k_is); (case a6 => k_is); (case l6 => k_is); (case c6 => k_is); (case k6 => k_is); (case a7 => k_is); (case l7 => k_is); (case c7 => k_is); (case k7 => k_is); (case a8 => k_is); (case l8 => k_is); (case c8 => k_is); (case k8 => k_is); (case a9 => k_is); (case l9 => k_is); (case c9 => k_is); (case k9 => k_is); (case a10 => k_is); (case l10 => k_is); (case c10 => k_is); (case k10 => k_is); (case a11 => k_is); (case l11 => k_is); (case c11 => k_is); (case k11 => k_is); (case a12 => k_is); (case l12 => k_is); (case c12 => k_is); (case k12 => k_is); (case a13 => k_is); (case l13 => k_is); (case c13 => k_is); (case k13 => k_is); (case a14 => k_is); (case l14 => k_is); (case c14 => k_is); (case k14 => k_is); (case a15 => k_is); (case l15 => k_is); (case c15 => k_is); (case k15 => k_is); (case a16 => k_is); (case l16 => k_is); (case c16 => k_is); (case k16 => k_is); (case a17 => k_is); (case l17 => k_is); (case c17 => k_is); (case k17 => k_is); (case a18 => k_is); (case l18 => k_is); (case c18 => k_is); (case k18 => k_is); (case a19 => k_is); (case l19 => k_is); (case c19 => k_is); (case k19 => k_is); (case a20 => k_is); (case l20 => k_is); (case c20 => k_is); (case k20 => k_is); (case a21 => k_is); (case l21 => k_is); (case c21 => k_is); (case k21 => k_is); (case a22 => k_is); (case l22 => k_is); (case c22 => k_is); (case k22 => k_is); (case a23 => k_is); (case l23 => k_is); (case c23 => k_is); (case k23 => k_is); (case a24 => k_is); (case l24 => k_is); (case c24 => k_is); (case k24 => k_is); (case a25 => k_is); (case l25 => k_is); (case c25 => k_is); (case k25 => k_is); (case a26 => k_is); (case l26 => k_is); (case c26 => k_is); (case k26 => k_is); (case a27 => k_is); (case l27 => k_is); (case c27 => k_is); (case k27 => k_is); (case a28 => k_is); (case l28 => k_is); (case c28 => k_is); (case k28 => k_is); (case a29 => k_is); (case l29 => k_is); (case c29 => k_is); (case k29 => k_is); (case a30 => k_is); (case l30 => k_is); (case c30 => k_is); (case k30 => k_is); (case y_abs => k_is); (case y_all => k_is); (case y_any => k_is); (case y_dict => k_is); (case y_enumerate => k_is); (case y_int => k_is); (case y_len => k_is); (case y_list => k_is); (case y_max => k_is); (case y_min => k_is); (case y_range => k_is); (case y_repr => k_is); (case y_sorted => k_is); (case y_sum => k_is); (case y_tuple => k_is); (case y_zip => k_is)

