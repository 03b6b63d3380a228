import PyProof.Rows.All
import Wide.All
import OpenK.AllK
import Wide.FinOn
import HandS.ForMost
import HandS.Star
import HandS.Wide
import HandS.TupAny
import HandS.Deep
import HandS.Style
import HandS.Walk
import HandS.EndBits
import KE.GoesNew
import KE.GoesEnum
import KE.GoesZip
import KE.GoesMore
import HandS.TupMul
import HandS.Conv
import HandS.WideBits
import HandS.TupLe
import KE.KSortedM
import HandS.SortInts
import HandS.RaiseMore
import PyProof.ReprRoads
import PySem.Challenge.RW_beforeitcomes_k93_whole_nothing_below_f
set_option Elab.async false
set_option linter.all false
set_option maxRecDepth 100000
set_option maxHeartbeats 4000000
/-! DLa: data over the abstract heap by value; the mirror's state monad; expressions. -/
namespace DL
open PySem PySem.Spec PyProof.Rows L2

abbrev D := PyData
def kD : Key → D
  | .inl i => .int i
  | .inr x => .str x

/-! ### data as they stand in an abstract heap -/
mutual
inductive Rp (H : Hp) : V → D → Prop
  | non : Rp H .non .none
  | bl (b : Bool) : Rp H (.bl b) (.bool b)
  | int (i : Int) : Rp H (.int i) (.int i)
  | str (x : Str) : Rp H (.str x) (.str x)
  | lst {a : Addr} {xs : List V} {ds : List D} : H a = some (.lst xs) → xs.length ≤ sizeLine → RpA H xs ds → Rp H (.ref a) (.list ds)
  | tup {a : Addr} {xs : List V} {ds : List D} : H a = some (.tup xs) → xs.length ≤ sizeLine → RpA H xs ds → Rp H (.ref a) (.tuple ds)
  | dct {a : Addr} {kvs : List (Key × V)} {ds : List (D × D)} : H a = some (.dK kvs) → RpK H kvs ds → Rp H (.ref a) (.dict ds)
inductive RpA (H : Hp) : List V → List D → Prop
  | nil : RpA H [] []
  | cons {v : V} {vs : List V} {d : D} {ds : List D} : Rp H v d → RpA H vs ds → RpA H (v :: vs) (d :: ds)
inductive RpK (H : Hp) : List (Key × V) → List (D × D) → Prop
  | nil : RpK H [] []
  | cons {k : Key} {v : V} {kvs : List (Key × V)} {d : D} {ds : List (D × D)} : Rp H v d → RpK H kvs ds → RpK H ((k, v) :: kvs) ((kD k, d) :: ds)
end

mutual
theorem Rp.mono {F G : Hp} (s : Same F G) : ∀ (d : D) (v : V), Rp F v d → Rp G v d
  | .none, _, h => by cases h; exact .non
  | .bool b, _, h => by cases h; exact .bl _
  | .int i, _, h => by cases h; exact .int _
  | .str x, _, h => by cases h; exact .str _
  | .list ds, _, h => by cases h with | lst h1 h2 h3 => exact .lst (s _ _ h1) h2 (RpA.mono s ds _ h3)
  | .tuple ds, _, h => by cases h with | tup h1 h2 h3 => exact .tup (s _ _ h1) h2 (RpA.mono s ds _ h3)
  | .dict ds, _, h => by cases h with | dct h1 h2 => exact .dct (s _ _ h1) (RpK.mono s ds _ h2)
theorem RpA.mono {F G : Hp} (s : Same F G) : ∀ (ds : List D) (vs : List V), RpA F vs ds → RpA G vs ds
  | [], _, h => by cases h; exact .nil
  | d :: ds, _, h => by cases h with | cons h1 h2 => exact .cons (Rp.mono s d _ h1) (RpA.mono s ds _ h2)
theorem RpK.mono {F G : Hp} (s : Same F G) : ∀ (ds : List (D × D)) (vs : List (Key × V)), RpK F vs ds → RpK G vs ds
  | [], _, h => by cases h; exact .nil
  | (k, d) :: ds, _, h => by cases h with | cons h1 h2 => exact .cons (Rp.mono s d _ h1) (RpK.mono s ds _ h2)
end
theorem RpA.length {H : Hp} : ∀ {vs : List V} {ds : List D}, RpA H vs ds → vs.length = ds.length
  | _, _, .nil => rfl
  | _, _, .cons _ t => congrArg (· + 1) (RpA.length t)
theorem RpA.get {H : Hp} : ∀ {vs : List V} {ds : List D} {i : Nat} {d : D}, RpA H vs ds → ds[i]? = some d → ∃ v, vs[i]? = some v ∧ Rp H v d
  | _, _, _, _, .nil, e => by simp at e
  | _, _, 0, _, .cons r _, e => by simp at e; subst e; exact ⟨_, rfl, r⟩
  | _, _, i + 1, d, .cons _ t, e => by
    obtain ⟨v, h1, h2⟩ := RpA.get (i := i) t (by simpa using e)
    exact ⟨v, by simpa using h1, h2⟩
theorem RpA.get' {H : Hp} : ∀ {vs : List V} {ds : List D} {i : Nat} {v : V}, RpA H vs ds → vs[i]? = some v → ∃ d, ds[i]? = some d ∧ Rp H v d
  | _, _, _, _, .nil, e => by simp at e
  | _, _, 0, _, .cons r _, e => by simp at e; subst e; exact ⟨_, rfl, r⟩
  | _, _, i + 1, d, .cons _ t, e => by
    obtain ⟨v, h1, h2⟩ := RpA.get' (i := i) t (by simpa using e)
    exact ⟨v, by simpa using h1, h2⟩
theorem RpA.append {H : Hp} : ∀ {vs ws : List V} {ds es : List D}, RpA H vs ds → RpA H ws es → RpA H (vs ++ ws) (ds ++ es)
  | _, _, _, _, .nil, s => s
  | _, _, _, _, .cons r t, s => .cons r (RpA.append t s)
theorem RpA.take {H : Hp} : ∀ {vs : List V} {ds : List D} (n : Nat), RpA H vs ds → RpA H (vs.take n) (ds.take n)
  | _, _, 0, _ => .nil
  | _, _, _ + 1, .nil => .nil
  | _, _, n + 1, .cons r t => .cons r (RpA.take n t)
theorem RpA.drop {H : Hp} : ∀ {vs : List V} {ds : List D} (n : Nat), RpA H vs ds → RpA H (vs.drop n) (ds.drop n)
  | _, _, 0, r => r
  | _, _, _ + 1, .nil => .nil
  | _, _, n + 1, .cons _ t => RpA.drop n t
theorem RpA.set {H : Hp} : ∀ {vs : List V} {ds : List D} (n : Nat) {v : V} {d : D}, RpA H vs ds → Rp H v d → RpA H (vs.set n v) (ds.set n d)
  | _, _, _, _, _, .nil, _ => .nil
  | _, _, 0, _, _, .cons _ t, q => .cons q t
  | _, _, n + 1, _, _, .cons r t, q => .cons r (RpA.set n t q)
theorem RpA.reverse {H : Hp} {vs : List V} {ds : List D} (h : RpA H vs ds) : RpA H vs.reverse ds.reverse := by
  induction vs generalizing ds with
  | nil => cases h; exact .nil
  | cons v vs ih => cases h with | cons r t => rw [List.reverse_cons, List.reverse_cons]; exact (ih t).append (.cons r .nil)
theorem RpA.rep {H : Hp} {vs : List V} {ds : List D} (h : RpA H vs ds) : ∀ k : Nat, RpA H (List.replicate k vs).flatten (List.replicate k ds).flatten
  | 0 => .nil
  | k + 1 => by rw [List.replicate_succ, List.replicate_succ, List.flatten_cons, List.flatten_cons]; exact h.append (RpA.rep h k)
theorem RpA.ints {H : Hp} : ∀ (ns : List Int), RpA H (ns.map V.int) (ns.map PyData.int)
  | [] => .nil
  | n :: ns => .cons (.int n) (RpA.ints ns)
theorem RpA.intsE {H : Hp} : ∀ {ns : List Int} {vs : List V}, RpA H vs (ns.map PyData.int) → vs = ns.map V.int
  | [], _, h => by cases h; rfl
  | n :: ns, _, h => by cases h with | cons r t => cases r; rw [RpA.intsE t]; rfl
theorem RpA.boolsE {H : Hp} : ∀ {ns : List Bool} {vs : List V}, RpA H vs (ns.map PyData.bool) → vs = ns.map V.bl
  | [], _, h => by cases h; rfl
  | n :: ns, _, h => by cases h with | cons r t => cases r; rw [RpA.boolsE t]; rfl

/-! the hand layer's own relation, for == and in -/
mutual
theorem Rp.dp {K : PySem.W.Frag} {H : Hp} : ∀ (d : D) (v : V), d.canLay0 = true → Rp H v d → Dp K H v d
  | .none, _, _, h => by cases h; exact .non
  | .bool b, _, _, h => by cases h; exact .bl _
  | .int i, _, _, h => by cases h; exact .int _
  | .str x, _, _, h => by cases h; exact .str _
  | .list ds, _, c, h => by cases h with | lst h1 h2 h3 => exact .lst (.of h1) (RpA.dp ds _ (by simpa [PyData.canLay0] using c) h3)
  | .tuple ds, _, c, h => by cases h with | tup h1 h2 h3 => exact .tup (.of h1) (RpA.dp ds _ (by simpa [PyData.canLay0] using c) h3)
  | .dict ds, _, c, h => by simp [PyData.canLay0] at c
theorem RpA.dp {K : PySem.W.Frag} {H : Hp} : ∀ (ds : List D) (vs : List V), PyData.canLayAll0 ds = true → RpA H vs ds → DpAll K H vs ds
  | [], _, _, h => by cases h; exact .nil
  | d :: ds, _, c, h => by
    have c' : d.canLay0 = true ∧ PyData.canLayAll0 ds = true := by simpa [PyData.canLayAll0] using c
    cases h with | cons h1 h2 => exact .cons (Rp.dp d _ c'.1 h1) (RpA.dp ds _ c'.2 h2)
end

/-! ### the drawn numbers' source, as it stands -/
structure Src where
  slot : Option Nat
  cells : List Int
  left : Int
  mixed : Int
  turn : Int
def Src.obj (τ : Src) (c : Addr) : HO := .dK [(.inr "cells", .ref c), (.inr "left", .int τ.left), (.inr "mixed", .int τ.mixed), (.inr "turn", .int τ.turn)]
/-- the slot of the source, the dict's place, its list's place -/
abbrev SA := Option (Nat × Addr × Addr)
def NotSrc (sa : SA) (a : Addr) : Prop := ∀ i p c, sa = some (i, p, c) → a ≠ p ∧ a ≠ c
def SrcOk (sa : SA) (F H : Hp) (τ : Src) : Prop := ∀ i p c, sa = some (i, p, c) → H p = some (τ.obj c) ∧ H c = some (.lst (τ.cells.map V.int)) ∧ τ.cells.length ≤ sizeLine ∧ F p = none ∧ F c = none

/-- F, H go on to F', H': nothing that stood is changed -/
structure Grow (F H F' H' : Hp) : Prop where
  ff : Same F F'
  hh : Same H H'
  fh : Same F' H'
  nf : ∀ a, F a = none → H a ≠ none → F' a = none
/-- .. but for the source -/
structure Ext (sa : SA) (F H F' H' : Hp) : Prop where
  ff : Same F F'
  hh : ∀ a o, H a = some o → NotSrc sa a → H' a = some o
  nn : ∀ a, H a ≠ none → H' a ≠ none
  nf : ∀ a, F a = none → H a ≠ none → F' a = none
section
variable {F H F1 H1 F2 H2 : Hp} {sa : SA}
theorem nn_of {a : Addr} {o : HO} (e : H a = some o) : H a ≠ none := by rw [e]; simp
theorem Grow.refl (s : Same F H) : Grow F H F H := ⟨Same.refl _, Same.refl _, s, fun _ h _ => h⟩
theorem Grow.trans (a : Grow F H F1 H1) (b : Grow F1 H1 F2 H2) : Grow F H F2 H2 :=
  ⟨a.ff.trans b.ff, a.hh.trans b.hh, b.fh, fun c h1 h2 => b.nf c (a.nf c h1 h2) (by
    cases e : H c with
    | none => exact absurd e h2
    | some o => exact nn_of (a.hh c o e))⟩
theorem same_upd2 {p : Addr} {o : HO} (s : Same F H) (hp : H p = none) : Same (upd F p o) (upd H p o) := fun b x e => by
  by_cases h : b = p
  · subst h; rw [upd_same] at e ⊢; exact e
  · rw [upd_ne h] at e ⊢; exact s b x e
theorem same_new {p : Addr} {o : HO} (hp : H p = none) : Same H (upd H p o) := fun b x e => by rw [upd_ne (ne_of_none e hp)]; exact e
/-- a new object laid -/
theorem Grow.alloc {p : Addr} (s : Same F H) (hp : H p = none) (o : HO) : Grow F H (upd F p o) (upd H p o) :=
  ⟨same_new (s.free hp), same_new hp, same_upd2 s hp, fun a h1 h2 => by
    rw [upd_ne (fun e => h2 (by rw [e]; exact hp))]; exact h1⟩
/-- .. but not frozen -/
theorem Grow.own {p : Addr} (s : Same F H) (hp : H p = none) (o : HO) : Grow F H F (upd H p o) :=
  ⟨Same.refl _, same_new hp, s.trans (same_new hp), fun a h1 _ => h1⟩
theorem Grow.ext (g : Grow F H F1 H1) : Ext sa F H F1 H1 := ⟨g.ff, fun a o e _ => g.hh a o e, fun a h => by
  cases e : H a with
  | none => exact absurd e h
  | some o => exact nn_of (g.hh a o e), g.nf⟩
theorem Ext.refl : Ext sa F H F H := ⟨Same.refl _, fun _ _ e _ => e, fun _ h => h, fun _ h _ => h⟩
theorem Ext.trans (a : Ext sa F H F1 H1) (b : Ext sa F1 H1 F2 H2) : Ext sa F H F2 H2 :=
  ⟨a.ff.trans b.ff, fun c o e n => b.hh c o (a.hh c o e n) n, fun c h => b.nn c (a.nn c h), fun c h1 h2 => b.nf c (a.nf c h1 h2) (a.nn c h2)⟩
theorem SrcOk.grow {τ : Src} (k : SrcOk sa F H τ) (g : Grow F H F1 H1) : SrcOk sa F1 H1 τ := fun i p c e => by
  obtain ⟨h1, h2, h3, h4, h5⟩ := k i p c e
  exact ⟨g.hh _ _ h1, g.hh _ _ h2, h3, g.nf _ h4 (nn_of h1), g.nf _ h5 (nn_of h2)⟩
end

/-! ### what an expression sees -/
abbrev EnvD := List (Option D)
structure View (F : Hp) (sa : SA) (σ : L2.St) (H : Hp) (η : EnvD) (τ : Src) : Prop where
  fh : Same F H
  var : ∀ (i : Nat) (d : D), η[i]? = some (some d) → ∃ v, σ[i]? = some (some v) ∧ Rp F v d
  src : SrcOk sa F H τ
  len : η.length ≤ σ.length
  flag : sa.map (·.1) = τ.slot
  slot : ∀ (i : Nat) (p c : Addr), sa = some (i, p, c) → i < 2 ∧ σ[i]? = some (some (.ref p))
/-- .. behind what left it as it was -/
theorem View.back {F H F1 H1 : Hp} {sa : SA} {σ : L2.St} {η : EnvD} {τ τ1 : Src} (w : View F sa σ H η τ) (ff : Same F F1) (fh : Same F1 H1) (k : SrcOk sa F1 H1 τ1) (fl : sa.map (·.1) = τ1.slot) : View F1 sa σ H1 η τ1 :=
  ⟨fh, fun i d e => let ⟨v, h1, h2⟩ := w.var i d e; ⟨v, h1, Rp.mono ff _ _ h2⟩, k, w.len, fl, w.slot⟩
theorem View.grow {F H F1 H1 : Hp} {sa : SA} {σ : L2.St} {η : EnvD} {τ : Src} (w : View F sa σ H η τ) (g : Grow F H F1 H1) : View F1 sa σ H1 η τ :=
  ⟨g.fh, fun i d e => let ⟨v, h1, h2⟩ := w.var i d e; ⟨v, h1, Rp.mono g.ff _ _ h2⟩, w.src.grow g, w.len, w.flag, w.slot⟩

/-- the mirror of an expression -/
abbrev M (α : Type) := EnvD → Src → Option (α × Src)
def mPure {α : Type} (a : α) : M α := fun _ τ => some (a, τ)
def mBind {α β : Type} (f : M α) (g : α → M β) : M β := fun η τ => match f η τ with
  | some (a, τ1) => g a η τ1
  | none => none
def mLift {α : Type} (o : Option α) : M α := fun _ τ => match o with
  | some a => some (a, τ)
  | none => none
def mVar (i : Nat) : M D := fun η τ => match η[i]? with
  | some (some d) => some (d, τ)
  | _ => none
theorem mBind_some {α β : Type} {f : M α} {g : α → M β} {η : EnvD} {τ : Src} {b : β} {τ2 : Src} (h : mBind f g η τ = some (b, τ2)) : ∃ a τ1, f η τ = some (a, τ1) ∧ g a η τ1 = some (b, τ2) := by
  unfold mBind at h
  split at h
  · exact ⟨_, _, by assumption, h⟩
  · cases h
theorem mLift_some {α : Type} {o : Option α} {η : EnvD} {τ : Src} {b : α} {τ2 : Src} (h : mLift o η τ = some (b, τ2)) : o = some b ∧ τ2 = τ := by
  unfold mLift at h
  split at h
  · cases h; exact ⟨rfl, rfl⟩
  · cases h

/-! the readings -/
def tE (f : M D) : TE := fun σ H Q => ∃ F sa η τ d τ', View F sa σ H η τ ∧ f η τ = some (d, τ') ∧ ∀ F' H' v, Ext sa F H F' H' → View F' sa σ H' η τ' → Rp F' v d → Q v H'
def tT (f : M Bool) : TT := fun σ H Q => ∃ F sa η τ d τ', View F sa σ H η τ ∧ f η τ = some (d, τ') ∧ ∀ F' H', Ext sa F H F' H' → View F' sa σ H' η τ' → Q d H'
def tL (f : M (List D)) : TA := fun σ H Q => ∃ F sa η τ d τ', View F sa σ H η τ ∧ f η τ = some (d, τ') ∧ ∀ F' H' v, Ext sa F H F' H' → View F' sa σ H' η τ' → RpA F' v d → Q v H'
/-- a new list whose items are data; it is not frozen yet -/
def tN (f : M (List D)) : TE := fun σ H Q => ∃ F sa η τ d τ', View F sa σ H η τ ∧ f η τ = some (d, τ') ∧ ∀ F' H' a vs, Ext sa F H F' H' → View F' sa σ H' η τ' → H a = none → F' a = none → H' a = some (.lst vs) → vs.length ≤ sizeLine → NotSrc sa a → RpA F' vs d → Q (.ref a) H'

abbrev DE (X : Cx) (e : Expr) (f : M D) : Prop := PE X e (tE f)
abbrev DT (X : Cx) (e : Expr) (f : M Bool) : Prop := PT X e (tT f)
abbrev DW (X : Cx) (e : Expr) (f : M Bool) : Prop := PW X e (tT f)
abbrev DA (X : Cx) (es : List Expr) (f : M (List D)) : Prop := PA X es (tL f)
abbrev DN (X : Cx) (e : Expr) (f : M (List D)) : Prop := PE X e (tN f)

theorem pe_w {X : Cx} {e : Expr} {t t' : TE} (h : PE X e t) (w : ∀ σ H Q, t' σ H Q → t σ H Q) : PE X e t' := ⟨fun pins s σ H Q I k => h.run pins s σ H Q I (w σ H Q k)⟩
theorem pt_w {X : Cx} {e : Expr} {t t' : TT} (h : PT X e t) (w : ∀ σ H Q, t' σ H Q → t σ H Q) : PT X e t' := ⟨fun pins s σ H Q I k => h.run pins s σ H Q I (w σ H Q k)⟩
theorem pw_w {X : Cx} {e : Expr} {t t' : TT} (h : PW X e t) (w : ∀ σ H Q, t' σ H Q → t σ H Q) : PW X e t' := ⟨fun wh pins s σ H Q I k => h.run wh pins s σ H Q I (w σ H Q k)⟩
theorem pa_w {X : Cx} {es : List Expr} {t t' : TA} (h : PA X es t) (w : ∀ σ H Q, t' σ H Q → t σ H Q) : PA X es t' := ⟨fun pos pins s σ H Q I k => h.run pos pins s σ H Q I (w σ H Q k)⟩

section
variable {F H : Hp} {sa : SA} {σ : L2.St} {η : EnvD} {τ τ' : Src} {f : M D} {d : D} {Q : VK}
theorem tE.go (w : View F sa σ H η τ) (e : f η τ = some (d, τ')) (h : ∀ F' H' v, Ext sa F H F' H' → View F' sa σ H' η τ' → Rp F' v d → Q v H') : tE f σ H Q := ⟨F, sa, η, τ, d, τ', w, e, h⟩
theorem tL.go {f : M (List D)} {d : List D} {Q : List V → Hp → Prop} (w : View F sa σ H η τ) (e : f η τ = some (d, τ')) (h : ∀ F' H' v, Ext sa F H F' H' → View F' sa σ H' η τ' → RpA F' v d → Q v H') : tL f σ H Q := ⟨F, sa, η, τ, d, τ', w, e, h⟩
theorem tN.go {f : M (List D)} {d : List D} (w : View F sa σ H η τ) (e : f η τ = some (d, τ')) (h : ∀ F' H' a vs, Ext sa F H F' H' → View F' sa σ H' η τ' → H a = none → F' a = none → H' a = some (.lst vs) → vs.length ≤ sizeLine → NotSrc sa a → RpA F' vs d → Q (.ref a) H') : tN f σ H Q := ⟨F, sa, η, τ, d, τ', w, e, h⟩
theorem tT.go {f : M Bool} {d : Bool} {Q : Bool → Hp → Prop} (w : View F sa σ H η τ) (e : f η τ = some (d, τ')) (h : ∀ F' H', Ext sa F H F' H' → View F' sa σ H' η τ' → Q d H') : tT f σ H Q := ⟨F, sa, η, τ, d, τ', w, e, h⟩
end

/-! ### operators by values -/
/-- what an operator's rule asks is given by its mirror on data -/
def Op2 (r : R2) (o : D → D → Option D) : Prop := ∀ (x y : V) (dx dy d : D) (F H : Hp) (Q : VK), o dx dy = some d → Same F H → Rp F x dx → Rp F y dy → (∀ F' H' v, Grow F H F' H' → Rp F' v d → Q v H') → r x y H Q
def Op1 (r : V → Hp → VK → Prop) (o : D → Option D) : Prop := ∀ (x : V) (dx d : D) (F H : Hp) (Q : VK), o dx = some d → Same F H → Rp F x dx → (∀ F' H' v, Grow F H F' H' → Rp F' v d → Q v H') → r x H Q
def OpL (r : List V → Hp → VK → Prop) (o : List D → Option D) : Prop := ∀ (x : List V) (dx : List D) (d : D) (F H : Hp) (Q : VK), o dx = some d → Same F H → RpA F x dx → (∀ F' H' v, Grow F H F' H' → Rp F' v d → Q v H') → r x H Q
def mOp2 (o : D → D → Option D) (f g : M D) : M D := mBind f fun x => mBind g fun y => mLift (o x y)
def mOp1 (o : D → Option D) (f : M D) : M D := mBind f fun x => mLift (o x)
def mOpL (o : List D → Option D) (f : M (List D)) : M D := mBind f fun x => mLift (o x)
section
variable {X : Cx} {a b : Expr} {f g : M D} {pos : Pos}
/-- two readings in a row -/
theorem two {F H : Hp} {sa : SA} {σ : L2.St} {η : EnvD} {τ τ1 τ2 : Src} {x y : D} {R : V → V → Hp → Prop} (w : View F sa σ H η τ) (e1 : f η τ = some (x, τ1)) (e2 : g η τ1 = some (y, τ2))
    (h : ∀ F' H' u v, Ext sa F H F' H' → View F' sa σ H' η τ2 → Rp F' u x → Rp F' v y → R u v H') : tE f σ H fun u H1 => tE g σ H1 fun v H2 => R u v H2 :=
  tE.go w e1 fun _ _ u x1 w1 r1 => tE.go w1 e2 fun F2 H2 v x2 w2 r2 => h F2 H2 u v (x1.trans x2) w2 (Rp.mono x2.ff _ _ r1) r2
theorem tOp_of {r : R2} {o : D → D → Option D} (h : Op2 r o) : ∀ σ H Q, tE (mOp2 o f g) σ H Q → tOp r (tE f) (tE g) σ H Q := by
  rintro σ H Q ⟨F, sa, η, τ, d, τ', w, e, k⟩
  obtain ⟨x, τ1, e1, e⟩ := mBind_some e
  obtain ⟨y, τ2, e2, e⟩ := mBind_some e
  obtain ⟨e3, rfl⟩ := mLift_some e
  exact two w e1 e2 fun F' H' u v x1 w1 r1 r2 => h u v x y d F' H' Q e3 w1.fh r1 r2 fun F2 H2 z gr rz => k F2 H2 z (x1.trans gr.ext) (w1.grow gr) rz
theorem de_bin {op : Operator} {r : R2} {o : D → D → Option D} (ho : OpR X (binaryOp op) r) (h : Op2 r o) (ha : DE X a f) (hb : DE X b g) : DE X (.BinOp a op b pos) (mOp2 o f g) :=
  pe_w (pe_op ho ha hb) (tOp_of h)
theorem de_cmp {op : CmpOp} {r : R2} {o : D → D → Option D} (ho : OpR X (compareOp op) r) (h : Op2 r o) (ha : DE X a f) (hb : DE X b g) (hm : behindInMarks op b = false) : DE X (.Compare a [op] [b] pos) (mOp2 o f g) :=
  pe_w (pe_cmpR ho ha hb hm) (tOp_of h)
theorem de_un {op : UnaryOp} {r : V → Hp → VK → Prop} {o : D → Option D} (ho : UnR X (unaryOp op) r) (h : Op1 r o) (ha : DE X a f) : DE X (.UnaryOp op a pos) (mOp1 o f) := by
  refine pe_w (pe_un ho ha) ?_
  rintro σ H Q ⟨F, sa, η, τ, d, τ', w, e, k⟩
  obtain ⟨x, τ1, e1, e⟩ := mBind_some e
  obtain ⟨e3, rfl⟩ := mLift_some e
  exact tE.go w e1 fun F' H' u x1 w1 r1 => h u x d F' H' Q e3 w1.fh r1 fun F2 H2 z gr rz => k F2 H2 z (x1.trans gr.ext) (w1.grow gr) rz
/-- a value as a test: a bool -/
def bOf : D → Option Bool
  | .bool b => some b
  | _ => none
def mBool (f : M D) : M Bool := mBind f fun x => mLift (bOf x)
theorem bOf_some {d : D} {b : Bool} (h : bOf d = some b) : d = .bool b := by
  cases d <;> simp [bOf] at h; subst h; rfl
theorem dt_val {e : Expr} (h : DE X e f) (he : ∀ whole, isTrue e X.env whole = (do let v ← whole; standAt e.pos; holding [v] (truthy v)) := by intro _; rfl) : DT X e (mBool f) := by
  refine pt_w (pt_val h he) ?_
  rintro σ H Q ⟨F, sa, η, τ, d, τ', w, e, k⟩
  obtain ⟨x, τ1, e1, e⟩ := mBind_some e
  obtain ⟨e3, rfl⟩ := mLift_some e
  obtain rfl := bOf_some e3
  refine tE.go w e1 fun F' H' u x1 w1 r1 => ?_
  cases r1
  exact ⟨d, rfl, k F' H' x1 w1⟩
/-- a comparison as a test -/
theorem dt_cmp {op : CmpOp} {r : R2} {o : D → D → Option D} (ho : OpR X (compareOp op) r) (h : Op2 r o) (ha : DE X a f) (hb : DE X b g) (hm : behindInMarks op b = false) : DT X (.Compare a [op] [b] pos) (mBool (mOp2 o f g)) := by
  refine pt_w (pt_cmpR ho ha hb hm) ?_
  rintro σ H Q ⟨F, sa, η, τ, d, τ', w, e, k⟩
  obtain ⟨x, τ1, e1, e⟩ := mBind_some e
  obtain ⟨e3, rfl⟩ := mLift_some e
  obtain rfl := bOf_some e3
  refine tOp_of h σ H _ (tE.go w e1 fun F' H' u x1 w1 r1 => ?_)
  cases r1
  exact ⟨d, rfl, k F' H' x1 w1⟩
end

/-! ### names and constants -/
section
variable {X : Cx} {pos : Pos}
theorem de_var (i : Nat) {x : Str} (hN : X.N[i]? = some x := by rfl) (hv : Vis X.env.scope x := by first | exact Or.inl rfl | exact Or.inr (Or.inl rfl) | exact Or.inr (Or.inr rfl)) (hd : (x == ("__debug__" : Str)) = false := by decide)
    (hcd : (x == ("__classdict__" : Str)) = false := by decide) : DE X (.Name x pos) (mVar i) := by
  refine pe_w (pe_var hN hv hd hcd) ?_
  rintro σ H Q ⟨F, sa, η, τ, d, τ', w, e, k⟩
  unfold mVar at e
  split at e
  · rename_i z hz
    cases e
    obtain ⟨v, h1, h2⟩ := w.var i d hz
    exact ⟨v, h1, k F H v .refl w h2⟩
  · cases e
theorem de_const {e : Expr} {v : V} {d : D} (h : PE X e (tC v)) (r : ∀ F, Rp F v d) : DE X e (mPure d) := by
  refine pe_w h ?_
  rintro σ H Q ⟨F, sa, η, τ, d', τ', w, e, k⟩
  cases e
  exact k F H v .refl w (r F)
theorem de_int {i : Int} {j : Nat} : DE X (.Constant (.int i) j pos) (mPure (.int i)) := de_const pe_int fun _ => .int i
theorem de_bl {b : Bool} {j : Nat} : DE X (.Constant (.bool b) j pos) (mPure (.bool b)) := de_const pe_bl fun _ => .bl b
theorem de_non {j : Nat} : DE X (.Constant .none j pos) (mPure .none) := de_const pe_non fun _ => .non
theorem de_str {x : Str} {j : Nat} : DE X (.Constant (.str x) j pos) (mPure (.str x)) := de_const pe_str fun _ => .str x
end

/-! ### argument lists, displays -/
def mNil : M (List D) := mPure []
def mCons (f : M D) (g : M (List D)) : M (List D) := mBind f fun x => mBind g fun xs => mPure (x :: xs)
def seqOf : D → Option (List D)
  | .list ds => some ds
  | .tuple ds => some ds
  | _ => none
def mStar (f : M D) (g : M (List D)) : M (List D) := mBind f fun x => mBind (mLift (seqOf x)) fun ds => mBind g fun xs => mPure (ds ++ xs)
def okLen (xs : List D) : Option (List D) := if xs.length ≤ sizeLine then some xs else none
def mTup (g : M (List D)) : M D := mBind g fun xs => mLift ((okLen xs).map PyData.tuple)
def mLst (g : M (List D)) : M (List D) := mBind g fun xs => mLift (okLen xs)
/-- a new list, frozen at once -/
def mOfN (g : M (List D)) : M D := mBind g fun xs => mPure (.list xs)
theorem okLen_some {xs ys : List D} (h : okLen xs = some ys) : ys = xs ∧ xs.length ≤ sizeLine := by
  unfold okLen at h
  split at h
  · cases h; exact ⟨rfl, by assumption⟩
  · cases h
section
variable {X : Cx} {e : Expr} {es : List Expr} {f : M D} {g : M (List D)} {pos p : Pos}
theorem da_nil : DA X [] mNil := by
  refine pa_w pa_nil ?_
  rintro σ H Q ⟨F, sa, η, τ, d, τ', w, e, k⟩
  cases e
  exact k F H [] .refl w .nil
theorem da_cons (he : DE X e f) (hr : DA X es g) (hs : starEach (e :: es) X.env = (false, eval e X.env) :: starEach es X.env := by rfl) : DA X (e :: es) (mCons f g) := by
  refine pa_w (pa_cons he hr hs) ?_
  rintro σ H Q ⟨F, sa, η, τ, d, τ', w, e, k⟩
  obtain ⟨x, τ1, e1, e⟩ := mBind_some e
  obtain ⟨xs, τ2, e2, e⟩ := mBind_some e
  cases e
  exact tE.go w e1 fun F1 H1 u x1 w1 r1 => tL.go w1 e2 fun F2 H2 us x2 w2 r2 => k F2 H2 _ (x1.trans x2) w2 (.cons (Rp.mono x2.ff _ _ r1) r2)
theorem seq_at {F H : Hp} {K : PySem.W.Frag} {x : D} {v : V} {ds : List D} (s : Same F H) (h : seqOf x = some ds) (r : Rp F v x) : ∃ p xs, v = .ref p ∧ (SqT K H p xs ∨ SqL K H p xs) ∧ xs.length ≤ sizeLine ∧ RpA F xs ds := by
  cases x <;> simp only [seqOf, Option.some.injEq, reduceCtorEq] at h
  · subst h; cases r with | lst h1 h2 h3 => exact ⟨_, _, rfl, .inr (.of (s _ _ h1)), h2, h3⟩
  · subst h; cases r with | tup h1 h2 h3 => exact ⟨_, _, rfl, .inl (.of (s _ _ h1)), h2, h3⟩
theorem da_star (he : DE X e f) (hr : DA X es g) (hs : starEach (.Starred e p :: es) X.env = (true, eval e X.env) :: starEach es X.env := by rfl) : DA X (.Starred e p :: es) (mStar f g) := by
  refine pa_w (StX.pa_star he hr hs) ?_
  rintro σ H Q ⟨F, sa, η, τ, d, τ', w, e, k⟩
  obtain ⟨x, τ1, e1, e⟩ := mBind_some e
  obtain ⟨ds, τ2, e2, ea⟩ := mBind_some e
  obtain ⟨e4, rfl⟩ := mLift_some e2
  obtain ⟨xs, τ3, e3, eb⟩ := mBind_some ea
  cases eb
  refine tE.go w e1 fun F1 H1 u x1 w1 r1 => ?_
  obtain ⟨q, vs, rfl, hq, _, hr⟩ := seq_at (K := X.K) w1.fh e4 r1
  exact ⟨q, vs, rfl, hq, tL.go w1 e3 fun F2 H2 us x2 w2 r2 => k F2 H2 _ (x1.trans x2) w2 ((RpA.mono x2.ff _ _ hr).append r2)⟩
theorem de_tup {k : Nat} (h : DA X es g) : DE X (.Tuple es k pos) (mTup g) := by
  refine pe_w (pe_tup h) ?_
  rintro σ H Q ⟨F, sa, η, τ, d, τ', w, e, k⟩
  obtain ⟨xs, τ1, e1, e⟩ := mBind_some e
  obtain ⟨e2, rfl⟩ := mLift_some e
  obtain ⟨ys, e3, rfl⟩ := Option.map_eq_some_iff.mp e2
  obtain ⟨rfl, hl⟩ := okLen_some e3
  refine tL.go w e1 fun F1 H1 us x1 w1 r1 => ⟨by rw [r1.length]; exact hl, fun q hq => ?_⟩
  have gr := Grow.alloc w1.fh hq (.tup us)
  exact k _ _ _ (x1.trans gr.ext) (w1.grow gr) (.tup upd_same (by rw [r1.length]; exact hl) (RpA.mono gr.ff _ _ r1))
theorem notSrc_new {F H : Hp} {sa : SA} {τ : Src} {a : Addr} (k : SrcOk sa F H τ) (h : H a = none) : NotSrc sa a := fun i p c e => by
  obtain ⟨h1, h2, _⟩ := k i p c e
  exact ⟨fun z => (by rw [z, h1] at h; cases h), fun z => (by rw [z, h2] at h; cases h)⟩
theorem dn_lst (h : DA X es g) : DN X (.List es pos) (mLst g) := by
  refine pe_w (pe_lst h) ?_
  rintro σ H Q ⟨F, sa, η, τ, d, τ', w, e, k⟩
  obtain ⟨xs, τ1, e1, e⟩ := mBind_some e
  obtain ⟨e2, rfl⟩ := mLift_some e
  obtain ⟨rfl, hl⟩ := okLen_some e2
  refine tL.go w e1 fun F1 H1 us x1 w1 r1 => ⟨by rw [r1.length]; exact hl, fun q hq => ?_⟩
  have gr := Grow.own w1.fh hq (.lst us)
  have hq0 : H q = none := by
    cases z : H q with
    | none => rfl
    | some o => exact absurd hq (x1.nn q (nn_of z))
  exact k _ _ _ _ (x1.trans gr.ext) (w1.grow gr) hq0 (w1.fh.free hq) upd_same (by rw [r1.length]; exact hl) (notSrc_new w1.src hq) r1
/-- a new list as data -/
theorem de_ofN (h : DN X e g) : DE X e (mOfN g) := by
  refine pe_w h ?_
  rintro σ H Q ⟨F, sa, η, τ, d, τ', w, e, k⟩
  obtain ⟨xs, τ1, e1, e⟩ := mBind_some e
  cases e
  refine tN.go w e1 fun F1 H1 a us x1 w1 h0 hF hH hl hn r1 => ?_
  have sf : Same F1 (upd F1 a (.lst us)) := same_new hF
  have fh : Same (upd F1 a (.lst us)) H1 := fun b o z => by
    by_cases hb : b = a
    · subst hb; rw [upd_same] at z; rw [hH]; exact z
    · rw [upd_ne hb] at z; exact w1.fh b o z
  have ex : Ext sa F H (upd F1 a (.lst us)) H1 := ⟨x1.ff.trans sf, x1.hh, x1.nn, fun b z1 z2 => by
    have hb : b ≠ a := fun q => z2 (by rw [q]; exact h0)
    rw [upd_ne hb]; exact x1.nf b z1 z2⟩
  refine k _ _ _ ex ⟨fh, fun i d e => let ⟨v, h1, h2⟩ := w1.var i d e; ⟨v, h1, Rp.mono sf _ _ h2⟩, fun i p c e => ?_, w1.len, w1.flag, w1.slot⟩ (.lst upd_same hl (RpA.mono sf _ _ r1))
  obtain ⟨h1, h2, h3, h4, h5⟩ := w1.src i p c e
  obtain ⟨n1, n2⟩ := hn i p c e
  exact ⟨h1, h2, h3, by rw [upd_ne (Ne.symm n1)]; exact h4, by rw [upd_ne (Ne.symm n2)]; exact h5⟩
end
end DL

/-! DLb: the operators by their mirrors on data. -/
namespace DL
open PySem PySem.Spec PyProof.Rows L2

/-! ### arithmetic -/
def iOf : D → Option Int
  | .int i => some i
  | _ => none
theorem iOf_some {d : D} {i : Int} (h : iOf d = some i) : d = .int i := by
  cases d <;> simp [iOf] at h; subst h; rfl
def dI (g : Int → Int → D) (c : Int → Int → Bool) (x y : D) : Option D := match x, y with
  | .int i, .int j => if c i j = true then some (g i j) else none
  | _, _ => none
theorem dI_some {g : Int → Int → D} {c : Int → Int → Bool} {x y d : D} (h : dI g c x y = some d) : ∃ i j, x = .int i ∧ y = .int j ∧ c i j = true ∧ d = g i j := by
  unfold dI at h
  split at h
  · split at h
    · cases h; exact ⟨_, _, rfl, rfl, by assumption, rfl⟩
    · cases h
  · cases h
theorem op2_int {C : Int → Int → Prop} {g : Int → Int → V} {gd : Int → Int → D} {c : Int → Int → Bool} (hc : ∀ i j, c i j = true → C i j) (hg : ∀ F i j, Rp F (g i j) (gd i j)) : Op2 (rI C g) (dI gd c) := by
  intro x y dx dy d F H Q e s rx ry k
  obtain ⟨i, j, rfl, rfl, h, rfl⟩ := dI_some e
  cases rx
  cases ry
  exact ⟨i, j, rfl, rfl, hc i j h, k F H _ (.refl s) (hg F i j)⟩
theorem op2_int0 {g : Int → Int → V} {gd : Int → Int → D} (hg : ∀ F i j, Rp F (g i j) (gd i j)) : Op2 (rI0 g) (dI gd fun _ _ => true) := by
  intro x y dx dy d F H Q e s rx ry k
  obtain ⟨i, j, rfl, rfl, h, rfl⟩ := dI_some e
  cases rx
  cases ry
  exact ⟨i, j, rfl, rfl, k F H _ (.refl s) (hg F i j)⟩
/-- one rule or the other, one mirror or else the other -/
def dOr (o o' : D → D → Option D) (x y : D) : Option D := match o x y with
  | some d => some d
  | none => o' x y
theorem Op2.or {r r' : R2} {o o' : D → D → Option D} (h : Op2 r o) (h' : Op2 r' o') : Op2 (fun x y H Q => r x y H Q ∨ r' x y H Q) (dOr o o') := by
  intro x y dx dy d F H Q e s rx ry k
  unfold dOr at e
  split at e
  · rename_i z hz
    cases e
    exact .inl (h x y dx dy d F H Q hz s rx ry k)
  · exact .inr (h' x y dx dy d F H Q e s rx ry k)
def dCatL : D → D → Option D
  | .list xs, .list ys => if xs.length + ys.length ≤ sizeLine then some (.list (xs ++ ys)) else none
  | _, _ => none
theorem op2_catL : Op2 rCat dCatL := by
  intro x y dx dy d F H Q e s rx ry k
  unfold dCatL at e
  split at e
  · rename_i xs ys
    split at e
    · rename_i hl
      cases e
      cases rx with
      | @lst pa vs _ h1 h2 h3 =>
        cases ry with
        | @lst pb ws _ g1 g2 g3 =>
          have hz := h3.length
          have hz2 := g3.length
          refine ⟨_, _, _, _, rfl, rfl, s _ _ h1, s _ _ g1, by omega, fun p hp => ?_⟩
          have gr := Grow.alloc s hp (.lst (vs ++ ws))
          exact k _ _ _ gr (.lst upd_same (by rw [List.length_append]; omega) (RpA.mono gr.ff _ _ (h3.append g3)))
    · cases e
  · cases e
def dCatT : D → D → Option D
  | .tuple xs, .tuple ys => if xs.length + ys.length ≤ sizeLine then some (.tuple (xs ++ ys)) else none
  | _, _ => none
theorem op2_catT {K : PySem.W.Frag} : Op2 (rCatA K) dCatT := by
  intro x y dx dy d F H Q e s rx ry k
  unfold dCatT at e
  split at e
  · rename_i xs ys
    split at e
    · rename_i hl
      cases e
      cases rx with
      | @tup pa vs _ h1 h2 h3 =>
        cases ry with
        | @tup pb ws _ g1 g2 g3 =>
          have hz := h3.length
          have hz2 := g3.length
          refine ⟨_, _, _, _, rfl, rfl, .of (s _ _ h1), .of (s _ _ g1), by omega, fun e0 => ?_, fun _ e0 => ?_, fun _ _ p hp => ?_⟩
          · subst e0
            cases h3
            exact k F H _ (.refl s) (.tup g1 g2 g3)
          · subst e0
            cases g3
            rw [List.append_nil] at k
            exact k F H _ (.refl s) (.tup h1 h2 h3)
          · have gr := Grow.alloc s hp (.tup (vs ++ ws))
            exact k _ _ _ gr (.tup upd_same (by rw [List.length_append]; omega) (RpA.mono gr.ff _ _ (h3.append g3)))
    · cases e
  · cases e
def dStr : D → D → Option D
  | .str x, .str y => if x.length + y.length ≤ sizeLine then some (.str (x ++ y)) else none
  | _, _ => none
def dAdd : D → D → Option D := dOr (dI (fun i j => .int (i + j)) fun _ _ => true) (dOr dCatL dCatT)
def dSub : D → D → Option D := dI (fun i j => .int (i - j)) fun _ _ => true
def dFloor : D → D → Option D := dI (fun i j => .int (i / j)) fun _ j => decide (0 < j) && decide (j.natAbs.log2 < 9000)
def dMod : D → D → Option D := dI (fun i j => .int (i % j)) fun _ j => decide (0 < j)
def okPow (i j : Int) : Bool := decide (0 ≤ j) && decide (j ≤ 1000000) && decide (i.natAbs < 2 ^ 64)
def dPow : D → D → Option D := dI (fun i j => .int (i ^ j.toNat)) okPow
def dShl : D → D → Option D := dI (fun i j => .int (i * 2 ^ j.toNat)) okPow
theorem okPow_c {i j : Int} (h : okPow i j = true) : CPow i j := by
  unfold okPow at h
  simp only [Bool.and_eq_true, decide_eq_true_eq] at h
  exact ⟨h.1.1, h.1.2, h.2⟩
section
variable {X : Cx} {a b : Expr} {f g : M D} {pos : Pos}
theorem de_add (ha : DE X a f) (hb : DE X b g) : DE X (.BinOp a .Add b pos) (mOp2 dAdd f g) :=
  de_bin (op_add.or (op_cat.or op_catA)) ((op2_int0 fun _ _ _ => .int _).or (op2_catL.or op2_catT)) ha hb
theorem de_sub (ha : DE X a f) (hb : DE X b g) : DE X (.BinOp a .Sub b pos) (mOp2 dSub f g) := de_bin op_sub (op2_int0 fun _ _ _ => .int _) ha hb
theorem de_floor (ha : DE X a f) (hb : DE X b g) : DE X (.BinOp a .FloorDiv b pos) (mOp2 dFloor f g) := de_bin op_fdivW (op2_int (fun i j h => by
  simp only [Bool.and_eq_true, decide_eq_true_eq] at h
  exact ⟨h.1, h.2⟩) fun _ _ _ => .int _) ha hb
theorem de_mod (ha : DE X a f) (hb : DE X b g) : DE X (.BinOp a .Mod b pos) (mOp2 dMod f g) := de_bin op_mod (op2_int (fun i j h => of_decide_eq_true h) fun _ _ _ => .int _) ha hb
theorem de_pow (ha : DE X a f) (hb : DE X b g) : DE X (.BinOp a .Pow b pos) (mOp2 dPow f g) := de_bin op_pow (op2_int (fun _ _ => okPow_c) fun _ _ _ => .int _) ha hb
theorem de_shl (ha : DE X a f) (hb : DE X b g) : DE X (.BinOp a .LShift b pos) (mOp2 dShl f g) := de_bin op_shl (op2_int (fun _ _ => okPow_c) fun _ _ _ => .int _) ha hb
def dNeg (x : D) : Option D := (iOf x).map fun i => .int (-i)
theorem op1_neg : Op1 (rU fun i => .int (-i)) dNeg := by
  intro x dx d F H Q e s rx k
  obtain ⟨i, h1, rfl⟩ := Option.map_eq_some_iff.mp e
  obtain rfl := iOf_some h1
  cases rx
  exact ⟨i, rfl, k F H _ (.refl s) (.int _)⟩
theorem de_neg (ha : DE X a f) : DE X (.UnaryOp .USub a pos) (mOp1 dNeg f) := de_un un_neg op1_neg ha

/-! ### == and the order of ints -/
def okEq (x y : D) : Bool := SeqAt.shaped x && SeqAt.shaped y
def dEq (x y : D) : Option D := if okEq x y = true then some (.bool (PyData.eqv x y)) else none
def dNe (x y : D) : Option D := if okEq x y = true then some (.bool (!PyData.eqv x y)) else none
theorem lay_of {x : D} (h : SeqAt.shaped x = true) : x.canLay0 = true := SeqAt.canLay_of_shaped h
theorem op2_eq {K : PySem.W.Frag} : Op2 (rEqD K) dEq := by
  intro x y dx dy d F H Q e s rx ry k
  unfold dEq at e
  split at e
  · rename_i h
    cases e
    unfold okEq at h
    rw [Bool.and_eq_true] at h
    exact ⟨dx, dy, Rp.dp _ _ (lay_of h.1) (Rp.mono s _ _ rx), Rp.dp _ _ (lay_of h.2) (Rp.mono s _ _ ry), h.1, h.2, k F H _ (.refl s) (.bl _)⟩
  · cases e
theorem op2_ne {K : PySem.W.Frag} : Op2 (rNeD K) dNe := by
  intro x y dx dy d F H Q e s rx ry k
  unfold dNe at e
  split at e
  · rename_i h
    cases e
    unfold okEq at h
    rw [Bool.and_eq_true] at h
    exact ⟨dx, dy, Rp.dp _ _ (lay_of h.1) (Rp.mono s _ _ rx), Rp.dp _ _ (lay_of h.2) (Rp.mono s _ _ ry), h.1, h.2, k F H _ (.refl s) (.bl _)⟩
  · cases e
def dLt : D → D → Option D := dI (fun i j => .bool (decide (i < j))) fun _ _ => true
def dLe : D → D → Option D := dI (fun i j => .bool (decide (i ≤ j))) fun _ _ => true
def dGt : D → D → Option D := dI (fun i j => .bool (decide (j < i))) fun _ _ => true
def dGe : D → D → Option D := dI (fun i j => .bool (decide (j ≤ i))) fun _ _ => true
/-! ### in -/
def dIn (x y : D) : Option D := match seqOf y with
  | some ds => if okEq x y = true then some (.bool (ds.any fun z => PyData.eqv z x)) else none
  | none => none
def dNotIn (x y : D) : Option D := match seqOf y with
  | some ds => if okEq x y = true then some (.bool (!ds.any fun z => PyData.eqv z x)) else none
  | none => none
def rInS (K : PySem.W.Frag) : R2 := fun x y H Q => ∃ d c ds, Dp K H x d ∧ Dp K H y c ∧ seqOf c = some ds ∧ SeqAt.shaped d = true ∧ SeqAt.shaped c = true ∧ Q (.bl (ds.any fun z => PyData.eqv z d)) H
def rNotInS (K : PySem.W.Frag) : R2 := fun x y H Q => ∃ d c ds, Dp K H x d ∧ Dp K H y c ∧ seqOf c = some ds ∧ SeqAt.shaped d = true ∧ SeqAt.shaped c = true ∧ Q (.bl (!ds.any fun z => PyData.eqv z d)) H
theorem op_inS (hu : X.A.units + 65 < cLine) : OpR X (compareOp .In) (rInS X.K) := by
  intro pins s σ H x y v u Q I rx ry h
  obtain ⟨d, c, ds, hd, he, hs, sd, se, q⟩ := h
  obtain ⟨as, r1⟩ := Dp.reads I d x v hd rx
  obtain ⟨bs, r2⟩ := Dp.reads I c y u he ry
  cases c <;> simp only [seqOf, Option.some.injEq, reduceCtorEq] at hs
  · subst hs
    exact SeqAt.in_list_reads r2 r1 (SeqAt.canLay_of_shaped se) (SeqAt.canLay_of_shaped sd) (room_in_shaped sd hu) ⟨.bl _, H, I, rfl, q⟩
  · subst hs
    exact SeqAt.in_tuple_reads r2 r1 (SeqAt.canLay_of_shaped se) (SeqAt.canLay_of_shaped sd) (room_in_shaped sd hu) ⟨.bl _, H, I, rfl, q⟩
theorem op_notInS (hu : X.A.units + 65 < cLine) : OpR X (compareOp .NotIn) (rNotInS X.K) := by
  intro pins s σ H x y v u Q I rx ry h
  obtain ⟨d, c, ds, hd, he, hs, sd, se, q⟩ := h
  obtain ⟨as, r1⟩ := Dp.reads I d x v hd rx
  obtain ⟨bs, r2⟩ := Dp.reads I c y u he ry
  cases c <;> simp only [seqOf, Option.some.injEq, reduceCtorEq] at hs
  · subst hs
    exact SeqAt.notIn_list_reads r2 r1 (SeqAt.canLay_of_shaped se) (SeqAt.canLay_of_shaped sd) (room_in_shaped sd hu) ⟨.bl _, H, I, rfl, q⟩
  · subst hs
    exact SeqAt.notIn_tuple_reads r2 r1 (SeqAt.canLay_of_shaped se) (SeqAt.canLay_of_shaped sd) (room_in_shaped sd hu) ⟨.bl _, H, I, rfl, q⟩
theorem op2_in {K : PySem.W.Frag} : Op2 (rInS K) dIn := by
  intro x y dx dy d F H Q e s rx ry k
  unfold dIn at e
  split at e
  · rename_i ds hds
    split at e
    · rename_i h
      cases e
      unfold okEq at h
      rw [Bool.and_eq_true] at h
      exact ⟨dx, dy, ds, Rp.dp _ _ (lay_of h.1) (Rp.mono s _ _ rx), Rp.dp _ _ (lay_of h.2) (Rp.mono s _ _ ry), hds, h.1, h.2, k F H _ (.refl s) (.bl _)⟩
    · cases e
  · cases e
theorem op2_notIn {K : PySem.W.Frag} : Op2 (rNotInS K) dNotIn := by
  intro x y dx dy d F H Q e s rx ry k
  unfold dNotIn at e
  split at e
  · rename_i ds hds
    split at e
    · rename_i h
      cases e
      unfold okEq at h
      rw [Bool.and_eq_true] at h
      exact ⟨dx, dy, ds, Rp.dp _ _ (lay_of h.1) (Rp.mono s _ _ rx), Rp.dp _ _ (lay_of h.2) (Rp.mono s _ _ ry), hds, h.1, h.2, k F H _ (.refl s) (.bl _)⟩
    · cases e
  · cases e
/-! ### is None -/
def isN : D → Bool
  | .none => true
  | _ => false
def dIsN (x y : D) : Option D := if isN y = true then some (.bool (isN x)) else none
def dNotN (x y : D) : Option D := if isN y = true then some (.bool (!isN x)) else none
theorem isN_rp {F : Hp} {v : V} {d : D} (r : Rp F v d) : decide (v = .non) = isN d := by cases r <;> simp [isN]
theorem isN_v {F : Hp} {v : V} {d : D} (r : Rp F v d) (h : isN d = true) : v = .non := by
  have := isN_rp r
  rw [h] at this
  exact of_decide_eq_true this
theorem op2_isN : Op2 (fun x y H Q => y = .non ∧ Q (.bl (decide (x = .non))) H) dIsN := by
  intro x y dx dy d F H Q e s rx ry k
  unfold dIsN at e
  split at e
  · rename_i h
    cases e
    exact ⟨isN_v ry h, by rw [isN_rp rx]; exact k F H _ (.refl s) (.bl _)⟩
  · cases e
theorem op2_notN : Op2 (fun x y H Q => y = .non ∧ Q (.bl (!decide (x = .non))) H) dNotN := by
  intro x y dx dy d F H Q e s rx ry k
  unfold dNotN at e
  split at e
  · rename_i h
    cases e
    exact ⟨isN_v ry h, by rw [isN_rp rx]; exact k F H _ (.refl s) (.bl _)⟩
  · cases e
end

/-! ### and, or, not, if else -/
def mAnd (f g : M Bool) : M Bool := mBind f fun b => if b = true then g else mPure false
def mOr (f g : M Bool) : M Bool := mBind f fun b => if b = true then mPure true else g
def mNot (f : M Bool) : M Bool := mBind f fun b => mPure (!b)
def mIf {α : Type} (c : M Bool) (f g : M α) : M α := mBind c fun b => if b = true then f else g
def mAndV (f g : M D) : M D := mBind (mBool f) fun b => if b = true then g else mPure (.bool false)
def mOrV (f g : M D) : M D := mBind (mBool f) fun b => if b = true then mPure (.bool true) else g
def mNotV (f : M D) : M D := mBind (mBool f) fun b => mPure (.bool (!b))
theorem mBool_some {f : M D} {η : EnvD} {τ τ' : Src} {b : Bool} (h : mBool f η τ = some (b, τ')) : f η τ = some (.bool b, τ') := by
  unfold mBool at h
  obtain ⟨x, τ1, e1, e2⟩ := mBind_some h
  obtain ⟨e3, rfl⟩ := mLift_some e2
  rw [bOf_some e3] at e1
  exact e1
section
variable {X : Cx} {a b c : Expr} {rest : List Expr} {f g : M Bool} {u v : M D} {pos : Pos}
theorem dw_and1 (ha : DT X a f) : DW X (.BoolOp .And [a] pos) f := pw_and1 ha
theorem dw_or1 (ha : DT X a f) : DW X (.BoolOp .Or [a] pos) f := pw_or1 ha
theorem dw_and (ha : DT X a f) (hb : DW X (.BoolOp .And (b :: rest) pos) g) : DW X (.BoolOp .And (a :: b :: rest) pos) (mAnd f g) := by
  refine pw_w (pw_and ha hb) ?_
  rintro σ H Q ⟨F, sa, η, τ, d, τ', w, e, k⟩
  obtain ⟨x, τ1, e1, e2⟩ := mBind_some e
  refine tT.go w e1 fun F1 H1 x1 w1 => ?_
  cases x with
  | true => exact iteT (tT.go w1 e2 fun F2 H2 x2 w2 => k F2 H2 (x1.trans x2) w2)
  | false => cases e2; exact iteF (k F1 H1 x1 w1)
theorem dw_or (ha : DT X a f) (hb : DW X (.BoolOp .Or (b :: rest) pos) g) : DW X (.BoolOp .Or (a :: b :: rest) pos) (mOr f g) := by
  refine pw_w (pw_or ha hb) ?_
  rintro σ H Q ⟨F, sa, η, τ, d, τ', w, e, k⟩
  obtain ⟨x, τ1, e1, e2⟩ := mBind_some e
  refine tT.go w e1 fun F1 H1 x1 w1 => ?_
  cases x with
  | false => exact iteF (tT.go w1 e2 fun F2 H2 x2 w2 => k F2 H2 (x1.trans x2) w2)
  | true => cases e2; exact iteT (k F1 H1 x1 w1)
theorem dt_w (h : DW X a f) : DT X a f := h.pt
theorem dt_not (ha : DT X a f) : DT X (.UnaryOp .Not a pos) (mNot f) := by
  refine pt_w (pt_not ha) ?_
  rintro σ H Q ⟨F, sa, η, τ, d, τ', w, e, k⟩
  obtain ⟨x, τ1, e1, e2⟩ := mBind_some e
  cases e2
  exact tT.go w e1 fun F1 H1 x1 w1 => k F1 H1 x1 w1
theorem de_one {op : BoolOp} (h : DE X a u) : DE X (.BoolOp op [a] pos) u := pe_one h
theorem de_and (ha : DE X a u) (hb : DE X (.BoolOp .And (b :: rest) pos) v) : DE X (.BoolOp .And (a :: b :: rest) pos) (mAndV u v) := by
  refine pe_w (pe_and ha hb) ?_
  rintro σ H Q ⟨F, sa, η, τ, d, τ', w, e, k⟩
  obtain ⟨x, τ1, e1, e2⟩ := mBind_some e
  refine tE.go w (mBool_some e1) fun F1 H1 z x1 w1 r1 => ?_
  cases r1
  refine ⟨x, rfl, ?_⟩
  cases x with
  | true => exact iteT (tE.go w1 e2 fun F2 H2 z x2 w2 r2 => k F2 H2 z (x1.trans x2) w2 r2)
  | false => cases e2; exact iteF (k F1 H1 _ x1 w1 (.bl _))
theorem de_or (ha : DE X a u) (hb : DE X (.BoolOp .Or (b :: rest) pos) v) : DE X (.BoolOp .Or (a :: b :: rest) pos) (mOrV u v) := by
  refine pe_w (pe_or ha hb) ?_
  rintro σ H Q ⟨F, sa, η, τ, d, τ', w, e, k⟩
  obtain ⟨x, τ1, e1, e2⟩ := mBind_some e
  refine tE.go w (mBool_some e1) fun F1 H1 z x1 w1 r1 => ?_
  cases r1
  refine ⟨x, rfl, ?_⟩
  cases x with
  | false => exact iteF (tE.go w1 e2 fun F2 H2 z x2 w2 r2 => k F2 H2 z (x1.trans x2) w2 r2)
  | true => cases e2; exact iteT (k F1 H1 _ x1 w1 (.bl _))
theorem de_not (ha : DE X a u) : DE X (.UnaryOp .Not a pos) (mNotV u) := by
  refine pe_w (pe_not ha) ?_
  rintro σ H Q ⟨F, sa, η, τ, d, τ', w, e, k⟩
  obtain ⟨x, τ1, e1, e2⟩ := mBind_some e
  cases e2
  refine tE.go w (mBool_some e1) fun F1 H1 z x1 w1 r1 => ?_
  cases r1
  exact ⟨x, rfl, k F1 H1 _ x1 w1 (.bl _)⟩
theorem de_if (hc : DT X c f) (ha : DE X a u) (hb : DE X b v) : DE X (.IfExp c a b pos) (mIf f u v) := by
  refine pe_w (pe_ifExp hc ha hb) ?_
  rintro σ H Q ⟨F, sa, η, τ, d, τ', w, e, k⟩
  obtain ⟨x, τ1, e1, e2⟩ := mBind_some e
  refine tT.go w e1 fun F1 H1 x1 w1 => ?_
  cases x with
  | true => exact iteT (tE.go w1 e2 fun F2 H2 z x2 w2 r2 => k F2 H2 z (x1.trans x2) w2 r2)
  | false => exact iteF (tE.go w1 e2 fun F2 H2 z x2 w2 r2 => k F2 H2 z (x1.trans x2) w2 r2)
/-! ### chains: a < b < c -/
def mChain (o o' : D → D → Option D) (p q r : M D) : M D := mBind p fun x => mBind q fun y => mBind (mLift ((o x y).bind bOf)) fun k => if k = true then mBind r fun z => mLift (o' y z) else mPure (.bool false)
end

/-! ### items, slices -/
def dIx (x y : D) : Option D := match seqOf x, y with
  | some ds, .int i => atI ds i
  | _, _ => none
theorem rpA_atI {F : Hp} {vs : List V} {ds : List D} {i : Int} {d : D} (r : RpA F vs ds) (h : atI ds i = some d) : ∃ v, atI vs i = some v ∧ Rp F v d := by
  unfold atI at h ⊢
  rw [r.length]
  cases e : ixN ds.length i with
  | none => rw [e] at h; cases h
  | some j => rw [e] at h; exact r.get h
theorem op2_ix {K : PySem.W.Frag} : Op2 (rIx K) dIx := by
  intro x y dx dy d F H Q e s rx ry k
  unfold dIx at e
  split at e
  · rename_i ds i hds
    cases ry
    cases dx <;> simp only [seqOf, Option.some.injEq, reduceCtorEq] at hds
    · subst hds
      cases rx with
      | lst h1 h2 h3 =>
        obtain ⟨v, hv, rv⟩ := rpA_atI h3 e
        exact .inl ⟨_, _, i, v, rfl, rfl, .of (s _ _ h1), hv, k F H v (.refl s) rv⟩
    · subst hds
      cases rx with
      | tup h1 h2 h3 =>
        obtain ⟨v, hv, rv⟩ := rpA_atI h3 e
        exact .inr (.inl ⟨_, _, i, v, rfl, rfl, .of (s _ _ h1), hv, k F H v (.refl s) rv⟩)
  · cases e
def cutD (ds : List D) (lo hi : Option Int) : List D := (ds.drop (HT.sIx ds.length 0 lo)).take (HT.sIx ds.length ds.length hi - HT.sIx ds.length 0 lo)
theorem rpA_cut {F : Hp} {vs : List V} {ds : List D} {lo hi : Option Int} (r : RpA F vs ds) : RpA F (cutV vs lo hi) (cutD ds lo hi) := by
  unfold cutV cutD
  rw [r.length]
  exact (r.drop _).take _
theorem cutD_whole {ds : List D} {lo hi : Option Int} (h : HT.sIx ds.length 0 lo = 0 ∧ HT.sIx ds.length ds.length hi = ds.length) : cutD ds lo hi = ds := by
  unfold cutD
  rw [h.1, h.2, List.drop_zero, Nat.sub_zero, List.take_length]
def mNoPart : M (Option Int) := mPure none
def mPart (f : M D) : M (Option Int) := mBind f fun x => mLift ((iOf x).map some)
def tO (f : M (Option Int)) : TO := fun σ H Q => ∃ F sa η τ d τ', View F sa σ H η τ ∧ f η τ = some (d, τ') ∧ ∀ F' H', Ext sa F H F' H' → View F' sa σ H' η τ' → Q d H'
abbrev DO (X : Cx) (e : Option Expr) (f : M (Option Int)) : Prop := PO X e (tO f)
def dCut (x : D) (lo hi : Option Int) : Option D := match x with
  | .tuple ds => some (.tuple (cutD ds lo hi))
  | .list ds => some (.list (cutD ds lo hi))
  | _ => none
def mSlice (f : M D) (l h : M (Option Int)) : M D := mBind f fun x => mBind l fun lo => mBind h fun hi => mLift (dCut x lo hi)
section
variable {X : Cx} {a b : Expr} {lo hi : Option Expr} {f g : M D} {l h : M (Option Int)} {pos p2 : Pos}
theorem de_ix (ha : DE X a f) (hb : DE X b g) (hs : PlainIx b) : DE X (.Subscript a b pos) (mOp2 dIx f g) := pe_w (pe_ix ix_seq ha hb hs) (tOp_of op2_ix)
theorem do_none : DO X none mNoPart := by
  refine ⟨fun pins s σ H Q I hw => ?_⟩
  obtain ⟨F, sa, η, τ, d, τ', w, e, k⟩ := hw
  cases e
  exact po_none.run pins s σ H Q I (k F H .refl w)
theorem do_some (he : DE X a f) : DO X (some a) (mPart f) := by
  refine ⟨fun pins s σ H Q I hw => (po_some he).run pins s σ H Q I ?_⟩
  obtain ⟨F, sa, η, τ, d, τ', w, e, k⟩ := hw
  obtain ⟨x, τ1, e1, e2⟩ := mBind_some e
  obtain ⟨e3, rfl⟩ := mLift_some e2
  obtain ⟨i, e4, rfl⟩ := Option.map_eq_some_iff.mp e3
  obtain rfl := iOf_some e4
  refine tE.go w e1 fun F1 H1 z x1 w1 r1 => ?_
  cases r1
  exact ⟨i, rfl, k F1 H1 x1 w1⟩
theorem cut_ok {K : PySem.W.Frag} {x : V} {dx d : D} {lo hi : Option Int} {F H : Hp} {Q : VK} (e : dCut dx lo hi = some d) (s : Same F H) (rx : Rp F x dx) (k : ∀ F' H' v, Grow F H F' H' → Rp F' v d → Q v H') : rSlL K x lo hi H Q ∨ rSlA K x lo hi H Q := by
  unfold dCut at e
  split at e
  · cases e
    cases rx with
    | @tup pa vs _ h1 h2 h3 =>
      refine .inr ⟨_, _, rfl, .of (s _ _ h1), fun hw => ?_, fun hw p hp => ?_⟩
      · rw [h3.length] at hw
        rw [cutD_whole hw] at k
        exact k F H _ (.refl s) (.tup h1 h2 h3)
      · have gr := Grow.alloc s hp (.tup (cutV vs lo hi))
        exact k _ _ _ gr (.tup upd_same (Nat.le_trans (cutV_length _ _ _) h2) (RpA.mono gr.ff _ _ (rpA_cut h3)))
  · cases e
    cases rx with
    | @lst pa vs _ h1 h2 h3 =>
      refine .inl ⟨_, _, rfl, .of (s _ _ h1), fun p hp => ?_⟩
      have gr := Grow.alloc s hp (.lst (cutV vs lo hi))
      exact k _ _ _ gr (.lst upd_same (Nat.le_trans (cutV_length _ _ _) h2) (RpA.mono gr.ff _ _ (rpA_cut h3)))
  · cases e
theorem de_slice (he : DE X a f) (hl : DO X lo l) (hh : DO X hi h) : DE X (.Subscript a (.Slice lo hi none p2) pos) (mSlice f l h) := by
  refine pe_w (pe_slice (sl_list.or sl_tupA) he hl hh) ?_
  rintro σ H Q ⟨F, sa, η, τ, d, τ', w, e, k⟩
  obtain ⟨x, τ1, e1, ea⟩ := mBind_some e
  obtain ⟨i, τ2, e2, eb⟩ := mBind_some ea
  obtain ⟨j, τ3, e3, ec⟩ := mBind_some eb
  obtain ⟨e4, rfl⟩ := mLift_some ec
  refine tE.go w e1 fun F1 H1 z x1 w1 r1 => ⟨F1, sa, η, τ1, i, τ2, w1, e2, fun F2 H2 x2 w2 => ⟨F2, sa, η, τ2, j, τ', w2, e3, fun F3 H3 x3 w3 => ?_⟩⟩
  exact cut_ok e4 w3.fh (Rp.mono (x2.ff.trans x3.ff) _ _ r1) fun F4 H4 v gr rv => k F4 H4 v ((x1.trans (x2.trans x3)).trans gr.ext) (w3.grow gr) rv
/-- a slice of a list as a new list -/
def lOf : D → Option (List D)
  | .list ds => some ds
  | _ => none
def mSliceN (f : M D) (l h : M (Option Int)) : M (List D) := mBind f fun x => mBind (mLift (lOf x)) fun ds => mBind l fun lo => mBind h fun hi => mPure (cutD ds lo hi)
theorem lOf_some {x : D} {ds : List D} (h : lOf x = some ds) : x = .list ds := by
  cases x <;> simp only [lOf, Option.some.injEq, reduceCtorEq] at h; subst h; rfl
theorem dn_slice (he : DE X a f) (hl : DO X lo l) (hh : DO X hi h) : DN X (.Subscript a (.Slice lo hi none p2) pos) (mSliceN f l h) := by
  refine pe_w (pe_slice sl_list he hl hh) ?_
  rintro σ H Q ⟨F, sa, η, τ, d, τ', w, e, k⟩
  obtain ⟨x, τ1, e1, ea⟩ := mBind_some e
  obtain ⟨ds, τ0, e0, ea'⟩ := mBind_some ea
  obtain ⟨e9, rfl⟩ := mLift_some e0
  obtain rfl := lOf_some e9
  obtain ⟨i, τ2, e2, eb⟩ := mBind_some ea'
  obtain ⟨j, τ3, e3, ec⟩ := mBind_some eb
  cases ec
  refine tE.go w e1 fun F1 H1 z x1 w1 r1 => ⟨F1, sa, η, _, i, τ2, w1, e2, fun F2 H2 x2 w2 => ⟨F2, sa, η, τ2, j, τ', w2, e3, fun F3 H3 x3 w3 => ?_⟩⟩
  have r1' := Rp.mono (x2.ff.trans x3.ff) _ _ r1
  cases r1' with
  | @lst pa vs _ h1 h2 h3 =>
    refine ⟨_, _, rfl, .of (w3.fh _ _ h1), fun p hp => ?_⟩
    have gr := Grow.own w3.fh hp (.lst (cutV vs i j))
    have xx := x1.trans (x2.trans x3)
    have hp0 : H p = none := by
      cases z : H p with
      | none => rfl
      | some o => exact absurd hp (xx.nn p (nn_of z))
    exact k _ _ _ _ (xx.trans gr.ext) (w3.grow gr) hp0 (w3.fh.free hp) upd_same (Nat.le_trans (cutV_length _ _ _) h2) (notSrc_new w3.src hp) (rpA_cut h3)
end
end DL

/-! DLc: calls of built-ins, what is walked, comprehensions. -/
namespace DL
open PySem PySem.Spec PyProof.Rows L2

section
variable {X : Cx} {a b : Expr} {f g : M D} {pos : Pos}
theorem de_eq (hu : X.A.units + 65 < cLine) (ha : DE X a f) (hb : DE X b g) : DE X (.Compare a [.Eq] [b] pos) (mOp2 dEq f g) := de_cmp (op_eqD (by omega)) op2_eq ha hb (nomark _)
theorem de_ne (hu : X.A.units + 65 < cLine) (ha : DE X a f) (hb : DE X b g) : DE X (.Compare a [.NotEq] [b] pos) (mOp2 dNe f g) := de_cmp (op_neD (by omega)) op2_ne ha hb (nomark _)
theorem de_lt (ha : DE X a f) (hb : DE X b g) : DE X (.Compare a [.Lt] [b] pos) (mOp2 dLt f g) := de_cmp op_lt (op2_int0 fun _ _ _ => .bl _) ha hb (nomark _)
theorem de_le (ha : DE X a f) (hb : DE X b g) : DE X (.Compare a [.LtE] [b] pos) (mOp2 dLe f g) := de_cmp op_le (op2_int0 fun _ _ _ => .bl _) ha hb (nomark _)
theorem de_gt (ha : DE X a f) (hb : DE X b g) : DE X (.Compare a [.Gt] [b] pos) (mOp2 dGt f g) := de_cmp op_gt (op2_int0 fun _ _ _ => .bl _) ha hb (nomark _)
theorem de_ge (ha : DE X a f) (hb : DE X b g) : DE X (.Compare a [.GtE] [b] pos) (mOp2 dGe f g) := de_cmp op_ge (op2_int0 fun _ _ _ => .bl _) ha hb (nomark _)
theorem de_in (hu : X.A.units + 65 < cLine) (ha : DE X a f) (hb : DE X b g) (hm : behindInMarks .In b = false := by rfl) : DE X (.Compare a [.In] [b] pos) (mOp2 dIn f g) := de_cmp (op_inS hu) op2_in ha hb hm
theorem de_notIn (hu : X.A.units + 65 < cLine) (ha : DE X a f) (hb : DE X b g) (hm : behindInMarks .NotIn b = false := by rfl) : DE X (.Compare a [.NotIn] [b] pos) (mOp2 dNotIn f g) := de_cmp (op_notInS hu) op2_notIn ha hb hm
theorem de_is (ha : DE X a f) (hb : DE X b g) : DE X (.Compare a [.Is] [b] pos) (mOp2 dIsN f g) := de_cmp op_isN op2_isN ha hb (nomark _)
theorem de_isnot (ha : DE X a f) (hb : DE X b g) : DE X (.Compare a [.IsNot] [b] pos) (mOp2 dNotN f g) := de_cmp op_notN op2_notN ha hb (nomark _)
theorem dt_eq (hu : X.A.units + 65 < cLine) (ha : DE X a f) (hb : DE X b g) : DT X (.Compare a [.Eq] [b] pos) (mBool (mOp2 dEq f g)) := dt_cmp (op_eqD (by omega)) op2_eq ha hb (nomark _)
theorem dt_ne (hu : X.A.units + 65 < cLine) (ha : DE X a f) (hb : DE X b g) : DT X (.Compare a [.NotEq] [b] pos) (mBool (mOp2 dNe f g)) := dt_cmp (op_neD (by omega)) op2_ne ha hb (nomark _)
theorem dt_lt (ha : DE X a f) (hb : DE X b g) : DT X (.Compare a [.Lt] [b] pos) (mBool (mOp2 dLt f g)) := dt_cmp op_lt (op2_int0 fun _ _ _ => .bl _) ha hb (nomark _)
theorem dt_le (ha : DE X a f) (hb : DE X b g) : DT X (.Compare a [.LtE] [b] pos) (mBool (mOp2 dLe f g)) := dt_cmp op_le (op2_int0 fun _ _ _ => .bl _) ha hb (nomark _)
theorem dt_gt (ha : DE X a f) (hb : DE X b g) : DT X (.Compare a [.Gt] [b] pos) (mBool (mOp2 dGt f g)) := dt_cmp op_gt (op2_int0 fun _ _ _ => .bl _) ha hb (nomark _)
theorem dt_ge (ha : DE X a f) (hb : DE X b g) : DT X (.Compare a [.GtE] [b] pos) (mBool (mOp2 dGe f g)) := dt_cmp op_ge (op2_int0 fun _ _ _ => .bl _) ha hb (nomark _)
theorem dt_in (hu : X.A.units + 65 < cLine) (ha : DE X a f) (hb : DE X b g) (hm : behindInMarks .In b = false := by rfl) : DT X (.Compare a [.In] [b] pos) (mBool (mOp2 dIn f g)) := dt_cmp (op_inS hu) op2_in ha hb hm
theorem dt_notIn (hu : X.A.units + 65 < cLine) (ha : DE X a f) (hb : DE X b g) (hm : behindInMarks .NotIn b = false := by rfl) : DT X (.Compare a [.NotIn] [b] pos) (mBool (mOp2 dNotIn f g)) := dt_cmp (op_notInS hu) op2_notIn ha hb hm
theorem dt_is (ha : DE X a f) (hb : DE X b g) : DT X (.Compare a [.Is] [b] pos) (mBool (mOp2 dIsN f g)) := dt_cmp op_isN op2_isN ha hb (nomark _)
theorem dt_isnot (ha : DE X a f) (hb : DE X b g) : DT X (.Compare a [.IsNot] [b] pos) (mBool (mOp2 dNotN f g)) := dt_cmp op_notN op2_notN ha hb (nomark _)
end

/-! ### built-in functions and types by name -/
section
variable {X : Cx} {x : Str} {p pos : Pos} {e : Expr} {es : List Expr} {g : M (List D)} {id T : String} {r : List V → Hp → VK → Prop} {o : List D → Option D}
theorem tCB_of (h : OpL r o) : ∀ σ H Q, tE (mOpL o g) σ H Q → tCB r (tL g) σ H Q := by
  rintro σ H Q ⟨F, sa, η, τ, d, τ', w, e, k⟩
  obtain ⟨xs, τ1, e1, ea⟩ := mBind_some e
  obtain ⟨e3, rfl⟩ := mLift_some ea
  exact tL.go w e1 fun F' H' u x1 w1 r1 => h u xs d F' H' Q e3 w1.fh r1 fun F2 H2 z gr rz => k F2 H2 z (x1.trans gr.ext) (w1.grow gr) rz
theorem de_callB (hc : CallR X (.builtin id) r) (h : OpL r o) (hg : Gl X x) (hm : X.mg x = none) (hv : bootBuiltins x = some (.builtin id)) (ha : DA X (e :: es) g) (hn : x ≠ "__name__" := by decide) (hdb : (x == ("__debug__" : Str)) = false := by decide)
    (he : starEach (e :: es) X.env = (false, eval e X.env) :: starEach es X.env := by rfl) (hpl : (backTo pos (starEach es X.env)).any (·.1) = false := by rfl) : DE X (.Call (.Name x p) (e :: es) [] pos) (mOpL o g) :=
  pe_w (pe_callB hc hg hm hv ha hn hdb he hpl) (tCB_of h)
theorem de_callTy (hc : CallR X (.type T) r) (h : OpL r o) (hg : Gl X x) (hm : X.mg x = none) (hv : bootBuiltins x = some (.type T)) (ha : DA X (e :: es) g) (hn : x ≠ "__name__" := by decide) (hdb : (x == ("__debug__" : Str)) = false := by decide)
    (he : starEach (e :: es) X.env = (false, eval e X.env) :: starEach es X.env := by rfl) (hpl : (backTo pos (starEach es X.env)).any (·.1) = false := by rfl) : DE X (.Call (.Name x p) (e :: es) [] pos) (mOpL o g) :=
  pe_w (pe_callTy hc hg hm hv ha hn hdb he hpl) (tCB_of h)
theorem rpA_nil {F : Hp} {vs : List V} (r : RpA F vs []) : vs = [] := by cases r; rfl
theorem rpA_one {F : Hp} {vs : List V} {d : D} (r : RpA F vs [d]) : ∃ v, vs = [v] ∧ Rp F v d := by
  cases r with | cons h t => cases t; exact ⟨_, rfl, h⟩
theorem rpA_two {F : Hp} {vs : List V} {d d' : D} (r : RpA F vs [d, d']) : ∃ v v', vs = [v, v'] ∧ Rp F v d ∧ Rp F v' d' := by
  cases r with | cons h t => obtain ⟨v, rfl, h2⟩ := rpA_one t; exact ⟨_, _, rfl, h, h2⟩
theorem OpL.or {r r' : List V → Hp → VK → Prop} {o o' : List D → Option D} (h : OpL r o) (h' : OpL r' o') : OpL (fun xs H Q => r xs H Q ∨ r' xs H Q) (fun ds => match o ds with
    | some d => some d
    | none => o' ds) := by
  intro x dx d F H Q e s rx k
  simp only at e
  split at e
  · rename_i z hz
    cases e
    exact .inl (h x dx d F H Q hz s rx k)
  · exact .inr (h' x dx d F H Q e s rx k)
/-- len -/
def dLen : List D → Option D
  | [x] => (seqOf x).map fun ds => .int (ds.length : Nat)
  | _ => none
theorem opl_len {K : PySem.W.Frag} : OpL (fun xs H Q => ∃ p ys, xs = [.ref p] ∧ (SqL K H p ys ∨ SqT K H p ys) ∧ Q (.int ys.length) H) dLen := by
  intro x dx d F H Q e s rx k
  unfold dLen at e
  split at e
  · obtain ⟨v, rfl, r1⟩ := rpA_one rx
    obtain ⟨ds, h1, rfl⟩ := Option.map_eq_some_iff.mp e
    obtain ⟨p, xs, rfl, hq, _, hr⟩ := seq_at (K := K) s h1 r1
    exact ⟨p, xs, rfl, hq.symm, by rw [hr.length]; exact k F H _ (.refl s) (.int _)⟩
  · cases e
theorem de_len (hg : Gl X "len") (hm : X.mg "len" = none) (ha : DA X (e :: es) g) (he : starEach (e :: es) X.env = (false, eval e X.env) :: starEach es X.env := by rfl) (hpl : (backTo pos (starEach es X.env)).any (·.1) = false := by rfl) : DE X (.Call (.Name "len" p) (e :: es) [] pos) (mOpL dLen g) :=
  de_callB call_len_seq opl_len hg hm PySem.boot_len ha (by decide) (by decide) he hpl
/-- of ints alone -/
def dL1 (h : Int → D) : List D → Option D
  | [x] => (iOf x).map h
  | _ => none
def dL2 (h : Int → Int → D) : List D → Option D
  | [x, y] => (iOf x).bind fun i => (iOf y).map fun j => h i j
  | _ => none
theorem dL1_some {h : Int → D} {ds : List D} {d : D} (e : dL1 h ds = some d) : ∃ i, ds = [.int i] ∧ d = h i := by
  unfold dL1 at e
  split at e
  · obtain ⟨i, h1, rfl⟩ := Option.map_eq_some_iff.mp e
    exact ⟨i, by rw [iOf_some h1], rfl⟩
  · cases e
theorem dL2_some {h : Int → Int → D} {ds : List D} {d : D} (e : dL2 h ds = some d) : ∃ i j, ds = [.int i, .int j] ∧ d = h i j := by
  unfold dL2 at e
  split at e
  · obtain ⟨i, h1, e2⟩ := Option.bind_eq_some_iff.mp e
    obtain ⟨j, h2, rfl⟩ := Option.map_eq_some_iff.mp e2
    exact ⟨i, j, by rw [iOf_some h1, iOf_some h2], rfl⟩
  · cases e
def dAbs : List D → Option D := dL1 fun i => .int (if i < 0 then -i else i)
def dInt : List D → Option D := dL1 .int
def dMin2 : List D → Option D := dL2 fun i j => .int (if j < i then j else i)
def dMax2 : List D → Option D := dL2 fun i j => .int (if j > i then j else i)
theorem opl_1 {h : Int → Int} : OpL (fun xs H Q => ∃ i, xs = [.int i] ∧ Q (.int (h i)) H) (dL1 fun i => .int (h i)) := by
  intro x dx d F H Q e s rx k
  obtain ⟨i, rfl, rfl⟩ := dL1_some e
  obtain ⟨v, rfl, r1⟩ := rpA_one rx
  cases r1
  exact ⟨i, rfl, k F H _ (.refl s) (.int _)⟩
theorem opl_2 {h : Int → Int → Int} : OpL (fun xs H Q => ∃ i j, xs = [.int i, .int j] ∧ Q (.int (h i j)) H) (dL2 fun i j => .int (h i j)) := by
  intro x dx d F H Q e s rx k
  obtain ⟨i, j, rfl, rfl⟩ := dL2_some e
  obtain ⟨v, v', rfl, r1, r2⟩ := rpA_two rx
  cases r1
  cases r2
  exact ⟨i, j, rfl, k F H _ (.refl s) (.int _)⟩
theorem de_abs (hg : Gl X "abs") (hm : X.mg "abs" = none) (ha : DA X [e] g) (he : starEach [e] X.env = (false, eval e X.env) :: starEach [] X.env := by rfl) : DE X (.Call (.Name "abs" p) [e] [] pos) (mOpL dAbs g) :=
  de_callB call_abs opl_1 hg hm (by decide +kernel) ha (by decide) (by decide) he rfl
theorem de_intC (hg : Gl X "int") (hm : X.mg "int" = none) (ha : DA X [e] g) (he : starEach [e] X.env = (false, eval e X.env) :: starEach [] X.env := by rfl) : DE X (.Call (.Name "int" p) [e] [] pos) (mOpL dInt g) :=
  de_callTy call_int1 (fun x dx d F H Q e s rx k => .inl (opl_1 (h := id) x dx d F H Q e s rx k)) hg hm (by decide +kernel) ha (by decide) (by decide) he rfl
theorem de_min2 {e2 : Expr} (hc : X.calm = true) (hg : Gl X "min") (hm : X.mg "min" = none) (ha : DA X [e, e2] g) (he : starEach [e, e2] X.env = (false, eval e X.env) :: starEach [e2] X.env := by rfl) (hpl : (backTo pos (starEach [e2] X.env)).any (·.1) = false := by rfl) : DE X (.Call (.Name "min" p) [e, e2] [] pos) (mOpL dMin2 g) :=
  de_callB (call_min2 hc) opl_2 hg hm (by decide +kernel) ha (by decide) (by decide) he hpl
theorem de_max2 {e2 : Expr} (hc : X.calm = true) (hg : Gl X "max") (hm : X.mg "max" = none) (ha : DA X [e, e2] g) (he : starEach [e, e2] X.env = (false, eval e X.env) :: starEach [e2] X.env := by rfl) (hpl : (backTo pos (starEach [e2] X.env)).any (·.1) = false := by rfl) : DE X (.Call (.Name "max" p) [e, e2] [] pos) (mOpL dMax2 g) :=
  de_callB (call_max2 hc) opl_2 hg hm (by decide +kernel) ha (by decide) (by decide) he hpl
/-! lists of ints, of bools -/
def intsOf : List D → Option (List Int)
  | [] => some []
  | .int i :: r => (intsOf r).map (i :: ·)
  | _ :: _ => none
theorem intsOf_some : ∀ {ds : List D} {ns : List Int}, intsOf ds = some ns → ds = ns.map PyData.int
  | [], ns, h => by cases h; rfl
  | d :: r, ns, h => by
    cases d <;> simp only [intsOf, reduceCtorEq] at h
    obtain ⟨ms, h1, rfl⟩ := Option.map_eq_some_iff.mp h
    rw [intsOf_some h1]; rfl
theorem intsOf_map : ∀ ns : List Int, intsOf (ns.map PyData.int) = some ns
  | [] => rfl
  | n :: ns => by simp only [List.map_cons, intsOf, intsOf_map ns, Option.map_some]
def boolsOf : List D → Option (List Bool)
  | [] => some []
  | .bool i :: r => (boolsOf r).map (i :: ·)
  | _ :: _ => none
theorem boolsOf_some : ∀ {ds : List D} {ns : List Bool}, boolsOf ds = some ns → ds = ns.map PyData.bool
  | [], ns, h => by cases h; rfl
  | d :: r, ns, h => by
    cases d <;> simp only [boolsOf, reduceCtorEq] at h
    obtain ⟨ms, h1, rfl⟩ := Option.map_eq_some_iff.mp h
    rw [boolsOf_some h1]; rfl
theorem boolsOf_map : ∀ ns : List Bool, boolsOf (ns.map PyData.bool) = some ns
  | [] => rfl
  | n :: ns => by simp only [List.map_cons, boolsOf, boolsOf_map ns, Option.map_some]
/-- one list of ints -/
def dInts (h : List Int → Option D) : List D → Option D
  | [.list ds] => (intsOf ds).bind h
  | _ => none
theorem dInts_some {h : List Int → Option D} {ds : List D} {d : D} (e : dInts h ds = some d) : ∃ ns, ds = [.list (ns.map PyData.int)] ∧ h ns = some d := by
  unfold dInts at e
  split at e
  · obtain ⟨ns, h1, h2⟩ := Option.bind_eq_some_iff.mp e
    exact ⟨ns, by rw [intsOf_some h1], h2⟩
  · cases e
def dSum : List D → Option D := dInts fun ns => some (.int ns.sum)
def minI : List Int → Option Int
  | [] => none
  | n :: ns => some (ns.foldl min n)
def maxI : List Int → Option Int
  | [] => none
  | n :: ns => some (ns.foldl max n)
theorem foldl_min (ns : List Int) : ∀ n : Int, (ns.foldl min n ∈ n :: ns) ∧ ∀ y ∈ n :: ns, ns.foldl min n ≤ y := by
  induction ns with
  | nil => intro n; simp
  | cons m ns ih =>
    intro n
    obtain ⟨h1, h2⟩ := ih (min n m)
    rw [List.foldl_cons]
    constructor
    · rcases List.mem_cons.mp h1 with h | h
      · rw [h]
        have : min n m = n ∨ min n m = m := by omega
        rcases this with e | e <;> rw [e] <;> simp
      · exact List.mem_cons_of_mem _ (List.mem_cons_of_mem _ h)
    · intro y hy
      have hm := h2 (min n m) List.mem_cons_self
      rcases List.mem_cons.mp hy with e | hy
      · subst e; omega
      · rcases List.mem_cons.mp hy with e | hy
        · subst e; omega
        · exact h2 y (List.mem_cons_of_mem _ hy)
theorem foldl_max (ns : List Int) : ∀ n : Int, (ns.foldl max n ∈ n :: ns) ∧ ∀ y ∈ n :: ns, y ≤ ns.foldl max n := by
  induction ns with
  | nil => intro n; simp
  | cons m ns ih =>
    intro n
    obtain ⟨h1, h2⟩ := ih (max n m)
    rw [List.foldl_cons]
    constructor
    · rcases List.mem_cons.mp h1 with h | h
      · rw [h]
        have : max n m = n ∨ max n m = m := by omega
        rcases this with e | e <;> rw [e] <;> simp
      · exact List.mem_cons_of_mem _ (List.mem_cons_of_mem _ h)
    · intro y hy
      have hm := h2 (max n m) List.mem_cons_self
      rcases List.mem_cons.mp hy with e | hy
      · subst e; omega
      · rcases List.mem_cons.mp hy with e | hy
        · subst e; omega
        · exact h2 y (List.mem_cons_of_mem _ hy)
theorem minI_spec {ns : List Int} {m : Int} (h : minI ns = some m) : m ∈ ns ∧ ∀ y ∈ ns, m ≤ y := by
  cases ns with
  | nil => cases h
  | cons n ns => cases h; exact foldl_min ns n
theorem maxI_spec {ns : List Int} {m : Int} (h : maxI ns = some m) : m ∈ ns ∧ ∀ y ∈ ns, y ≤ m := by
  cases ns with
  | nil => cases h
  | cons n ns => cases h; exact foldl_max ns n
def dMinL : List D → Option D := dInts fun ns => (minI ns).map .int
def dMaxL : List D → Option D := dInts fun ns => (maxI ns).map .int
theorem rp_ints {F H : Hp} {K : PySem.W.Frag} {v : V} {ns : List Int} (s : Same F H) (r : Rp F v (.list (ns.map PyData.int))) : ∃ a, v = .ref a ∧ SqL K H a (ns.map V.int) := by
  cases r with | lst h1 h2 h3 => rw [RpA.intsE h3] at h1; exact ⟨_, rfl, .of (s _ _ h1)⟩
theorem rp_bools {F H : Hp} {K : PySem.W.Frag} {v : V} {ns : List Bool} (s : Same F H) (r : Rp F v (.list (ns.map PyData.bool))) : ∃ a, v = .ref a ∧ SqL K H a (ns.map V.bl) := by
  cases r with | lst h1 h2 h3 => rw [RpA.boolsE h3] at h1; exact ⟨_, rfl, .of (s _ _ h1)⟩
theorem opl_sum {K : PySem.W.Frag} : OpL (rSum K) dSum := by
  intro x dx d F H Q e s rx k
  obtain ⟨ns, rfl, h⟩ := dInts_some e
  cases h
  obtain ⟨v, rfl, r1⟩ := rpA_one rx
  obtain ⟨a, rfl, h⟩ := rp_ints (K := K) s r1
  exact ⟨a, ns, rfl, h, k F H _ (.refl s) (.int _)⟩
theorem opl_min {K : PySem.W.Frag} : OpL (rMin K) dMinL := by
  intro x dx d F H Q e s rx k
  obtain ⟨ns, rfl, h⟩ := dInts_some e
  obtain ⟨m, hm, rfl⟩ := Option.map_eq_some_iff.mp h
  obtain ⟨v, rfl, r1⟩ := rpA_one rx
  obtain ⟨a, rfl, h⟩ := rp_ints (K := K) s r1
  obtain ⟨h1, h2⟩ := minI_spec hm
  refine ⟨a, ns, rfl, h, List.length_pos_of_mem h1, fun z z1 z2 => ?_⟩
  have : z = m := by have := z2 m h1; have := h2 z z1; omega
  subst this
  exact k F H _ (.refl s) (.int _)
theorem opl_max {K : PySem.W.Frag} : OpL (rMax K) dMaxL := by
  intro x dx d F H Q e s rx k
  obtain ⟨ns, rfl, h⟩ := dInts_some e
  obtain ⟨m, hm, rfl⟩ := Option.map_eq_some_iff.mp h
  obtain ⟨v, rfl, r1⟩ := rpA_one rx
  obtain ⟨a, rfl, h⟩ := rp_ints (K := K) s r1
  obtain ⟨h1, h2⟩ := maxI_spec hm
  refine ⟨a, ns, rfl, h, List.length_pos_of_mem h1, fun z z1 z2 => ?_⟩
  have : z = m := by have := z2 m h1; have := h2 z z1; omega
  subst this
  exact k F H _ (.refl s) (.int _)
def dBools (h : List Bool → D) : List D → Option D
  | [.list ds] => (boolsOf ds).map h
  | _ => none
def dAny : List D → Option D := dBools fun bs => .bool (bs.any fun b => b)
def dAll : List D → Option D := dBools fun bs => .bool (bs.all fun b => b)
theorem dBools_some {h : List Bool → D} {ds : List D} {d : D} (e : dBools h ds = some d) : ∃ ns, ds = [.list (ns.map PyData.bool)] ∧ h ns = d := by
  unfold dBools at e
  split at e
  · obtain ⟨ns, h1, h2⟩ := Option.map_eq_some_iff.mp e
    exact ⟨ns, by rw [boolsOf_some h1], h2⟩
  · cases e
theorem opl_any {K : PySem.W.Frag} : OpL (rAny K) dAny := by
  intro x dx d F H Q e s rx k
  obtain ⟨ns, rfl, rfl⟩ := dBools_some e
  obtain ⟨v, rfl, r1⟩ := rpA_one rx
  obtain ⟨a, rfl, h⟩ := rp_bools (K := K) s r1
  exact ⟨a, ns, rfl, h, k F H _ (.refl s) (.bl _)⟩
theorem opl_all {K : PySem.W.Frag} : OpL (rAll K) dAll := by
  intro x dx d F H Q e s rx k
  obtain ⟨ns, rfl, rfl⟩ := dBools_some e
  obtain ⟨v, rfl, r1⟩ := rpA_one rx
  obtain ⟨a, rfl, h⟩ := rp_bools (K := K) s r1
  exact ⟨a, ns, rfl, h, k F H _ (.refl s) (.bl _)⟩
theorem de_sum (hc : X.calm = true) (hg : Gl X "sum") (hm : X.mg "sum" = none) (ha : DA X [e] g) (he : starEach [e] X.env = (false, eval e X.env) :: starEach [] X.env := by rfl) : DE X (.Call (.Name "sum" p) [e] [] pos) (mOpL dSum g) :=
  de_callB (cr_sum hc) opl_sum hg hm (by decide +kernel) ha (by decide) (by decide) he rfl
theorem de_minI (hc : X.calm = true) (hg : Gl X "min") (hm : X.mg "min" = none) (ha : DA X [e] g) (he : starEach [e] X.env = (false, eval e X.env) :: starEach [] X.env := by rfl) : DE X (.Call (.Name "min" p) [e] [] pos) (mOpL dMinL g) :=
  de_callB (cr_min hc) opl_min hg hm (by decide +kernel) ha (by decide) (by decide) he rfl
theorem de_maxI (hc : X.calm = true) (hg : Gl X "max") (hm : X.mg "max" = none) (ha : DA X [e] g) (he : starEach [e] X.env = (false, eval e X.env) :: starEach [] X.env := by rfl) : DE X (.Call (.Name "max" p) [e] [] pos) (mOpL dMaxL g) :=
  de_callB (cr_max hc) opl_max hg hm (by decide +kernel) ha (by decide) (by decide) he rfl
theorem de_any (hc : X.calm = true) (hg : Gl X "any") (hm : X.mg "any" = none) (ha : DA X [e] g) (he : starEach [e] X.env = (false, eval e X.env) :: starEach [] X.env := by rfl) : DE X (.Call (.Name "any" p) [e] [] pos) (mOpL dAny g) :=
  de_callB (cr_any hc) opl_any hg hm (by decide +kernel) ha (by decide) (by decide) he rfl
theorem de_all (hc : X.calm = true) (hg : Gl X "all") (hm : X.mg "all" = none) (ha : DA X [e] g) (he : starEach [e] X.env = (false, eval e X.env) :: starEach [] X.env := by rfl) : DE X (.Call (.Name "all" p) [e] [] pos) (mOpL dAll g) :=
  de_callB (cr_all hc) opl_all hg hm (by decide +kernel) ha (by decide) (by decide) he rfl
/-! tuple(x), list(x) -/
def dTuple : List D → Option D
  | [x] => (seqOf x).map .tuple
  | _ => none
theorem opl_tuple {K : PySem.W.Frag} : OpL (fun xs H Q => ∃ p ys, xs = [.ref p] ∧ ((SqL K H p ys ∧ ∀ l, H l = none → Q (.ref l) (upd H l (.tup ys))) ∨ (SqT K H p ys ∧ Q (.ref p) H))) dTuple := by
  intro x dx d F H Q e s rx k
  unfold dTuple at e
  split at e
  · rename_i y
    obtain ⟨v, rfl, r1⟩ := rpA_one rx
    obtain ⟨ds, h1, rfl⟩ := Option.map_eq_some_iff.mp e
    cases y <;> simp only [seqOf, Option.some.injEq, reduceCtorEq] at h1
    · subst h1
      cases r1 with
      | @lst pa vs _ h1 h2 h3 =>
        refine ⟨_, _, rfl, .inl ⟨.of (s _ _ h1), fun q hq => ?_⟩⟩
        have gr := Grow.alloc s hq (.tup vs)
        exact k _ _ _ gr (.tup upd_same h2 (RpA.mono gr.ff _ _ h3))
    · subst h1
      cases r1 with
      | @tup pa vs _ h1 h2 h3 => exact ⟨_, _, rfl, .inr ⟨.of (s _ _ h1), k F H _ (.refl s) (.tup h1 h2 h3)⟩⟩
  · cases e
theorem de_tuple (hg : Gl X "tuple") (hm : X.mg "tuple" = none) (ha : DA X [e] g) (he : starEach [e] X.env = (false, eval e X.env) :: starEach [] X.env := by rfl) : DE X (.Call (.Name "tuple" p) [e] [] pos) (mOpL dTuple g) :=
  de_callTy call_tuple_of opl_tuple hg hm (by decide +kernel) ha (by decide) (by decide) he rfl
def mListOf (f : M D) : M (List D) := mBind f fun x => mLift (seqOf x)
theorem dn_list {f : M D} (hg : Gl X "list") (hm : X.mg "list" = none) (ha : DE X e f) (he : starEach [e] X.env = (false, eval e X.env) :: starEach [] X.env := by rfl) : DN X (.Call (.Name "list" p) [e] [] pos) (mListOf f) := by
  refine pe_w (pe_callTy call_list_of hg hm (by decide +kernel) (pa_cons ha pa_nil he) (by decide) (by decide) he rfl) ?_
  rintro σ H Q ⟨F, sa, η, τ, d, τ', w, e, k⟩
  obtain ⟨x, τ1, e1, ea⟩ := mBind_some e
  obtain ⟨e2, rfl⟩ := mLift_some ea
  refine tE.go w e1 fun F1 H1 u x1 w1 r1 => ?_
  obtain ⟨q, vs, rfl, hq, hl, hr⟩ := seq_at (K := X.K) w1.fh e2 r1
  refine ⟨q, vs, rfl, hq.symm, fun l hp => ?_⟩
  have gr := Grow.own w1.fh hp (.lst vs)
  have hp0 : H l = none := by
    cases z : H l with
    | none => rfl
    | some o => exact absurd hp (x1.nn l (nn_of z))
  exact k _ _ _ _ (x1.trans gr.ext) (w1.grow gr) hp0 (w1.fh.free hp) upd_same hl (notSrc_new w1.src hp) hr
end

/-! ### what is walked -/
/-- an iterator over the data ds, at a frozen heap F -/
def ItOf (J : It) (F : Hp) (ds : List D) : Prop := ds.length ≤ sizeLine ∧ ∃ (G : Hp → Prop) (Y : Nat → Hp → V → Hp → Prop), Walk J ds.length G Y ∧ (∀ H, Same F H → G H) ∧
  ∀ i H x H' F1, i < ds.length → Same F F1 → Same F1 H → Y i H x H' → ∃ F2 d, ds[i]? = some d ∧ Grow F1 H F2 H' ∧ Rp F2 x d
def tI (f : M (List D)) : TI := fun σ H R => ∃ F sa η τ d τ', View F sa σ H η τ ∧ f η τ = some (d, τ') ∧ ∀ F' H' J, Ext sa F H F' H' → View F' sa σ H' η τ' → ItOf J F' d → R J H'
abbrev DI (X : Cx) (tg e : Expr) (f : M (List D)) : Prop := PI X tg e (tI f)
theorem pi_w {X : Cx} {tg e : Expr} {t t' : TI} (h : PI X tg e t) (w : ∀ σ H Q, t' σ H Q → t σ H Q) : PI X tg e t' := ⟨fun pins s σ H Q I k => h.run pins s σ H Q I (w σ H Q k)⟩
theorem itOf_list {K : PySem.W.Frag} {F : Hp} {a : Addr} {vs : List V} {ds : List D} (h1 : F a = some (.lst vs)) (h2 : vs.length ≤ sizeLine) (h3 : RpA F vs ds) : ItOf (Itl K a) F ds := by
  have W : Walk (Itl K a) vs.length (fun H => SqL K H a vs) (YAt vs) := walk_list
  rw [h3.length] at W h2
  refine ⟨h2, _, _, W, fun H s => .of (s _ _ h1), fun i H x H' F1 hi s1 s2 hy => ?_⟩
  obtain ⟨rfl, hx⟩ := hy
  obtain ⟨d, hd, r⟩ := h3.get' hx
  exact ⟨F1, d, hd, .refl s2, Rp.mono s1 _ _ r⟩
theorem itOf_tup {K : PySem.W.Frag} {F : Hp} {a : Addr} {vs : List V} {ds : List D} (h1 : F a = some (.tup vs)) (h2 : vs.length ≤ sizeLine) (h3 : RpA F vs ds) : ItOf (Itt K a) F ds := by
  have W : Walk (Itt K a) vs.length (fun H => SqT K H a vs) (YAt vs) := walk_tup
  rw [h3.length] at W h2
  refine ⟨h2, _, _, W, fun H s => .of (s _ _ h1), fun i H x H' F1 hi s1 s2 hy => ?_⟩
  obtain ⟨rfl, hx⟩ := hy
  obtain ⟨d, hd, r⟩ := h3.get' hx
  exact ⟨F1, d, hd, .refl s2, Rp.mono s1 _ _ r⟩
/-- a list or a tuple -/
def iSeq (K : PySem.W.Frag) (tl : TE) : TI := fun σ H R => tl σ H fun x H1 => ∃ a, x = .ref a ∧ (((∃ xs, SqL K H1 a xs) ∧ R (Itl K a) H1) ∨ ((∃ xs, SqT K H1 a xs) ∧ R (Itt K a) H1))
theorem pi_seq {X : Cx} {tg l : Expr} {tl : TE} (hl : PE X l tl) : PI X tg l (iSeq X.K tl) := by
  refine ⟨fun pins s σ H R I h => ?_⟩
  refine thn (hl.run pins s σ H _ I h) fun v s1 ⟨x, H1, I1, r1, q1⟩ => ?_
  obtain ⟨a, rfl, q1⟩ := q1
  cases r1
  rcases q1 with ⟨⟨xs, hq⟩, q⟩ | ⟨⟨xs, hq⟩, q⟩
  · obtain ⟨its, rv, p, hz⟩ := I1.list hq
    refine wpAny_pyIter_list p.isList ⟨s1.heap.objs.size, [s1.heap.objs.size], _, _, H1, rfl, I1.kept (t' := s1.toks) fun b o e => Heap.get?_push_of_some _ e, turn_list a _, ⟨_, Heap.get?_push_size _ rfl, rfl, rfl⟩, fun b hb => ?_, q⟩
    obtain rfl : b = s1.heap.objs.size := by simpa using hb
    exact I1.fpOk (Nat.le_refl _) (I1.hok.fresh (Nat.le_refl _))
  · obtain ⟨its, rv, p, hz⟩ := I1.tuple hq
    refine wpAny_pyIter_tuple (show s1.heap.IsTuple a its.toArray from p) ⟨s1.heap.objs.size, [s1.heap.objs.size], _, _, H1, rfl, I1.kept (t' := s1.toks) fun b o e => Heap.get?_push_of_some _ e, turn_tuple a _, ⟨_, Heap.get?_push_size _ rfl, rfl, rfl⟩, fun b hb => ?_, q⟩
    obtain rfl : b = s1.heap.objs.size := by simpa using hb
    exact I1.fpOk (Nat.le_refl _) (I1.hok.fresh (Nat.le_refl _))
def mItems (f : M D) : M (List D) := mBind f fun x => mLift (seqOf x)
theorem di_seq {X : Cx} {tg l : Expr} {f : M D} (hl : DE X l f) : DI X tg l (mItems f) := by
  refine pi_w (pi_seq hl) ?_
  rintro σ H R ⟨F, sa, η, τ, d, τ', w, e, k⟩
  obtain ⟨x, τ1, e1, ea⟩ := mBind_some e
  obtain ⟨e2, rfl⟩ := mLift_some ea
  refine tE.go w e1 fun F1 H1 u x1 w1 r1 => ?_
  cases x <;> simp only [seqOf, Option.some.injEq, reduceCtorEq] at e2
  · subst e2
    cases r1 with
    | lst h1 h2 h3 => exact ⟨_, rfl, .inl ⟨⟨_, .of (w1.fh _ _ h1)⟩, k F1 H1 _ x1 w1 (itOf_list h1 h2 h3)⟩⟩
  · subst e2
    cases r1 with
    | tup h1 h2 h3 => exact ⟨_, rfl, .inr ⟨⟨_, .of (w1.fh _ _ h1)⟩, k F1 H1 _ x1 w1 (itOf_tup h1 h2 h3)⟩⟩
/-- range -/
noncomputable def rangeD (lo hi : Int) : Option (List D) := @ite _ (-(2 ^ 62) ≤ lo ∧ lo < 2 ^ 62 ∧ -(2 ^ 62) ≤ hi ∧ hi < 2 ^ 62 ∧ (hi - lo).toNat ≤ 2 ^ 24) (Classical.propDecidable _) (some ((List.range (hi - lo).toNat).map fun i => .int (lo + (i : Nat)))) none
noncomputable def mRange1 (f : M D) : M (List D) := mBind f fun x => mLift ((iOf x).bind fun n => rangeD 0 n)
noncomputable def mRange2 (f g : M D) : M (List D) := mBind f fun x => mBind g fun y => mLift ((iOf x).bind fun i => (iOf y).bind fun j => rangeD i j)
theorem line24 : sizeLine = 2 ^ 24 := by rw [sizeLine_eq]
theorem itOf_range {F : Hp} {lo hi : Int} (h : (hi - lo).toNat ≤ 2 ^ 24) : ItOf (Itr lo (hi - lo).toNat) F ((List.range (hi - lo).toNat).map fun i => .int (lo + (i : Nat))) := by
  have e : ((List.range (hi - lo).toNat).map fun (i : Nat) => PyData.int (lo + (i : Nat))).length = (hi - lo).toNat := by rw [List.length_map, List.length_range]
  refine ⟨by rw [e, line24]; exact h, _, _, by rw [e]; exact walk_range, fun _ _ => trivial, fun i H x H' F1 hi s1 s2 hy => ?_⟩
  obtain ⟨rfl, rfl⟩ := hy
  rw [e] at hi
  exact ⟨F1, _, by rw [List.getElem?_map, List.getElem?_range hi]; rfl, .refl s2, .int _⟩
section
variable {X : Cx} {tg a b : Expr} {f g : M D} {p pos : Pos}
theorem di_range1 (hg : Gl X "range") (hm : X.mg "range" = none) (ha : DE X a f) (hs : starEach [a] X.env = [(false, eval a X.env)] := by rfl) : DI X tg (.Call (.Name "range" p) [a] [] pos) (mRange1 f) := by
  refine pi_w (pi_range1 hg hm (pa_cons ha pa_nil hs) hs) ?_
  rintro σ H R ⟨F, sa, η, τ, d, τ', w, e, k⟩
  obtain ⟨x, τ1, e1, ea⟩ := mBind_some e
  obtain ⟨e2, rfl⟩ := mLift_some ea
  obtain ⟨n, e3, e4⟩ := Option.bind_eq_some_iff.mp e2
  obtain rfl := iOf_some e3
  unfold rangeD at e4
  split at e4
  · rename_i hr
    cases e4
    refine tE.go w e1 fun F1 H1 u x1 w1 r1 => ?_
    cases r1
    have := k F1 H1 _ x1 w1 (itOf_range hr.2.2.2.2)
    rw [Int.sub_zero] at this
    exact ⟨n, rfl, hr.2.2.1, hr.2.2.2.1, this⟩
  · cases e4
theorem di_range2 (hg : Gl X "range") (hm : X.mg "range" = none) (ha : DE X a f) (hb : DE X b g) (hs : starEach [a, b] X.env = [(false, eval a X.env), (false, eval b X.env)] := by rfl) (hs2 : starEach [b] X.env = [(false, eval b X.env)] := by rfl) : DI X tg (.Call (.Name "range" p) [a, b] [] pos) (mRange2 f g) := by
  refine pi_w (pi_range2 hg hm (pa_cons ha (pa_cons hb pa_nil hs2) (by rw [hs, hs2])) hs hs2) ?_
  rintro σ H R ⟨F, sa, η, τ, d, τ', w, e, k⟩
  obtain ⟨x, τ1, e1, ea⟩ := mBind_some e
  obtain ⟨y, τ2, e2, eb⟩ := mBind_some ea
  obtain ⟨ec, rfl⟩ := mLift_some eb
  obtain ⟨i, e3, ed⟩ := Option.bind_eq_some_iff.mp ec
  obtain ⟨j, e4, ee⟩ := Option.bind_eq_some_iff.mp ed
  obtain rfl := iOf_some e3
  obtain rfl := iOf_some e4
  unfold rangeD at ee
  split at ee
  · rename_i hr
    cases ee
    refine tE.go w e1 fun F1 H1 u x1 w1 r1 => tE.go w1 e2 fun F2 H2 v x2 w2 r2 => ?_
    cases r1
    cases r2
    exact ⟨i, j, rfl, ⟨hr.1, hr.2.1, hr.2.2.1, hr.2.2.2.1⟩, k F2 H2 _ (x1.trans x2) w2 (itOf_range hr.2.2.2.2)⟩
  · cases ee
end

/-! ### targets -/
inductive Tgt where
  | nm (i : Nat)
  | tp (ts : List Tgt)
mutual
def bindT : Tgt → D → Option (List (Nat × D))
  | .nm i, d => some [(i, d)]
  | .tp ts, .tuple ds => bindTs ts ds
  | .tp _, _ => none
def bindTs : List Tgt → List D → Option (List (Nat × D))
  | [], [] => some []
  | t :: ts, d :: ds => match bindT t d, bindTs ts ds with
    | some a, some b => some (a ++ b)
    | _, _ => none
  | _, _ => none
end
def setV (σ : L2.St) (ws : List (Nat × V)) : L2.St := ws.foldl (fun σ w => σ.set w.1 (some w.2)) σ
def setD (η : EnvD) (ws : List (Nat × D)) : EnvD := ws.foldl (fun η w => η.set w.1 (some w.2)) η
inductive RpW (F : Hp) : List (Nat × V) → List (Nat × D) → Prop
  | nil : RpW F [] []
  | cons {i : Nat} {v : V} {d : D} {ws : List (Nat × V)} {as : List (Nat × D)} : Rp F v d → RpW F ws as → RpW F ((i, v) :: ws) ((i, d) :: as)
theorem RpW.append {F : Hp} : ∀ {ws ws2 : List (Nat × V)} {as as2 : List (Nat × D)}, RpW F ws as → RpW F ws2 as2 → RpW F (ws ++ ws2) (as ++ as2)
  | _, _, _, _, .nil, s => s
  | _, _, _, _, .cons r t, s => .cons r (RpW.append t s)
theorem setV_append (σ : L2.St) (a b : List (Nat × V)) : setV σ (a ++ b) = setV (setV σ a) b := by unfold setV; rw [List.foldl_append]
def tG (b : Tgt) : TG := fun v σ H Q => ∃ F d as, Same F H ∧ Rp F v d ∧ bindT b d = some as ∧ ∀ ws, RpW F ws as → Q (setV σ ws) H
def tGs (b : List Tgt) : TGs := fun vs σ H Q => ∃ F ds as, Same F H ∧ RpA F vs ds ∧ bindTs b ds = some as ∧ ∀ ws, RpW F ws as → Q (setV σ ws) H
abbrev DG (X : Cx) (tg : Expr) (b : Tgt) : Prop := PG X tg (tG b)
abbrev DGs (X : Cx) (tg : List Expr) (b : List Tgt) : Prop := PGs X tg (tGs b)
theorem pg_w {X : Cx} {tg : Expr} {t t' : TG} (h : PG X tg t) (w : ∀ v σ H Q, t' v σ H Q → t v σ H Q) : PG X tg t' := ⟨fun pins s σ H v u Q I r k => h.run pins s σ H v u Q I r (w v σ H Q k)⟩
theorem pgs_w {X : Cx} {tg : List Expr} {t t' : TGs} (h : PGs X tg t) (w : ∀ v σ H Q, t' v σ H Q → t v σ H Q) : PGs X tg t' := ⟨fun pins s σ H v u Q I r k => h.run pins s σ H v u Q I r (w v σ H Q k)⟩
section
variable {X : Cx} {pos : Pos}
theorem dg_name {i : Nat} {x : Str} (hN : X.N.Nodup) (hi : X.N[i]? = some x) (hx : Loc X.env.scope x) (hf : X.fn x = true ∨ X.env.scope.names.lookup x = some .local := by first | exact .inl rfl | exact .inr rfl | assumption) : DG X (.Name x pos) (.nm i) := by
  refine pg_w (pg_name hN hi hx hf) ?_
  rintro v σ H Q ⟨F, d, as, s, r, e, k⟩
  simp only [bindT, Option.some.injEq] at e
  subst e
  exact k [(i, v)] (.cons r .nil)
theorem dgs_nil : DGs X [] [] := by
  refine pgs_w pgs_nil ?_
  rintro vs σ H Q ⟨F, ds, as, s, r, e, k⟩
  cases ds with
  | nil => simp only [bindTs, Option.some.injEq] at e; subst e; exact ⟨rpA_nil r, k [] .nil⟩
  | cons _ _ => simp [bindTs] at e
theorem dgs_cons {e : Expr} {es : List Expr} {t : Tgt} {u : List Tgt} (h1 : DG X e t) (h2 : DGs X es u)
    (hs : (assignEach (e :: es) X.env).map (·.2) = assign e X.env :: (assignEach es X.env).map (·.2) := by rfl) : DGs X (e :: es) (t :: u) := by
  refine pgs_w (pgs_cons h1 h2 hs) ?_
  rintro vs σ H Q ⟨F, ds, as, s, r, e, k⟩
  cases ds with
  | nil => simp [bindTs] at e
  | cons d ds =>
    cases r with
    | cons r1 r2 =>
      simp only [bindTs] at e
      split at e
      · rename_i a b ea eb
        cases e
        exact ⟨_, _, rfl, F, d, a, s, r1, ea, fun ws hw => ⟨F, ds, b, s, r2, eb, fun ws2 hw2 => by rw [← setV_append]; exact k _ (hw.append hw2)⟩⟩
      · cases e
theorem dg_tup {es : List Expr} {k : Nat} {t : List Tgt} (hc : X.calm = true) (h : DGs X es t) (hl : t.length = es.length) (hn : (assignEach es X.env).length = es.length := by rfl) (hst : (assignEach es X.env).findIdx? (·.1) = none := by rfl) : DG X (.Tuple es k pos) (.tp t) := by
  refine pg_w (pg_tup (n := es.length) hc h hn hst) ?_
  rintro v σ H Q ⟨F, d, as, s, r, e, k⟩
  cases d <;> simp only [bindT, reduceCtorEq] at e
  rename_i ds
  have hlen : ∀ (ts : List Tgt) (ds : List D) (as : List (Nat × D)), bindTs ts ds = some as → ts.length = ds.length := by
    intro ts
    induction ts with
    | nil => intro ds as h; cases ds with
      | nil => rfl
      | cons _ _ => simp [bindTs] at h
    | cons t ts ih => intro ds as h; cases ds with
      | nil => simp [bindTs] at h
      | cons d ds =>
        simp only [bindTs] at h
        split at h
        · rename_i a b ea eb
          rw [List.length_cons, List.length_cons, ih ds b eb]
        · cases h
  cases r with
  | tup h1 h2 h3 => exact ⟨_, _, rfl, .of (s _ _ h1), by rw [h3.length, ← hlen _ _ _ e, hl], F, ds, as, s, h3, e, k⟩
end
end DL

/-! DLd: comprehensions; what a def promises; calls. -/
namespace DL
open PySem PySem.Spec PyProof.Rows L2

/-! ### comprehensions -/
def wipeD (η : EnvD) : List Nat → EnvD
  | [] => η
  | v :: vs => (wipeD η vs).set v none
theorem wipeD_some {η : EnvD} {i : Nat} {x : D} : ∀ {vs : List Nat}, (wipeD η vs)[i]? = some (some x) → η[i]? = some (some x) ∧ i ∉ vs
  | [], h => ⟨h, by simp⟩
  | v :: vs, h => by
    unfold wipeD at h
    by_cases hi : v = i
    · subst hi
      rw [List.getElem?_set] at h
      split at h
      · split at h <;> cases h
      · rename_i hn; exact absurd rfl hn
    · rw [List.getElem?_set_ne hi] at h
      obtain ⟨h1, h2⟩ := wipeD_some h
      exact ⟨h1, by simp only [List.mem_cons, not_or]; exact ⟨fun e => hi e.symm, h2⟩⟩
theorem wipeD_length (η : EnvD) : ∀ vs : List Nat, (wipeD η vs).length = η.length
  | [] => rfl
  | v :: vs => by unfold wipeD; rw [List.length_set, wipeD_length η vs]
theorem wipe_keep {σ : L2.St} {i : Nat} : ∀ {vs : List Nat}, i ∉ vs → (wipe σ vs)[i]? = σ[i]?
  | [], _ => rfl
  | v :: vs, h => by
    obtain ⟨h1, h2⟩ := not_or.mp (fun z => h (List.mem_cons.mpr z))
    unfold wipe
    rw [List.getElem?_set_ne (Ne.symm h1)]
    exact wipe_keep h2
theorem View.wiped {F H : Hp} {sa : SA} {σ : L2.St} {η : EnvD} {τ : Src} {vs : List Nat} (w : View F sa σ H η τ) (hv : ∀ i ∈ vs, 2 ≤ i) : View F sa (wipe σ vs) H (wipeD η vs) τ :=
  ⟨w.fh, fun i d e => by
    obtain ⟨h1, h2⟩ := wipeD_some e
    rw [wipe_keep h2]
    exact w.var i d h1, w.src, by rw [wipe_length, wipeD_length]; exact w.len, w.flag, fun i p c e => by
    obtain ⟨h1, h2⟩ := w.slot i p c e
    exact ⟨h1, by rw [wipe_keep fun hm => absurd (hv i hm) (by omega)]; exact h2⟩⟩
theorem wipe_set {σ : L2.St} {i : Nat} {x : Option V} : ∀ {vs : List Nat}, i ∈ vs → wipe (σ.set i x) vs = wipe σ vs
  | v :: vs, h => by
    unfold wipe
    by_cases hi : i ∈ vs
    · rw [wipe_set hi]
    · have e : v = i := by
        rcases List.mem_cons.mp h with e | e
        · exact e.symm
        · exact absurd e hi
      subst e
      have : ∀ us : List Nat, v ∉ us → wipe (σ.set v x) us = (wipe σ us).set v x := by
        intro us
        induction us with
        | nil => intro _; rfl
        | cons u us ih =>
          intro hu
          obtain ⟨h1, h2⟩ := not_or.mp (fun z => hu (List.mem_cons.mpr z))
          unfold wipe
          rw [ih h2, List.set_comm _ _ h1]
      rw [this vs hi, List.set_set]
mutual
def tgtSlots : Tgt → List Nat
  | .nm i => [i]
  | .tp ts => tgtSlotsL ts
def tgtSlotsL : List Tgt → List Nat
  | [] => []
  | t :: ts => tgtSlots t ++ tgtSlotsL ts
end
mutual
theorem bindT_slots : ∀ (t : Tgt) (d : D) (as : List (Nat × D)), bindT t d = some as → as.map (·.1) = tgtSlots t
  | .nm i, d, as, h => by simp only [bindT, Option.some.injEq] at h; subst h; rfl
  | .tp ts, d, as, h => by
    cases d <;> simp only [bindT, reduceCtorEq] at h
    simp only [tgtSlots]
    exact bindTs_slots ts _ as h
theorem bindTs_slots : ∀ (ts : List Tgt) (ds : List D) (as : List (Nat × D)), bindTs ts ds = some as → as.map (·.1) = tgtSlotsL ts
  | [], [], as, h => by simp only [bindTs, Option.some.injEq] at h; subst h; rfl
  | [], _ :: _, as, h => by simp [bindTs] at h
  | _ :: _, [], as, h => by simp [bindTs] at h
  | t :: ts, d :: ds, as, h => by
    simp only [bindTs] at h
    split at h
    · rename_i a b ea eb
      cases h
      simp only [tgtSlotsL, List.map_append, bindT_slots t d a ea, bindTs_slots ts ds b eb]
    · cases h
end
theorem RpW.slots {F : Hp} : ∀ {ws : List (Nat × V)} {as : List (Nat × D)}, RpW F ws as → ws.map (·.1) = as.map (·.1)
  | _, _, .nil => rfl
  | _, _, .cons _ t => by simp only [List.map_cons, RpW.slots t]
theorem RpW.mono {F G : Hp} (s : Same F G) : ∀ {ws : List (Nat × V)} {as : List (Nat × D)}, RpW F ws as → RpW G ws as
  | _, _, .nil => .nil
  | _, _, .cons r t => .cons (Rp.mono s _ _ r) (RpW.mono s t)
theorem wipe_setV {vs : List Nat} : ∀ (ws : List (Nat × V)) (σ : L2.St), (∀ w ∈ ws, w.1 ∈ vs) → wipe (setV σ ws) vs = wipe σ vs
  | [], σ, _ => rfl
  | w :: ws, σ, h => by
    have e : setV σ (w :: ws) = setV (σ.set w.1 (some w.2)) ws := rfl
    rw [e, wipe_setV ws _ fun x hx => h x (List.mem_cons_of_mem _ hx), wipe_set (h w List.mem_cons_self)]
theorem wipe_wipe {σ : L2.St} : ∀ {us vs : List Nat}, (∀ u ∈ us, u ∈ vs) → wipe (wipe σ us) vs = wipe σ vs
  | [], vs, _ => rfl
  | u :: us, vs, h => by
    show wipe ((wipe σ us).set u none) vs = _
    rw [wipe_set (h u List.mem_cons_self), wipe_wipe fun x hx => h x (List.mem_cons_of_mem _ hx)]
theorem View.set1 {F H : Hp} {sa : SA} {σ : L2.St} {η : EnvD} {τ : Src} {i : Nat} {v : V} {d : D} (w : View F sa σ H η τ) (hi : 2 ≤ i) (r : Rp F v d) : View F sa (σ.set i (some v)) H (η.set i (some d)) τ :=
  ⟨w.fh, fun j x e => by
    by_cases hj : i = j
    · subst hj
      have hl := w.len
      rw [List.getElem?_set] at e
      split at e
      · split at e
        · cases e
          exact ⟨v, by rw [List.getElem?_set_self (by omega)], r⟩
        · cases e
      · rename_i hn; exact absurd rfl hn
    · rw [List.getElem?_set_ne hj] at e ⊢
      exact w.var j x e, w.src, by rw [List.length_set, List.length_set]; exact w.len, w.flag, fun j p c e => by
    obtain ⟨h1, h2⟩ := w.slot j p c e
    exact ⟨h1, by rw [List.getElem?_set_ne (by omega)]; exact h2⟩⟩
theorem View.sets {F H : Hp} {sa : SA} {τ : Src} {ws : List (Nat × V)} {as : List (Nat × D)} (r : RpW F ws as) : ∀ {σ : L2.St} {η : EnvD}, View F sa σ H η τ → (∀ a ∈ as, 2 ≤ a.1) → View F sa (setV σ ws) H (setD η as) τ := by
  induction r with
  | nil => intro σ η w _; exact w
  | cons r t ih => intro σ η w h; exact ih (w.set1 (h _ List.mem_cons_self) r) fun a ha => h a (List.mem_cons_of_mem _ ha)

/-- a comprehension's turns -/
def compGo (b : Tgt) (tt : M Bool) (te : M D) (η : EnvD) : List D → Src → Option (List D × Src)
  | [], τ => some ([], τ)
  | d :: ds, τ => match bindT b d with
    | none => none
    | some as => match tt (setD η as) τ with
      | none => none
      | some (false, τ1) => compGo b tt te η ds τ1
      | some (true, τ1) => match te (setD η as) τ1 with
        | none => none
        | some (y, τ2) => match compGo b tt te η ds τ2 with
          | none => none
          | some (ys, τ3) => some (y :: ys, τ3)
def mComp (fi : M (List D)) (vs : List Nat) (b : Tgt) (tt : M Bool) (te : M D) : M (List D) := mBind fi fun ds η τ => compGo b tt te (wipeD η vs) ds τ
def mTrue : M Bool := mPure true
abbrev DTs (X : Cx) (ifs : List Expr) (f : M Bool) : Prop := PTs X ifs (tT f)
theorem dts_nil {X : Cx} : DTs X [] mTrue := ⟨fun pins s σ H Q I h => by
  obtain ⟨F, sa, η, τ, d, τ', w, e, k⟩ := h
  cases e
  exact pts_nil.run pins s σ H Q I (k F H .refl w)⟩
theorem dts_one {X : Cx} {c : Expr} {f : M Bool} (h : DT X c f) : DTs X [c] f := pts_one h
theorem mem_slots {b : Tgt} {d : D} {as : List (Nat × D)} {a : Nat × D} (e : bindT b d = some as) (h : a ∈ as) : a.1 ∈ tgtSlots b := by
  rw [← bindT_slots b d as e]
  exact List.mem_map_of_mem h
theorem tLc_of {K : PySem.W.Frag} {fi : M (List D)} {vs : List Nat} {b : Tgt} {tt : M Bool} {te : M D} (hv : ∀ i ∈ vs, 2 ≤ i) (hb : ∀ i ∈ tgtSlots b, i ∈ vs) : ∀ σ H Q, tN (mComp fi vs b tt te) σ H Q → tLc (tI fi) (tG b) (tT tt) (tE te) vs σ H Q := by
  rintro σ H Q ⟨F, sa, η0, τ, d, τ', w0, e, k⟩
  obtain ⟨ds, τ1, e1, e2⟩ := mBind_some e
  refine ⟨F, sa, η0, τ, ds, τ1, w0, e1, fun F1 H1 J x1 w1 it L hD => ?_⟩
  obtain ⟨hlen, G, Y, W, hG, hY⟩ := it
  have hD0 : H L = none := by
    cases z : H L with
    | none => rfl
    | some o => exact absurd hD (x1.nn L (nn_of z))
  have nD : NotSrc sa L := notSrc_new w1.src hD
  refine lc_it W (fun i Hc => ∃ F2 τi acc done rest, Ext sa F1 H1 F2 Hc ∧ View F2 sa (wipe σ vs) Hc (wipeD η0 vs) τi ∧ Hc L = some (.lst acc) ∧ F2 L = none ∧ acc.length ≤ i ∧ RpA F2 acc done ∧
    compGo b tt te (wipeD η0 vs) (ds.drop i) τi = some (rest, τ') ∧ d = done ++ rest) ?_ ?_ ?_ ?_
  · have gr := Grow.own w1.fh hD (.lst [])
    exact ⟨F1, τ1, [], [], d, gr.ext, (w1.grow gr).wiped hv, upd_same, w1.fh.free hD, Nat.le_refl _, .nil, e2, rfl⟩
  · rintro i Hc hi ⟨F2, τi, acc, done, rest, x2, w2, _⟩
    exact hG Hc (x2.ff.trans w2.fh)
  · rintro i x Hc H' hi ⟨F2, τi, acc, done, rest, x2, w2, hacc, hFD, hle, hra, hgo, hd⟩ hy
    obtain ⟨F3, dd, hdd, gr, rx⟩ := hY i Hc x H' F2 hi x2.ff w2.fh hy
    have hdrop : ds.drop i = dd :: ds.drop (i + 1) := by
      obtain ⟨hi', hz⟩ := List.getElem?_eq_some_iff.mp hdd
      rw [List.drop_eq_getElem_cons hi', hz]
    rw [hdrop] at hgo
    unfold compGo at hgo
    split at hgo
    · cases hgo
    rename_i as hbs
    have w3 := w2.grow gr
    have s2 : ∀ a ∈ as, 2 ≤ a.1 := fun a ha => hv _ (hb _ (mem_slots hbs ha))
    have hF3 : F3 L = none := gr.nf L hFD (nn_of hacc)
    have hH3 : H' L = some (.lst acc) := gr.hh _ _ hacc
    refine ⟨F3, dd, as, gr.fh, rx, hbs, fun ws hw => ⟨?_, ?_⟩⟩
    · rw [wipe_setV ws _ fun y hy => ?_, wipe_wipe fun u hu => hu]
      have : y.1 ∈ as.map (·.1) := by rw [← hw.slots]; exact List.mem_map_of_mem hy
      rw [bindT_slots b dd as hbs] at this
      exact hb _ this
    have wv : View F3 sa (setV (wipe σ vs) ws) H' (setD (wipeD η0 vs) as) τi := View.sets hw w3 s2
    split at hgo
    · cases hgo
    · rename_i τ2 ht
      refine tT.go wv ht fun F4 H4 x4 w4 => iteF ?_
      exact ⟨F4, τ2, acc, done, rest, x2.trans (gr.ext.trans x4), w3.back x4.ff w4.fh w4.src w4.flag, x4.hh _ _ hH3 nD, x4.nf L hF3 (nn_of hH3), by omega, RpA.mono (gr.ff.trans x4.ff) _ _ hra, hgo, hd⟩
    · rename_i τ2 ht
      split at hgo
      · cases hgo
      rename_i y τ3 hte
      split at hgo
      · cases hgo
      rename_i ys τ4 hrest
      cases hgo
      refine tT.go wv ht fun F4 H4 x4 w4 => iteT (tE.go w4 hte fun F5 H5 v x5 w5 r5 => ?_)
      have xx := x4.trans x5
      have hF5 : F5 L = none := xx.nf L hF3 (nn_of hH3)
      have hH5 : H5 L = some (.lst acc) := xx.hh _ _ hH3 nD
      have sF : Same F5 (upd H5 L (.lst (acc ++ [v]))) := fun c o z => by
        have hc : c ≠ L := ne_of_none z hF5
        rw [upd_ne hc]; exact w5.fh c o z
      have xu : Ext sa F5 H5 F5 (upd H5 L (.lst (acc ++ [v]))) → Ext sa F1 H1 F5 (upd H5 L (.lst (acc ++ [v]))) := fun z => x2.trans (gr.ext.trans (xx.trans z))
      refine ⟨acc, hH5, by omega, F5, τ3, acc ++ [v], done ++ [y], ys, ?_, ?_, upd_same, hF5, by rw [List.length_append]; simp; omega, (RpA.mono (gr.ff.trans xx.ff) _ _ hra).append (.cons r5 .nil), hrest, by rw [hd, List.append_assoc]; rfl⟩
      · have x15 : Ext sa F1 H1 F5 H5 := x2.trans (gr.ext.trans xx)
        refine ⟨x15.ff, fun c o z n => ?_, fun c z => ?_, x15.nf⟩
        · rw [upd_ne (ne_of_none z hD)]; exact x15.hh c o z n
        · by_cases hc : c = L
          · rw [hc, upd_same]; simp
          · rw [upd_ne hc]; exact x15.nn c z
      · refine w3.back xx.ff sF (fun j p c z => ?_) w5.flag
        obtain ⟨h1, h2, h3, h4, h5⟩ := w5.src j p c z
        obtain ⟨n1, n2⟩ := nD j p c z
        exact ⟨by rw [upd_ne (Ne.symm n1)]; exact h1, by rw [upd_ne (Ne.symm n2)]; exact h2, h3, h4, h5⟩
  · rintro Hc ⟨F2, τi, acc, done, rest, x2, w2, hacc, hFD, hle, hra, hgo, hd⟩
    rw [List.drop_eq_nil_of_le (Nat.le_refl _)] at hgo
    cases hgo
    rw [List.append_nil] at hd
    subst hd
    exact k F2 Hc L acc (x1.trans x2) (w1.back x2.ff w2.fh w2.src w2.flag |> fun z => ⟨z.fh, fun j q e => let ⟨v, h1, h2⟩ := w0.var j q e; ⟨v, h1, Rp.mono (x1.ff.trans x2.ff) _ _ h2⟩, z.src, w0.len, z.flag, w0.slot⟩) hD0 hFD hacc (by omega) nD hra
section
variable {X : Cx} {elt tg iter : Expr} {ifs : List Expr} {scope : Scope} {own : List (Str × Nat)} {pos : Pos} {fi : M (List D)} {b : Tgt} {tt : M Bool} {te : M D}
theorem dn_lc (own : List (Str × Nat)) (hc : X.calm = true) (hN : X.N.Nodup) (hi : DI X tg iter fi) (ok : BlkOk X.N X.env.scope scope own) (hv : ∀ i ∈ own.map (·.2), 2 ≤ i) (hb : ∀ i ∈ tgtSlots b, i ∈ own.map (·.2))
    (hg : ∀ (s : Shared) (H : Hp) (C : Addr) (cl : List (Str × Addr)) (fp : List Addr), DG (X.blk s H scope (compEnvC scope cl C X.env) fp) tg b) (ht : ∀ (s : Shared) (H : Hp) (C : Addr) (cl : List (Str × Addr)) (fp : List Addr), DTs (X.blk s H scope (compEnvC scope cl C X.env) fp) ifs tt)
    (he : ∀ (s : Shared) (H : Hp) (C : Addr) (cl : List (Str × Addr)) (fp : List Addr), DE (X.blk s H scope (compEnvC scope cl C X.env) fp) elt te) (hs : ∀ x, foldedSetIterable iter X.env x = pure x := by intro _; rfl) :
    DN X (.ListComp elt [⟨tg, iter, ifs, 0⟩] scope pos) (mComp fi (own.map (·.2)) b tt te) := pe_w (pe_lc hc hN hi ok hg ht he hs) (tLc_of (K := X.K) hv hb)
end
end DL

/-! DLe: a def's promise where no repr is under way; calls. -/
namespace DL
open PySem PySem.Spec PyProof.Rows L2

/-- FnOk, told of calls with no guarded built-in under way (repr asks it); nothing is raised -/
structure FnG (P : Program) (w : World) (K : PySem.W.Frag) (mg : Str → Option Value) (base : Heap) (k : Nat) (f : Addr) (fd : FuncData) (ps : List Str) (sp : Sp) : Prop where
  len : ∀ vs H Q, sp vs H Q E0 → vs.length = ps.length
  run : ∀ (A : Around) (outer : List Env) (s : Shared) (H : Hp) (args : Args) (us : List Value) (vs : List V) (Q : VK), Room k A → A.guards = some [] →
    Env0 P w K mg base A outer s H → BindsTo s fd args (ps.zip us) → Vals vs us → sp vs H Q E0 →
    codeAny (model P w) A (.call (.ref f) args) (CR CX0 outer P w H s Q E0) s
section
variable {P : Program} {w : World} {K : PySem.W.Frag} {mg : Str → Option Value} {base : Heap} {k : Nat} {f : Addr} {fd : FuncData} {ps : List Str} {sp : Sp}
theorem FnG.mono {j : Nat} (F : FnG P w K mg base j f fd ps sp) (h : j ≤ k) : FnG P w K mg base k f fd ps sp :=
  ⟨F.len, fun A outer s H args us vs Q r => F.run A outer s H args us vs Q (Room.mono r h)⟩
theorem FnG.of (F : FnOk P w K mg base CX0 k f fd ps sp) : FnG P w K mg base k f fd ps sp :=
  ⟨fun vs H Q h => F.len vs H Q E0 h, fun A outer s H args us vs Q r _ => F.run A outer s H args us vs Q E0 r⟩
end

section
variable {X : Cx} {k : Nat} {f : Addr} {fd : FuncData} {ps : List Str} {sp : Sp} {x : Str} {p pos : Pos} {e : Expr} {es : List Expr} {t : TA}
theorem runG {pins : List (Addr × Obj)} {σ : L2.St} {H : Hp} {s : Shared} {Q : VK} {us : List Value} {vs : List V}
    (F : FnG X.prog X.w X.K X.mg X.base k f fd ps sp) (hr : Room k X.A) (hd : X.A.guards = some []) (hb : Binds X.K fd ps [])
    (I : Inv X pins σ H s) (r : Vals vs us) (h : sp vs H Q E0) : wpAny (model X.prog X.w) X.A (call (.ref f) us) (EP X pins σ Q) X.xe s := by
  have hl : (us ++ []).length = ps.length := by
    rw [List.append_nil, ← r.length]
    exact F.len vs H Q h
  have hbs := hb s us I.kIn hl
  rw [List.append_nil] at hbs
  have code := F.run X.A X.stack s H ⟨us, []⟩ us vs Q hr hd I.env0 hbs r h
  refine wpAny_call (codeAny_mono code fun rr s' hq => ?_)
  match rr, hq with
  | .error _, hq => exact hq.elim
  | .ok (.ret u), hq => exact I.after hq
  | .ok .next, hq => exact hq.elim
  | .ok .brk, hq => exact hq.elim
  | .ok .cont, hq => exact hq.elim
theorem pe_callG (F : FnG X.prog X.w X.K X.mg X.base k f fd ps sp) (hr : Room k X.A) (hd : X.A.guards = some []) (hg : Gl X x) (hm : X.mg x = some (.ref f))
    (hk : PySem.W.keepIn X.K (.ref f) = true) (hb : Binds X.K fd ps []) (ha : PA X (e :: es) t) (hdb : (x == ("__debug__" : Str)) = false := by decide)
    (he : starEach (e :: es) X.env = (false, eval e X.env) :: starEach es X.env := by rfl)
    (hpl : (backTo pos (starEach es X.env)).any (·.1) = false := by rfl) :
    PE X (.Call (.Name x p) (e :: es) [] pos) (tCall sp [] E0 t) := by
  refine ⟨fun pins s σ H Q I hw => ?_⟩
  have step : wpAny (model X.prog X.w) X.A (spliced (backTo pos (starEach (e :: es) X.env))) (fun us s1 => X.K.In s1.heap ∧ wpAny (model X.prog X.w) X.A (call (.ref f) us) (EP X pins σ Q) X.xe s1) X.xe s :=
    thn (ha.run pos pins s σ H _ I hw) fun us s1 q => by
      obtain ⟨vs, H1, I1, r, q⟩ := q
      rw [List.append_nil] at q
      exact ⟨I1.kIn, runG F hr hd hb I1 r q⟩
  exact wpAny_Call_Name_kw (ld_glob I hg hm (PySem.W.callWith_K (h₀ := X.base) I.ok.mod.kin hk step he hpl) hdb)
end

/-- a def of the text keeps a promise, by its body -/
theorem fnG_of {P : Program} {w : World} {K : PySem.W.Frag} {mg : Str → Option Value} {base : Heap} {k : Nat} {f : Addr} {fd : FuncData} {N ps : List Str} {sp : Sp} {x qual : Str} {st : Stmt}
    (F : Fun K x qual st f fd) (S : FnScope N ps (defScope st)) (len : ∀ vs H Q, sp vs H Q E0 → vs.length = ps.length)
    (body : ∀ (cdv : Value) (A : Around) (outer : List Env) (s : Shared) (H : Hp) (vs : List V) (Q : VK), Room k (A.deeper (envOfC qual (defScope st) s.heap.objs.size f cdv)) →
      A.guards = some [] → sp vs H Q E0 →
      ∃ t, PSs (cxOf CX0 P w K mg base N qual (defScope st) f cdv A outer s H E0).nox (defBody st) t ∧ t { nx := fun _ H' => Q .non H', rt := Q } (start N vs) H) :
    FnG P w K mg base (k + 1) f fd ps sp := by
  obtain ⟨oc, od, kV, doc, pm, an, cdv, ct, osl, rfl, lk, hcd⟩ := F.ex
  refine ⟨len, fun A outer s H args us vs Q hr hg e0 hb r hsp => ?_⟩
  have KX : K.In s.heap := e0.mod.kin.keeps fun b o e => (e0.bs b o e).1
  have lim : s.heap.NoLimit := e0.mod.nolimit.keeps fun b o e => (e0.bs b o e).1
  have names : ∀ y ∈ ps.zip us, (defScope st).names.lookup y.1 = some .local ∨ ((defScope st).names.lookup y.1 = some .cell ∧ ((cellsFrom (s.heap.objs.size + 1) (defScope st).names []).lookup y.1).isSome = true) := by
    rintro ⟨n, v⟩ hy
    refine (S.par n (List.of_mem_zip hy).1).imp id fun q => ⟨q, PySem.W.cellsFrom_some _ _ _ (.inl q)⟩
  have enter := PySem.W.codeRec_of KX hcd
  refine codeAny_call_function hr.depth (KX _ _ lk) rfl S.co S.gen rfl enter (hb _ _ _ _ (wpAny_newFunctionEnv_cells S.kind names fun env he s1 xx => ?_))
  subst he
  obtain ⟨t, ht, hq⟩ := body cdv A outer s H vs Q (hr.deeper _) hg hsp
  have I : Inv (cxOf CX0 P w K mg base N qual (defScope st) f cdv A outer s H E0) [] (start N vs) H s1 := inv_start S hr.hd e0 (len _ _ _ hsp) r xx
  refine ⟨lim.keeps xx.toInCall.keep, codeAny_func (wpAny_mono (ht.nox.run [] s1 (start N vs) H _ I hq) (fun fl s' hs => ?_) fun e s' hs => hs)⟩
  match fl, hs with
  | .ret u, ⟨v, σ', H', J, rv, q⟩ => exact ⟨v, H', J.os, J.bare, J.base, J.hok, rv, q⟩
  | .next, ⟨σ', H', J, q⟩ => exact ⟨V.non, H', J.os, J.bare, J.base, J.hok, rfl, q⟩
  | .brk, ⟨_, _, _, q⟩ => exact q.elim
  | .cont, ⟨_, _, _, q⟩ => exact q.elim

/-! ### promises by mirrors -/
/-- a def over data -/
def spP (n : Nat) (m : List D → Option D) : Sp := fun vs H Q _ => ∃ F ds d, vs.length = n ∧ Same F H ∧ RpA F vs ds ∧ m ds = some d ∧ ∀ F' H' v, Grow F H F' H' → Rp F' v d → Q v H'
abbrev MS := List D → Src → Option (D × Src)
/-- a def whose first argument is the source -/
def spS (n : Nat) (m : MS) : Sp := fun vs H Q _ => ∃ F p c us ds τ d τ', vs = .ref p :: us ∧ us.length + 1 = n ∧ Same F H ∧ SrcOk (some (0, p, c)) F H τ ∧ τ.slot = some 0 ∧ RpA F us ds ∧ m ds τ = some (d, τ') ∧
  ∀ F' H' v, Ext (some (0, p, c)) F H F' H' → Same F' H' → SrcOk (some (0, p, c)) F' H' τ' → Rp F' v d → Q v H'
def callS (m : MS) (ds : List D) (τ : Src) : Option (D × Src) := match m ds { τ with slot := some 0 } with
  | some (d, τ') => some (d, { τ' with slot := τ.slot })
  | none => none
def mCallS (i : Nat) (m : MS) (g : M (List D)) : M D := fun η τ => if τ.slot = some i then mBind g (fun ds _ τ => callS m ds τ) η τ else none
theorem opl_P {n : Nat} {m : List D → Option D} (len : ∀ ds d, m ds = some d → ds.length = n) : OpL (fun vs H Q => spP n m vs H Q E0) m := by
  intro x dx d F H Q e s rx k
  exact ⟨F, dx, d, by rw [rx.length]; exact len _ _ e, s, rx, e, k⟩
theorem Ext.reslot {i j : Nat} {p c : Addr} {F H F' H' : Hp} (x : Ext (some (i, p, c)) F H F' H') : Ext (some (j, p, c)) F H F' H' :=
  ⟨x.ff, fun a o e n => x.hh a o e fun i' p' c' z => by cases z; exact n j p c rfl, x.nn, x.nf⟩
theorem SrcOk.reslot {i j : Nat} {p c : Addr} {F H : Hp} {τ : Src} (x : SrcOk (some (i, p, c)) F H τ) {o : Option Nat} : SrcOk (some (j, p, c)) F H { τ with slot := o } := fun i' p' c' z => by
  cases z; exact x i p c rfl
section
variable {X : Cx} {k : Nat} {f : Addr} {fd : FuncData} {ps : List Str} {x : Str} {p pos : Pos} {e : Expr} {es : List Expr} {g : M (List D)}
theorem de_call {m : List D → Option D} (F : FnG X.prog X.w X.K X.mg X.base k f fd ps (spP ps.length m)) (len : ∀ ds d, m ds = some d → ds.length = ps.length) (hr : Room k X.A) (hd : X.A.guards = some []) (hg : Gl X x) (hm : X.mg x = some (.ref f))
    (hk : PySem.W.keepIn X.K (.ref f) = true) (hb : Binds X.K fd ps []) (ha : DA X (e :: es) g) (hdb : (x == ("__debug__" : Str)) = false := by decide)
    (he : starEach (e :: es) X.env = (false, eval e X.env) :: starEach es X.env := by rfl) (hpl : (backTo pos (starEach es X.env)).any (·.1) = false := by rfl) :
    DE X (.Call (.Name x p) (e :: es) [] pos) (mOpL m g) := by
  refine pe_w (pe_callG F hr hd hg hm hk hb ha hdb he hpl) fun σ H Q h => ?_
  have h2 := tCB_of (opl_P len) σ H Q h
  obtain ⟨F0, sa, η, τ, d, τ', w, e, kk⟩ := h2
  refine ⟨F0, sa, η, τ, d, τ', w, e, fun F' H' v a b c => ?_⟩
  show spP ps.length m (v ++ []) H' Q E0
  rw [List.append_nil]
  exact kk F' H' v a b c
theorem de_callS (i : Nat) {y : Str} {py : Pos} {m : MS} (F : FnG X.prog X.w X.K X.mg X.base k f fd ps (spS ps.length m)) (len : ∀ ds τ d τ', m ds τ = some (d, τ') → ds.length + 1 = ps.length) (hr : Room k X.A) (hd : X.A.guards = some []) (hg : Gl X x) (hm : X.mg x = some (.ref f))
    (hk : PySem.W.keepIn X.K (.ref f) = true) (hb : Binds X.K fd ps []) (hv : PE X (.Name y py) (tVar i)) (ha : DA X es g) (hdb : (x == ("__debug__" : Str)) = false := by decide)
    (he : starEach (.Name y py :: es) X.env = (false, eval (.Name y py) X.env) :: starEach es X.env := by rfl) (hpl : (backTo pos (starEach es X.env)).any (·.1) = false := by rfl) :
    DE X (.Call (.Name x p) (.Name y py :: es) [] pos) (mCallS i m g) := by
  refine pe_w (pe_callG F hr hd hg hm hk hb (pa_cons hv ha he) hdb he hpl) ?_
  rintro σ H Q ⟨F0, sa, η, τ, d, τ', w, e, kk⟩
  unfold mCallS at e
  split at e
  · rename_i hs
    obtain ⟨ds, τ1, e1, e2⟩ := mBind_some e
    unfold callS at e2
    split at e2
    · rename_i d2 τ2 hm2
      cases e2
      cases sa with
      | none =>
        have hx : (none : Option Nat) = τ.slot := w.flag
        rw [hs] at hx
        cases hx
      | some t =>
        obtain ⟨j, q, c⟩ := t
        have hx : some j = τ.slot := w.flag
        rw [hs] at hx
        cases hx
        obtain ⟨_, hq⟩ := w.slot i q c rfl
        refine ⟨.ref q, hq, tL.go w e1 fun F1 H1 vs x1 w1 r1 => ?_⟩
        show spS ps.length m ((.ref q :: vs) ++ []) H1 Q E0
        rw [List.append_nil]
        refine ⟨F1, q, c, vs, ds, _, d, τ2, rfl, by rw [r1.length]; exact len _ _ _ _ hm2, w1.fh, w1.src.reslot, rfl, r1, hm2, fun F2 H2 v x2 s2 k2 r2 => ?_⟩
        have x2' : Ext (some (i, q, c)) F1 H1 F2 H2 := x2.reslot
        exact kk F2 H2 v (x1.trans x2') (w1.back x2.ff s2 k2.reslot w1.flag) r2
    · cases e2
  · cases e
end
end DL

/-! DLf: statements. -/
namespace DL
open PySem PySem.Spec PyProof.Rows L2

/-- what a slot holds: nothing known; data; an object of the frame's own that may be changed; the source -/
inductive Sl where
  | no
  | dat (d : D)
  | own (d : D)
  | src
abbrev EnvS := List Sl
def see (b : Bool) : Sl → Option D
  | .dat d => some d
  | .own d => if b = true then some d else none
  | _ => none
def view (b : Bool) (ρ : EnvS) : EnvD := ρ.map (see b)
mutual
def pureD : D → Bool
  | .none | .bool _ | .int _ | .str _ => true
  | .tuple ds => pureA ds
  | .list _ | .dict _ => false
def pureA : List D → Bool
  | [] => true
  | d :: ds => pureD d && pureA ds
end
def okD (b : Bool) (d : D) : Bool := !b || pureD d
def okA (b : Bool) (d : List D) : Bool := !b || pureA d
mutual
theorem Rp.tups {F G : Hp} (h : ∀ a xs, F a = some (.tup xs) → G a = some (.tup xs)) : ∀ (d : D) (v : V), pureD d = true → Rp F v d → Rp G v d
  | .none, _, _, r => by cases r; exact .non
  | .bool b, _, _, r => by cases r; exact .bl _
  | .int i, _, _, r => by cases r; exact .int _
  | .str x, _, _, r => by cases r; exact .str _
  | .list ds, _, p, _ => by simp [pureD] at p
  | .tuple ds, _, p, r => by cases r with | tup h1 h2 h3 => exact .tup (h _ _ h1) h2 (RpA.tups h ds _ (by simpa [pureD] using p) h3)
  | .dict ds, _, p, _ => by simp [pureD] at p
theorem RpA.tups {F G : Hp} (h : ∀ a xs, F a = some (.tup xs) → G a = some (.tup xs)) : ∀ (ds : List D) (vs : List V), pureA ds = true → RpA F vs ds → RpA G vs ds
  | [], _, _, r => by cases r; exact .nil
  | d :: ds, _, p, r => by
    have p' : pureD d = true ∧ pureA ds = true := by simpa [pureA] using p
    cases r with | cons r1 r2 => exact .cons (Rp.tups h d _ p'.1 r1) (RpA.tups h ds _ p'.2 r2)
end
/-- an own object's content is data -/
def OwnO (F : Hp) : HO → D → Prop
  | .lst xs, .list ds => xs.length ≤ sizeLine ∧ RpA F xs ds
  | .dK kvs, .dict ds => RpK F kvs ds
  | _, _ => False
theorem OwnO.mono {F G : Hp} (s : Same F G) : ∀ {o : HO} {d : D}, OwnO F o d → OwnO G o d := by
  intro o d h
  cases o <;> cases d <;> first | exact h.elim | exact ⟨h.1, RpA.mono s _ _ h.2⟩ | exact RpK.mono s _ _ h
theorem OwnO.rp {F : Hp} {a : Addr} {o : HO} {d : D} (h : OwnO F o d) (e : F a = some o) : Rp F (.ref a) d := by
  cases o <;> cases d <;> first | exact h.elim | exact .lst e h.1 h.2 | exact .dct e h
theorem OwnO.notTup {F : Hp} {xs : List V} {d : D} (h : OwnO F (.tup xs) d) : False := by cases d <;> exact h

structure Hold (F0 H0 F : Hp) (sa : SA) (σ : L2.St) (H : Hp) (ρ : EnvS) (τ : Src) : Prop where
  ext : Ext sa F0 H0 F H
  fh : Same F H
  len : ρ.length = σ.length
  dat : ∀ (i : Nat) (d : D), ρ[i]? = some (.dat d) → ∃ v, σ[i]? = some (some v) ∧ Rp F v d
  own : ∀ (i : Nat) (d : D), ρ[i]? = some (.own d) → ∃ a o, σ[i]? = some (some (.ref a)) ∧ H a = some o ∧ OwnO F o d ∧ F a = none ∧ H0 a = none ∧ NotSrc sa a
  sep : ∀ (i j : Nat) (d e : D) (a : Addr), i ≠ j → ρ[i]? = some (.own d) → ρ[j]? = some (.own e) → σ[i]? = some (some (.ref a)) → σ[j]? = some (some (.ref a)) → False
  src : SrcOk sa F H τ
  flag : sa.map (·.1) = τ.slot
  slot : ∀ (i : Nat) (p c : Addr), sa = some (i, p, c) → i < 2 ∧ σ[i]? = some (some (.ref p)) ∧ ρ[i]? = some .src

section
variable {F0 H0 F H : Hp} {sa : SA} {σ : L2.St} {ρ : EnvS} {τ τ' : Src}
theorem view_get {b : Bool} {i : Nat} {d : D} (h : (view b ρ)[i]? = some (some d)) : ρ[i]? = some (.dat d) ∨ (b = true ∧ ρ[i]? = some (.own d)) := by
  unfold view at h
  rw [List.getElem?_map] at h
  obtain ⟨s, h1, h2⟩ := Option.map_eq_some_iff.mp h
  rw [h1]
  cases s <;> simp only [see, reduceCtorEq, Option.some.injEq] at h2
  · subst h2; exact .inl rfl
  · split at h2
    · cases h2; exact .inr ⟨by assumption, rfl⟩
    · cases h2
def IsOwn (ρ : EnvS) (σ : L2.St) (a : Addr) : Prop := ∃ (i : Nat) (d : D), ρ[i]? = some (.own d) ∧ σ[i]? = some (some (.ref a))
open Classical in
noncomputable def plus (F H : Hp) (ρ : EnvS) (σ : L2.St) : Hp := fun a => if IsOwn ρ σ a then H a else F a
open Classical in
noncomputable def less (F : Hp) (ρ : EnvS) (σ : L2.St) : Hp := fun a => if IsOwn ρ σ a then none else F a
theorem plus_own {a : Addr} (h : IsOwn ρ σ a) : plus F H ρ σ a = H a := by unfold plus; rw [if_pos h]
theorem plus_not {a : Addr} (h : ¬ IsOwn ρ σ a) : plus F H ρ σ a = F a := by unfold plus; rw [if_neg h]
theorem less_own {a : Addr} (h : IsOwn ρ σ a) : less F ρ σ a = none := by unfold less; rw [if_pos h]
theorem less_not {a : Addr} (h : ¬ IsOwn ρ σ a) : less F ρ σ a = F a := by unfold less; rw [if_neg h]
theorem Hold.isOwn (h : Hold F0 H0 F sa σ H ρ τ) {a : Addr} (o : IsOwn ρ σ a) : ∃ ob d, H a = some ob ∧ OwnO F ob d ∧ F a = none ∧ H0 a = none ∧ NotSrc sa a := by
  obtain ⟨i, d, h1, h2⟩ := o
  obtain ⟨b, ob, h3, h4, h5, h6, h7, h8⟩ := h.own i d h1
  rw [h2] at h3
  cases h3
  exact ⟨ob, d, h4, h5, h6, h7, h8⟩
theorem Hold.same_plus (h : Hold F0 H0 F sa σ H ρ τ) : Same F (plus F H ρ σ) := fun a o e => by
  rw [plus_not fun z => by
    obtain ⟨_, _, _, _, h1, _⟩ := h.isOwn z
    rw [e] at h1; cases h1]
  exact e
theorem Hold.step0 {F' H' : Hp} (h : Hold F0 H0 F sa σ H ρ τ) (x : Ext sa F H F' H') (s : Same F' H') (k : SrcOk sa F' H' τ') (fl : sa.map (·.1) = τ'.slot) : Hold F0 H0 F' sa σ H' ρ τ' :=
  ⟨h.ext.trans x, s, h.len, fun i d e => let ⟨v, h1, h2⟩ := h.dat i d e; ⟨v, h1, Rp.mono x.ff _ _ h2⟩, fun i d e => by
    obtain ⟨a, o, h1, h2, h3, h4, h5, h6⟩ := h.own i d e
    exact ⟨a, o, h1, x.hh _ _ h2 h6, h3.mono x.ff, x.nf a h4 (nn_of h2), h5, h6⟩, h.sep, k, fl, h.slot⟩
/-- an expression is evaluated: what is seen, and how the state goes on -/
theorem Hold.run (h : Hold F0 H0 F sa σ H ρ τ) (b : Bool) : ∃ Fb, View Fb sa σ H (view b ρ) τ ∧ (∀ F' H', Ext sa Fb H F' H' → Ext sa F0 H0 F' H') ∧
    ∀ F' H' τ', Ext sa Fb H F' H' → Same F' H' → SrcOk sa F' H' τ' → sa.map (·.1) = τ'.slot →
      ∃ F2, Hold F0 H0 F2 sa σ H' ρ τ' ∧ Same F2 F' ∧ (∀ d v, okD b d = true → Rp F' v d → Rp F2 v d) ∧ (∀ d v, okA b d = true → RpA F' v d → RpA F2 v d) := by
  cases b with
  | false =>
    refine ⟨F, ⟨h.fh, fun i d e => ?_, h.src, by unfold view; rw [List.length_map, h.len]; exact Nat.le_refl _, h.flag, fun i p c e => let ⟨a, b, _⟩ := h.slot i p c e; ⟨a, b⟩⟩, fun F' H' x => h.ext.trans x, fun F' H' τ' x s k fl => ?_⟩
    · rcases view_get e with e | ⟨e, _⟩
      · exact h.dat i d e
      · cases e
    · exact ⟨F', h.step0 x s k fl, Same.refl _, fun _ _ _ r => r, fun _ _ _ r => r⟩
  | true =>
    have sp := h.same_plus
    have ph : Same (plus F H ρ σ) H := fun a o e => by
      by_cases z : IsOwn ρ σ a
      · rw [plus_own z] at e; exact e
      · rw [plus_not z] at e; exact h.fh a o e
    refine ⟨plus F H ρ σ, ⟨ph, fun i d e => ?_, fun i p c e => ?_, by unfold view; rw [List.length_map, h.len]; exact Nat.le_refl _, h.flag, fun i p c e => let ⟨a, b, _⟩ := h.slot i p c e; ⟨a, b⟩⟩, fun F' H' x => ?_, fun F' H' τ' x s k fl => ?_⟩
    · rcases view_get e with e | ⟨_, e⟩
      · obtain ⟨v, h1, h2⟩ := h.dat i d e
        exact ⟨v, h1, Rp.mono sp _ _ h2⟩
      · obtain ⟨a, o, h1, h2, h3, _⟩ := h.own i d e
        exact ⟨.ref a, h1, (h3.mono sp).rp (by rw [plus_own ⟨i, d, e, h1⟩]; exact h2)⟩
    · obtain ⟨h1, h2, h3, h4, h5⟩ := h.src i p c e
      refine ⟨h1, h2, h3, ?_, ?_⟩
      · rw [plus_not fun z => by
          obtain ⟨_, _, _, _, _, _, n⟩ := h.isOwn z
          exact (n i p c e).1 rfl]
        exact h4
      · rw [plus_not fun z => by
          obtain ⟨_, _, _, _, _, _, n⟩ := h.isOwn z
          exact (n i p c e).2 rfl]
        exact h5
    · refine ⟨h.ext.ff.trans (sp.trans x.ff), fun a o e n => x.hh a o (h.ext.hh a o e n) n, fun a e => x.nn a (h.ext.nn a e), fun a e1 e2 => x.nf a ?_ (h.ext.nn a e2)⟩
      rw [plus_not fun z => by
        obtain ⟨_, _, _, _, _, z0, _⟩ := h.isOwn z
        exact e2 z0]
      exact h.ext.nf a e1 e2
    · -- the own objects are not frozen behind it
      have lF : Same (less F' ρ σ) F' := fun a o e => by
        by_cases z : IsOwn ρ σ a
        · rw [less_own z] at e; cases e
        · rw [less_not z] at e; exact e
      have fl2 : Same F (less F' ρ σ) := fun a o e => by
        rw [less_not fun z => by
          obtain ⟨_, _, _, _, h1, _⟩ := h.isOwn z
          rw [e] at h1; cases h1]
        exact x.ff a o (sp a o e)
      have tup : ∀ a xs, F' a = some (.tup xs) → less F' ρ σ a = some (.tup xs) := fun a xs e => by
        rw [less_not fun z => by
          obtain ⟨ob, d, h1, h2, _⟩ := h.isOwn z
          have := x.ff a ob (by rw [plus_own z]; exact h1)
          rw [e] at this
          cases this
          exact h2.notTup]
        exact e
      refine ⟨less F' ρ σ, ⟨⟨h.ext.ff.trans fl2, fun a o e n => x.hh a o (h.ext.hh a o e n) n, fun a e => x.nn a (h.ext.nn a e), fun a e1 e2 => ?_⟩, lF.trans s, h.len, fun i d e => let ⟨v, h1, h2⟩ := h.dat i d e; ⟨v, h1, Rp.mono fl2 _ _ h2⟩, fun i d e => ?_, h.sep, fun i p c e => ?_, fl, h.slot⟩, lF, fun d v p r => Rp.tups tup d v (by simpa [okD] using p) r, fun d v p r => RpA.tups tup d v (by simpa [okA] using p) r⟩
      · by_cases z : IsOwn ρ σ a
        · exact less_own z
        · rw [less_not z]
          exact x.nf a (by rw [plus_not z]; exact h.ext.nf a e1 e2) (h.ext.nn a e2)
      · obtain ⟨a, o, h1, h2, h3, h4, h5, h6⟩ := h.own i d e
        exact ⟨a, o, h1, x.hh _ _ h2 h6, h3.mono fl2, less_own ⟨i, d, e, h1⟩, h5, h6⟩
      · obtain ⟨h1, h2, h3, h4, h5⟩ := k i p c e
        refine ⟨h1, h2, h3, ?_, ?_⟩
        · by_cases z : IsOwn ρ σ p
          · exact less_own z
          · rw [less_not z]; exact h4
        · by_cases z : IsOwn ρ σ c
          · exact less_own z
          · rw [less_not z]; exact h5

/-! a slot is stored -/
def okSet (ρ : EnvS) (i : Nat) : Bool := match ρ[i]? with
  | some .src => false
  | some _ => true
  | none => false
theorem okSet_lt {i : Nat} (h : okSet ρ i = true) : i < ρ.length := by
  unfold okSet at h
  cases e : ρ[i]? with
  | none => rw [e] at h; cases h
  | some _ => exact (List.getElem?_eq_some_iff.mp e).1
theorem okSet_src {i : Nat} (h : okSet ρ i = true) : ρ[i]? ≠ some .src := by
  unfold okSet at h
  intro e
  rw [e] at h
  cases h
theorem get_set {α : Type} {l : List α} {i j : Nat} {x y : α} (h : (l.set i x)[j]? = some y) : (i = j ∧ y = x) ∨ (i ≠ j ∧ l[j]? = some y) := by
  by_cases e : i = j
  · subst e
    rw [List.getElem?_set] at h
    split at h
    · split at h
      · cases h; exact .inl ⟨rfl, rfl⟩
      · cases h
    · rename_i hn; exact absurd rfl hn
  · rw [List.getElem?_set_ne e] at h
    exact .inr ⟨e, h⟩
theorem Hold.set_dat (h : Hold F0 H0 F sa σ H ρ τ) {i : Nat} {v : V} {d : D} (ok : okSet ρ i = true) (r : Rp F v d) : Hold F0 H0 F sa (σ.set i (some v)) H (ρ.set i (.dat d)) τ := by
  have hi := okSet_lt ok
  have hs := h.len
  refine ⟨h.ext, h.fh, by rw [List.length_set, List.length_set]; exact hs, fun j e hj => ?_, fun j e hj => ?_, fun j l e e' a hn h1 h2 h3 h4 => ?_, h.src, h.flag, fun j p c e => ?_⟩
  · rcases get_set hj with ⟨rfl, q⟩ | ⟨n, q⟩
    · cases q; exact ⟨v, by rw [List.getElem?_set_self (by omega)], r⟩
    · rw [List.getElem?_set_ne n]; exact h.dat j e q
  · rcases get_set hj with ⟨rfl, q⟩ | ⟨n, q⟩
    · cases q
    · rw [List.getElem?_set_ne n]; exact h.own j e q
  · rcases get_set h1 with ⟨rfl, q⟩ | ⟨n, q⟩
    · cases q
    · rcases get_set h2 with ⟨rfl, q2⟩ | ⟨n2, q2⟩
      · cases q2
      · rw [List.getElem?_set_ne n] at h3
        rw [List.getElem?_set_ne n2] at h4
        exact h.sep j l e e' a hn q q2 h3 h4
  · obtain ⟨h1, h2, h3⟩ := h.slot j p c e
    have n : i ≠ j := fun z => okSet_src ok (by rw [z]; exact h3)
    exact ⟨h1, by rw [List.getElem?_set_ne n]; exact h2, by rw [List.getElem?_set_ne n]; exact h3⟩
theorem Hold.set_own (h : Hold F0 H0 F sa σ H ρ τ) {i : Nat} {a : Addr} {o : HO} {d : D} (ok : okSet ρ i = true) (hH : H a = some o) (r : OwnO F o d) (hF : F a = none) (h0 : H0 a = none) (n : NotSrc sa a)
    (fresh : ∀ (j : Nat) (e : D), ρ[j]? = some (.own e) → σ[j]? ≠ some (some (.ref a))) : Hold F0 H0 F sa (σ.set i (some (.ref a))) H (ρ.set i (.own d)) τ := by
  have hi := okSet_lt ok
  have hs := h.len
  refine ⟨h.ext, h.fh, by rw [List.length_set, List.length_set]; exact hs, fun j e hj => ?_, fun j e hj => ?_, fun j l e e' b hn h1 h2 h3 h4 => ?_, h.src, h.flag, fun j p c e => ?_⟩
  · rcases get_set hj with ⟨rfl, q⟩ | ⟨n, q⟩
    · cases q
    · rw [List.getElem?_set_ne n]; exact h.dat j e q
  · rcases get_set hj with ⟨rfl, q⟩ | ⟨n, q⟩
    · cases q; exact ⟨a, o, by rw [List.getElem?_set_self (by omega)], hH, r, hF, h0, n⟩
    · rw [List.getElem?_set_ne n]; exact h.own j e q
  · rcases get_set h1 with ⟨rfl, q⟩ | ⟨n, q⟩
    · rw [List.getElem?_set_self (by omega)] at h3
      cases h3
      rcases get_set h2 with ⟨rfl, q2⟩ | ⟨n2, q2⟩
      · exact hn rfl
      · rw [List.getElem?_set_ne n2] at h4
        exact fresh l e' q2 h4
    · rw [List.getElem?_set_ne n] at h3
      rcases get_set h2 with ⟨rfl, q2⟩ | ⟨n2, q2⟩
      · rw [List.getElem?_set_self (by omega)] at h4
        cases h4
        exact fresh j e q h3
      · rw [List.getElem?_set_ne n2] at h4
        exact h.sep j l e e' b hn q q2 h3 h4
  · obtain ⟨h1, h2, h3⟩ := h.slot j p c e
    have n : i ≠ j := fun z => okSet_src ok (by rw [z]; exact h3)
    exact ⟨h1, by rw [List.getElem?_set_ne n]; exact h2, by rw [List.getElem?_set_ne n]; exact h3⟩
/-- an own object is changed -/
theorem Hold.write (h : Hold F0 H0 F sa σ H ρ τ) {i : Nat} {a : Addr} {o : HO} {d0 d : D} (hr : ρ[i]? = some (.own d0)) (hs : σ[i]? = some (some (.ref a))) (r : OwnO F o d) : Hold F0 H0 F sa σ (upd H a o) (ρ.set i (.own d)) τ := by
  obtain ⟨b, o1, g1, g2, g3, g4, g5, g6⟩ := h.own i d0 hr
  rw [hs] at g1
  cases g1
  have hi := (List.getElem?_eq_some_iff.mp hr).1
  have hl := h.len
  refine ⟨⟨h.ext.ff, fun c q e n => ?_, fun c e => ?_, h.ext.nf⟩, fun c q e => ?_, by rw [List.length_set]; exact hl, fun j e hj => ?_, fun j e hj => ?_, fun j l e e' b' hn h1 h2 h3 h4 => ?_, fun j p c e => ?_, h.flag, fun j p c e => ?_⟩
  · rw [upd_ne (ne_of_none e g5)]; exact h.ext.hh c q e n
  · by_cases hc : c = a
    · rw [hc, upd_same]; simp
    · rw [upd_ne hc]; exact h.ext.nn c e
  · rw [upd_ne (ne_of_none e g4)]; exact h.fh c q e
  · rcases get_set hj with ⟨rfl, q⟩ | ⟨n, q⟩
    · cases q
    · exact h.dat j e q
  · rcases get_set hj with ⟨rfl, q⟩ | ⟨n, q⟩
    · cases q; exact ⟨a, o, hs, upd_same, r, g4, g5, g6⟩
    · obtain ⟨c, o2, k1, k2, k3, k4, k5, k6⟩ := h.own j e q
      have hc : c ≠ a := fun z => h.sep i j d0 e a n hr q hs (by rw [← z]; exact k1)
      exact ⟨c, o2, k1, by rw [upd_ne hc]; exact k2, k3, k4, k5, k6⟩
  · rcases get_set h1 with ⟨rfl, q⟩ | ⟨n, q⟩
    · rcases get_set h2 with ⟨rfl, q2⟩ | ⟨n2, q2⟩
      · exact hn rfl
      · exact h.sep i l d0 e' b' hn hr q2 h3 h4
    · rcases get_set h2 with ⟨rfl, q2⟩ | ⟨n2, q2⟩
      · exact h.sep j i e d0 b' hn q hr h3 h4
      · exact h.sep j l e e' b' hn q q2 h3 h4
  · obtain ⟨h1, h2, h3, h4, h5⟩ := h.src j p c e
    obtain ⟨n1, n2⟩ := g6 j p c e
    exact ⟨by rw [upd_ne (Ne.symm n1)]; exact h1, by rw [upd_ne (Ne.symm n2)]; exact h2, h3, h4, h5⟩
  · obtain ⟨h1, h2, h3⟩ := h.slot j p c e
    have n : i ≠ j := fun z => by rw [← z, hr] at h3; cases h3
    exact ⟨h1, h2, by rw [List.getElem?_set_ne n]; exact h3⟩
theorem Hold.own_new (h : Hold F0 H0 F sa σ H ρ τ) {a : Addr} (n : H a = none) (j : Nat) (e : D) (hj : ρ[j]? = some (.own e)) : σ[j]? ≠ some (some (.ref a)) := fun z => by
  obtain ⟨b, o, h1, h2, _⟩ := h.own j e hj
  rw [z] at h1
  cases h1
  rw [n] at h2
  cases h2
end

/-! ### the mirror of a statement -/
inductive Out where
  | nx
  | bk
  | ct
  | rt (d : D)
abbrev Stm := EnvS → Src → Option (Out × EnvS × Src)
def Fin (F0 H0 : Hp) (sa : SA) (E : Ends) : Out → EnvS → Src → Prop
  | .nx, ρ, τ => ∀ F σ H, Hold F0 H0 F sa σ H ρ τ → E.nx σ H
  | .bk, ρ, τ => ∀ F σ H, Hold F0 H0 F sa σ H ρ τ → E.bk σ H
  | .ct, ρ, τ => ∀ F σ H, Hold F0 H0 F sa σ H ρ τ → E.ct σ H
  | .rt d, _, τ => ∀ F H v, Ext sa F0 H0 F H → Same F H → SrcOk sa F H τ → Rp F v d → E.rt v H
def tS (g : Stm) : TS := fun E σ H => ∃ F0 H0 F sa ρ τ o ρ' τ', Hold F0 H0 F sa σ H ρ τ ∧ g ρ τ = some (o, ρ', τ') ∧ Fin F0 H0 sa E o ρ' τ'
abbrev DS (X : Cx) (st : Stmt) (g : Stm) : Prop := PS X st (tS g)
abbrev DSs (X : Cx) (st : List Stmt) (g : Stm) : Prop := PSs X st (tS g)
theorem ps_w {X : Cx} {st : Stmt} {t t' : TS} (h : PS X st t) (w : ∀ E σ H, t' E σ H → t E σ H) : PS X st t' := ⟨fun pins s σ H E I k => h.run pins s σ H E I (w E σ H k)⟩
theorem pss_w {X : Cx} {st : List Stmt} {t t' : TS} (h : PSs X st t) (w : ∀ E σ H, t' E σ H → t E σ H) : PSs X st t' := ⟨fun pins s σ H E I k => h.run pins s σ H E I (w E σ H k)⟩
def mSkip : Stm := fun ρ τ => some (.nx, ρ, τ)
def mSeq (g h : Stm) : Stm := fun ρ τ => match g ρ τ with
  | some (.nx, ρ1, τ1) => h ρ1 τ1
  | r => r
def mSet (b : Bool) (i : Nat) (f : M D) : Stm := fun ρ τ => match f (view b ρ) τ with
  | some (d, τ') => if okSet ρ i && okD b d then some (.nx, ρ.set i (.dat d), τ') else none
  | none => none
def mSetN (b : Bool) (i : Nat) (f : M (List D)) : Stm := fun ρ τ => match f (view b ρ) τ with
  | some (d, τ') => if okSet ρ i && okA b d then some (.nx, ρ.set i (.own (.list d)), τ') else none
  | none => none
def mApp (b : Bool) (i : Nat) (f : M D) : Stm := fun ρ τ => match f (view b ρ) τ with
  | some (d, τ') => match ρ[i]? with
    | some (.own (.list ds)) => if okD b d && decide (ds.length < sizeLine) then some (.nx, ρ.set i (.own (.list (ds ++ [d]))), τ') else none
    | _ => none
  | none => none
def mExt (b : Bool) (i : Nat) (f : M D) : Stm := fun ρ τ => match f (view b ρ) τ with
  | some (.list es, τ') => match ρ[i]? with
    | some (.own (.list ds)) => if okA b es && decide (ds.length + es.length ≤ sizeLine) then some (.nx, ρ.set i (.own (.list (ds ++ es))), τ') else none
    | _ => none
  | _ => none
def mSetIx (b : Bool) (i : Nat) (f k : M D) : Stm := fun ρ τ => match f (view b ρ) τ with
  | some (d, τ1) => match k (view b ρ) τ1 with
    | some (.int n, τ2) => match ρ[i]? with
      | some (.own (.list ds)) => match ixN ds.length n with
        | some j => if okD b d then some (.nx, ρ.set i (.own (.list (ds.set j d))), τ2) else none
        | none => none
      | _ => none
    | _ => none
  | none => none
def mRet (f : M D) : Stm := fun ρ τ => match f (view true ρ) τ with
  | some (d, τ') => some (.rt d, ρ, τ')
  | none => none
def mIfS (c : M Bool) (g h : Stm) : Stm := fun ρ τ => match c (view true ρ) τ with
  | some (b, τ') => if b = true then g ρ τ' else h ρ τ'
  | none => none
def mDrop (f : M D) : Stm := fun ρ τ => match f (view true ρ) τ with
  | some (_, τ') => some (.nx, ρ, τ')
  | none => none
def frz (ρ : EnvS) (i : Nat) : EnvS := match ρ[i]? with
  | some (.own d) => ρ.set i (.dat d)
  | _ => ρ
def mFrz (i : Nat) (g : Stm) : Stm := fun ρ τ => g (frz ρ i) τ
def whileGo (c : M Bool) (g : Stm) : Nat → Stm
  | 0 => fun _ _ => none
  | n + 1 => fun ρ τ => match c (view true ρ) τ with
    | none => none
    | some (false, τ1) => some (.nx, ρ, τ1)
    | some (true, τ1) => match g ρ τ1 with
      | some (.nx, ρ2, τ2) => whileGo c g n ρ2 τ2
      | some (.ct, ρ2, τ2) => whileGo c g n ρ2 τ2
      | some (.bk, ρ2, τ2) => some (.nx, ρ2, τ2)
      | some (.rt d, ρ2, τ2) => some (.rt d, ρ2, τ2)
      | none => none
def fuel : Nat := 1000000
def mWhile (c : M Bool) (g : Stm) : Stm := whileGo c g fuel
def setSl (ρ : EnvS) (as : List (Nat × D)) : EnvS := as.foldl (fun ρ w => ρ.set w.1 (.dat w.2)) ρ
def okSets (ρ : EnvS) (as : List (Nat × D)) : Bool := as.all fun a => okSet ρ a.1
def forGo (b : Tgt) (g : Stm) : List D → Stm
  | [] => fun ρ τ => some (.nx, ρ, τ)
  | d :: ds => fun ρ τ => match bindT b d with
    | none => none
    | some as => if okSets ρ as = true then (match g (setSl ρ as) τ with
      | some (.nx, ρ2, τ2) => forGo b g ds ρ2 τ2
      | some (.ct, ρ2, τ2) => forGo b g ds ρ2 τ2
      | some (.bk, ρ2, τ2) => some (.nx, ρ2, τ2)
      | some (.rt d, ρ2, τ2) => some (.rt d, ρ2, τ2)
      | none => none) else none
def mFor (fi : M (List D)) (b : Tgt) (g : Stm) : Stm := fun ρ τ => match fi (view false ρ) τ with
  | some (ds, τ1) => forGo b g ds ρ τ1
  | none => none
def mAsgT (v : Bool) (b : Tgt) (f : M D) : Stm := fun ρ τ => match f (view v ρ) τ with
  | some (d, τ1) => match bindT b d with
    | some as => if okSets ρ as && okD v d then some (.nx, setSl ρ as, τ1) else none
    | none => none
  | none => none

section
variable {X : Cx} {st : Stmt} {rest : List Stmt} {g h : Stm} {e : Expr} {f : M D} {pos : Pos}
theorem dss_nil : DSs X [] mSkip := pss_w pss_nil fun E σ H h => by
  obtain ⟨F0, H0, F, sa, ρ, τ, o, ρ', τ', hh, e, k⟩ := h
  cases e
  exact k F σ H hh
theorem dss_one (h1 : DS X st g) : DSs X [st] g := pss_one h1
theorem dss_cons (h1 : DS X st g) (h2 : DSs X rest h) : DSs X (st :: rest) (mSeq g h) := by
  refine pss_w (pss_cons h1 h2) ?_
  rintro E σ H ⟨F0, H0, F, sa, ρ, τ, o, ρ', τ', hh, e, k⟩
  unfold mSeq at e
  split at e
  · rename_i ρ1 τ1 e1
    exact ⟨F0, H0, F, sa, ρ, τ, .nx, ρ1, τ1, hh, e1, fun F2 σ2 H2 h2 => ⟨F0, H0, F2, sa, ρ1, τ1, o, ρ', τ', h2, e, k⟩⟩
  · rename_i hn
    refine ⟨F0, H0, F, sa, ρ, τ, o, ρ', τ', hh, e, ?_⟩
    cases o with
    | nx => exact absurd e (hn _ _)
    | bk => exact k
    | ct => exact k
    | rt d => exact k
theorem ds_pass : DS X (.Pass pos) mSkip := ps_w ps_pass fun E σ H h => by
  obtain ⟨F0, H0, F, sa, ρ, τ, o, ρ', τ', hh, e, k⟩ := h
  cases e
  exact k F σ H hh
def mBreak : Stm := fun ρ τ => some (.bk, ρ, τ)
def mCont : Stm := fun ρ τ => some (.ct, ρ, τ)
theorem ds_break : DS X (.Break pos) mBreak := ps_w ps_break fun E σ H h => by
  obtain ⟨F0, H0, F, sa, ρ, τ, o, ρ', τ', hh, e, k⟩ := h
  cases e
  exact k F σ H hh
theorem ds_cont : DS X (.Continue pos) mCont := ps_w ps_continue fun E σ H h => by
  obtain ⟨F0, H0, F, sa, ρ, τ, o, ρ', τ', hh, e, k⟩ := h
  cases e
  exact k F σ H hh
/-- x = e -/
theorem set_of {b : Bool} {i : Nat} : ∀ E σ H, tS (mSet b i f) E σ H → tAsg (tE f) (gName i) E σ H := by
  rintro E σ H ⟨F0, H0, F, sa, ρ, τ, o, ρ', τ', hh, e, k⟩
  unfold mSet at e
  split at e
  · rename_i d τ1 e1
    split at e
    · rename_i ok
      cases e
      rw [Bool.and_eq_true] at ok
      obtain ⟨Fb, w, _, go⟩ := hh.run b
      refine tE.go w e1 fun F1 H1 v x1 w1 r1 => ?_
      obtain ⟨F2, h2, _, rp, _⟩ := go F1 H1 _ x1 w1.fh w1.src w1.flag
      exact k F2 _ H1 (h2.set_dat ok.1 (rp d v ok.2 r1))
    · cases e
  · cases e
theorem ds_set (b : Bool) {i : Nat} {x : Str} {pos' : Pos} (hN : X.N.Nodup) (hi : X.N[i]? = some x) (hx : Loc X.env.scope x) (he : DE X e f) (hs : swapsWith e (some (.Name x pos')) pos.line X.env = pure false := by rfl) (hf : X.fn x = true ∨ X.env.scope.names.lookup x = some .local := by first | exact .inl rfl | exact .inr rfl | assumption) :
    DS X (.Assign [.Name x pos'] e pos) (mSet b i f) := ps_w (ps_set hN hi hx he hs hf) set_of
/-- x = a new list -/
theorem setN_of {g : M (List D)} {b : Bool} {i : Nat} : ∀ E σ H, tS (mSetN b i g) E σ H → tAsg (tN g) (gName i) E σ H := by
  rintro E σ H ⟨F0, H0, F, sa, ρ, τ, o, ρ', τ', hh, e, k⟩
  unfold mSetN at e
  split at e
  · rename_i d τ1 e1
    split at e
    · rename_i ok
      cases e
      rw [Bool.and_eq_true] at ok
      obtain ⟨Fb, w, _, go⟩ := hh.run b
      refine tN.go w e1 fun F1 H1 a vs x1 w1 n0 nF hH hl ns r1 => ?_
      obtain ⟨F2, h2, sf, _, rp⟩ := go F1 H1 _ x1 w1.fh w1.src w1.flag
      have h00 : H0 a = none := by
        cases z : H0 a with
        | none => rfl
        | some q => exact absurd n0 (hh.ext.nn a (nn_of z))
      refine k F2 _ H1 (h2.set_own ok.1 hH ⟨hl, rp d vs ok.2 r1⟩ (sf.free nF) h00 ns fun j q hj z => hh.own_new n0 j q hj z)
    · cases e
  · cases e
theorem ds_setN (b : Bool) {g : M (List D)} {i : Nat} {x : Str} {pos' : Pos} (hN : X.N.Nodup) (hi : X.N[i]? = some x) (hx : Loc X.env.scope x) (he : DN X e g) (hs : swapsWith e (some (.Name x pos')) pos.line X.env = pure false := by rfl) (hf : X.fn x = true ∨ X.env.scope.names.lookup x = some .local := by first | exact .inl rfl | exact .inr rfl | assumption) :
    DS X (.Assign [.Name x pos'] e pos) (mSetN b i g) := ps_w (ps_set hN hi hx he hs hf) setN_of
theorem ds_ret (he : DE X e f) : DS X (.Return (some e) pos) (mRet f) := by
  refine ps_w (ps_ret he) ?_
  rintro E σ H ⟨F0, H0, F, sa, ρ, τ, o, ρ', τ', hh, e, k⟩
  unfold mRet at e
  split at e
  · rename_i d τ1 e1
    cases e
    obtain ⟨Fb, w, x0, _⟩ := hh.run true
    exact tE.go w e1 fun F1 H1 v x1 w1 r1 => k F1 H1 v (x0 F1 H1 x1) w1.fh w1.src r1
  · cases e
theorem ds_if {c : Expr} {p q : List Stmt} {tc : M Bool} (hc : DT X c tc) (ha : DSs X p g) (hb : DSs X q h) : DS X (.If c p q pos) (mIfS tc g h) := by
  refine ps_w (ps_if hc ha hb) ?_
  rintro E σ H ⟨F0, H0, F, sa, ρ, τ, o, ρ', τ', hh, e, k⟩
  unfold mIfS at e
  split at e
  · rename_i d τ1 e1
    obtain ⟨Fb, w, _, go⟩ := hh.run true
    refine tT.go w e1 fun F1 H1 x1 w1 => ?_
    obtain ⟨F2, h2, _⟩ := go F1 H1 _ x1 w1.fh w1.src w1.flag
    cases d with
    | true => exact iteT ⟨F0, H0, F2, sa, ρ, τ1, o, ρ', τ', h2, e, k⟩
    | false => exact iteF ⟨F0, H0, F2, sa, ρ, τ1, o, ρ', τ', h2, e, k⟩
  · cases e
theorem ds_drop (he : DE X e f) (hs : swapsWith e none pos.line X.env = pure false := by rfl) : DS X (.Expr e pos) (mDrop f) := by
  refine ps_w (ps_expr he hs) ?_
  rintro E σ H ⟨F0, H0, F, sa, ρ, τ, o, ρ', τ', hh, e, k⟩
  unfold mDrop at e
  split at e
  · rename_i d τ1 e1
    cases e
    obtain ⟨Fb, w, _, go⟩ := hh.run true
    refine tE.go w e1 fun F1 H1 v x1 w1 r1 => ?_
    obtain ⟨F2, h2, _⟩ := go F1 H1 _ x1 w1.fh w1.src w1.flag
    exact k F2 σ H1 h2
  · cases e
/-- an own object is data from here on -/
theorem Hold.frz {F0 H0 F H : Hp} {sa : SA} {σ : L2.St} {ρ : EnvS} {τ : Src} (hh : Hold F0 H0 F sa σ H ρ τ) (i : Nat) : ∃ F', Hold F0 H0 F' sa σ H (frz ρ i) τ := by
  unfold DL.frz
  split
  · rename_i d hd
    obtain ⟨a, o, g1, g2, g3, g4, g5, g6⟩ := hh.own i d hd
    have hi := (List.getElem?_eq_some_iff.mp hd).1
    have sf : Same F (upd F a o) := same_new g4
    refine ⟨upd F a o, ⟨hh.ext.ff.trans sf, hh.ext.hh, hh.ext.nn, fun b e1 e2 => ?_⟩, fun b q e => ?_, by rw [List.length_set]; exact hh.len, fun j e hj => ?_, fun j e hj => ?_, fun j l e e' b hn h1 h2 h3 h4 => ?_, fun j p c e => ?_, hh.flag, fun j p c e => ?_⟩
    · rw [upd_ne fun z => e2 (by rw [z]; exact g5)]; exact hh.ext.nf b e1 e2
    · by_cases hb : b = a
      · subst hb; rw [upd_same] at e; cases e; exact g2
      · rw [upd_ne hb] at e; exact hh.fh b q e
    · rcases get_set hj with ⟨rfl, q⟩ | ⟨n, q⟩
      · cases q; exact ⟨.ref a, g1, (g3.mono sf).rp upd_same⟩
      · obtain ⟨v, k1, k2⟩ := hh.dat j e q
        exact ⟨v, k1, Rp.mono sf _ _ k2⟩
    · rcases get_set hj with ⟨rfl, q⟩ | ⟨n, q⟩
      · cases q
      · obtain ⟨b, o2, k1, k2, k3, k4, k5, k6⟩ := hh.own j e q
        have hb : b ≠ a := fun z => hh.sep i j d e a n hd q g1 (by rw [← z]; exact k1)
        exact ⟨b, o2, k1, k2, k3.mono sf, by rw [upd_ne hb]; exact k4, k5, k6⟩
    · rcases get_set h1 with ⟨rfl, q⟩ | ⟨n, q⟩
      · cases q
      · rcases get_set h2 with ⟨rfl, q2⟩ | ⟨n2, q2⟩
        · cases q2
        · exact hh.sep j l e e' b hn q q2 h3 h4
    · obtain ⟨h1, h2, h3, h4, h5⟩ := hh.src j p c e
      obtain ⟨n1, n2⟩ := g6 j p c e
      exact ⟨h1, h2, h3, by rw [upd_ne (Ne.symm n1)]; exact h4, by rw [upd_ne (Ne.symm n2)]; exact h5⟩
    · obtain ⟨h1, h2, h3⟩ := hh.slot j p c e
      have n : i ≠ j := fun z => by rw [← z, hd] at h3; cases h3
      exact ⟨h1, h2, by rw [List.getElem?_set_ne n]; exact h3⟩
  · exact ⟨F, hh⟩
theorem ds_frz (i : Nat) (h1 : DS X st g) : DS X st (mFrz i g) := by
  refine ps_w h1 ?_
  rintro E σ H ⟨F0, H0, F, sa, ρ, τ, o, ρ', τ', hh, e, k⟩
  obtain ⟨F', h2⟩ := hh.frz i
  exact ⟨F0, H0, F', sa, _, τ, o, ρ', τ', h2, e, k⟩
end
end DL

/-! DLg: methods of own lists, loops, several targets, a def's body. -/
namespace DL
open PySem PySem.Spec PyProof.Rows L2

section
variable {X : Cx} {f : M D} {pos pos' p1 p2 : Pos} {x : Str} {e : Expr}
theorem own_at {F0 H0 F H : Hp} {sa : SA} {σ : L2.St} {ρ : EnvS} {τ : Src} (hh : Hold F0 H0 F sa σ H ρ τ) {i : Nat} {ds : List D} (h : ρ[i]? = some (.own (.list ds))) : ∃ a vs, σ[i]? = some (some (.ref a)) ∧ H a = some (.lst vs) ∧ vs.length ≤ sizeLine ∧ RpA F vs ds := by
  obtain ⟨a, o, h1, h2, h3, _⟩ := hh.own i _ h
  cases o <;> first | exact h3.elim | exact ⟨a, _, h1, h2, h3.1, h3.2⟩
/-- x.append(e) -/
theorem ds_app (b : Bool) (i : Nat) (hv : PE X (.Name x p1) (tVar i)) (he : DE X e f) (hs : swapsWith (.Call (.Attribute (.Name x p1) "append" p2) [e] [] pos) none pos'.line X.env = pure false := by rfl)
    (hbase : attributeBase (.Name x p1) "append" X.env (eval (.Name x p1) X.env) = eval (.Name x p1) X.env := by rfl)
    (hfew : ((backTo pos (starEach [e] X.env)).all (fun x => !x.1) && (backToKw pos (keywordEach [] X.env)).all (fun x => x.1.isSome)
      && decide (([e] : List Expr).length + ([] : List Keyword).length + (if ([] : List Keyword).isEmpty then 0 else 1) < 30)) = true := by rfl)
    (hline : (p2.endLine == pos.line) = true := by rfl) (hs1 : starEach [e] X.env = (false, eval e X.env) :: starEach [] X.env := by rfl)
    (hpl : (backTo pos (starEach [] X.env)).any (·.1) = false := by rfl) :
    DS X (.Expr (.Call (.Attribute (.Name x p1) "append" p2) [e] [] pos) pos') (mApp b i f) := by
  refine ps_w (ps_expr (pe_bm PySem.F.plainAttrs_list PySem.F.slot_list_append PySem.F.type_list_append mt_append hv (pa_cons he pa_nil hs1) hbase hfew hline hs1 hpl) hs) ?_
  rintro E σ H ⟨F0, H0, F, sa, ρ, τ, o, ρ', τ', hh, e, k⟩
  unfold mApp at e
  split at e
  · rename_i d τ1 e1
    split at e
    · rename_i ds hds
      split at e
      · rename_i ok
        cases e
        rw [Bool.and_eq_true] at ok
        have hlt := of_decide_eq_true ok.2
        obtain ⟨a, vs, h1, h2, h3, h4⟩ := own_at hh hds
        obtain ⟨Fb, w, _, go⟩ := hh.run b
        refine ⟨.ref a, h1, .inl ⟨rfl, _, .of h2⟩, tE.go w e1 fun F1 H1 v x1 w1 r1 => ?_⟩
        obtain ⟨F2, hh2, sf, rp, _⟩ := go F1 H1 _ x1 w1.fh w1.src w1.flag
        obtain ⟨a', vs', h1', h2', h3', h4'⟩ := own_at hh2 hds
        rw [h1] at h1'
        cases h1'
        have hl := h4'.length
        exact ⟨a, vs', v, rfl, rfl, h2', by omega, k F2 σ _ (hh2.write hds h1 ⟨by rw [List.length_append]; simp; omega, h4'.append (.cons (rp d v ok.1 r1) .nil)⟩)⟩
      · cases e
    · cases e
  · cases e
/-- x.extend(e) -/
theorem ds_ext (b : Bool) (i : Nat) (hv : PE X (.Name x p1) (tVar i)) (he : DE X e f) (hs : swapsWith (.Call (.Attribute (.Name x p1) "extend" p2) [e] [] pos) none pos'.line X.env = pure false := by rfl)
    (hbase : attributeBase (.Name x p1) "extend" X.env (eval (.Name x p1) X.env) = eval (.Name x p1) X.env := by rfl)
    (hfew : ((backTo pos (starEach [e] X.env)).all (fun x => !x.1) && (backToKw pos (keywordEach [] X.env)).all (fun x => x.1.isSome)
      && decide (([e] : List Expr).length + ([] : List Keyword).length + (if ([] : List Keyword).isEmpty then 0 else 1) < 30)) = true := by rfl)
    (hline : (p2.endLine == pos.line) = true := by rfl) (hs1 : starEach [e] X.env = (false, eval e X.env) :: starEach [] X.env := by rfl)
    (hpl : (backTo pos (starEach [] X.env)).any (·.1) = false := by rfl) :
    DS X (.Expr (.Call (.Attribute (.Name x p1) "extend" p2) [e] [] pos) pos') (mExt b i f) := by
  refine ps_w (ps_expr (pe_bm PySem.F.plainAttrs_list PySem.F.slot_list_extend PySem.F.type_list_extend mt_extend hv (pa_cons he pa_nil hs1) hbase hfew hline hs1 hpl) hs) ?_
  rintro E σ H ⟨F0, H0, F, sa, ρ, τ, o, ρ', τ', hh, e, k⟩
  unfold mExt at e
  split at e
  · rename_i es τ1 e1
    split at e
    · rename_i ds hds
      split at e
      · rename_i ok
        cases e
        rw [Bool.and_eq_true] at ok
        have hlt := of_decide_eq_true ok.2
        obtain ⟨a, vs, h1, h2, h3, h4⟩ := own_at hh hds
        obtain ⟨Fb, w, _, go⟩ := hh.run b
        refine ⟨.ref a, h1, .inl ⟨rfl, _, .of h2⟩, tE.go w e1 fun F1 H1 v x1 w1 r1 => ?_⟩
        obtain ⟨F2, hh2, sf, _, rp⟩ := go F1 H1 _ x1 w1.fh w1.src w1.flag
        obtain ⟨a', vs', h1', h2', h3', h4'⟩ := own_at hh2 hds
        rw [h1] at h1'
        cases h1'
        cases r1 with
        | @lst q zs _ g1 g2 g3 =>
          have hl := h4'.length
          have hl2 := g3.length
          exact ⟨a, q, vs', zs, rfl, rfl, h2', w1.fh _ _ g1, by omega, k F2 σ _ (hh2.write hds h1 ⟨by rw [List.length_append]; omega, h4'.append (rp es zs ok.1 g3)⟩)⟩
      · cases e
    · cases e
  · cases e
/-- x[k] = e -/
theorem ds_setIx (b : Bool) (i : Nat) {ik : Expr} {fk : M D} (hv : PE X (.Name x p1) (tVar i)) (he : DE X e f) (hk : DE X ik fk)
    (ha : ∀ v, assign (.Subscript (.Name x p1) ik p2) X.env v = (do
      let ov ← holding [v] (eval (.Name x p1) X.env)
      let iv ← holding [v, ov] (eval ik X.env)
      standAt p2
      holding [v, ov, iv] (setItem ov iv v)
      release [v, ov, iv] []) := by intro _; rfl)
    (hs : swapsWithSole [.Subscript (.Name x p1) ik p2] e pos.line X.env = pure false := by rfl) (hw : swappedStores [.Subscript (.Name x p1) ik p2] e X.env = pure none := by rfl)
    (h1 : (assignEach [.Subscript (.Name x p1) ik p2] X.env).map (·.2) = [assign (.Subscript (.Name x p1) ik p2) X.env] := by rfl) :
    DS X (.Assign [.Subscript (.Name x p1) ik p2] e pos) (mSetIx b i f fk) := by
  refine ps_w (ps_asg he (pg_sub hv hk set_list ha) hs hw h1) ?_
  rintro E σ H ⟨F0, H0, F, sa, ρ, τ, o, ρ', τ', hh, e, k⟩
  unfold mSetIx at e
  split at e
  · rename_i d τ1 e1
    split at e
    · rename_i n τ2 e2
      split at e
      · rename_i ds hds
        split at e
        · rename_i j hj
          split at e
          · rename_i ok
            cases e
            obtain ⟨a, vs, h1, h2, h3, h4⟩ := own_at hh hds
            obtain ⟨Fb, w, _, go⟩ := hh.run b
            refine tE.go w e1 fun F1 H1 v x1 w1 r1 => ⟨.ref a, h1, tE.go w1 e2 fun F2 H2 v2 x2 w2 r2 => ?_⟩
            cases r2
            obtain ⟨F3, hh3, sf, rp, _⟩ := go F2 H2 _ (x1.trans x2) w2.fh w2.src w2.flag
            obtain ⟨a', vs', h1', h2', h3', h4'⟩ := own_at hh3 hds
            rw [h1] at h1'
            cases h1'
            have hl := h4'.length
            exact ⟨a, vs', n, j, rfl, rfl, h2', by rw [hl]; exact hj, k F3 σ _ (hh3.write hds h1 ⟨by rw [List.length_set]; exact h3', h4'.set j (rp d v ok (Rp.mono x2.ff _ _ r1))⟩)⟩
          · cases e
        · cases e
      · cases e
    · cases e
  · cases e
end

/-! ### loops -/
section
variable {X : Cx} {g : Stm} {pos : Pos}
theorem ds_while {c : Expr} {body : List Stmt} {tc : M Bool} (hp : PassesOwn (model X.prog X.w) X.A X.env X.xe) (hc : DT X c tc) (hb : DSs X body g) : DS X (.While c body [] pos) (mWhile tc g) := by
  refine ps_w (ps_while hp hc hb) ?_
  rintro E σ H ⟨F0, H0, F, sa, ρ, τ, o, ρ', τ', hh, e, k⟩
  refine ⟨fun m σ H => ∃ F ρ τ, Hold F0 H0 F sa σ H ρ τ ∧ whileGo tc g m ρ τ = some (o, ρ', τ'), ⟨fuel, F, ρ, τ, hh, e⟩, ?_⟩
  rintro m σ H ⟨F, ρ, τ, hh, e⟩
  cases m with
  | zero => cases e
  | succ m =>
    unfold whileGo at e
    obtain ⟨Fb, w, _, go⟩ := hh.run true
    split at e
    · cases e
    · rename_i τ1 e1
      cases e
      refine tT.go w e1 fun F1 H1 x1 w1 => iteF ?_
      obtain ⟨F2, h2, _⟩ := go F1 H1 _ x1 w1.fh w1.src w1.flag
      exact k F2 σ H1 h2
    · rename_i τ1 e1
      refine tT.go w e1 fun F1 H1 x1 w1 => iteT ?_
      obtain ⟨F2, h2, _⟩ := go F1 H1 _ x1 w1.fh w1.src w1.flag
      refine ⟨fun σ' H' => ∃ F ρ τ, Hold F0 H0 F sa σ' H' ρ τ ∧ whileGo tc g m ρ τ = some (o, ρ', τ'), fun σ' H' q => ⟨m, Nat.lt_succ_self m, q⟩, ?_⟩
      split at e
      · rename_i ρ2 τ2 e2
        exact ⟨F0, H0, F2, sa, ρ, τ1, .nx, ρ2, τ2, h2, e2, fun F3 σ3 H3 h3 => ⟨F3, ρ2, τ2, h3, e⟩⟩
      · rename_i ρ2 τ2 e2
        exact ⟨F0, H0, F2, sa, ρ, τ1, .ct, ρ2, τ2, h2, e2, fun F3 σ3 H3 h3 => ⟨F3, ρ2, τ2, h3, e⟩⟩
      · rename_i ρ2 τ2 e2
        cases e
        exact ⟨F0, H0, F2, sa, ρ, τ1, .bk, _, _, h2, e2, fun F3 σ3 H3 h3 => k F3 σ3 H3 h3⟩
      · rename_i d ρ2 τ2 e2
        cases e
        exact ⟨F0, H0, F2, sa, ρ, τ1, .rt d, _, _, h2, e2, k⟩
      · cases e
theorem Hold.sets {F0 H0 F H : Hp} {sa : SA} {τ : Src} {ws : List (Nat × V)} {as : List (Nat × D)} (r : RpW F ws as) : ∀ {σ : L2.St} {ρ : EnvS}, Hold F0 H0 F sa σ H ρ τ → okSets ρ as = true → Hold F0 H0 F sa (setV σ ws) H (setSl ρ as) τ := by
  induction r with
  | nil => intro σ ρ h _; exact h
  | @cons i v d ws as r t ih =>
    intro σ ρ h ok
    unfold okSets at ok
    rw [List.all_cons, Bool.and_eq_true] at ok
    refine ih (h.set_dat ok.1 r) ?_
    unfold okSets
    rw [List.all_eq_true] at ok ⊢
    intro a ha
    have h1 := ok.2 a ha
    unfold okSet at h1 ⊢
    by_cases hn : i = a.1
    · rw [← hn, List.getElem?_set_self (okSet_lt ok.1)]
    · rw [List.getElem?_set_ne hn]; exact h1
theorem Hold.view0 {F0 H0 F H : Hp} {sa : SA} {σ : L2.St} {ρ : EnvS} {τ : Src} (h : Hold F0 H0 F sa σ H ρ τ) : View F sa σ H (view false ρ) τ :=
  ⟨h.fh, fun i d e => by
    rcases view_get e with e | ⟨e, _⟩
    · exact h.dat i d e
    · (cases e), h.src, (by unfold view; rw [List.length_map, h.len]; exact Nat.le_refl _), h.flag, fun i p c e => let ⟨a, b, _⟩ := h.slot i p c e; ⟨a, b⟩⟩
/-- the frozen part at some later place as the base -/
theorem Hold.rebase {F0 H0 F H : Hp} {sa : SA} {σ : L2.St} {ρ : EnvS} {τ : Src} (h : Hold F0 H0 F sa σ H ρ τ) : Hold F H0 F sa σ H ρ τ :=
  ⟨⟨Same.refl _, h.ext.hh, h.ext.nn, fun _ e _ => e⟩, h.fh, h.len, h.dat, h.own, h.sep, h.src, h.flag, h.slot⟩
theorem ext_up {F0 H0 F1 F H : Hp} {sa : SA} (ff : Same F0 F1) (nf : ∀ a, F0 a = none → H0 a ≠ none → F1 a = none) (x : Ext sa F1 H0 F H) : Ext sa F0 H0 F H :=
  ⟨ff.trans x.ff, x.hh, x.nn, fun a e1 e2 => x.nf a (nf a e1 e2) e2⟩
theorem Hold.up {F0 H0 F1 F H : Hp} {sa : SA} {σ : L2.St} {ρ : EnvS} {τ : Src} (ff : Same F0 F1) (nf : ∀ a, F0 a = none → H0 a ≠ none → F1 a = none) (h : Hold F1 H0 F sa σ H ρ τ) : Hold F0 H0 F sa σ H ρ τ :=
  ⟨ext_up ff nf h.ext, h.fh, h.len, h.dat, h.own, h.sep, h.src, h.flag, h.slot⟩
theorem Fin.up {F0 H0 F1 : Hp} {sa : SA} {E : Ends} {o : Out} {ρ : EnvS} {τ : Src} (ff : Same F0 F1) (nf : ∀ a, F0 a = none → H0 a ≠ none → F1 a = none) (k : Fin F0 H0 sa E o ρ τ) : Fin F1 H0 sa E o ρ τ := by
  cases o with
  | nx => exact fun F σ H h => k F σ H (h.up ff nf)
  | bk => exact fun F σ H h => k F σ H (h.up ff nf)
  | ct => exact fun F σ H h => k F σ H (h.up ff nf)
  | rt d => exact fun F H v x s c r => k F H v (ext_up ff nf x) s c r
/-- the loop itself, from an iterator over ds -/
theorem for_go {F0 H0 F1 H1 : Hp} {sa : SA} {σ : L2.St} {ρ ρ' : EnvS} {τ1 τ' : Src} {o : Out} {E : Ends} {b : Tgt} {ds : List D} {J : It} (h2 : Hold F0 H0 F1 sa σ H1 ρ τ1) (it : ItOf J F1 ds) (e : forGo b g ds ρ τ1 = some (o, ρ', τ')) (k : Fin F0 H0 sa E o ρ' τ') :
    ∃ W : Nat → Nat → L2.St → Hp → Prop, (∃ m, W 0 m σ H1) ∧ ∀ i m σ H, W i m σ H →
      (J.stop i H ∧ E.nx σ H) ∨ (J.go i H ∧ ∃ N : L2.St → Hp → Prop, (∀ σ' H', N σ' H' → ∃ m', m' < m ∧ W (i + 1) m' σ' H') ∧ ∀ x H', J.yld i H x H' → tG b x σ H' fun σ2 H2 => tS g { E with nx := N, ct := N, bk := E.nx } σ2 H2) := by
  have kk := k.up h2.ext.ff h2.ext.nf
  obtain ⟨hlen, G, Y, W, hG, hY⟩ := it
  refine ⟨fun i m σ H => m = ds.length - i ∧ i ≤ ds.length ∧ ∃ F2 ρ2 τ2, Hold F1 H0 F2 sa σ H ρ2 τ2 ∧ forGo b g (ds.drop i) ρ2 τ2 = some (o, ρ', τ'), ⟨ds.length, by simp, Nat.zero_le _, F1, ρ, τ1, h2.rebase, e⟩, ?_⟩
  rintro i m σ H ⟨rfl, hi, F2, ρ2, τ2, hh, e⟩
  have hGi : G H := hG H (hh.ext.ff.trans hh.fh)
  by_cases hlt : i < ds.length
  · have hdrop : ds.drop i = ds[i] :: ds.drop (i + 1) := List.drop_eq_getElem_cons hlt
    rw [hdrop] at e
    unfold forGo at e
    split at e
    · cases e
    rename_i as has
    split at e
    · rename_i ok
      let N : L2.St → Hp → Prop := fun σ' H' => ∃ F2 ρ2 τ2, Hold F1 H0 F2 sa σ' H' ρ2 τ2 ∧ forGo b g (ds.drop (i + 1)) ρ2 τ2 = some (o, ρ', τ')
      refine .inr ⟨W.goes i H hlt hGi, N, fun σ' H' hn => ⟨ds.length - (i + 1), by omega, rfl, hlt, hn⟩, fun x H' hy => ?_⟩
      obtain ⟨F3, d, hd, gr, rx⟩ := hY i H x H' F2 hlt hh.ext.ff hh.fh (W.yields i H x H' hlt hGi hy)
      have hde : d = ds[i] := by rw [List.getElem?_eq_getElem hlt] at hd; exact (Option.some.inj hd).symm
      subst hde
      have h3 : Hold F1 H0 F3 sa σ H' ρ2 τ2 := hh.step0 gr.ext gr.fh (hh.src.grow gr) hh.flag
      refine ⟨F3, _, as, gr.fh, rx, has, fun ws hw => ?_⟩
      have h4 := Hold.sets hw h3 ok
      split at e
      · rename_i ρ4 τ4 e4
        exact ⟨F1, H0, F3, sa, _, τ2, .nx, ρ4, τ4, h4, e4, fun F5 σ5 H5 h5 => ⟨F5, ρ4, τ4, h5, e⟩⟩
      · rename_i ρ4 τ4 e4
        exact ⟨F1, H0, F3, sa, _, τ2, .ct, ρ4, τ4, h4, e4, fun F5 σ5 H5 h5 => ⟨F5, ρ4, τ4, h5, e⟩⟩
      · rename_i ρ4 τ4 e4
        cases e
        exact ⟨F1, H0, F3, sa, _, τ2, .bk, _, _, h4, e4, fun F5 σ5 H5 h5 => kk F5 σ5 H5 h5⟩
      · rename_i d4 ρ4 τ4 e4
        cases e
        exact ⟨F1, H0, F3, sa, _, τ2, .rt d4, _, _, h4, e4, kk⟩
      · cases e
    · cases e
  · have hi' : i = ds.length := by omega
    subst hi'
    rw [List.drop_eq_nil_of_le (Nat.le_refl _)] at e
    cases e
    exact .inl ⟨W.stops H hGi, kk F2 σ H hh⟩
theorem ds_for {tg iter : Expr} {body : List Stmt} {fi : M (List D)} {b : Tgt} (hp : PassesOwn (model X.prog X.w) X.A X.env X.xe) (hc : X.calm = true) (hi : DI X tg iter fi) (hg : DG X tg b) (hb : DSs X body g)
    (hs : ∀ x, foldedSetIterable iter X.env x = pure x := by intro _; rfl) : DS X (.For tg iter body [] pos) (mFor fi b g) := by
  refine ps_w (ps_for hp hc hi hg hb hs) ?_
  rintro E σ H ⟨F0, H0, F, sa, ρ, τ, o, ρ', τ', hh, e, k⟩
  unfold mFor at e
  split at e
  · rename_i ds τ1 e1
    refine ⟨F, sa, _, τ, ds, τ1, hh.view0, e1, fun F1 H1 J x1 w1 it => ?_⟩
    exact for_go (hh.step0 x1 w1.fh w1.src w1.flag) it e k
  · cases e
/-- for over a new list of plain data -/
theorem ds_forN {tg iter : Expr} {body : List Stmt} {fi : M (List D)} {b : Tgt} (hp : PassesOwn (model X.prog X.w) X.A X.env X.xe) (hc : X.calm = true) (hi : DN X iter fi) (hg : DG X tg b) (hb : DSs X body g)
    (hs : ∀ x, foldedSetIterable iter X.env x = pure x := by intro _; rfl) : DS X (.For tg iter body [] pos) (fun ρ τ => match fi (view true ρ) τ with
      | some (ds, τ1) => if pureA ds = true then forGo b g ds ρ τ1 else none
      | none => none) := by
  refine ps_w (ps_for hp hc (pi_list hi) hg hb hs) ?_
  rintro E σ H ⟨F0, H0, F, sa, ρ, τ, o, ρ', τ', hh, e, k⟩
  simp only at e
  split at e
  · rename_i ds τ1 e1
    split at e
    · rename_i hpu
      obtain ⟨Fb, w, _, go⟩ := hh.run true
      unfold tFor iList
      refine tN.go w e1 fun F1 H1 a vs x1 w1 n0 nF hH hl ns r1 => ⟨a, rfl, ⟨vs, .of hH⟩, ?_⟩
      obtain ⟨F2, h2, sf, _, rp⟩ := go F1 H1 _ x1 w1.fh w1.src w1.flag
      have r2 := rp ds vs (by simpa [okA] using hpu) r1
      have nF2 : F2 a = none := sf.free nF
      have s3 : Same F2 (upd F2 a (.lst vs)) := same_new nF2
      have h00 : H0 a = none := by
        cases z : H0 a with
        | none => rfl
        | some q => exact absurd n0 (hh.ext.nn a (nn_of z))
      have x2 : Ext sa F2 H1 (upd F2 a (.lst vs)) H1 → True := fun _ => trivial
      have h3 : Hold F0 H0 (upd F2 a (.lst vs)) sa σ H1 ρ τ1 := by
        refine ⟨⟨h2.ext.ff.trans s3, h2.ext.hh, h2.ext.nn, fun c e1 e2 => ?_⟩, fun c q z => ?_, h2.len, fun i d e => let ⟨v, k1, k2⟩ := h2.dat i d e; ⟨v, k1, Rp.mono s3 _ _ k2⟩, fun i d e => ?_, h2.sep, fun i p c e => ?_, h2.flag, h2.slot⟩
        · rw [upd_ne fun z => e2 (by rw [z]; exact h00)]; exact h2.ext.nf c e1 e2
        · by_cases hc : c = a
          · subst hc; rw [upd_same] at z; cases z; exact hH
          · rw [upd_ne hc] at z; exact h2.fh c q z
        · obtain ⟨c, q, k1, k2, k3, k4, k5, k6⟩ := h2.own i d e
          have hc : c ≠ a := fun z => hh.own_new n0 i d e (by rw [← z]; exact k1)
          exact ⟨c, q, k1, k2, k3.mono s3, by rw [upd_ne hc]; exact k4, k5, k6⟩
        · obtain ⟨k1, k2, k3, k4, k5⟩ := h2.src i p c e
          obtain ⟨n1, n2⟩ := ns i p c e
          exact ⟨k1, k2, k3, by rw [upd_ne (Ne.symm n1)]; exact k4, by rw [upd_ne (Ne.symm n2)]; exact k5⟩
      exact for_go h3 (itOf_list upd_same hl (RpA.mono s3 _ _ r2)) e k
    · cases e
  · cases e
end

/-! ### targets from a value -/
section
variable {X : Cx} {f : M D} {pos : Pos}
theorem ds_asgT (v : Bool) {tg e : Expr} {b : Tgt} (he : DE X e f) (hg : DG X tg b) (hs : swapsWithSole [tg] e pos.line X.env = pure false := by rfl) (hw : swappedStores [tg] e X.env = pure none := by rfl)
    (h1 : (assignEach [tg] X.env).map (·.2) = [assign tg X.env] := by rfl) : DS X (.Assign [tg] e pos) (mAsgT v b f) := by
  refine ps_w (ps_asg he hg hs hw h1) ?_
  rintro E σ H ⟨F0, H0, F, sa, ρ, τ, o, ρ', τ', hh, e, k⟩
  unfold mAsgT at e
  split at e
  · rename_i d τ1 e1
    split at e
    · rename_i as has
      split at e
      · rename_i ok
        cases e
        rw [Bool.and_eq_true] at ok
        obtain ⟨Fb, w, _, go⟩ := hh.run v
        refine tE.go w e1 fun F1 H1 x x1 w1 r1 => ?_
        obtain ⟨F2, h2, sf, rp, _⟩ := go F1 H1 _ x1 w1.fh w1.src w1.flag
        exact ⟨F2, d, as, h2.fh, rp d x ok.2 r1, has, fun ws hw => k F2 _ H1 (Hold.sets hw h2 ok.1)⟩
      · cases e
    · cases e
  · cases e
end

/-! ### a def's body -/
def noSrc : Src := ⟨none, [], 0, 0, 0⟩
/-- the slots at the start -/
def enter (n : Nat) (ds : List D) : EnvS := ds.map Sl.dat ++ List.replicate (n - ds.length) .no
def outOf : Option (Out × EnvS × Src) → Option D
  | some (.rt d, _, _) => some d
  | some (.nx, _, _) => some .none
  | _ => none
/-- np parameters, n slots -/
def runP (np n : Nat) (g : Stm) (ds : List D) : Option D := if ds.length = np then outOf (g (enter n ds) noSrc) else none
theorem runP_len {np n : Nat} {g : Stm} {ds : List D} {d : D} (h : runP np n g ds = some d) : ds.length = np := by
  unfold runP at h
  split at h
  · assumption
  · cases h
def outOfS : Option (Out × EnvS × Src) → Option (D × Src)
  | some (.rt d, _, τ) => some (d, τ)
  | some (.nx, _, τ) => some (.none, τ)
  | _ => none
def runS (np n : Nat) (g : Stm) (ds : List D) (τ : Src) : Option (D × Src) := if ds.length + 1 = np then outOfS (g (.src :: enter (n - 1) ds) τ) else none
theorem runS_len {np n : Nat} {g : Stm} {ds : List D} {d : D} {τ τ' : Src} (h : runS np n g ds τ = some (d, τ')) : ds.length + 1 = np := by
  unfold runS at h
  split at h
  · assumption
  · cases h
theorem enter_dat {n : Nat} {ds : List D} {i : Nat} {d : D} (h : (enter n ds)[i]? = some (.dat d)) : ds[i]? = some d := by
  unfold enter at h
  by_cases hi : i < ds.length
  · rw [List.getElem?_append_left (by simpa using hi), List.getElem?_map] at h
    obtain ⟨x, h1, h2⟩ := Option.map_eq_some_iff.mp h
    cases h2
    exact h1
  · rw [List.getElem?_append_right (by simpa using hi), List.getElem?_replicate] at h
    split at h <;> cases h
theorem enter_only {n : Nat} {ds : List D} {i : Nat} {s : Sl} (h : (enter n ds)[i]? = some s) : s = .no ∨ ∃ d, s = .dat d := by
  unfold enter at h
  by_cases hi : i < ds.length
  · rw [List.getElem?_append_left (by simpa using hi), List.getElem?_map] at h
    obtain ⟨x, h1, h2⟩ := Option.map_eq_some_iff.mp h
    exact .inr ⟨x, h2.symm⟩
  · rw [List.getElem?_append_right (by simpa using hi), List.getElem?_replicate] at h
    split at h
    · cases h; exact .inl rfl
    · cases h
theorem start_get {N : List Str} {vs : List V} {i : Nat} {v : V} (h : vs[i]? = some v) : (L2.start N vs)[i]? = some (some v) := by
  unfold L2.start
  have hi := (List.getElem?_eq_some_iff.mp h).1
  rw [List.getElem?_append_left (by simpa using hi), List.getElem?_map, h] <;> rfl
section
variable {P : Program} {w : World} {K : PySem.W.Frag} {mg : Str → Option Value} {base : Heap} {k : Nat} {f : Addr} {fd : FuncData} {N ps : List Str} {x qual : Str} {st : Stmt} {g : Stm}
theorem fn_P (F : Fun K x qual st f fd) (S : FnScope N ps (defScope st))
    (body : ∀ (cdv : Value) (A : Around) (outer : List Env) (s : Shared) (H : Hp), Room k (A.deeper (envOfC qual (defScope st) s.heap.objs.size f cdv)) → A.guards = some [] →
      DSs (cxOf CX0 P w K mg base N qual (defScope st) f cdv A outer s H E0).nox (defBody st) g) :
    FnG P w K mg base (k + 1) f fd ps (spP ps.length (runP ps.length N.length g)) := by
  refine fnG_of F S (fun vs H Q h => ?_) fun cdv A outer s H vs Q hr hg hsp => ⟨_, body cdv A outer s H hr hg, ?_⟩
  · obtain ⟨_, _, _, h, _⟩ := h
    exact h
  obtain ⟨F, ds, d, hl, sm, r, e, q⟩ := hsp
  unfold runP at e
  split at e
  · rename_i hds
    have grow : ∀ {F' H' : Hp}, Ext none F H F' H' → Same F' H' → Grow F H F' H' := fun x s => ⟨x.ff, fun a o e => x.hh a o e (fun i p c z => by cases z), s, x.nf⟩
    have hold : Hold F H F none (L2.start N vs) H (enter N.length ds) noSrc := by
      refine ⟨.refl, sm, ?_, fun i d h => ?_, fun i d h => ?_, fun i j d e a _ h => ?_, fun i p c z => (by cases z), rfl, fun i p c z => (by cases z)⟩
      · unfold L2.start enter
        rw [List.length_append, List.length_append, List.length_map, List.length_map, List.length_replicate, List.length_replicate, r.length]
      · obtain ⟨v, h1, h2⟩ := r.get (enter_dat h)
        exact ⟨v, start_get h1, h2⟩
      · rcases enter_only h with z | ⟨_, z⟩ <;> cases z
      · rcases enter_only h with z | ⟨_, z⟩ <;> cases z
    cases hr' : g (enter N.length ds) noSrc with
    | none => rw [hr'] at e; cases e
    | some t =>
      obtain ⟨o, ρ', τ'⟩ := t
      rw [hr'] at e
      refine ⟨F, H, F, none, _, noSrc, o, ρ', τ', hold, hr', ?_⟩
      cases o with
      | nx => cases e; exact fun F1 σ1 H1 h1 => q F1 H1 _ (grow h1.ext h1.fh) .non
      | bk => cases e
      | ct => cases e
      | rt d' => cases e; exact fun F1 H1 v x1 s1 k1 r1 => q F1 H1 v (grow x1 s1) r1
  · cases e
theorem fn_S (F : Fun K x qual st f fd) (S : FnScope N ps (defScope st)) (hN : 1 ≤ N.length)
    (body : ∀ (cdv : Value) (A : Around) (outer : List Env) (s : Shared) (H : Hp), Room k (A.deeper (envOfC qual (defScope st) s.heap.objs.size f cdv)) → A.guards = some [] →
      DSs (cxOf CX0 P w K mg base N qual (defScope st) f cdv A outer s H E0).nox (defBody st) g) :
    FnG P w K mg base (k + 1) f fd ps (spS ps.length (runS ps.length N.length g)) := by
  refine fnG_of F S (fun vs H Q h => ?_) fun cdv A outer s H vs Q hr hg hsp => ⟨_, body cdv A outer s H hr hg, ?_⟩
  · obtain ⟨_, _, _, us, _, _, _, _, rfl, h, _⟩ := h
    exact h
  obtain ⟨F, p, c, us, ds, τ, d, τ2, rfl, hl, sm, ks, hslot, r, e, q⟩ := hsp
  unfold runS at e
  split at e
  · rename_i hds
    have hold : Hold F H F (some (0, p, c)) (L2.start N (.ref p :: us)) H (.src :: enter (N.length - 1) ds) τ := by
      refine ⟨.refl, sm, ?_, fun i d h => ?_, fun i d h => ?_, fun i j d e a _ h => ?_, ks, hslot.symm, fun i p' c' z => ?_⟩
      · unfold L2.start enter
        rw [List.length_cons, List.length_append, List.length_append, List.length_map, List.length_map, List.length_replicate, List.length_replicate, List.length_cons, r.length]
        omega
      · cases i with
        | zero => cases h
        | succ i =>
          rw [List.getElem?_cons_succ] at h
          obtain ⟨v, h1, h2⟩ := r.get (enter_dat h)
          exact ⟨v, start_get (by rw [List.getElem?_cons_succ]; exact h1), h2⟩
      · cases i with
        | zero => cases h
        | succ i =>
          rw [List.getElem?_cons_succ] at h
          rcases enter_only h with z | ⟨_, z⟩ <;> cases z
      · cases i with
        | zero => cases h
        | succ i =>
          rw [List.getElem?_cons_succ] at h
          rcases enter_only h with z | ⟨_, z⟩ <;> cases z
      · cases z
        exact ⟨by omega, start_get rfl, rfl⟩
    cases hr' : g (.src :: enter (N.length - 1) ds) τ with
    | none => rw [hr'] at e; cases e
    | some t =>
      obtain ⟨o, ρ', τ'⟩ := t
      rw [hr'] at e
      refine ⟨F, H, F, some (0, p, c), _, τ, o, ρ', τ', hold, hr', ?_⟩
      cases o with
      | nx => cases e; exact fun F1 σ1 H1 h1 => q F1 H1 _ h1.ext h1.fh h1.src .non
      | bk => cases e
      | ct => cases e
      | rt d' => cases e; exact fun F1 H1 v x1 s1 k1 r1 => q F1 H1 v x1 s1 k1 r1
  · cases e
end
end DL

/-! DLh: several targets at once with new lists among the values; a comprehension stored. -/
namespace DL
open PySem PySem.Spec PyProof.Rows L2

/-- the values of a display: data, or new lists; Hb: the heap ahead of it -/
inductive RpV (F H : Hp) (sa : SA) (Hb : Hp) : List V → List Sl → Prop
  | nil : RpV F H sa Hb [] []
  | dat {v : V} {d : D} {vs : List V} {ss : List Sl} : Rp F v d → RpV F H sa Hb vs ss → RpV F H sa Hb (v :: vs) (.dat d :: ss)
  | own {a : Addr} {xs : List V} {ds : List D} {vs : List V} {ss : List Sl} : Hb a = none → F a = none → H a = some (.lst xs) → xs.length ≤ sizeLine → RpA F xs ds → NotSrc sa a → V.ref a ∉ vs → RpV F H sa Hb vs ss → RpV F H sa Hb (.ref a :: vs) (.own (.list ds) :: ss)
theorem RpV.mono {F H F' H' Hb : Hp} {sa : SA} (x : Ext sa F H F' H') : ∀ {vs : List V} {ss : List Sl}, RpV F H sa Hb vs ss → RpV F' H' sa Hb vs ss
  | _, _, .nil => .nil
  | _, _, .dat r t => .dat (Rp.mono x.ff _ _ r) (RpV.mono x t)
  | _, _, .own h1 h2 h3 h4 h5 h6 h7 t => .own h1 (x.nf _ h2 (nn_of h3)) (x.hh _ _ h3 h6) h4 (RpA.mono x.ff _ _ h5) h6 h7 (RpV.mono x t)
theorem rp_ref {F : Hp} {a : Addr} {d : D} (r : Rp F (.ref a) d) : F a ≠ none := by
  cases r with
  | lst h _ _ => exact nn_of h
  | tup h _ _ => exact nn_of h
  | dct h _ => exact nn_of h
/-- nothing old but frozen data is among them -/
theorem RpV.old {F H Hb : Hp} {sa : SA} : ∀ {vs : List V} {ss : List Sl}, RpV F H sa Hb vs ss → ∀ a, Hb a ≠ none → F a = none → V.ref a ∉ vs
  | _, _, .nil, _, _, _ => List.not_mem_nil
  | _, _, .dat r t, a, h1, h2 => fun hm => by
    rcases List.mem_cons.mp hm with e | hm
    · rw [← e] at r; exact rp_ref r h2
    · exact RpV.old t a h1 h2 hm
  | _, _, .own g1 _ _ _ _ _ _ t, a, h1, h2 => fun hm => by
    rcases List.mem_cons.mp hm with e | hm
    · cases e; exact h1 g1
    · exact RpV.old t a h1 h2 hm
/-- the heap ahead may be an earlier one -/
theorem RpV.early {F H Hb Hc : Hp} {sa : SA} (h : ∀ a, Hc a ≠ none → Hb a ≠ none) : ∀ {vs : List V} {ss : List Sl}, RpV F H sa Hb vs ss → RpV F H sa Hc vs ss
  | _, _, .nil => .nil
  | _, _, .dat r t => .dat r (RpV.early h t)
  | _, _, .own h1 h2 h3 h4 h5 h6 h7 t => .own (by
      cases z : Hc _ with
      | none => rfl
      | some o => exact absurd h1 (h _ (nn_of z))) h2 h3 h4 h5 h6 h7 (RpV.early h t)
def mVNil : M (List Sl) := mPure []
def mVDat (f : M D) (g : M (List Sl)) : M (List Sl) := mBind f fun x => mBind g fun xs => mPure (.dat x :: xs)
def mVOwn (f : M (List D)) (g : M (List Sl)) : M (List Sl) := mBind f fun x => mBind g fun xs => mPure (.own (.list x) :: xs)
def tV (f : M (List Sl)) : TA := fun σ H Q => ∃ F sa η τ d τ', View F sa σ H η τ ∧ f η τ = some (d, τ') ∧ ∀ F' H' v, Ext sa F H F' H' → View F' sa σ H' η τ' → RpV F' H' sa H v d → Q v H'
abbrev DV (X : Cx) (es : List Expr) (f : M (List Sl)) : Prop := PA X es (tV f)
section
variable {X : Cx} {e : Expr} {es : List Expr} {f : M D} {fl : M (List D)} {g : M (List Sl)} {pos : Pos}
theorem dv_nil : DV X [] mVNil := by
  refine pa_w pa_nil ?_
  rintro σ H Q ⟨F, sa, η, τ, d, τ', w, e, k⟩
  cases e
  exact k F H [] .refl w .nil
theorem dv_dat (he : DE X e f) (hr : DV X es g) (hs : starEach (e :: es) X.env = (false, eval e X.env) :: starEach es X.env := by rfl) : DV X (e :: es) (mVDat f g) := by
  refine pa_w (pa_cons he hr hs) ?_
  rintro σ H Q ⟨F, sa, η, τ, d, τ', w, e, k⟩
  obtain ⟨x, τ1, e1, ea⟩ := mBind_some e
  obtain ⟨xs, τ2, e2, eb⟩ := mBind_some ea
  cases eb
  exact tE.go w e1 fun F1 H1 u x1 w1 r1 => ⟨F1, sa, η, τ1, xs, τ', w1, e2, fun F2 H2 us x2 w2 r2 => k F2 H2 _ (x1.trans x2) w2 (.dat (Rp.mono x2.ff _ _ r1) (r2.early x1.nn))⟩
theorem dv_own (he : DN X e fl) (hr : DV X es g) (hs : starEach (e :: es) X.env = (false, eval e X.env) :: starEach es X.env := by rfl) : DV X (e :: es) (mVOwn fl g) := by
  refine pa_w (pa_cons he hr hs) ?_
  rintro σ H Q ⟨F, sa, η, τ, d, τ', w, e, k⟩
  obtain ⟨x, τ1, e1, ea⟩ := mBind_some e
  obtain ⟨xs, τ2, e2, eb⟩ := mBind_some ea
  cases eb
  refine tN.go w e1 fun F1 H1 a vs x1 w1 n0 nF hH hl ns r1 => ⟨F1, sa, η, τ1, xs, τ', w1, e2, fun F2 H2 us x2 w2 r2 => k F2 H2 _ (x1.trans x2) w2 ?_⟩
  exact .own n0 (x2.nf a nF (nn_of hH)) (x2.hh _ _ hH ns) hl (RpA.mono x2.ff _ _ r1) ns (r2.old a (nn_of hH) (x2.nf a nF (nn_of hH))) (r2.early x1.nn)
end
/-! stored -/
def okV (b : Bool) : List Sl → Bool
  | [] => true
  | .dat d :: ss => okD b d && okV b ss
  | .own (.list ds) :: ss => okA b ds && okV b ss
  | _ :: _ => false
def okSlots (ρ : EnvS) (is : List Nat) : Bool := is.all fun i => okSet ρ i
def putV : L2.St → List Nat → List V → L2.St
  | σ, i :: is, v :: vs => putV (σ.set i (some v)) is vs
  | σ, _, _ => σ
def putS : EnvS → List Nat → List Sl → EnvS
  | ρ, i :: is, s :: ss => putS (ρ.set i s) is ss
  | ρ, _, _ => ρ
theorem okSet_set {ρ : EnvS} {i j : Nat} {s : Sl} (hi : okSet ρ i = true) (hs : s ≠ .src) (hj : okSet ρ j = true) : okSet (ρ.set i s) j = true := by
  unfold okSet at hj ⊢
  by_cases h : i = j
  · subst h
    rw [List.getElem?_set_self (okSet_lt hi)]
    cases s <;> first | rfl | exact absurd rfl hs
  · rw [List.getElem?_set_ne h]; exact hj
theorem Hold.puts {F0 H0 F H Hb : Hp} {sa : SA} {τ : Src} {vs : List V} {ss : List Sl} (r : RpV F H sa Hb vs ss) (h0 : ∀ a, H0 a ≠ none → Hb a ≠ none) : ∀ {is : List Nat} {σ : L2.St} {ρ : EnvS}, Hold F0 H0 F sa σ H ρ τ → okSlots ρ is = true →
    (∀ (j : Nat) (e : D) (a : Addr), ρ[j]? = some (.own e) → σ[j]? = some (some (.ref a)) → V.ref a ∉ vs) → Hold F0 H0 F sa (putV σ is vs) H (putS ρ is ss) τ := by
  induction r with
  | nil =>
    intro is σ ρ h _ _
    cases is <;> exact h
  | @dat v d vs ss r t ih =>
    intro is σ ρ h ok np
    cases is with
    | nil => exact h
    | cons i is =>
      unfold okSlots at ok
      rw [List.all_cons, Bool.and_eq_true] at ok
      refine ih (h.set_dat ok.1 r) ?_ fun j e a hj hs hm => ?_
      · unfold okSlots
        rw [List.all_eq_true] at ok ⊢
        exact fun j hj => okSet_set ok.1 (by simp) (ok.2 j hj)
      · rcases get_set hj with ⟨rfl, q⟩ | ⟨n, q⟩
        · cases q
        · rw [List.getElem?_set_ne n] at hs
          exact np j e a q hs (List.mem_cons_of_mem _ hm)
  | @own a xs ds vs ss g1 g2 g3 g4 g5 g6 g7 t ih =>
    intro is σ ρ h ok np
    cases is with
    | nil => exact h
    | cons i is =>
      unfold okSlots at ok
      rw [List.all_cons, Bool.and_eq_true] at ok
      have hlt := okSet_lt ok.1
      have hlen := h.len
      have h00 : H0 a = none := by
        cases z : H0 a with
        | none => rfl
        | some o => exact absurd g1 (h0 a (nn_of z))
      refine ih (h.set_own ok.1 g3 ⟨g4, g5⟩ g2 h00 g6 fun j e hj hs => np j e a hj hs List.mem_cons_self) ?_ fun j e b hj hs hm => ?_
      · unfold okSlots
        rw [List.all_eq_true] at ok ⊢
        exact fun j hj => okSet_set ok.1 (by simp) (ok.2 j hj)
      · rcases get_set hj with ⟨rfl, q⟩ | ⟨n, q⟩
        · rw [List.getElem?_set_self (by omega)] at hs
          cases hs
          exact g7 hm
        · rw [List.getElem?_set_ne n] at hs
          exact np j e b q hs (List.mem_cons_of_mem _ hm)
theorem RpV.less {F F2 H Hb : Hp} {sa : SA} {b : Bool} (sf : Same F2 F) (rp : ∀ d v, okD b d = true → Rp F v d → Rp F2 v d) (ra : ∀ d v, okA b d = true → RpA F v d → RpA F2 v d) : ∀ {vs : List V} {ss : List Sl}, RpV F H sa Hb vs ss → okV b ss = true → RpV F2 H sa Hb vs ss
  | _, _, .nil, _ => .nil
  | _, _, .dat r t, ok => by
    simp only [okV, Bool.and_eq_true] at ok
    exact .dat (rp _ _ ok.1 r) (RpV.less sf rp ra t ok.2)
  | _, _, .own h1 h2 h3 h4 h5 h6 h7 t, ok => by
    simp only [okV, Bool.and_eq_true] at ok
    exact .own h1 (sf.free h2) h3 h4 (ra _ _ ok.1 h5) h6 h7 (RpV.less sf rp ra t ok.2)
def mPar (b : Bool) (is : List Nat) (f : M (List Sl)) : Stm := fun ρ τ => match f (view b ρ) τ with
  | some (ss, τ') => if okSlots ρ is && okV b ss && decide (ss.length = is.length) then some (.nx, putS ρ is ss, τ') else none
  | none => none
theorem RpV.length {F H Hb : Hp} {sa : SA} : ∀ {vs : List V} {ss : List Sl}, RpV F H sa Hb vs ss → vs.length = ss.length
  | _, _, .nil => rfl
  | _, _, .dat _ t => congrArg (· + 1) (RpV.length t)
  | _, _, .own _ _ _ _ _ _ _ t => congrArg (· + 1) (RpV.length t)
theorem par_of {b : Bool} {is : List Nat} {f : M (List Sl)} : ∀ E σ H, tS (mPar b is f) E σ H → tV f σ H fun vs H1 => vs.length = is.length ∧ E.nx (putV σ is vs) H1 := by
  rintro E σ H ⟨F0, H0, F, sa, ρ, τ, o, ρ', τ', hh, e, k⟩
  unfold mPar at e
  split at e
  · rename_i ss τ1 e1
    split at e
    · rename_i ok
      cases e
      simp only [Bool.and_eq_true, decide_eq_true_eq] at ok
      obtain ⟨⟨ok1, ok2⟩, ok3⟩ := ok
      obtain ⟨Fb, w, _, go⟩ := hh.run b
      refine ⟨Fb, sa, _, τ, ss, τ', w, e1, fun F1 H1 vs x1 w1 r1 => ⟨by rw [r1.length]; exact ok3, ?_⟩⟩
      obtain ⟨F2, h2, sf, rp, ra⟩ := go F1 H1 _ x1 w1.fh w1.src w1.flag
      have r2 := r1.less sf rp ra ok2
      refine k F2 _ H1 (h2.puts r2 hh.ext.nn ok1 fun j e a hj hs => ?_)
      obtain ⟨c, q, z1, z2, z3, z4, z5, z6⟩ := h2.own j e hj
      rw [hs] at z1
      cases z1
      obtain ⟨c', q', y1, y2, _⟩ := hh.own j e hj
      rw [hs] at y1
      cases y1
      exact r2.old a (nn_of y2) z4
    · cases e
  · cases e
section
variable {X : Cx} {pos : Pos}
theorem ds_par {i j : Nat} {x y : Str} {a c : Expr} {f : M (List Sl)} {px py pt : Pos} {kt k2 pt2} (b : Bool) (hc : X.calm = true) (hN : X.N.Nodup) (hi : X.N[i]? = some x) (hj : X.N[j]? = some y) (hij : i ≠ j)
    (hx : X.env.scope.names.lookup x = some .local) (hy : X.env.scope.names.lookup y = some .local) (ha : DV X [a, c] f)
    (hw : swappedStores [.Tuple [.Name x px, .Name y py] kt pt] (.Tuple [a, c] k2 pt2) X.env = pure (some [x, y]))
    (hs : swapsWithSole [.Tuple [.Name x px, .Name y py] kt pt] (.Tuple [a, c] k2 pt2) pos.line X.env = pure false := by rfl) :
    DS X (.Assign [.Tuple [.Name x px, .Name y py] kt pt] (.Tuple [a, c] k2 pt2) pos) (mPar b [i, j] f) := by
  refine ps_w (ps_par hc hN hi hj hij hx hy ha hw hs) fun E σ H h => ?_
  obtain ⟨F, sa, η, τ, d, τ', w, e, k⟩ := par_of E σ H h
  refine ⟨F, sa, η, τ, d, τ', w, e, fun F' H' vs x1 w1 r1 => ?_⟩
  obtain ⟨hl, q⟩ := k F' H' vs x1 w1 r1
  match vs, hl with
  | [u, v], _ => exact ⟨u, v, rfl, q⟩
theorem ds_par3 {i j l : Nat} {x y z : Str} {a c e : Expr} {f : M (List Sl)} {px py pz pt : Pos} {kt k2 pt2} (b : Bool) (hc : X.calm = true) (hN : X.N.Nodup) (hi : X.N[i]? = some x) (hj : X.N[j]? = some y) (hl : X.N[l]? = some z) (hij : i ≠ j) (hil : i ≠ l) (hjl : j ≠ l)
    (hx : X.env.scope.names.lookup x = some .local) (hy : X.env.scope.names.lookup y = some .local) (hz : X.env.scope.names.lookup z = some .local) (ha : DV X [a, c, e] f)
    (hw : swappedStores [.Tuple [.Name x px, .Name y py, .Name z pz] kt pt] (.Tuple [a, c, e] k2 pt2) X.env = pure (some [x, y, z]))
    (hs : swapsWithSole [.Tuple [.Name x px, .Name y py, .Name z pz] kt pt] (.Tuple [a, c, e] k2 pt2) pos.line X.env = pure false := by rfl) :
    DS X (.Assign [.Tuple [.Name x px, .Name y py, .Name z pz] kt pt] (.Tuple [a, c, e] k2 pt2) pos) (mPar b [i, j, l] f) := by
  refine ps_w (ps_par3 hc hN hi hj hl hij hil hjl hx hy hz ha hw hs) fun E σ H h => ?_
  obtain ⟨F, sa, η, τ, d, τ', w, e, k⟩ := par_of E σ H h
  refine ⟨F, sa, η, τ, d, τ', w, e, fun F' H' vs x1 w1 r1 => ?_⟩
  obtain ⟨hl, q⟩ := k F' H' vs x1 w1 r1
  match vs, hl with
  | [u, v, w'], _ => exact ⟨u, v, w', rfl, q⟩
end

/-! four and more plain names: by a tuple that is thrown away -/
section
variable {X : Cx} {pos : Pos}
/-- names at slots, one after another -/
inductive NmAt (X : Cx) : List Expr → List Nat → Prop
  | nil : NmAt X [] []
  | cons {i : Nat} {x : Str} {p : Pos} {es : List Expr} {is : List Nat} : X.N[i]? = some x → Loc X.env.scope x → (X.fn x = true ∨ X.env.scope.names.lookup x = some .local) → NmAt X es is →
      ((assignEach (.Name x p :: es) X.env).map (·.2) = assign (.Name x p) X.env :: (assignEach es X.env).map (·.2)) → NmAt X (.Name x p :: es) (i :: is)
def gPut (is : List Nat) : TGs := fun vs σ H Q => vs.length = is.length ∧ Q (putV σ is vs) H
theorem pgs_put (hN : X.N.Nodup) : ∀ {es : List Expr} {is : List Nat}, NmAt X es is → PGs X es (gPut is)
  | _, _, .nil => pgs_w pgs_nil fun vs σ H Q h => by
    obtain ⟨hl, q⟩ := h
    cases vs with
    | nil => exact ⟨rfl, q⟩
    | cons _ _ => cases hl
  | _, _, .cons h1 h2 h3 t h4 => pgs_w (pgs_cons (pg_name hN h1 h2 h3) (pgs_put hN t) h4) fun vs σ H Q h => by
    obtain ⟨hl, q⟩ := h
    cases vs with
    | nil => cases hl
    | cons v vs => exact ⟨v, vs, rfl, by simpa using hl, q⟩
theorem ds_parN {ts es : List Expr} {is : List Nat} {f : M (List Sl)} {kt k2 pt pt2} (b : Bool) (hc : X.calm = true) (hN : X.N.Nodup) (hn : NmAt X ts is) (ha : DV X es f) (hlen : is.length ≤ sizeLine)
    (hw : swappedStores [.Tuple ts kt pt] (.Tuple es k2 pt2) X.env = pure none := by rfl)
    (hs : swapsWithSole [.Tuple ts kt pt] (.Tuple es k2 pt2) pos.line X.env = pure false := by rfl)
    (h1 : (assignEach [.Tuple ts kt pt] X.env).map (·.2) = [assign (.Tuple ts kt pt) X.env] := by rfl)
    (hl1 : (assignEach ts X.env).length = is.length := by rfl) (hst : (assignEach ts X.env).findIdx? (·.1) = none := by rfl) :
    DS X (.Assign [.Tuple ts kt pt] (.Tuple es k2 pt2) pos) (mPar b is f) := by
  refine ps_w (ps_asg (pe_tup ha) (pg_tup hc (pgs_put hN hn) hl1 hst) hs hw h1) ?_
  rintro E σ H ⟨F0, H0, F, sa, ρ, τ, o, ρ', τ', hh, e, k⟩
  -- the state behind it, with one more tuple that nobody sees
  have k2 : tV f σ H fun vs H1 => vs.length = is.length ∧ ∀ p, H1 p = none → E.nx (putV σ is vs) (upd H1 p (.tup vs)) := by
    unfold mPar at e
    split at e
    · rename_i ss τ1 e1
      split at e
      · rename_i ok
        cases e
        simp only [Bool.and_eq_true, decide_eq_true_eq] at ok
        obtain ⟨⟨ok1, ok2⟩, ok3⟩ := ok
        obtain ⟨Fb, w, _, go⟩ := hh.run b
        refine ⟨Fb, sa, _, τ, ss, τ', w, e1, fun F1 H1 vs x1 w1 r1 => ⟨by rw [r1.length]; exact ok3, fun p hp => ?_⟩⟩
        obtain ⟨F2, h2, sf, rp, ra⟩ := go F1 H1 _ x1 w1.fh w1.src w1.flag
        have gr : Grow F2 H1 F2 (upd H1 p (.tup vs)) := Grow.own h2.fh hp _
        have h3 : Hold F0 H0 F2 sa σ (upd H1 p (.tup vs)) ρ τ' := h2.step0 gr.ext gr.fh (h2.src.grow gr) h2.flag
        have r2 := (r1.less sf rp ra ok2).mono gr.ext
        refine k F2 _ _ (h3.puts r2 hh.ext.nn ok1 fun j e a hj hs => ?_)
        obtain ⟨c, q, z1, z2, z3, z4, z5, z6⟩ := h3.own j e hj
        rw [hs] at z1
        cases z1
        obtain ⟨c', q', y1, y2, _⟩ := hh.own j e hj
        rw [hs] at y1
        cases y1
        exact r2.old a (nn_of y2) z4
      · cases e
    · cases e
  obtain ⟨Fb, sa', η, τ1, ss, τ2, w, e1, kk⟩ := k2
  refine ⟨Fb, sa', η, τ1, ss, τ2, w, e1, fun F1 H1 vs x1 w1 r1 => ?_⟩
  obtain ⟨hl, q⟩ := kk F1 H1 vs x1 w1 r1
  exact ⟨by rw [hl]; exact hlen, fun p hp => ⟨p, vs, rfl, .of upd_same, hl, hl, q p hp⟩⟩
end

/-! a comprehension stored at once -/
section
variable {X : Cx} {elt tg iter : Expr} {ifs : List Expr} {scope : Scope} {pos spos py : Pos} {fi : M (List D)} {b : Tgt} {tt : M Bool} {te : M D} {i : Nat} {y : Str}
theorem ds_setLc (v : Bool) (own : List (Str × Nat)) (hc : X.calm = true) (hN : X.N.Nodup) (hy : X.N[i]? = some y) (hyl : X.env.scope.names.lookup y = some .local)
    (hsw : swapsWith (.ListComp elt [⟨tg, iter, ifs, 0⟩] scope pos) (some (.Name y py)) spos.line X.env = pure true) (hi : DI X tg iter fi) (ok : BlkOk X.N X.env.scope scope own) (hv : ∀ i ∈ own.map (·.2), 2 ≤ i) (hb : ∀ i ∈ tgtSlots b, i ∈ own.map (·.2))
    (hg : ∀ (s : Shared) (H : Hp) (C : Addr) (cl : List (Str × Addr)) (fp : List Addr), DG (X.blk s H scope (compEnvC scope cl C X.env) fp) tg b) (ht : ∀ (s : Shared) (H : Hp) (C : Addr) (cl : List (Str × Addr)) (fp : List Addr), DTs (X.blk s H scope (compEnvC scope cl C X.env) fp) ifs tt)
    (he : ∀ (s : Shared) (H : Hp) (C : Addr) (cl : List (Str × Addr)) (fp : List Addr), DE (X.blk s H scope (compEnvC scope cl C X.env) fp) elt te) (hs : ∀ x, foldedSetIterable iter X.env x = pure x := by intro _; rfl) :
    DS X (.Assign [.Name y py] (.ListComp elt [⟨tg, iter, ifs, 0⟩] scope pos) spos) (mSetN v i (mComp fi (own.map (·.2)) b tt te)) := by
  refine ps_w (ps_setLc hc hN hy hyl hsw hi ok hg ht he hs) fun E σ H h => ?_
  exact tLc_of (K := X.K) hv hb σ H _ (setN_of E σ H h)
end
end DL

/-! DLi: enumerate and zip over lists and tuples in any mix; ranges as values; repetition. -/
namespace DL
open PySem PySem.Spec PyProof.Rows L2

/-! ### a list (true) or a tuple (false) -/
def kObj (b : Bool) (a : Addr) : Obj := match b with
  | true => { cls := .type "list_iterator", data := .fields #[.ref a, .int 0 0] }
  | false => { cls := .type "tuple_iterator", data := .fields #[.ref a, .int 0 0] }
def kHas (b : Bool) (h : Heap) (a : Addr) (its : Array Value) : Prop := match b with
  | true => h.IsList a its
  | false => h.IsTuple a its
def kIt (b : Bool) (h : Heap) (it a : Addr) (i : Nat) : Prop := match b with
  | true => h.IsListIter it a i
  | false => h.IsTupleIter it a i
def SqX (b : Bool) (K : PySem.W.Frag) (H : Hp) (a : Addr) (xs : List V) : Prop := match b with
  | true => SqL K H a xs
  | false => SqT K H a xs
theorem kBegins (b : Bool) (a : Addr) (its : Array Value) : Begins (.ref a) (kObj b a) fun h => kHas b h a its := by
  cases b
  · exact begins_tuple a its
  · exact begins_list a its
theorem kDraws {prog : Program} {w : World} {A : Around} (b : Bool) (hh : A.handled = none) (it a : Addr) (hne : a ≠ it) (its : Array Value) :
    Draws prog w A it [it, a] its.size (fun i v => its[i]? = some v) (fun i h => kIt b h it a i ∧ kHas b h a its) := by
  cases b
  · exact Draws.tuple hh it a hne its
  · exact Draws.list hh it a hne its
theorem kIt_start {b : Bool} {h : Heap} {it a : Addr} (e : h.get? it = some (kObj b a)) : kIt b h it a 0 := by
  cases b
  · exact ⟨_, e, rfl, rfl⟩
  · exact ⟨_, e, rfl, rfl⟩
theorem kIt.keep {b : Bool} {h h' : Heap} {it a : Addr} {i : Nat} (x : kIt b h it a i) (e : ∀ o, h.get? it = some o → h'.get? it = some o) : kIt b h' it a i := by
  cases b
  · exact Heap.IsTupleIter.at x e
  · exact Heap.IsListIter.at x e
theorem kIt.live {b : Bool} {h : Heap} {it a : Addr} {i : Nat} (x : kIt b h it a i) : ∃ o, h.get? it = some o ∧ ∀ v, o.data ≠ .cell v := by
  cases b
  · obtain ⟨o, ho, _, hd⟩ := x
    exact ⟨o, ho, fun v z => by rw [hd] at z; cases z⟩
  · obtain ⟨o, ho, _, hd⟩ := x
    exact ⟨o, ho, fun v z => by rw [hd] at z; cases z⟩
theorem kSeq {X : Cx} {pins : List (Addr × Obj)} {σ : L2.St} {H : Hp} {s : Shared} {b : Bool} {a : Addr} {xs : List V} (I : Inv X pins σ H s) (h : SqX b X.K H a xs) : ∃ its : List Value, Vals xs its ∧ kHas b s.heap a its.toArray ∧ xs.length ≤ sizeLine := by
  cases b
  · obtain ⟨its, r, p, z⟩ := I.tuple h
    exact ⟨its, r, p, z⟩
  · obtain ⟨its, r, p, z⟩ := I.list h
    exact ⟨its, r, p.isList, z⟩
theorem kSeq_inj {X : Cx} {pins : List (Addr × Obj)} {σ : L2.St} {H : Hp} {s : Shared} {b : Bool} {a : Addr} {xs ys : List V} (I : Inv X pins σ H s) (h : SqX b X.K H a xs) (h' : SqX b X.K H a ys) : xs = ys := by
  cases b
  · exact I.tuple_inj h h'
  · exact I.list_inj h h'

/-! ### enumerate -/
def ItE (b : Bool) (K : PySem.W.Frag) (a : Addr) : It :=
  ⟨fun i H => ∃ (xs : List V) (x : V), SqX b K H a xs ∧ xs[i]? = some x, fun i H v H' => ∃ T x, v = .ref T ∧ H T = none ∧ H' = upd H T (.tup [.int (i : Nat), x]) ∧ ∀ xs, SqX b K H a xs → xs[i]? = some x, fun i H => ∃ xs : List V, SqX b K H a xs ∧ xs.length = i⟩
theorem turn_enumX {P : Program} {w : World} {K : PySem.W.Frag} {elts : List Expr} {kk : Nat} {tpos : Pos} (b : Bool) (a e it : Addr) :
    Turn P w K (.Tuple elts kk tpos) (ItE b K a) [e, it] e (fun i h => (∃ old, IsEnum h e it ((i : Nat) : Int) old) ∧ kIt b h it a i ∧ e ≠ it ∧ e ≠ a ∧ a ≠ it) where
  mem := by simp
  obj := fun i h st c hc => by
    obtain ⟨⟨old, he⟩, hi, _⟩ := st
    have e' : c = e ∨ c = it := by simpa using hc
    rcases e' with z | z
    · rw [z]; exact ⟨_, he, fun v q => nomatch q⟩
    · rw [z]; exact hi.live
  keep := fun i h h' st k => let ⟨⟨old, he⟩, hi, hne⟩ := st; ⟨⟨old, k e (by simp) _ he⟩, hi.keep fun o q => k it (by simp) o q, hne⟩
  item := by
    intro X hP hw hK hc i pins s σ H E I hf st hg
    subst hP hw hK
    obtain ⟨⟨old, he⟩, hit, n1, n2, n3⟩ := st
    obtain ⟨xs, x, hq, hx⟩ := hg
    obtain ⟨its, rv, p, hz⟩ := kSeq I hq
    obtain ⟨u, hu, ru⟩ := rv.get hx
    have hd : X.A.in1.handled = none := I.ok.hd hc
    have G := GoesN.enumFrom (elts := elts) (x1 := kk) (pos := tpos) 0 (kDraws (prog := X.prog) (w := X.w) b hd it a n3 its.toArray) e n1 (by simp [n1, n2]) (by simp)
    have hlt : i < its.toArray.size := by
      have := (List.getElem?_eq_some_iff.mp hu).1
      simpa using this
    refine wpAny_mono (G.goes i s (fun v s2 => ∃ x' H', Inv X pins σ H' s2 ∧ RelV x' v ∧ (ItE b X.K a).yld i H x' H' ∧ ((∃ old, IsEnum s2.heap e it ((i + 1 : Nat) : Int) old) ∧ kIt b s2.heap it a (i + 1) ∧ e ≠ it ∧ e ≠ a ∧ a ≠ it) ∧ ∀ c ∈ [e, it], H' c = none) E hlt ⟨⟨old, by rw [Int.zero_add]; exact he⟩, hit, p⟩ fun v h' tk hY st' hk _ => ?_) (fun r s1 q => q) fun _ _ q => q
    obtain ⟨T, t, y, rfl, hT, hy, hTup⟩ := hY
    have hyu : y = u := by
      have h1 : its.toArray[i]? = some u := by simpa using hu
      rw [h1] at hy
      exact (Option.some.inj hy).symm
    subst hyu
    rw [Int.zero_add] at hTup
    obtain ⟨⟨old', he'⟩, hit', _⟩ := st'
    have new : ObjOk X.prog X.w (upd H T (.tup [.int (i : Nat), x])) h' T (.tup [.int (i : Nat), x]) :=
      ⟨by show 2 ≤ sizeLine; decide, [.int i t, y], .cons ⟨_, rfl⟩ (.cons ru .nil), hTup⟩
    have I1 : Inv X pins σ (upd H T (.tup [.int (i : Nat), x])) { s with heap := h', toks := tk } := I.turnedNew (ch := [e, it]) hk hf hT new
    refine ⟨.ref T, _, I1, rfl, ⟨T, x, rfl, I.hok.fresh hT, rfl, fun ys hy => by rw [kSeq_inj I hy hq]; exact hx⟩, ⟨⟨old', ?_⟩, hit', n1, n2, n3⟩, fun c hc => ?_⟩
    · have e1 : ((i + 1 : Nat) : Int) = 0 + ((i + 1 : Nat) : Int) := by omega
      rw [e1]; exact he'
    · have hb' : c < s.heap.objs.size := by
        have e' : c = e ∨ c = it := by simpa using hc
        rcases e' with z | z
        · rw [z]; exact Heap.lt_size he
        · rw [z]; obtain ⟨o, ho, _⟩ := hit.live; exact Heap.lt_size ho
      rw [upd_ne (Nat.ne_of_lt (Nat.lt_of_lt_of_le hb' hT))]
      exact (hf c hc).1
  done := by
    intro X hP hw hK hc i pins s σ H E I hf st hg
    subst hP hw hK
    obtain ⟨⟨old, he⟩, hit, n1, n2, n3⟩ := st
    obtain ⟨xs, hq, hx⟩ := hg
    obtain ⟨its, rv, p, hz⟩ := kSeq I hq
    have hd : X.A.in1.handled = none := I.ok.hd hc
    have G := GoesN.enumFrom (elts := elts) (x1 := kk) (pos := tpos) 0 (kDraws (prog := X.prog) (w := X.w) b hd it a n3 its.toArray) e n1 (by simp [n1, n2]) (by simp)
    have hsz : its.toArray.size = i := by rw [List.size_toArray, ← rv.length]; exact hx
    exact G.stops s (fun s1 => Inv X pins σ H s1) E (by rw [hsz]; exact ⟨⟨old, by rw [Int.zero_add]; exact he⟩, hit, p⟩) fun h' tk hk _ => I.turnedL hk hf
  self := fun A i s Q E st h => let ⟨⟨_, he⟩, _⟩ := st; wpAny_pyIter_enum he h
theorem meets_enum1 {v : Value} {o : Obj} {G : Heap → Prop} (B : Begins v o G) :
    Meets (Builtin.«enumerate.__new__» ⟨[.type "enumerate", v], []⟩) (fun _ R s => G s.heap ∧
      R (.ok (.ret (.ref (s.heap.push o).objs.size))) { s with heap := (s.heap.push o).push { cls := .type "enumerate", data := .fields #[.none, .bool false, .ref s.heap.objs.size, rawInt 0, .none, .none] } }) :=
  .of_wp fun prog w A R s h => by
    obtain ⟨hp, g, d, tk, os⟩ := s
    obtain ⟨h1, h⟩ := h
    have hsub := sub_enumerate
    have q1 : ∀ {A' : Around} {E : Value → Shared → Prop} {Q : Value → Shared → Prop}, Q (.ref hp.objs.size) ⟨hp.push o, g, d, tk, os⟩ → wpAny (model prog w) A' (pyIter v) Q E ⟨hp, g, d, tk, os⟩ :=
      fun q => B.iter prog w _ _ ⟨hp, g, d, tk, os⟩ _ h1 q
    wp_walk
    refine wpAny_stack_any fun st => wpAny_pure ?_
    split
    · rename_i c _ _ _ _ _
      cases (c == Value.type "enumerate") <;> (wp_walk using q1; exact ⟨_, rfl, h⟩)
    · wp_walk using q1
      exact ⟨_, rfl, h⟩
theorem call_enum1 {prog : Program} {w : World} {A : Around} {E : Value → Shared → Prop} {s : Shared} {v : Value} {o : Obj} {G : Heap → Prop} {Q : Value → Shared → Prop} (B : Begins v o G) (h1 : G s.heap)
    (h : ∀ h', IsEnum h' (s.heap.objs.size + 1) s.heap.objs.size 0 .none → h'.get? s.heap.objs.size = some o → (∀ b o, s.heap.get? b = some o → h'.get? b = some o) → Q (.ref (s.heap.objs.size + 1)) { s with heap := h' }) :
    wpAny (model prog w) A (call (.type "enumerate") [v]) Q E s := by
  refine callType_new F.called_enumerate (by decide) (F.typeCall_enumerate_1 _) (F.newCall_enumerate_1 _) (fun obj => F.args_object_init_2 obj _) F.entry_enumerate_new (meets_enum1 B) ⟨h1, ?_⟩
  have hz : (s.heap.push o).objs.size = s.heap.objs.size + 1 := Heap.size_push ..
  have he : IsEnum ((s.heap.push o).push { cls := .type "enumerate", data := .fields #[.none, .bool false, .ref s.heap.objs.size, rawInt 0, .none, .none] }) (s.heap.objs.size + 1) s.heap.objs.size 0 .none := by
    have z := Heap.get?_push_size (s.heap.push o) (o := { cls := .type "enumerate", data := .fields #[.none, .bool false, .ref s.heap.objs.size, rawInt 0, .none, .none] }) rfl
    rw [hz] at z
    exact z
  show _ ∧ _
  rw [hz]
  exact ⟨⟨_, he, rfl⟩, h _ he (Heap.get?_push_of_some _ (Heap.get?_push_size _ B.free)) fun b o y => Heap.get?_push_of_some _ (Heap.get?_push_of_some _ y)⟩
theorem kHas_lt {b : Bool} {h : Heap} {a : Addr} {its : Array Value} (x : kHas b h a its) : a < h.objs.size := by
  cases b
  · obtain ⟨_, e, _⟩ := x; exact Heap.lt_size e
  · obtain ⟨_, e, _⟩ := x; exact Heap.lt_size e
def iEnumX (K : PySem.W.Frag) (ta : TA) : TI := fun σ H R => ta σ H fun vs H1 => ∃ b a xs, vs = [.ref a] ∧ SqX b K H1 a xs ∧ R (ItE b K a) H1
theorem pi_enumX {X : Cx} {e : Expr} {ta : TA} {p pos tpos : Pos} {elts : List Expr} {kk : Nat} (hg : Gl X "enumerate") (hm : X.mg "enumerate" = none) (ha : PA X [e] ta) (hs : starEach [e] X.env = [(false, eval e X.env)] := by rfl) :
    PI X (.Tuple elts kk tpos) (.Call (.Name "enumerate" p) [e] [] pos) (iEnumX X.K ta) := by
  refine ⟨fun pins s σ H R I h => ?_⟩
  refine Call_ (ld_blt I hg hm boot_enumerate (PyProof.Rows.callWith_type1 (thn (ha.run pos pins s σ H _ I h) fun us s1 ⟨vs, H1, I1, r1, q1⟩ => ?_) hs rfl))
  obtain ⟨b, a, xs, ex, hq, q⟩ := q1
  subst ex
  obtain rfl := Vals.ref1 r1
  obtain ⟨its, rv, p', hz⟩ := kSeq I1 hq
  have hal := kHas_lt p'
  refine call_enum1 (kBegins b a its.toArray) p' fun h' he hit hk => wpAny_pyIter_enum he ?_
  have I2 : Inv X pins σ H1 { s1 with heap := h' } := I1.kept (t' := s1.toks) hk
  refine ⟨s1.heap.objs.size + 1, [s1.heap.objs.size + 1, s1.heap.objs.size], _, _, H1, rfl, I2, turn_enumX b a (s1.heap.objs.size + 1) s1.heap.objs.size, ⟨⟨.none, he⟩, kIt_start hit, Nat.succ_ne_self _, Nat.ne_of_gt (Nat.lt_succ_of_lt hal), Nat.ne_of_lt hal⟩, fun c hc => ?_, q⟩
  have e' : c = s1.heap.objs.size + 1 ∨ c = s1.heap.objs.size := by simpa using hc
  have hle : s1.heap.objs.size ≤ c := by
    rcases e' with z | z
    · rw [z]; exact Nat.le_add_right _ _
    · rw [z]; exact Nat.le_refl _
  exact I1.fpOk hle (I1.hok.fresh hle)
def enumD : Nat → List D → List D
  | _, [] => []
  | n, d :: ds => .tuple [.int (n : Nat), d] :: enumD (n + 1) ds
theorem enumD_length : ∀ (n : Nat) (ds : List D), (enumD n ds).length = ds.length
  | _, [] => rfl
  | n, d :: ds => congrArg (· + 1) (enumD_length (n + 1) ds)
theorem enumD_get : ∀ (n : Nat) (ds : List D) (i : Nat) (d : D), ds[i]? = some d → (enumD n ds)[i]? = some (.tuple [.int ((n + i : Nat) : Int), d])
  | _, [], _, _, h => by simp at h
  | n, x :: ds, 0, d, h => by simp at h; subst h; simp [enumD]
  | n, x :: ds, i + 1, d, h => by
    have := enumD_get (n + 1) ds i d (by simpa using h)
    rw [show n + 1 + i = n + (i + 1) by omega] at this
    simpa [enumD] using this
def mEnum (f : M D) : M (List D) := mBind f fun x => mLift ((seqOf x).map (enumD 0))
theorem seq_kind {F : Hp} {x : D} {v : V} {ds : List D} (h : seqOf x = some ds) (r : Rp F v x) : ∃ b a vs, v = .ref a ∧ (∀ K H, Same F H → SqX b K H a vs) ∧ vs.length ≤ sizeLine ∧ RpA F vs ds := by
  cases x <;> simp only [seqOf, Option.some.injEq, reduceCtorEq] at h
  · subst h; cases r with | lst h1 h2 h3 => exact ⟨true, _, _, rfl, fun K H s => SqL.of (s _ _ h1), h2, h3⟩
  · subst h; cases r with | tup h1 h2 h3 => exact ⟨false, _, _, rfl, fun K H s => SqT.of (s _ _ h1), h2, h3⟩
theorem di_enum {X : Cx} {e : Expr} {f : M D} {p pos tpos : Pos} {elts : List Expr} {kk : Nat} (hg : Gl X "enumerate") (hm : X.mg "enumerate" = none) (ha : DE X e f) (hs : starEach [e] X.env = [(false, eval e X.env)] := by rfl) :
    DI X (.Tuple elts kk tpos) (.Call (.Name "enumerate" p) [e] [] pos) (mEnum f) := by
  refine pi_w (pi_enumX hg hm (pa_cons ha pa_nil hs) hs) ?_
  rintro σ H R ⟨F, sa, η, τ, d, τ', w, e, k⟩
  obtain ⟨x, τ1, e1, ea⟩ := mBind_some e
  obtain ⟨e2, rfl⟩ := mLift_some ea
  obtain ⟨ds, e3, rfl⟩ := Option.map_eq_some_iff.mp e2
  refine tE.go w e1 fun F1 H1 u x1 w1 r1 => ?_
  obtain ⟨b, a, vs, rfl, hsq, hl, hr⟩ := seq_kind e3 r1
  refine ⟨b, a, vs, rfl, hsq _ _ w1.fh, k F1 H1 _ x1 w1 ⟨by rw [enumD_length, ← hr.length]; exact hl, fun H => SqX b X.K H a vs, fun i H v H' => ∃ T x, v = .ref T ∧ H T = none ∧ H' = upd H T (.tup [.int (i : Nat), x]) ∧ vs[i]? = some x, ?_, fun H s => hsq _ _ s, ?_⟩⟩
  · rw [enumD_length, ← hr.length]
    refine ⟨fun i H hi q => ⟨vs, vs[i], q, by simp [hi]⟩, fun H q => ⟨vs, q, rfl⟩, fun i H x H' hi q y => ?_⟩
    obtain ⟨T, z, h1, h2, h3, h4⟩ := y
    exact ⟨T, z, h1, h2, h3, h4 vs q⟩
  · rintro i H v H' F2 hi s1 s2 ⟨T, z, rfl, hT, rfl, hz⟩
    obtain ⟨d, hd, rd⟩ := hr.get' hz
    have gr := Grow.alloc s2 hT (.tup [.int (i : Nat), z])
    have := enumD_get 0 ds i d hd
    rw [Nat.zero_add] at this
    exact ⟨_, _, this, gr, .tup upd_same (by show 2 ≤ sizeLine; decide) (.cons (.int _) (.cons (Rp.mono (s1.trans gr.ff) _ _ rd) .nil))⟩

/-! ### zip -/
def ItZ (b c : Bool) (K : PySem.W.Frag) (p q : Addr) : It :=
  ⟨fun i H => ∃ (xs ys : List V) (x y : V), SqX b K H p xs ∧ SqX c K H q ys ∧ xs[i]? = some x ∧ ys[i]? = some y,
   fun i H v H' => ∃ T x y, v = .ref T ∧ H T = none ∧ H' = upd H T (.tup [x, y]) ∧ (∀ xs, SqX b K H p xs → xs[i]? = some x) ∧ ∀ ys, SqX c K H q ys → ys[i]? = some y,
   fun i H => ∃ xs ys : List V, SqX b K H p xs ∧ SqX c K H q ys ∧ min xs.length ys.length = i⟩
theorem turn_zipX {P : Program} {w : World} {K : PySem.W.Frag} {elts : List Expr} {kk : Nat} {tpos : Pos} (b c : Bool) {p q z TI TO i1 i2 : Addr} (hp : p ≠ i1) (hq : q ≠ i2) (S : ZipSep2 z TI TO i1 i2 [i1, p] [i2, q]) :
    Turn P w K (.Tuple elts kk tpos) (ItZ b c K p q) [z, TI, TO, i1, i2] z (fun i h => IsZip h z TI TO .none ∧ IsTupOf2 h TI (.ref i1) (.ref i2) ∧ (∃ a1 a2, IsTupOf2 h TO a1 a2) ∧ kIt b h i1 p i ∧ kIt c h i2 q i) where
  mem := by simp
  obj := fun i h st d hd => by
    obtain ⟨h1, h2, ⟨a1, a2, h3⟩, h4, h5⟩ := st
    have e' : d = z ∨ d = TI ∨ d = TO ∨ d = i1 ∨ d = i2 := by simpa using hd
    rcases e' with r | r | r | r | r
    · rw [r]; exact ⟨_, h1, fun v x => nomatch x⟩
    · rw [r]; exact ⟨_, h2, fun v x => nomatch x⟩
    · rw [r]; exact ⟨_, h3, fun v x => nomatch x⟩
    · rw [r]; exact h4.live
    · rw [r]; exact h5.live
  keep := fun i h h' st k => by
    obtain ⟨h1, h2, ⟨a1, a2, h3⟩, h4, h5⟩ := st
    exact ⟨k z (by simp) _ h1, k TI (by simp) _ h2, ⟨a1, a2, k TO (by simp) _ h3⟩, h4.keep fun o e => k i1 (by simp) o e, h5.keep fun o e => k i2 (by simp) o e⟩
  item := by
    intro X hP hw hK hc i pins s σ H E I hf st hg
    subst hP hw hK
    obtain ⟨h1, h2, ⟨a1, a2, h3⟩, h4, h5⟩ := st
    obtain ⟨xs, ys, x, y, hx, hy, gx, gy⟩ := hg
    obtain ⟨its, rv, px, _⟩ := kSeq I hx
    obtain ⟨jts, rw', py, _⟩ := kSeq I hy
    obtain ⟨u, hu, ru⟩ := rv.get gx
    obtain ⟨v, hv, rv2⟩ := rw'.get gy
    have hd : X.A.in1.handled = none := I.ok.hd hc
    have G := GoesN.zip2 (elts := elts) (x1 := kk) (pos := tpos) S (kDraws (prog := X.prog) (w := X.w) b hd i1 p hp its.toArray) (kDraws c hd i2 q hq jts.toArray)
    have l1 := (List.getElem?_eq_some_iff.mp hu).1
    have l2 := (List.getElem?_eq_some_iff.mp hv).1
    refine wpAny_mono (G.goes i s (fun v s2 => ∃ x' H', Inv X pins σ H' s2 ∧ RelV x' v ∧ (ItZ b c X.K p q).yld i H x' H' ∧ (IsZip s2.heap z TI TO .none ∧ IsTupOf2 s2.heap TI (.ref i1) (.ref i2) ∧ (∃ a1 a2, IsTupOf2 s2.heap TO a1 a2) ∧ kIt b s2.heap i1 p (i + 1) ∧ kIt c s2.heap i2 q (i + 1)) ∧ ∀ d ∈ [z, TI, TO, i1, i2], H' d = none) E (by rw [List.size_toArray, List.size_toArray]; omega) ⟨h1, h2, ⟨a1, a2, h3⟩, ⟨h4, px⟩, ⟨h5, py⟩⟩ fun v' h' tk hY st' hk _ => ?_) (fun r s1 q => q) fun _ _ q => q
    obtain ⟨T, x', y', rfl, hT, hx', hy', hTup⟩ := hY
    obtain rfl : x' = u := by
      have e1 : its.toArray[i]? = some u := by simpa using hu
      rw [e1] at hx'
      exact (Option.some.inj hx').symm
    obtain rfl : y' = v := by
      have e1 : jts.toArray[i]? = some v := by simpa using hv
      rw [e1] at hy'
      exact (Option.some.inj hy').symm
    obtain ⟨g1, g2, g3, ⟨g4, _⟩, ⟨g5, _⟩⟩ := st'
    have new : ObjOk X.prog X.w (upd H T (.tup [x, y])) h' T (.tup [x, y]) := ⟨by show 2 ≤ sizeLine; decide, [x', y'], .cons ru (.cons rv2 .nil), hTup⟩
    have I1 : Inv X pins σ (upd H T (.tup [x, y])) { s with heap := h', toks := tk } := I.turnedNew (ch := [z, TI, TO, i1, i2]) (fun b o hb e => hk b o (fun hm => hb (by
      have : b = z ∨ b = TO ∨ b = i1 ∨ b = i2 := by simpa using hm
      rcases this with r | r | r | r <;> simp [r])) e) hf hT new
    refine ⟨.ref T, _, I1, rfl, ⟨T, x, y, rfl, I.hok.fresh hT, rfl, fun xs' h => by rw [kSeq_inj I h hx]; exact gx, fun ys' h => by rw [kSeq_inj I h hy]; exact gy⟩, ⟨g1, g2, g3, g4, g5⟩, fun d hd => ?_⟩
    have hb' : d < s.heap.objs.size := by
      have e' : d = z ∨ d = TI ∨ d = TO ∨ d = i1 ∨ d = i2 := by simpa using hd
      rcases e' with r | r | r | r | r
      · rw [r]; exact Heap.lt_size h1
      · rw [r]; exact Heap.lt_size h2
      · rw [r]; exact Heap.lt_size h3
      · rw [r]; obtain ⟨o, ho, _⟩ := h4.live; exact Heap.lt_size ho
      · rw [r]; obtain ⟨o, ho, _⟩ := h5.live; exact Heap.lt_size ho
    rw [upd_ne (Nat.ne_of_lt (Nat.lt_of_lt_of_le hb' hT))]
    exact (hf d hd).1
  done := by
    intro X hP hw hK hc i pins s σ H E I hf st hg
    subst hP hw hK
    obtain ⟨h1, h2, ⟨a1, a2, h3⟩, h4, h5⟩ := st
    obtain ⟨xs, ys, hx, hy, hmin⟩ := hg
    obtain ⟨its, rv, px, _⟩ := kSeq I hx
    obtain ⟨jts, rw', py, _⟩ := kSeq I hy
    have hd : X.A.in1.handled = none := I.ok.hd hc
    have G := GoesN.zip2 (elts := elts) (x1 := kk) (pos := tpos) S (kDraws (prog := X.prog) (w := X.w) b hd i1 p hp its.toArray) (kDraws c hd i2 q hq jts.toArray)
    have hsz : min its.toArray.size jts.toArray.size = i := by rw [List.size_toArray, List.size_toArray, ← rv.length, ← rw'.length]; exact hmin
    exact G.stops s (fun s1 => Inv X pins σ H s1) E (by rw [hsz]; exact ⟨h1, h2, ⟨a1, a2, h3⟩, ⟨h4, px⟩, ⟨h5, py⟩⟩) fun h' tk hk _ => I.turnedL (ch := [z, TI, TO, i1, i2]) (fun b o hb e => hk b o (fun hm => hb (by
      have : b = z ∨ b = TO ∨ b = i1 ∨ b = i2 := by simpa using hm
      rcases this with r | r | r | r <;> simp [r])) e) hf
  self := fun A i s Q E st h => wpAny_pyIter_zip st.1 h
def iZipX (K : PySem.W.Frag) (ta : TA) : TI := fun σ H R => ta σ H fun vs H1 => ∃ b c p q xs ys, vs = [.ref p, .ref q] ∧ SqX b K H1 p xs ∧ SqX c K H1 q ys ∧ R (ItZ b c K p q) H1
theorem pi_zipX {X : Cx} {e e2 : Expr} {ta : TA} {p pos tpos : Pos} {elts : List Expr} {kk : Nat} (hg : Gl X "zip") (hm : X.mg "zip" = none) (ha : PA X [e, e2] ta) (hs : starEach [e, e2] X.env = (false, eval e X.env) :: starEach [e2] X.env := by rfl)
    (hs2 : (backTo pos (starEach [e2] X.env)).any (·.1) = false := by rfl) :
    PI X (.Tuple elts kk tpos) (.Call (.Name "zip" p) [e, e2] [] pos) (iZipX X.K ta) := by
  refine ⟨fun pins s σ H R I h => ?_⟩
  refine Call_ (ld_blt I hg hm boot_zip (PyProof.Rows.callWith_type1 (thn (ha.run pos pins s σ H _ I h) fun us s1 ⟨vs, H1, I1, r1, q1⟩ => ?_) hs hs2))
  obtain ⟨b, c, p1, p2, xs, ys, ex, hx, hy, q⟩ := q1
  subst ex
  obtain ⟨u, v, rfl, ru, rv'⟩ := Vals.two r1
  obtain rfl : u = .ref p1 := ru
  obtain rfl : v = .ref p2 := rv'
  obtain ⟨its, rv, px, _⟩ := kSeq I1 hx
  obtain ⟨jts, rw', py, _⟩ := kSeq I1 hy
  have l1 := kHas_lt px
  have l2 := kHas_lt py
  refine zip_begins2 (kBegins b p1 its.toArray) (kBegins c p2 jts.toArray) px py fun h' hz hTI hTO g1 g2 _ hk => wpAny_pyIter_zip hz ?_
  have I2 : Inv X pins σ H1 { s1 with heap := h' } := I1.kept (t' := s1.toks) hk
  refine ⟨s1.heap.objs.size + 4, [s1.heap.objs.size + 4, s1.heap.objs.size + 2, s1.heap.objs.size + 3, s1.heap.objs.size, s1.heap.objs.size + 1], _, _, H1, rfl, I2,
    turn_zipX b c (Nat.ne_of_lt l1) (Nat.ne_of_lt (Nat.lt_succ_of_lt l2)) (zip_sep2 (fun d hd => by
      obtain rfl : d = p1 := by simpa using hd
      exact l1) fun d hd => by
      obtain rfl : d = p2 := by simpa using hd
      exact l2), ⟨hz, hTI, ⟨_, _, hTO⟩, kIt_start g1, kIt_start g2⟩, fun d hd => ?_, q⟩
  have hle : s1.heap.objs.size ≤ d := by
    have e' : d = s1.heap.objs.size + 4 ∨ d = s1.heap.objs.size + 2 ∨ d = s1.heap.objs.size + 3 ∨ d = s1.heap.objs.size ∨ d = s1.heap.objs.size + 1 := by simpa using hd
    rcases e' with r | r | r | r | r <;> rw [r] <;> first | exact Nat.le_add_right _ _ | exact Nat.le_refl _
  exact I1.fpOk hle (I1.hok.fresh hle)
def zipD : List D → List D → List D
  | x :: xs, y :: ys => .tuple [x, y] :: zipD xs ys
  | _, _ => []
theorem zipD_length : ∀ xs ys : List D, (zipD xs ys).length = min xs.length ys.length
  | [], _ => by simp [zipD]
  | _ :: _, [] => by simp [zipD]
  | x :: xs, y :: ys => by
    simp only [zipD, List.length_cons, zipD_length xs ys]
    omega
theorem zipD_get : ∀ (xs ys : List D) (i : Nat) (x y : D), xs[i]? = some x → ys[i]? = some y → (zipD xs ys)[i]? = some (.tuple [x, y])
  | [], _, _, _, _, h, _ => by simp at h
  | _ :: _, [], _, _, _, _, h => by simp at h
  | a :: xs, b :: ys, 0, x, y, h, h2 => by simp at h h2; subst h h2; simp [zipD]
  | a :: xs, b :: ys, i + 1, x, y, h, h2 => by
    have := zipD_get xs ys i x y (by simpa using h) (by simpa using h2)
    simpa [zipD] using this
def mZip (f g : M D) : M (List D) := mBind f fun x => mBind g fun y => mLift ((seqOf x).bind fun xs => (seqOf y).map fun ys => zipD xs ys)
theorem di_zip {X : Cx} {e e2 : Expr} {f g : M D} {p pos tpos : Pos} {elts : List Expr} {kk : Nat} (hg : Gl X "zip") (hm : X.mg "zip" = none) (ha : DE X e f) (hb : DE X e2 g) (hs : starEach [e, e2] X.env = (false, eval e X.env) :: starEach [e2] X.env := by rfl)
    (hs1 : starEach [e2] X.env = (false, eval e2 X.env) :: starEach [] X.env := by rfl) (hs2 : (backTo pos (starEach [e2] X.env)).any (·.1) = false := by rfl) :
    DI X (.Tuple elts kk tpos) (.Call (.Name "zip" p) [e, e2] [] pos) (mZip f g) := by
  refine pi_w (pi_zipX hg hm (pa_cons ha (pa_cons hb pa_nil hs1) hs) hs hs2) ?_
  rintro σ H R ⟨F, sa, η, τ, d, τ', w, e, k⟩
  obtain ⟨x, τ1, e1, ea⟩ := mBind_some e
  obtain ⟨y, τ2, e2', eb⟩ := mBind_some ea
  obtain ⟨ec, rfl⟩ := mLift_some eb
  obtain ⟨xs, e3, ed⟩ := Option.bind_eq_some_iff.mp ec
  obtain ⟨ys, e4, rfl⟩ := Option.map_eq_some_iff.mp ed
  refine tE.go w e1 fun F1 H1 u x1 w1 r1 => tE.go w1 e2' fun F2 H2 v x2 w2 r2 => ?_
  obtain ⟨b, p1, vs, rfl, hs1, hl1, hr1⟩ := seq_kind e3 (Rp.mono x2.ff _ _ r1)
  obtain ⟨c, p2, us, rfl, hs2, hl2, hr2⟩ := seq_kind e4 r2
  refine ⟨b, c, p1, p2, vs, us, rfl, hs1 _ _ w2.fh, hs2 _ _ w2.fh, k F2 H2 _ (x1.trans x2) w2 ⟨by rw [zipD_length, ← hr1.length, ← hr2.length]; omega, fun H => SqX b X.K H p1 vs ∧ SqX c X.K H p2 us, fun i H v H' => ∃ T x y, v = .ref T ∧ H T = none ∧ H' = upd H T (.tup [x, y]) ∧ vs[i]? = some x ∧ us[i]? = some y, ?_, fun H s => ⟨hs1 _ _ s, hs2 _ _ s⟩, ?_⟩⟩
  · rw [zipD_length, ← hr1.length, ← hr2.length]
    refine ⟨fun i H hi q => ⟨vs, us, vs[i]'(by omega), us[i]'(by omega), q.1, q.2, by simp, by simp⟩, fun H q => ⟨vs, us, q.1, q.2, rfl⟩, fun i H x H' hi q y => ?_⟩
    obtain ⟨T, z, z2, h1, h2, h3, h4, h5⟩ := y
    exact ⟨T, z, z2, h1, h2, h3, h4 vs q.1, h5 us q.2⟩
  · rintro i H v H' F3 hi s1 s2 ⟨T, z, z2, rfl, hT, rfl, hz, hz2⟩
    obtain ⟨d, hd, rd⟩ := hr1.get' hz
    obtain ⟨d2, hd2, rd2⟩ := hr2.get' hz2
    have gr := Grow.alloc s2 hT (.tup [z, z2])
    exact ⟨_, _, zipD_get xs ys i d d2 hd hd2, gr, .tup upd_same (by show 2 ≤ sizeLine; decide) (.cons (Rp.mono (s1.trans gr.ff) _ _ rd) (.cons (Rp.mono (s1.trans gr.ff) _ _ rd2) .nil))⟩
end DL

/-! DLj: tuple * int, any int; ranges as values. -/
namespace DL
open PySem PySem.Spec PyProof.Rows L2
open PySem.AutoSeq1 (wpAny_loadPart')
theorem tuple_mul_same (l : Addr) (items : Array Value) (n : Nat) (dd : Option Addr) (sl : Array (Option Value)) (x : Int) (u : Tok) (c0 : (decide (x < -(2 ^ 63)) || decide (x ≥ 2 ^ 63)) = false) (c1 : (items.isEmpty || x == 1) = true) :
    Meets (Builtin.«tuple.__mul__» ⟨[.ref l, .int x u], []⟩) (fun _ R s => s.heap.get? l = some { cls := .type "tuple", dict := dd, data := .seq items n, slots := sl } ∧ R (.ok (.ret (Value.ref l))) s) :=
  .of_wp fun prog w A R s h => by
    obtain ⟨hp, g, d, tk, os⟩ := s
    obtain ⟨hl, h⟩ := h
    have f1 := AutoSeq1.idx_int
    wp_walk using wpAny_loadPart' hl
    repeat (first
      | (refine wpAny_ite_false (decide_eq_false (by rw [c0]; exact Bool.false_ne_true)) ?_; wp_walk using wpAny_loadPart' hl)
      | (refine wpAny_ite_true (decide_eq_true c1) ?_; wp_walk using wpAny_loadPart' hl))
    exact ⟨_, rfl, h⟩
theorem tuple_mul_none (l : Addr) (items : Array Value) (n : Nat) (dd : Option Addr) (sl : Array (Option Value)) (x : Int) (u : Tok) (c0 : (decide (x < -(2 ^ 63)) || decide (x ≥ 2 ^ 63)) = false) (c1 : (items.isEmpty || x == 1) = false) (c2 : (decide (x ≤ 0) || items.isEmpty) = true) :
    Meets (Builtin.«tuple.__mul__» ⟨[.ref l, .int x u], []⟩) (fun _ R s => s.heap.get? l = some { cls := .type "tuple", dict := dd, data := .seq items n, slots := sl } ∧
      R (.ok (.ret (Value.ref s.heap.objs.size))) { s with heap := s.heap.push { cls := Value.type "tuple", data := Data.seq #[] }, toks := s.toks }) :=
  .of_wp fun prog w A R s h => by
    obtain ⟨hp, g, d, tk, os⟩ := s
    obtain ⟨hl, h⟩ := h
    have f1 := AutoSeq1.idx_int
    wp_walk using wpAny_loadPart' hl
    repeat (first
      | (refine wpAny_ite_false (decide_eq_false (by rw [c0]; exact Bool.false_ne_true)) ?_; wp_walk using wpAny_loadPart' hl)
      | (refine wpAny_ite_false (decide_eq_false (by rw [c1]; exact Bool.false_ne_true)) ?_; wp_walk using wpAny_loadPart' hl)
      | (refine wpAny_ite_true (decide_eq_true c2) ?_; wp_walk using wpAny_loadPart' hl))
    exact ⟨_, rfl, h⟩
def rRepA (K : PySem.W.Frag) : R2 := fun x y H Q => ∃ l k xs, x = .ref l ∧ y = .int k ∧ SqT K H l xs ∧ -(2 ^ 63) ≤ k ∧ k < 2 ^ 63 ∧ xs.length * k.toNat ≤ sizeLine ∧ ((xs = [] ∨ k = 1) → Q (.ref l) H) ∧
  (¬ (xs = [] ∨ k = 1) → ∀ p, H p = none → Q (.ref p) (upd H p (.tup (List.replicate k.toNat xs).flatten)))
theorem op_repA {X : Cx} : OpR X (binaryOp .Mult) (rRepA X.K) := by
  intro pins s σ H x y v u Q I rx ry h
  obtain ⟨l, k, xs, rfl, rfl, hT, hk1, hk2, hz, q1, q2⟩ := h
  cases rx
  obtain ⟨t, rfl⟩ := ry
  obtain ⟨its, r, ⟨⟨cls, dd, data, sl⟩, ho, hc, n, hd⟩, hs⟩ := I.tuple hT
  simp only at hc hd
  subst hc hd
  have hle : its.length = xs.length := r.length.symm
  have hnil : its.toArray.isEmpty = xs.isEmpty := by cases r <;> rfl
  have c0 : (decide (k < -(2 ^ 63)) || decide (k ≥ 2 ^ 63)) = false := by
    rw [decide_eq_false (by omega), decide_eq_false (by omega)] <;> rfl
  have go : ∀ {Q' : Value → Shared → Prop} {S : Around → (Result → Shared → Prop) → Shared → Prop}, Meets (Builtin.«tuple.__mul__» ⟨[.ref l, .int k t], []⟩) S → (∀ A, S A (fun r s' => ∃ v, r = .ok (.ret v) ∧ Q' v s') s) → True := fun _ _ => trivial
  by_cases hx : xs = [] ∨ k = 1
  · have c1 : (its.toArray.isEmpty || k == 1) = true := by
      rw [hnil, Bool.or_eq_true]
      rcases hx with e | e
      · left; rw [e]; rfl
      · right; rw [e]; rfl
    refine wpAny_binaryOp_repeat_ref (T := "tuple") (U := "int") (by decide) ⟨_, ho, rfl⟩ (fun s' => typeIs_int s' k t) noFill_tuple_mul F.fills_int_mul F.slot_int_rmul repeat_tuple F.slot_int_index.lookup
      (call_meets F.slot_int_rmul (typeIs_int s k t) F.entry_int_rmul (F.args_int_rmul_2 _ _) (int_rmul_tuple k t l its.toArray n dd sl)
        ⟨ho, rfl, ⟨_, ho, rfl⟩, call_meets F.slot_tuple_mul ⟨_, ho, rfl⟩ F.entry_tuple_mul (F.args_tuple_mul_2 _ _) (tuple_mul_same l its.toArray n dd sl k t c0 c1) ⟨ho, ?_⟩⟩)
    exact ⟨.ref l, H, I, rfl, q1 hx⟩
  · have hne : xs ≠ [] := fun e => hx (.inl e)
    have hk : k ≠ 1 := fun e => hx (.inr e)
    have he : xs.isEmpty = false := by cases xs with
      | nil => exact absurd rfl hne
      | cons _ _ => rfl
    have c1 : (its.toArray.isEmpty || k == 1) = false := by
      rw [hnil, he, Bool.false_or]
      exact beq_eq_false_iff_ne.mpr hk
    have fl : (List.replicate k.toNat xs).flatten.length ≤ sizeLine := by
      rw [PyProof.Rows.lm_len_rep_flat, Nat.mul_comm]; exact hz
    by_cases h0 : k ≤ 0
    · have c2 : (decide (k ≤ 0) || its.toArray.isEmpty) = true := by rw [decide_eq_true h0, Bool.true_or]
      refine wpAny_binaryOp_repeat_ref (T := "tuple") (U := "int") (by decide) ⟨_, ho, rfl⟩ (fun s' => typeIs_int s' k t) noFill_tuple_mul F.fills_int_mul F.slot_int_rmul repeat_tuple F.slot_int_index.lookup
        (call_meets F.slot_int_rmul (typeIs_int s k t) F.entry_int_rmul (F.args_int_rmul_2 _ _) (int_rmul_tuple k t l its.toArray n dd sl)
          ⟨ho, rfl, ⟨_, ho, rfl⟩, call_meets F.slot_tuple_mul ⟨_, ho, rfl⟩ F.entry_tuple_mul (F.args_tuple_mul_2 _ _) (tuple_mul_none l its.toArray n dd sl k t c0 c1 c2) ⟨ho, ?_⟩⟩)
      have e0 : k.toNat = 0 := by omega
      have q := q2 hx _ (I.hok.fresh (Nat.le_refl _))
      rw [e0] at q
      exact ⟨.ref s.heap.objs.size, _, I.laid (t' := s.toks) (o := .tup []) (fun b ob q => Heap.get?_push_of_some _ q) (Nat.le_refl _) ⟨Nat.zero_le _, [], .nil, IsTup.new _ _⟩, rfl, q⟩
    · have c2 : (decide (k ≤ 0) || its.toArray.isEmpty) = false := by rw [hnil, he, decide_eq_false h0]; rfl
      have hm : ((its.toArray.size : Nat) : Int) * k ≤ (sizeLine : Nat) := by
        rw [List.size_toArray, hle]
        have hkk : ((k.toNat : Nat) : Int) = k := Int.toNat_of_nonneg (by omega)
        rw [← hkk]
        exact_mod_cast hz
      rw [sizeLine_eq] at hm
      have c4 : Builtin.Tuple.tupleTooMany (((its.toArray.size : Nat) : Int) * k) = false := by
        unfold Builtin.Tuple.tupleTooMany
        rw [sizeLine_eq]
        exact decide_eq_false (by omega)
      have fl2 : (List.replicate k.toNat its).flatten.length ≤ sizeLine := by
        rw [PyProof.Rows.lm_len_rep_flat, Nat.mul_comm, hle]; exact hz
      refine wpAny_binaryOp_repeat_ref (T := "tuple") (U := "int") (by decide) ⟨_, ho, rfl⟩ (fun s' => typeIs_int s' k t) noFill_tuple_mul F.fills_int_mul F.slot_int_rmul repeat_tuple F.slot_int_index.lookup
        (call_meets F.slot_int_rmul (typeIs_int s k t) F.entry_int_rmul (F.args_int_rmul_2 _ _) (int_rmul_tuple k t l its.toArray n dd sl)
          ⟨ho, rfl, ⟨_, ho, rfl⟩, call_meets F.slot_tuple_mul ⟨_, ho, rfl⟩ F.entry_tuple_mul (F.args_tuple_mul_2 _ _) (tuple_mulW l its.toArray n dd sl k t c0 c1 c2 (by omega) c4 (by rw [size_rep, List.size_toArray]; exact fl2)) ⟨ho, ?_⟩⟩)
      rw [size_rep]
      exact ⟨.ref s.heap.objs.size, _, I.laid (t' := s.toks) (o := .tup (List.replicate k.toNat xs).flatten) (fun b ob q => Heap.get?_push_of_some _ q) (Nat.le_refl _) ⟨fl, _, r.rep k.toNat, IsTup.new _ _⟩, rfl, q2 hx _ (I.hok.fresh (Nat.le_refl _))⟩
/-! the mirror -/
def okRep (n : Nat) (k : Int) : Bool := decide (k.natAbs < 2 ^ 62) && decide (n * k.toNat ≤ sizeLine)
def dRepL : D → D → Option D
  | .list ds, .int k => if okRep ds.length k then some (.list (List.replicate k.toNat ds).flatten) else none
  | _, _ => none
def dRepT : D → D → Option D
  | .tuple ds, .int k => if okRep ds.length k then some (.tuple (List.replicate k.toNat ds).flatten) else none
  | _, _ => none
theorem rep_length {α : Type} (l : List α) (k : Nat) : (List.replicate k l).flatten.length = k * l.length := PyProof.Rows.lm_len_rep_flat ..
theorem op2_repL : Op2 rRep dRepL := by
  intro x y dx dy d F H Q e s rx ry k
  unfold dRepL at e
  split at e
  · rename_i ds n
    split at e
    · rename_i ok
      cases e
      simp only [okRep, Bool.and_eq_true, decide_eq_true_eq] at ok
      cases ry
      cases rx with
      | @lst pa vs _ h1 h2 h3 =>
        have hl := h3.length
        refine ⟨_, n, vs, rfl, rfl, s _ _ h1, (by have := ok.1; omega), (by have := ok.1; omega), by rw [hl]; exact ok.2, fun p hp => ?_⟩
        have gr := Grow.alloc s hp (.lst (List.replicate n.toNat vs).flatten)
        exact k _ _ _ gr (.lst upd_same (by rw [rep_length, hl, Nat.mul_comm]; exact ok.2) (RpA.mono gr.ff _ _ (h3.rep _)))
    · cases e
  · cases e
theorem op2_repT {K : PySem.W.Frag} : Op2 (rRepA K) dRepT := by
  intro x y dx dy d F H Q e s rx ry k
  unfold dRepT at e
  split at e
  · rename_i ds n
    split at e
    · rename_i ok
      cases e
      simp only [okRep, Bool.and_eq_true, decide_eq_true_eq] at ok
      cases ry
      cases rx with
      | @tup pa vs _ h1 h2 h3 =>
        have hl := h3.length
        refine ⟨_, n, vs, rfl, rfl, .of (s _ _ h1), (by have := ok.1; omega), (by have := ok.1; omega), by rw [hl]; exact ok.2, fun hx => ?_, fun hx p hp => ?_⟩
        · have e : (List.replicate n.toNat ds).flatten = ds := by
            rcases hx with e | e
            · subst e; cases h3; simp
            · subst e; simp
          rw [e] at k
          exact k F H _ (.refl s) (.tup h1 h2 h3)
        · have gr := Grow.alloc s hp (.tup (List.replicate n.toNat vs).flatten)
          exact k _ _ _ gr (.tup upd_same (by rw [rep_length, hl, Nat.mul_comm]; exact ok.2) (RpA.mono gr.ff _ _ (h3.rep _)))
    · cases e
  · cases e
def okMul (i j : Int) : Bool := decide (i.natAbs.log2 + j.natAbs.log2 < 100000000)
def dMul : D → D → Option D := dOr (dI (fun i j => .int (i * j)) okMul) (dOr dRepL dRepT)
section
variable {X : Cx} {a b : Expr} {f g : M D} {pos p : Pos}
theorem de_mul (ha : DE X a f) (hb : DE X b g) : DE X (.BinOp a .Mult b pos) (mOp2 dMul f g) :=
  de_bin (op_mulX.or (op_rep.or op_repA)) ((op2_int (fun i j h => by
    unfold okMul at h
    have h := of_decide_eq_true h
    exact mulx_ok Nat.lt_log2_self Nat.lt_log2_self (by omega)) fun _ _ _ => .int _).or (op2_repL.or op2_repT)) ha hb
/-- a list repeated, as a new list -/
def mRepN (f g : M D) : M (List D) := mBind f fun x => mBind (mLift (lOf x)) fun ds => mBind g fun y => mLift ((iOf y).bind fun k => if okRep ds.length k = true then some (List.replicate k.toNat ds).flatten else none)
theorem dn_rep (ha : DE X a f) (hb : DE X b g) : DN X (.BinOp a .Mult b pos) (mRepN f g) := by
  refine pe_w (pe_op op_rep ha hb) ?_
  rintro σ H Q ⟨F, sa, η, τ, d, τ', w, e, k⟩
  obtain ⟨x, τ1, e1, ea⟩ := mBind_some e
  obtain ⟨ds, τ0, e0, eb⟩ := mBind_some ea
  obtain ⟨e9, rfl⟩ := mLift_some e0
  obtain rfl := lOf_some e9
  obtain ⟨y, τ2, e2, ec⟩ := mBind_some eb
  obtain ⟨e3, rfl⟩ := mLift_some ec
  obtain ⟨n, e4, e5⟩ := Option.bind_eq_some_iff.mp e3
  obtain rfl := iOf_some e4
  split at e5
  · rename_i ok
    cases e5
    simp only [okRep, Bool.and_eq_true, decide_eq_true_eq] at ok
    refine tE.go w e1 fun F1 H1 u x1 w1 r1 => tE.go w1 e2 fun F2 H2 v x2 w2 r2 => ?_
    cases r2
    have r1' := Rp.mono x2.ff _ _ r1
    cases r1' with
    | @lst pa vs _ h1 h2 h3 =>
      have hl := h3.length
      refine ⟨_, n, vs, rfl, rfl, w2.fh _ _ h1, (by have := ok.1; omega), (by have := ok.1; omega), by rw [hl]; exact ok.2, fun p hp => ?_⟩
      have gr := Grow.own w2.fh hp (.lst (List.replicate n.toNat vs).flatten)
      have xx := x1.trans x2
      have hp0 : H p = none := by
        cases z : H p with
        | none => rfl
        | some o => exact absurd hp (xx.nn p (nn_of z))
      exact k _ _ _ _ (xx.trans gr.ext) (w2.grow gr) hp0 (w2.fh.free hp) upd_same (by rw [rep_length, hl, Nat.mul_comm]; exact ok.2) (notSrc_new w2.src hp) (h3.rep _)
  · cases e5
/-- two lists, as a new list -/
def mCatN (f g : M D) : M (List D) := mBind f fun x => mBind (mLift (lOf x)) fun ds => mBind g fun y => mLift ((lOf y).bind fun es => okLen (ds ++ es))
theorem dn_cat (ha : DE X a f) (hb : DE X b g) : DN X (.BinOp a .Add b pos) (mCatN f g) := by
  refine pe_w (pe_op op_cat ha hb) ?_
  rintro σ H Q ⟨F, sa, η, τ, d, τ', w, e, k⟩
  obtain ⟨x, τ1, e1, ea⟩ := mBind_some e
  obtain ⟨ds, τ0, e0, eb⟩ := mBind_some ea
  obtain ⟨e9, rfl⟩ := mLift_some e0
  obtain rfl := lOf_some e9
  obtain ⟨y, τ2, e2, ec⟩ := mBind_some eb
  obtain ⟨e3, rfl⟩ := mLift_some ec
  obtain ⟨es, e4, e5⟩ := Option.bind_eq_some_iff.mp e3
  obtain rfl := lOf_some e4
  obtain ⟨rfl, hlen⟩ := okLen_some e5
  refine tE.go w e1 fun F1 H1 u x1 w1 r1 => tE.go w1 e2 fun F2 H2 v x2 w2 r2 => ?_
  have r1' := Rp.mono x2.ff _ _ r1
  cases r1' with
  | @lst pa vs _ h1 h2 h3 =>
    cases r2 with
    | @lst pb us _ g1 g2 g3 =>
      have hl := h3.length
      have hl2 := g3.length
      rw [List.length_append] at hlen
      refine ⟨_, _, vs, us, rfl, rfl, w2.fh _ _ h1, w2.fh _ _ g1, by omega, fun p hp => ?_⟩
      have gr := Grow.own w2.fh hp (.lst (vs ++ us))
      have xx := x1.trans x2
      have hp0 : H p = none := by
        cases z : H p with
        | none => rfl
        | some o => exact absurd hp (xx.nn p (nn_of z))
      exact k _ _ _ _ (xx.trans gr.ext) (w2.grow gr) hp0 (w2.fh.free hp) upd_same (by rw [List.length_append]; omega) (notSrc_new w2.src hp) (h3.append g3)
/-! ### tuple(range(..)), list(range(..)) -/
def tR (f : M (Int × Int)) : L2.St → Hp → (Int → Int → Hp → Prop) → Prop := fun σ H Q => ∃ F sa η τ d τ', View F sa σ H η τ ∧ f η τ = some (d, τ') ∧ ∀ F' H', Ext sa F H F' H' → View F' sa σ H' η τ' → Q d.1 d.2 H'
abbrev DR (X : Cx) (e : Expr) (f : M (Int × Int)) : Prop := PRg X e (tR f)
def mRg1 (f : M D) : M (Int × Int) := mBind f fun x => mLift ((iOf x).map fun n => (0, n))
def mRg2 (f g : M D) : M (Int × Int) := mBind f fun x => mBind g fun y => mLift ((iOf x).bind fun i => (iOf y).map fun j => (i, j))
theorem dr_1 (hg : Gl X "range") (hm : X.mg "range" = none) (ha : DE X a f) (na : starEach [a] X.env = (false, eval a X.env) :: starEach [] X.env := by rfl) : DR X (.Call (.Name "range" p) [a] [] pos) (mRg1 f) := by
  intro pins s σ H Q I h
  refine prg_1 hg hm ha na pins s σ H Q I ?_
  obtain ⟨F, sa, η, τ, d, τ', w, e, k⟩ := h
  obtain ⟨x, τ1, e1, ea⟩ := mBind_some e
  obtain ⟨e2, rfl⟩ := mLift_some ea
  obtain ⟨n, e3, rfl⟩ := Option.map_eq_some_iff.mp e2
  obtain rfl := iOf_some e3
  refine tE.go w e1 fun F1 H1 u x1 w1 r1 => ?_
  cases r1
  exact ⟨n, rfl, k F1 H1 x1 w1⟩
theorem dr_2 (hg : Gl X "range") (hm : X.mg "range" = none) (ha : DE X a f) (hb : DE X b g) (na : starEach [a, b] X.env = (false, eval a X.env) :: starEach [b] X.env := by rfl)
    (nb : starEach [b] X.env = (false, eval b X.env) :: starEach [] X.env := by rfl) (hp : (backTo pos (starEach [b] X.env)).any (·.1) = false := by rfl) : DR X (.Call (.Name "range" p) [a, b] [] pos) (mRg2 f g) := by
  intro pins s σ H Q I h
  refine prg_2 hg hm ha hb na nb hp pins s σ H Q I ?_
  obtain ⟨F, sa, η, τ, d, τ', w, e, k⟩ := h
  obtain ⟨x, τ1, e1, ea⟩ := mBind_some e
  obtain ⟨y, τ2, e2, eb⟩ := mBind_some ea
  obtain ⟨ec, rfl⟩ := mLift_some eb
  obtain ⟨i, e3, ed⟩ := Option.bind_eq_some_iff.mp ec
  obtain ⟨j, e4, rfl⟩ := Option.map_eq_some_iff.mp ed
  obtain rfl := iOf_some e3
  obtain rfl := iOf_some e4
  refine tE.go w e1 fun F1 H1 u x1 w1 r1 => tE.go w1 e2 fun F2 H2 v x2 w2 r2 => ?_
  cases r1
  cases r2
  exact ⟨i, j, rfl, rfl, k F2 H2 (x1.trans x2) w2⟩
noncomputable def mTupRg (r : M (Int × Int)) : M D := mBind r fun x => mLift ((rangeD x.1 x.2).map .tuple)
noncomputable def mLstRg (r : M (Int × Int)) : M (List D) := mBind r fun x => mLift (rangeD x.1 x.2)
theorem rangeD_some {lo hi : Int} {ds : List D} (h : rangeD lo hi = some ds) : RgOk lo hi ∧ ds = (List.range (hi - lo).toNat).map fun i => .int (lo + (i : Nat)) := by
  unfold rangeD at h
  split at h
  · rename_i hr
    cases h
    exact ⟨⟨hr.1, hr.2.1, hr.2.2.1, hr.2.2.2.1, hr.2.2.2.2⟩, rfl⟩
  · cases h
theorem rgV_rp {F : Hp} {lo hi : Int} : RpA F (rgV lo hi) ((List.range (hi - lo).toNat).map fun i => PyData.int (lo + (i : Nat))) := by
  unfold rgV
  induction (List.range (hi - lo).toNat) with
  | nil => exact .nil
  | cons i is ih => exact .cons (.int _) ih
theorem rgV_len {lo hi : Int} (h : RgOk lo hi) : (rgV lo hi).length ≤ sizeLine := by
  rw [rgV_length, line24]
  exact h.2.2.2.2
theorem de_tupRg {e : Expr} {r : M (Int × Int)} (hc : X.calm = true) (hg : Gl X "tuple") (hm : X.mg "tuple" = none) (he : DR X e r) (na : starEach [e] X.env = (false, eval e X.env) :: starEach [] X.env := by rfl) : DE X (.Call (.Name "tuple" p) [e] [] pos) (mTupRg r) := by
  refine pe_w (pe_tupRg hc hg hm he na) ?_
  rintro σ H Q ⟨F, sa, η, τ, d, τ', w, e, k⟩
  obtain ⟨x, τ1, e1, ea⟩ := mBind_some e
  obtain ⟨e2, rfl⟩ := mLift_some ea
  obtain ⟨ds, e3, rfl⟩ := Option.map_eq_some_iff.mp e2
  obtain ⟨ok, rfl⟩ := rangeD_some e3
  refine ⟨F, sa, η, τ, x, _, w, e1, fun F1 H1 x1 w1 => ⟨ok, fun q hq => ?_⟩⟩
  have gr := Grow.alloc w1.fh hq (.tup (rgV x.1 x.2))
  exact k _ _ _ (x1.trans gr.ext) (w1.grow gr) (.tup upd_same (rgV_len ok) rgV_rp)
theorem dn_lstRg {e : Expr} {r : M (Int × Int)} (hc : X.calm = true) (hg : Gl X "list") (hm : X.mg "list" = none) (he : DR X e r) (na : starEach [e] X.env = (false, eval e X.env) :: starEach [] X.env := by rfl) : DN X (.Call (.Name "list" p) [e] [] pos) (mLstRg r) := by
  refine pe_w (pe_listRg hc hg hm he na) ?_
  rintro σ H Q ⟨F, sa, η, τ, d, τ', w, e, k⟩
  obtain ⟨x, τ1, e1, ea⟩ := mBind_some e
  obtain ⟨e2, rfl⟩ := mLift_some ea
  obtain ⟨ok, rfl⟩ := rangeD_some e2
  refine ⟨F, sa, η, τ, x, _, w, e1, fun F1 H1 x1 w1 => ⟨ok, fun q hq => ?_⟩⟩
  have gr := Grow.own w1.fh hq (.lst (rgV x.1 x.2))
  have hp0 : H q = none := by
    cases z : H q with
    | none => rfl
    | some o => exact absurd hq (x1.nn q (nn_of z))
  exact k _ _ _ _ (x1.trans gr.ext) (w1.grow gr) hp0 (w1.fh.free hq) upd_same (rgV_len ok) (notSrc_new w1.src hq) rgV_rp
end
end DL

/-! DLk: the order of data (ints, tuples of them, at any depth); min of a list of such. -/
namespace DL
open PySem PySem.Spec PyProof.Rows L2

/-! ### the order -/
mutual
/-- x < y, where it is told -/
def ltD : D → D → Option Bool
  | .int i, .int j => some (decide (i < j))
  | .tuple xs, .tuple ys => ltA xs ys
  | _, _ => none
/-- by the first pair that differs; each pair must be equal or told -/
def ltA : List D → List D → Option Bool
  | [], [] => some false
  | [], _ :: _ => some true
  | _ :: _, [] => some false
  | x :: xs, y :: ys => match ltA xs ys with
    | none => none
    | some r => if PyData.eqv x y = true then some r else ltD x y
end
theorem rc_of {op : CmpOp} {A : Around} {s : Shared} {x y : Value} {b : Bool} (h : Ob.RcOp op A s x y b) {c : Bool} (e : b = c) : Ob.RcOp op A s x y c := e ▸ h
/-- how the mirror of the pairs comes to the library's -/
theorem lexAt_ltA {xs ys : List D} {r : Bool} (h : ltA xs ys = some r) : ∀ (n i : Nat), n = min xs.length ys.length - i → i ≤ min xs.length ys.length → ltA (xs.drop i) (ys.drop i) = some (Ob.lexAt (fun j => PyData.eqv (xs.getD j .none) (ys.getD j .none)) (fun j => (ltD (xs.getD j .none) (ys.getD j .none)).getD false) (decide (xs.length < ys.length)) i n) := by
  have all : ∀ (m : Nat) (us vs : List D) (q : Bool), ltA us vs = some q → m ≤ min us.length vs.length → ∃ q', ltA (us.drop m) (vs.drop m) = some q' := by
    intro m
    induction m with
    | zero => intro us vs q h _; exact ⟨q, h⟩
    | succ m ih =>
      intro us vs q h hm
      cases us with
      | nil => simp at hm
      | cons u us =>
        cases vs with
        | nil => simp at hm
        | cons v vs =>
          unfold ltA at h
          split at h
          · cases h
          · rename_i q2 e2
            exact ih us vs q2 e2 (by simp only [List.length_cons] at hm; omega)
  intro n
  induction n with
  | zero =>
    intro i hn hi
    have hi' : i = min xs.length ys.length := by omega
    subst hi'
    rw [Ob.lexAt_zero]
    rcases Nat.lt_or_ge xs.length ys.length with hl | hl
    · have e1 : min xs.length ys.length = xs.length := by omega
      rw [e1, List.drop_eq_nil_of_le (Nat.le_refl _), decide_eq_true hl]
      have : ys.drop xs.length ≠ [] := fun z => by
        have := congrArg List.length z
        rw [List.length_drop] at this
        simp at this
        omega
      cases hy : ys.drop xs.length with
      | nil => exact absurd hy this
      | cons _ _ => rfl
    · have e1 : min xs.length ys.length = ys.length := by omega
      rw [e1, List.drop_eq_nil_of_le (Nat.le_refl ys.length), decide_eq_false (by omega)]
      cases hx : xs.drop ys.length <;> rfl
  | succ n ih =>
    intro i hn hi
    have h1 : i < xs.length := by omega
    have h2 : i < ys.length := by omega
    have step := ih (i + 1) (by omega) (by omega)
    rw [Ob.lexAt_succ]
    rw [List.drop_eq_getElem_cons h1, List.drop_eq_getElem_cons h2]
    have g1 : xs.getD i .none = xs[i] := by rw [List.getD_eq_getElem?_getD, List.getElem?_eq_getElem h1]; rfl
    have g2 : ys.getD i .none = ys[i] := by rw [List.getD_eq_getElem?_getD, List.getElem?_eq_getElem h2]; rfl
    obtain ⟨q', hq⟩ := all i xs ys r h hi
    rw [List.drop_eq_getElem_cons h1, List.drop_eq_getElem_cons h2] at hq
    unfold ltA at hq ⊢
    rw [step] at hq ⊢
    simp only [g1, g2] at hq ⊢
    by_cases he : PyData.eqv xs[i] ys[i] = true
    · simp only [he, if_true]
    · simp only [he, if_false, Bool.false_eq_true] at hq ⊢
      rw [hq]; rfl
theorem lay_get {xs : List D} (h : PyData.canLayAll0 xs = true) : ∀ (j : Nat) (d : D), xs[j]? = some d → d.canLay0 = true := by
  induction xs with
  | nil => intro j d e; simp at e
  | cons x xs ih =>
    have h' : x.canLay0 = true ∧ PyData.canLayAll0 xs = true := by simpa [PyData.canLayAll0] using h
    intro j d e
    cases j with
    | zero => simp at e; subst e; exact h'.1
    | succ j => exact ih h'.2 j d (by simpa using e)
theorem readsAll_get {h : Heap} : ∀ {vs : List Value} {ds : List D} {as : List Addr}, ReadsAll h vs ds as → ∀ (j : Nat) (d : D), ds[j]? = some d → ∃ v bs, vs[j]? = some v ∧ Reads h v d bs
  | _, _, _, .nil, j, d, e => by simp at e
  | _, _, _, .cons r t, 0, d, e => by simp at e; subst e; exact ⟨_, _, rfl, r⟩
  | _, _, _, .cons r t, j + 1, d, e => by
    obtain ⟨v, bs, h1, h2⟩ := readsAll_get t j d (by simpa using e)
    exact ⟨v, bs, by simpa using h1, h2⟩
theorem ltA_get : ∀ (xs ys : List D) (r : Bool), ltA xs ys = some r → ∀ (j : Nat) (x y : D), xs[j]? = some x → ys[j]? = some y → PyData.eqv x y = false → ∃ q, ltD x y = some q
  | [], _, _, _, j, x, y, h, _, _ => by simp at h
  | _ :: _, [], _, _, j, x, y, _, h, _ => by simp at h
  | a :: xs, b :: ys, r, e, j, x, y, h1, h2, hne => by
    unfold ltA at e
    split at e
    · cases e
    · rename_i r2 e2
      cases j with
      | zero =>
        simp at h1 h2
        subst h1 h2
        rw [hne] at e
        exact ⟨r, by simpa using e⟩
      | succ j => exact ltA_get xs ys r2 e2 j x y (by simpa using h1) (by simpa using h2) hne
mutual
theorem rc_ltD : ∀ (dx dy : D) (A : Around) (s : Shared) (x y : Value) (as bs : List Addr) (r : Bool), Reads s.heap x dx as → Reads s.heap y dy bs → dx.canLay0 = true → dy.canLay0 = true → A.units + dx.depth + 1 < cLine → ltD dx dy = some r → Ob.RcOp .Lt A s x y r
  | .int i, .int j, A, s, _, _, _, _, r, .int _ t, .int _ u, _, _, _, e => by
    simp only [ltD, Option.some.injEq] at e
    subst e
    exact Ob.RcOp.lt_int i j t u
  | .tuple xs, .tuple ys, A, s, _, _, _, _, r, .tuple h1 h2 h3 h4, .tuple k1 k2 k3 k4, c1, c2, hu, e => by
    rename_i a oa va na b ob vb nb
    simp only [ltD] at e
    simp only [PyData.depth] at hu
    have c1' : PyData.canLayAll0 xs = true := by simpa [PyData.canLay0] using c1
    have c2' : PyData.canLayAll0 ys = true := by simpa [PyData.canLay0] using c2
    have l1 : va.toList.length = xs.length := SeqAt.ReadsAll.length xs va.toList _ h4
    have l2 : vb.toList.length = ys.length := SeqAt.ReadsAll.length ys vb.toList _ k4
    have s1 : va.size = xs.length := by rw [← Array.length_toList]; exact l1
    have s2 : vb.size = ys.length := by rw [← Array.length_toList]; exact l2
    have ll := lexAt_ltA e (min xs.length ys.length) 0 (by omega) (Nat.zero_le _)
    rw [List.drop_zero, List.drop_zero, e] at ll
    have R := Ob.RcOp.tuples_lt (A := A) (s := s) (e := fun j => PyData.eqv (xs.getD j .none) (ys.getD j .none)) (r := fun j => (ltD (xs.getD j .none) (ys.getD j .none)).getD false)
      (show s.heap.IsTuple a va from ⟨oa, h1, h2, na, h3⟩) (show s.heap.IsTuple b vb from ⟨ob, k1, k2, nb, k3⟩) (by omega) (fun j j1 j2 => ?_) (fun j j1 j2 hne => ?_)
    · rw [s1, s2] at R
      exact rc_of R (Option.some.inj ll).symm
    · have q1 : xs[j]? = some (xs.getD j .none) := by rw [List.getD_eq_getElem?_getD, List.getElem?_eq_getElem (by omega : j < xs.length)]; rfl
      have q2 : ys[j]? = some (ys.getD j .none) := by rw [List.getD_eq_getElem?_getD, List.getElem?_eq_getElem (by omega : j < ys.length)]; rfl
      obtain ⟨v, as', g1, r1⟩ := readsAll_get h4 j _ q1
      obtain ⟨u, bs', g2, r2⟩ := readsAll_get k4 j _ q2
      have ev : va[j] = v := by
        rw [List.getElem?_eq_getElem (by omega : j < va.toList.length)] at g1
        simpa using Option.some.inj g1
      have eu : vb[j] = u := by
        rw [List.getElem?_eq_getElem (by omega : j < vb.toList.length)] at g2
        simpa using Option.some.inj g2
      rw [ev, eu]
      have hdep : (xs.getD j .none).depth ≤ PyData.depthAll xs := depth_get xs j _ q1
      exact SeqAt.eqAt_reads _ _ A.in1 s v u as' bs' r1 r2 (lay_get c1' j _ q1) (lay_get c2' j _ q2) (by show A.units + 1 + _ < _; omega)
    · have q1 : xs[j]? = some (xs.getD j .none) := by rw [List.getD_eq_getElem?_getD, List.getElem?_eq_getElem (by omega : j < xs.length)]; rfl
      have q2 : ys[j]? = some (ys.getD j .none) := by rw [List.getD_eq_getElem?_getD, List.getElem?_eq_getElem (by omega : j < ys.length)]; rfl
      obtain ⟨q, hq⟩ := ltA_get xs ys r e j _ _ q1 q2 hne
      have := rc_ltA xs ys A.in1 s va.toList vb.toList _ _ h4 k4 c1' c2' (by show A.units + 1 + _ + 1 < _; omega) j q (by omega) (by omega) _ _ q1 q2 hq
      refine rc_of (by simpa using this) ?_
      rw [hq]; rfl
  | .none, _, _, _, _, _, _, _, _, _, _, _, _, _, e => by simp [ltD] at e
  | .bool _, _, _, _, _, _, _, _, _, _, _, _, _, _, e => by simp [ltD] at e
  | .str _, _, _, _, _, _, _, _, _, _, _, _, _, _, e => by simp [ltD] at e
  | .list _, _, _, _, _, _, _, _, _, _, _, _, _, _, e => by simp [ltD] at e
  | .dict _, _, _, _, _, _, _, _, _, _, _, _, _, _, e => by simp [ltD] at e
  | .int _, .none, _, _, _, _, _, _, _, _, _, _, _, _, e => by simp [ltD] at e
  | .int _, .bool _, _, _, _, _, _, _, _, _, _, _, _, _, e => by simp [ltD] at e
  | .int _, .str _, _, _, _, _, _, _, _, _, _, _, _, _, e => by simp [ltD] at e
  | .int _, .list _, _, _, _, _, _, _, _, _, _, _, _, _, e => by simp [ltD] at e
  | .int _, .tuple _, _, _, _, _, _, _, _, _, _, _, _, _, e => by simp [ltD] at e
  | .int _, .dict _, _, _, _, _, _, _, _, _, _, _, _, _, e => by simp [ltD] at e
  | .tuple _, .none, _, _, _, _, _, _, _, _, _, _, _, _, e => by simp [ltD] at e
  | .tuple _, .bool _, _, _, _, _, _, _, _, _, _, _, _, _, e => by simp [ltD] at e
  | .tuple _, .str _, _, _, _, _, _, _, _, _, _, _, _, _, e => by simp [ltD] at e
  | .tuple _, .list _, _, _, _, _, _, _, _, _, _, _, _, _, e => by simp [ltD] at e
  | .tuple _, .int _, _, _, _, _, _, _, _, _, _, _, _, _, e => by simp [ltD] at e
  | .tuple _, .dict _, _, _, _, _, _, _, _, _, _, _, _, _, e => by simp [ltD] at e
theorem rc_ltA : ∀ (xs ys : List D) (A : Around) (s : Shared) (vs us : List Value) (as bs : List Addr), ReadsAll s.heap vs xs as → ReadsAll s.heap us ys bs → PyData.canLayAll0 xs = true → PyData.canLayAll0 ys = true → A.units + PyData.depthAll xs + 1 < cLine →
    ∀ (j : Nat) (r : Bool) (h1 : j < vs.length) (h2 : j < us.length) (x y : D), xs[j]? = some x → ys[j]? = some y → ltD x y = some r → Ob.RcOp .Lt A s vs[j] us[j] r
  | [], _, _, _, _, _, _, _, _, _, _, _, _, j, r, _, _, x, y, e, _, _ => by simp at e
  | _ :: _, [], _, _, _, _, _, _, _, _, _, _, _, j, r, _, _, x, y, _, e, _ => by simp at e
  | a :: xs, b :: ys, A, s, _, _, _, _, .cons r1 t1, .cons r2 t2, c1, c2, hu, j, r, h1, h2, x, y, e1, e2, e => by
    have c1' : a.canLay0 = true ∧ PyData.canLayAll0 xs = true := by simpa [PyData.canLayAll0] using c1
    have c2' : b.canLay0 = true ∧ PyData.canLayAll0 ys = true := by simpa [PyData.canLayAll0] using c2
    simp only [PyData.depthAll] at hu
    cases j with
    | zero =>
      simp at e1 e2
      subst e1 e2
      exact rc_ltD a b A s _ _ _ _ r r1 r2 c1'.1 c2'.1 (by omega) e
    | succ j => exact rc_ltA xs ys A s _ _ _ _ t1 t2 c1'.2 c2'.2 (by omega) j r (Nat.lt_of_succ_lt_succ h1) (Nat.lt_of_succ_lt_succ h2) x y (by simpa using e1) (by simpa using e2) e
theorem depth_get : ∀ (xs : List D) (j : Nat) (d : D), xs[j]? = some d → d.depth ≤ PyData.depthAll xs
  | [], j, d, e => by simp at e
  | x :: xs, 0, d, e => by simp at e; subst e; simp only [PyData.depthAll]; omega
  | x :: xs, j + 1, d, e => by
    have := depth_get xs j d (by simpa using e)
    simp only [PyData.depthAll]
    omega
end
end DL

/-! DLl: x < y of data; min of a list of data. -/
namespace DL
open PySem PySem.Spec PyProof.Rows L2

def okLt (x y : D) : Bool := SeqAt.shaped x && SeqAt.shaped y
/-- x < y: ints, tuples of ints and of tuples -/
def dLtD (x y : D) : Option D := if okLt x y = true then (ltD x y).map .bool else none
def rLtD (K : PySem.W.Frag) : R2 := fun x y H Q => ∃ d e b, Dp K H x d ∧ Dp K H y e ∧ SeqAt.shaped d = true ∧ SeqAt.shaped e = true ∧ ltD d e = some b ∧ Q (.bl b) H
theorem depth_shaped {d : D} (h : SeqAt.shaped d = true) : d.depth ≤ 64 := by
  unfold SeqAt.shaped at h
  rw [Bool.and_eq_true] at h
  exact of_decide_eq_true h.2
theorem op_ltD {X : Cx} (hu : X.A.units + 66 < cLine) : OpR X (compareOp .Lt) (rLtD X.K) := by
  intro pins s σ H x y v u Q I rx ry h
  obtain ⟨d, e, b, hd, he, sd, se, hl, q⟩ := h
  obtain ⟨as, r1⟩ := Dp.reads I d x v hd rx
  obtain ⟨bs, r2⟩ := Dp.reads I e y u he ry
  have hdep := depth_shaped sd
  have R := rc_ltD d e X.A s v u as bs b r1 r2 (SeqAt.canLay_of_shaped sd) (SeqAt.canLay_of_shaped se) (by omega) hl
  have z : wpAny (model X.prog X.w) X.A (compareOp .Lt v u) (EP X pins σ Q) X.xe s := R X.prog X.w X.xe (EP X pins σ Q) ⟨.bl _, H, I, rfl, q⟩
  exact z
theorem op2_ltD {K : PySem.W.Frag} : Op2 (rLtD K) dLtD := by
  intro x y dx dy d F H Q e s rx ry k
  unfold dLtD at e
  split at e
  · rename_i h
    unfold okLt at h
    rw [Bool.and_eq_true] at h
    obtain ⟨b, hb, rfl⟩ := Option.map_eq_some_iff.mp e
    exact ⟨dx, dy, b, Rp.dp _ _ (lay_of h.1) (Rp.mono s _ _ rx), Rp.dp _ _ (lay_of h.2) (Rp.mono s _ _ ry), h.1, h.2, hb, k F H _ (.refl s) (.bl _)⟩
  · cases e
section
variable {X : Cx} {a b : Expr} {f g : M D} {pos : Pos}
theorem de_ltD (hu : X.A.units + 66 < cLine) (ha : DE X a f) (hb : DE X b g) : DE X (.Compare a [.Lt] [b] pos) (mOp2 dLtD f g) := de_cmp (op_ltD hu) op2_ltD ha hb (nomark _)
theorem dt_ltD (hu : X.A.units + 66 < cLine) (ha : DE X a f) (hb : DE X b g) : DT X (.Compare a [.Lt] [b] pos) (mBool (mOp2 dLtD f g)) := dt_cmp (op_ltD hu) op2_ltD ha hb (nomark _)
end

/-! ### min's loop, the items compared where a base stands -/
/-- comparing the i-th with the j-th gives bt, wherever what stood in g outside ws stands -/
def CmpIn (prog : Program) (w : World) (A : Around) (op : CmpOp) (g : Heap) (ws : List Addr) (P : Nat → Value → Prop) (bt : Nat → Nat → Bool) : Prop :=
  ∀ (i j : Nat) (vi vj : Value) (s : Shared) (Q : Value → Shared → Prop) (E : Value → Shared → Prop), P i vi → P j vj → (∀ b o, b ∉ ws → g.get? b = some o → s.heap.get? b = some o) → Q (.bool (bt i j)) s → wpAny (model prog w) A (richCompare op vi vj) Q E s
section
variable {prog : Program} {w : World} {A : Around} {R : Result → Shared → Prop} {I S : Addr} {fp wr : List Addr} {n : Nat} {P : Nat → Value → Prop} {St : Nat → Heap → Prop} {g : Heap}
theorem minloop_name : (toString "min" ++ toString ".loop" : String) = "min.loop" := by decide
theorem min_loopIn (W : Walks prog w A.in1 I fp wr n P St) (bt : Nat → Nat → Bool) (cmp : CmpIn prog w A.in1 .Lt g (S :: wr) P bt) (nS : S ∉ fp) :
    ∀ (k j : Nat) (s : Shared) (vb : Value) (c : Nat), n - (j + 1) = k → j + 1 ≤ n → St (j + 1) s.heap → P (argBest bt j) vb → (∀ b o, b ∉ S :: wr → g.get? b = some o → s.heap.get? b = some o) →
    s.heap.get? S = some { cls := .type "list", dict := none, data := .seq #[vb, vb] c, slots := #[] } →
    (∀ v h' tk, P (argBest bt (n - 1)) v → (∀ b o, b ∉ S :: wr → s.heap.get? b = some o → h'.get? b = some o) → R (.ok (.ret v)) { s with heap := h', toks := tk }) →
    codeAny (model prog w) A (.builtin "min.loop" ⟨[.ref I, .none, .ref S], []⟩) R s := by
  have nw : S ∉ wr := fun z => nS (W.sub S z)
  have apart : ∀ {b : Addr}, b ∉ S :: wr → b ≠ S ∧ b ∉ wr := fun h => ⟨fun e => h (e ▸ List.mem_cons_self), fun e => h (List.mem_cons_of_mem _ e)⟩
  intro k
  induction k with
  | zero =>
    intro j s vb c hk hj hst hPb hg hS hR
    have hn : j + 1 = n := by omega
    refine codeAny_builtin F.entry_min_loop (by rw [Around.under_plainId F.plain_min_loop _]; show wpAny _ A.in1 (seqItems? (.ref S) >>= _) _ _ s; exact wpAny_bind (wpAny_seqItems hS rfl (by
      show wpAny _ A.in1 (tryCatch (pyNext (.ref I)) _ >>= _) _ _ s
      exact wpAny_bind (wpAny_tryCatch (W.done s _ _ (hn ▸ hst) fun h' tk hk' => (by
        show wpAny _ A.in1 (updateSeq S (fun _ => #[]) >>= _) _ _ _
        exact wpAny_bind (wpAny_updateSeq (hk' S _ nw hS) rfl (wpAny_bind (wpAny_letGo (wpAny_pure (hR vb _ tk (by rw [← hn]; exact hPb) fun b o hb e => (Heap.get?_update_other _ _ (Ne.symm (apart hb).1)).trans (hk' b o (apart hb).2 e))))))))))))
  | succ k ih =>
    intro j s vb c hk hj hst hPb hg hS hR
    have hlt : j + 1 < n := by omega
    refine codeAny_builtin F.entry_min_loop ?_; rw [Around.under_plainId F.plain_min_loop _]; show wpAny _ A.in1 (seqItems? (.ref S) >>= _) _ _ s; refine wpAny_bind (wpAny_seqItems (s := s) hS rfl ?_)
    show wpAny _ A.in1 (tryCatch (pyNext (.ref I)) _ >>= _) _ _ s
    refine wpAny_bind (wpAny_tryCatch (W.item (j + 1) s _ _ hlt hst fun v h' tk hP st' kp => ?_))
    have hS2 := kp S _ nw hS
    have hg2 : ∀ b o, b ∉ S :: wr → g.get? b = some o → h'.get? b = some o := fun b o hb e => kp b o (apart hb).2 (hg b o hb e)
    show wpAny _ A.in1 (tryCatch (holding [v, v] (richCompare .Lt v vb >>= _)) _ >>= _) _ _ _
    refine wpAny_bind (wpAny_tryCatch (wpAny_holding (wpAny_bind (cmp (j + 1) (argBest bt j) v vb { s with heap := h', toks := tk } _ _ hP hPb hg2 (wpAny_bind (wpAny_holding (wpAny_truthy_bool (wpAny_bind (wpAny_letGo (wpAny_pure ?_))))))))))
    cases hb : bt (j + 1) (argBest bt j) with
    | true =>
      simp only [if_true]
      refine wpAny_bind (wpAny_updateSeq hS2 rfl (wpAny_bind (wpAny_letGo ?_)))
      rw [minloop_name]
      refine wpAny_pure ⟨plainId_quiet F.plain_min_loop _, ih (j + 1) _ v _ (by omega) hlt (W.frame _ _ _ st' fun b hbf o e => (Heap.get?_update_other _ _ (fun z : S = b => nS (z ▸ hbf))).trans e) (by simp only [argBest, hb, if_true]; exact hP) (fun b o hb e => (Heap.get?_update_other _ _ (Ne.symm (apart hb).1)).trans (hg2 b o hb e)) (Heap.get?_update_self _ hS2 rfl) fun v' h2 tk2 hP' kp2 => ?_⟩
      exact hR v' h2 tk2 hP' fun b o hb e => kp2 b o hb ((Heap.get?_update_other _ _ (Ne.symm (apart hb).1)).trans (kp b o (apart hb).2 e))
    | false =>
      simp only [Bool.false_eq_true, if_false]
      refine wpAny_bind (wpAny_letGo ?_)
      rw [minloop_name]
      refine wpAny_pure ⟨plainId_quiet F.plain_min_loop _, ih (j + 1) _ vb c (by omega) hlt st' (by simp only [argBest, hb, Bool.false_eq_true, if_false]; exact hPb) hg2 hS2 fun v' h2 tk2 hP' kp2 => ?_⟩
      exact hR v' h2 tk2 hP' fun b o hb e => kp2 b o hb (kp b o (apart hb).2 e)
theorem min_firstIn (W : Walks prog w A.in1 I fp wr n P St) (bt : Nat → Nat → Bool) (cmp : CmpIn prog w A.in1 .Lt g (S :: wr) P bt) (nS : S ∉ fp) (hn : 0 < n) {s : Shared} {c : Nat} (hst : St 0 s.heap)
    (hg : ∀ b o, b ∉ S :: wr → g.get? b = some o → s.heap.get? b = some o)
    (hS : s.heap.get? S = some { cls := .type "list", dict := none, data := .seq #[] c, slots := #[] })
    (hR : ∀ v h' tk, P (argBest bt (n - 1)) v → (∀ b o, b ∉ S :: wr → s.heap.get? b = some o → h'.get? b = some o) → R (.ok (.ret v)) { s with heap := h', toks := tk }) :
    codeAny (model prog w) A (.builtin "min.loop" ⟨[.ref I, .none, .ref S], []⟩) R s := by
  have nw : S ∉ wr := fun z => nS (W.sub S z)
  have apart : ∀ {b : Addr}, b ∉ S :: wr → b ≠ S ∧ b ∉ wr := fun h => ⟨fun e => h (e ▸ List.mem_cons_self), fun e => h (List.mem_cons_of_mem _ e)⟩
  refine codeAny_builtin F.entry_min_loop ?_; rw [Around.under_plainId F.plain_min_loop _]; show wpAny _ A.in1 (seqItems? (.ref S) >>= _) _ _ s; refine wpAny_bind (wpAny_seqItems (s := s) hS rfl ?_)
  show wpAny _ A.in1 (tryCatch (pyNext (.ref I)) _ >>= _) _ _ s
  refine wpAny_bind (wpAny_tryCatch (W.item 0 s _ _ hn hst fun v h' tk hP st' kp => ?_))
  have hS2 := kp S _ nw hS
  show wpAny _ A.in1 (updateSeq S (fun _ => #[v, v]) >>= _) _ _ _
  refine wpAny_bind (wpAny_updateSeq hS2 rfl ?_)
  rw [minloop_name]
  refine wpAny_pure ⟨plainId_quiet F.plain_min_loop _, min_loopIn W bt cmp nS _ 0 _ v _ rfl hn (W.frame _ _ _ st' fun b hbf o e => (Heap.get?_update_other _ _ (fun z : S = b => nS (z ▸ hbf))).trans e) hP (fun b o hb e => (Heap.get?_update_other _ _ (Ne.symm (apart hb).1)).trans (kp b o (apart hb).2 (hg b o hb e))) (Heap.get?_update_self _ hS2 rfl) fun v' h2 tk2 hP' kp2 => ?_⟩
  exact hR v' h2 tk2 hP' fun b o hb e => kp2 b o hb ((Heap.get?_update_other _ _ (Ne.symm (apart hb).1)).trans (kp b o (apart hb).2 e))
end
/-- min of a list -/
theorem call_minIn {prog : Program} {w : World} {A : Around} {E : Value → Shared → Prop} {s : Shared} {l : Addr} {its : Array Value} {bt : Nat → Nat → Bool} {Q : Value → Shared → Prop} (hh : A.handled = none) (hl : s.heap.IsList l its) (hn : 0 < its.size)
    (cmp : ∀ ws : List Addr, (∀ b ∈ ws, s.heap.objs.size ≤ b) → CmpIn prog w A.in1 .Lt s.heap ws (fun i v => its[i]? = some v) bt)
    (hQ : ∀ v h' tk, its[argBest bt (its.size - 1)]? = some v → (∀ b o, s.heap.get? b = some o → h'.get? b = some o) → Q v { s with heap := h', toks := tk }) :
    wpAny (model prog w) A (call (.builtin "min") [.ref l]) Q E s := by
  refine call_function_tree F.kind_min F.plain_min F.entry_min (F.args_min1 _) ?_
  show wpAny _ A.in1 (Builtin.Builtins.bindParams "min" ["key", "default"] 0 ⟨[], []⟩ >>= _) _ _ s
  refine wpAny_bind (wpAny_of_eq (show Builtin.Builtins.bindParams "min" ["key", "default"] 0 ⟨[], []⟩ = pure [none, none] from rfl) (wpAny_bind (wpAny_pure (wpAny_bind ?_))))
  refine iter_any hl fun s2 e2 st hne => ?_
  subst e2
  refine wpAny_bind (wpAny_newObj_type ?_)
  have hlt : l < s.heap.objs.size := by obtain ⟨_, e, _⟩ := hl; exact Heap.lt_size e
  generalize hI : s.heap.objs.size = I0 at *
  have hSsz : (s.heap.push { cls := .type "list_iterator", data := .fields #[.ref l, .int 0 0] }).objs.size = I0 + 1 := by rw [Heap.size_push, hI]
  have W := Walks.list (prog := prog) (w := w) (A := A.in1) hh I0 l hne its
  rw [minloop_name]
  have kp0 : ∀ b o, s.heap.get? b = some o → ((s.heap.push { cls := .type "list_iterator", data := .fields #[.ref l, .int 0 0] }).push { cls := .type "list", data := .seq #[] }).get? b = some o := fun b o e => Heap.get?_push_of_some _ (Heap.get?_push_of_some _ e)
  refine wpAny_pure ⟨plainId_quiet F.plain_min_loop _, min_firstIn (g := s.heap) W bt (cmp _ fun b hb => ?_) (show _ ∉ [I0, l] from ?_) hn (W.frame 0 _ _ st fun b _ o e => Heap.get?_push_of_some _ e) (fun b o _ e => kp0 b o e) (Heap.get?_push_size _ rfl) fun v h' tk hP kp => ?_⟩
  · rcases List.mem_cons.mp hb with z | z
    · rw [z]; show I0 ≤ (s.heap.push { cls := .type "list_iterator", data := .fields #[.ref l, .int 0 0] }).objs.size; rw [hSsz]; exact Nat.le_succ _
    · rw [List.mem_singleton.mp z]; exact Nat.le_refl _
  · show (s.heap.push { cls := .type "list_iterator", data := .fields #[.ref l, .int 0 0] }).objs.size ∉ [I0, l]
    rw [hSsz]
    intro z
    rcases List.mem_cons.mp z with z | z
    · exact absurd z (Nat.succ_ne_self _)
    · have z2 : (I0 + 1 : Nat) = l := List.mem_singleton.mp z
      rw [← z2] at hlt; exact absurd hlt (Nat.not_lt_of_le (Nat.le_succ I0))
  · refine hQ v h' tk hP fun b o e => kp b o (fun z => ?_) (kp0 b o e)
    have hb : b < I0 := by rw [← hI]; exact Heap.lt_size e
    rcases List.mem_cons.mp z with z | z
    · have z2 : b = (s.heap.push { cls := .type "list_iterator", data := .fields #[.ref l, .int 0 0] }).objs.size := z
      rw [z2, hSsz] at hb; exact absurd hb (Nat.not_lt_of_le (Nat.le_succ I0))
    · rw [List.mem_singleton.mp z] at hb; exact absurd hb (Nat.lt_irrefl _)
/-- the least of a list of data, by its own order: the first such -/
def minGo : D → List D → Option D
  | m, [] => some m
  | m, x :: xs => match ltD x m with
    | some true => minGo x xs
    | some false => minGo m xs
    | none => none
/-- each pair must be told -/
def allLt (xs : List D) : Bool := xs.all fun x => xs.all fun y => (ltD x y).isSome
def dMinD : List D → Option D
  | [.list (x :: xs)] => if SeqAt.shaped (.list (x :: xs)) && allLt (x :: xs) then minGo x xs else none
  | _ => none
def rMinD (K : PySem.W.Frag) : List V → Hp → VK → Prop := fun vs H Q => ∃ (a : Addr) (xs : List V) (ds : List D) (m : D), vs = [.ref a] ∧ SqL K H a xs ∧ DpAll K H xs ds ∧ SeqAt.shaped (.list ds) = true ∧ allLt ds = true ∧ (∃ x r, ds = x :: r ∧ minGo x r = some m) ∧
  ∀ (i : Nat) (v : V), xs[i]? = some v → ds[i]? = some m → Q v H
theorem minGo_arg {ds : List D} (bt : Nat → Nat → Bool) (hbt : ∀ i j x y, ds[i]? = some x → ds[j]? = some y → ltD x y = some (bt i j)) : ∀ (n k : Nat) (m r : D), ds.length = k + 1 + n → ds[argBest bt k]? = some m → minGo m (ds.drop (k + 1)) = some r → ds[argBest bt (k + n)]? = some r := by
  intro n
  induction n with
  | zero =>
    intro k m r hl hm h
    rw [List.drop_eq_nil_of_le (by omega)] at h
    cases h
    exact hm
  | succ n ih =>
    intro k m r hl hm h
    have hk : k + 1 < ds.length := by omega
    rw [List.drop_eq_getElem_cons hk] at h
    have hx : ds[k + 1]? = some ds[k + 1] := List.getElem?_eq_getElem hk
    have hlt := hbt (k + 1) (argBest bt k) _ _ hx hm
    unfold minGo at h
    rw [hlt] at h
    rw [show k + (n + 1) = (k + 1) + n by omega]
    cases hb : bt (k + 1) (argBest bt k) with
    | true =>
      rw [hb] at h
      exact ih (k + 1) _ r (by omega) (by simp only [argBest, hb, if_true]; exact hx) h
    | false =>
      rw [hb] at h
      exact ih (k + 1) m r (by omega) (by simp only [argBest, hb, Bool.false_eq_true, if_false]; exact hm) h
theorem allLt_get {ds : List D} (h : allLt ds = true) {i j : Nat} {x y : D} (h1 : ds[i]? = some x) (h2 : ds[j]? = some y) : ∃ b, ltD x y = some b := by
  unfold allLt at h
  rw [List.all_eq_true] at h
  have := h x (List.mem_of_getElem? h1)
  rw [List.all_eq_true] at this
  exact Option.isSome_iff_exists.mp (this y (List.mem_of_getElem? h2))
theorem dpAll_lay {ds : List D} (h : SeqAt.shaped (.list ds) = true) : PyData.canLayAll0 ds = true := by
  have := SeqAt.canLay_of_shaped h
  simpa [PyData.canLay0] using this
theorem cr_minD {X : Cx} (hc : X.calm = true) (hu : X.A.units + 70 < cLine) : CallR X (.builtin "min") (rMinD X.K) := by
  intro pins s σ H vs us Q I r h
  obtain ⟨a, xs, ds, m, rfl, hs, hd, sd, hall, ⟨x0, r0, rfl, hmin⟩, q⟩ := h
  obtain ⟨its, rv, pl, hz⟩ := I.list hs
  rw [Vals.ref1 r]
  obtain ⟨as, hreads⟩ := Dp.readsAll I _ xs its hd rv
  have hlay := dpAll_lay sd
  have hdep := depth_shaped sd
  simp only [PyData.depth] at hdep
  have hn : its.length = (x0 :: r0).length := SeqAt.ReadsAll.length _ its as hreads
  let ds := x0 :: r0
  let bt : Nat → Nat → Bool := fun i j => (ltD (ds.getD i .none) (ds.getD j .none)).getD false
  have hbt : ∀ i j x y, ds[i]? = some x → ds[j]? = some y → ltD x y = some (bt i j) := by
    intro i j x y h1 h2
    obtain ⟨b, hb⟩ := allLt_get hall h1 h2
    have e : bt i j = b := by
      show (ltD (ds.getD i .none) (ds.getD j .none)).getD false = b
      rw [List.getD_eq_getElem?_getD, List.getD_eq_getElem?_getD, h1, h2]
      show (ltD x y).getD false = b
      rw [hb]; rfl
    rw [e]; exact hb
  have hsz : its.toArray.size = r0.length + 1 := by rw [List.size_toArray, hn]; rfl
  refine call_minIn (bt := bt) (I.ok.hd hc) pl.isList (by rw [hsz]; omega) (fun ws hws => ?_) fun v h' tk hv hk => ?_
  · intro i j vi vj s' Q' E' hi hj keep hq
    have keep' : ∀ b o, s.heap.get? b = some o → s'.heap.get? b = some o := fun b o e => keep b o (fun hm => absurd (Heap.lt_size e) (Nat.not_lt_of_le (hws b hm))) e
    have hi' : its[i]? = some vi := by simpa using hi
    have hj' : its[j]? = some vj := by simpa using hj
    have li := (List.getElem?_eq_some_iff.mp hi').1
    have lj := (List.getElem?_eq_some_iff.mp hj').1
    have di : ds[i]? = some (ds[i]'(by rw [← hn]; exact li)) := List.getElem?_eq_getElem _
    have dj : ds[j]? = some (ds[j]'(by rw [← hn]; exact lj)) := List.getElem?_eq_getElem _
    obtain ⟨v1, b1, g1, r1⟩ := readsAll_get hreads i _ di
    obtain ⟨v2, b2, g2, r2⟩ := readsAll_get hreads j _ dj
    rw [hi'] at g1
    rw [hj'] at g2
    cases g1
    cases g2
    have d1 : _ ≤ PyData.depthAll (x0 :: r0) := depth_get ds i _ di
    have R := rc_ltD _ _ X.A.in1 s' _ _ b1 b2 (bt i j) (Reads.keeps keep' r1) (Reads.keeps keep' r2) (lay_get hlay i _ di) (lay_get hlay j _ dj) (by show X.A.units + 1 + _ + 1 < _; omega) (hbt i j _ _ di dj)
    exact R X.prog X.w E' Q' hq
  · have hm := minGo_arg bt hbt r0.length 0 x0 m (show (x0 :: r0).length = 0 + 1 + r0.length by simp; omega) rfl hmin
    rw [hsz] at hv
    rw [Nat.zero_add] at hm
    have hv' : its[argBest bt r0.length]? = some v := by simpa using hv
    have lx : argBest bt r0.length < xs.length := by
      rw [rv.length]; exact (List.getElem?_eq_some_iff.mp hv').1
    have gx : xs[argBest bt r0.length]? = some xs[argBest bt r0.length] := List.getElem?_eq_getElem lx
    obtain ⟨u, hu', ru⟩ := rv.get gx
    rw [hv'] at hu'
    cases hu'
    exact ⟨_, H, I.kept hk, ru, q _ _ gx hm⟩
theorem opl_minD {K : PySem.W.Frag} : OpL (rMinD K) dMinD := by
  intro x dx d F H Q e s rx k
  unfold dMinD at e
  split at e
  · rename_i y ys
    split at e
    · rename_i ok
      rw [Bool.and_eq_true] at ok
      obtain ⟨v, rfl, r1⟩ := rpA_one rx
      cases r1 with
      | @lst pa vs _ h1 h2 h3 =>
        exact ⟨pa, vs, y :: ys, d, rfl, .of (s _ _ h1), RpA.dp _ _ (dpAll_lay ok.1) (RpA.mono s _ _ h3), ok.1, ok.2, ⟨y, ys, rfl, e⟩, fun i v hv hd => by
          obtain ⟨d', hd', rd⟩ := h3.get' hv
          rw [hd] at hd'
          cases hd'
          exact k F H v (.refl s) rd⟩
    · cases e
  · cases e
section
variable {X : Cx} {e : Expr} {g : M (List D)} {p pos : Pos}
theorem de_minD (hc : X.calm = true) (hu : X.A.units + 70 < cLine) (hg : Gl X "min") (hm : X.mg "min" = none) (ha : DA X [e] g) (he : starEach [e] X.env = (false, eval e X.env) :: starEach [] X.env := by rfl) : DE X (.Call (.Name "min" p) [e] [] pos) (mOpL dMinD g) :=
  de_callB (cr_minD hc hu) opl_minD hg hm (by decide +kernel) ha (by decide) (by decide) he rfl
end
end DL

/-! DLm: comprehensions with two clauses; sorted; repr. -/
namespace DL
open PySem PySem.Spec PyProof.Rows L2

/-! ### two clauses -/
def compGo2 (b : Tgt) (tt : M Bool) (f1 : M (List D)) (vs1 : List Nat) (b1 : Tgt) (tt1 : M Bool) (te : M D) (η : EnvD) : List D → Src → Option (List D × Src)
  | [], τ => some ([], τ)
  | d :: ds, τ => match bindT b d with
    | none => none
    | some as => match tt (setD η as) τ with
      | none => none
      | some (false, τ1) => compGo2 b tt f1 vs1 b1 tt1 te η ds τ1
      | some (true, τ1) => match f1 (setD η as) τ1 with
        | none => none
        | some (es, τ2) => match compGo b1 tt1 te (wipeD (setD η as) vs1) es τ2 with
          | none => none
          | some (ys, τ3) => match compGo2 b tt f1 vs1 b1 tt1 te η ds τ3 with
            | none => none
            | some (zs, τ4) => some (ys ++ zs, τ4)
def mComp2 (fi : M (List D)) (vs : List Nat) (b : Tgt) (tt : M Bool) (f1 : M (List D)) (vs1 : List Nat) (b1 : Tgt) (tt1 : M Bool) (te : M D) : M (List D) := mBind fi fun ds => mBind (fun η τ => compGo2 b tt f1 vs1 b1 tt1 te (wipeD η vs) ds τ) fun d => mLift (okLen d)
/-- the new list at L while the comprehension runs -/
structure Acc (F1 H1 : Hp) (sa : SA) (L : Addr) (F2 Hc : Hp) (acc : List V) (done : List D) : Prop where
  ext : Ext sa F1 H1 F2 Hc
  fh : Same F2 Hc
  at_ : Hc L = some (.lst acc)
  nF : F2 L = none
  rp : RpA F2 acc done
theorem Acc.go {F1 H1 : Hp} {sa : SA} {L : Addr} {F2 Hc F3 H3 : Hp} {acc : List V} {done : List D} (a : Acc F1 H1 sa L F2 Hc acc done) (nD : NotSrc sa L) (x : Ext sa F2 Hc F3 H3) (s : Same F3 H3) : Acc F1 H1 sa L F3 H3 acc done :=
  ⟨a.ext.trans x, s, x.hh _ _ a.at_ nD, x.nf L a.nF (nn_of a.at_), RpA.mono x.ff _ _ a.rp⟩
theorem Acc.put {F1 H1 : Hp} {sa : SA} {L : Addr} {F2 Hc : Hp} {acc : List V} {done : List D} {v : V} {d : D} (a : Acc F1 H1 sa L F2 Hc acc done) (hL : H1 L = none) (r : Rp F2 v d) : Acc F1 H1 sa L F2 (upd Hc L (.lst (acc ++ [v]))) (acc ++ [v]) (done ++ [d]) :=
  ⟨⟨a.ext.ff, fun c o e n => by rw [upd_ne (ne_of_none e hL)]; exact a.ext.hh c o e n, fun c e => by
    by_cases hc : c = L
    · rw [hc, upd_same]; simp
    · rw [upd_ne hc]; exact a.ext.nn c e, a.ext.nf⟩, fun c o e => by rw [upd_ne (ne_of_none e a.nF)]; exact a.fh c o e, upd_same, a.nF, a.rp.append (.cons r .nil)⟩
theorem SrcOk.put {F H : Hp} {sa : SA} {τ : Src} {L : Addr} {o : HO} (k : SrcOk sa F H τ) (n : NotSrc sa L) : SrcOk sa F (upd H L o) τ := fun i p c e => by
  obtain ⟨h1, h2, h3, h4, h5⟩ := k i p c e
  obtain ⟨n1, n2⟩ := n i p c e
  exact ⟨by rw [upd_ne (Ne.symm n1)]; exact h1, by rw [upd_ne (Ne.symm n2)]; exact h2, h3, h4, h5⟩
theorem tLc2_of {fi : M (List D)} {vs : List Nat} {b : Tgt} {tt : M Bool} {f1 : M (List D)} {vs1 : List Nat} {b1 : Tgt} {tt1 : M Bool} {te : M D} (hv : ∀ i ∈ vs, 2 ≤ i) (hb : ∀ i ∈ tgtSlots b, i ∈ vs) (hv1 : ∀ i ∈ vs1, i ∈ vs) (hb1 : ∀ i ∈ tgtSlots b1, i ∈ vs1) :
    ∀ σ H Q, tN (mComp2 fi vs b tt f1 vs1 b1 tt1 te) σ H Q → tLc2 (tI fi) (tG b) (tT tt) (tI f1) (tG b1) (tT tt1) (tE te) vs vs1 σ H Q := by
  rintro σ H Q ⟨F, sa, η0, τ, d, τ', w0, e, k⟩
  obtain ⟨ds, τ1, e1, e2⟩ := mBind_some e
  obtain ⟨d', τz, e2, ez⟩ := mBind_some e2
  obtain ⟨ey, rfl⟩ := mLift_some ez
  obtain ⟨rfl, hdl⟩ := okLen_some ey
  refine ⟨F, sa, η0, τ, ds, τ1, w0, e1, fun F1 H1 J x1 w1 it L hD => ?_⟩
  obtain ⟨_, G, Y, W, hG, hY⟩ := it
  have hD0 : H L = none := by
    cases z : H L with
    | none => rfl
    | some o => exact absurd hD (x1.nn L (nn_of z))
  have nD : NotSrc sa L := notSrc_new w1.src hD
  have W0 : View F1 sa (wipe σ vs) H1 (wipeD η0 vs) τ1 := w1.wiped hv
  -- the outer word
  let Pv : Nat → Hp → Prop := fun i Hc => ∃ F2 τi acc done rest, Acc F1 H1 sa L F2 Hc acc done ∧ View F2 sa (wipe σ vs) Hc (wipeD η0 vs) τi ∧ compGo2 b tt f1 vs1 b1 tt1 te (wipeD η0 vs) (ds.drop i) τi = some (rest, τ') ∧ d = done ++ rest
  refine ⟨fun i m Hc => m = ds.length - i ∧ i ≤ ds.length ∧ Pv i Hc, ⟨ds.length, by simp, Nat.zero_le _, ?_⟩, ?_⟩
  · have gr := Grow.own w1.fh hD (.lst [])
    exact ⟨F1, τ1, [], [], d, ⟨gr.ext, gr.fh, upd_same, w1.fh.free hD, .nil⟩, W0.grow gr, e2, rfl⟩
  rintro i m Hc ⟨rfl, hi, F2, τi, acc, done, rest, A, w2, hgo, hd⟩
  have hGi : G Hc := hG Hc (A.ext.ff.trans w2.fh)
  by_cases hlt : i < ds.length
  · refine .inr ⟨W.goes i Hc hlt hGi, Pv (i + 1), fun H' p' => ⟨ds.length - (i + 1), by omega, rfl, hlt, p'⟩, fun x H' y => ?_⟩
    obtain ⟨F3, dd, hdd, gr, rx⟩ := hY i Hc x H' F2 hlt A.ext.ff w2.fh (W.yields i Hc x H' hlt hGi y)
    have hdrop : ds.drop i = dd :: ds.drop (i + 1) := by
      obtain ⟨hi', hz⟩ := List.getElem?_eq_some_iff.mp hdd
      rw [List.drop_eq_getElem_cons hi', hz]
    rw [hdrop] at hgo
    unfold compGo2 at hgo
    split at hgo
    · cases hgo
    rename_i as hbs
    have w3 := w2.grow gr
    have A3 := A.go nD gr.ext gr.fh
    have s2 : ∀ a ∈ as, 2 ≤ a.1 := fun a ha => hv _ (hb _ (mem_slots hbs ha))
    refine ⟨F3, dd, as, gr.fh, rx, hbs, fun ws hw => ⟨?_, ?_⟩⟩
    · rw [wipe_setV ws _ fun y hy => ?_, wipe_wipe fun u hu => hu]
      have : y.1 ∈ as.map (·.1) := by rw [← hw.slots]; exact List.mem_map_of_mem hy
      rw [bindT_slots b dd as hbs] at this
      exact hb _ this
    have wv : View F3 sa (setV (wipe σ vs) ws) H' (setD (wipeD η0 vs) as) τi := View.sets hw w3 s2
    split at hgo
    · cases hgo
    · rename_i τ2 ht
      refine tT.go wv ht fun F4 H4 x4 w4 => iteF ?_
      exact ⟨F4, τ2, acc, done, rest, A3.go nD x4 w4.fh, w3.back x4.ff w4.fh w4.src w4.flag, hgo, hd⟩
    · rename_i τ2 ht
      refine tT.go wv ht fun F4 H4 x4 w4 => iteT ?_
      split at hgo
      · cases hgo
      rename_i es τ3 hf
      split at hgo
      · cases hgo
      rename_i ys τ4 hinner
      split at hgo
      · cases hgo
      rename_i zs τ5 hrest
      cases hgo
      refine ⟨F4, sa, _, τ2, es, τ3, w4, hf, fun F5 H5 J1 x5 w5 it1 => ?_⟩
      have A5 := (A3.go nD x4 w4.fh).go nD x5 w5.fh
      obtain ⟨_, G1, Y1, W1, hG1, hY1⟩ := it1
      have wv5 : View F5 sa (setV (wipe σ vs) ws) H5 (setD (wipeD η0 vs) as) τ3 := w5
      have ww : View F5 sa (wipe (setV (wipe σ vs) ws) vs1) H5 (wipeD (setD (wipeD η0 vs) as) vs1) τ3 := wv5.wiped fun i hi => hv i (hv1 i hi)
      let Pw : Nat → Hp → Prop := fun j Hk => ∃ F6 τj acc2 part rest2, Acc F1 H1 sa L F6 Hk acc2 (done ++ part) ∧ Same F5 F6 ∧ View F6 sa (wipe (setV (wipe σ vs) ws) vs1) Hk (wipeD (setD (wipeD η0 vs) as) vs1) τj ∧
        compGo b1 tt1 te (wipeD (setD (wipeD η0 vs) as) vs1) (es.drop j) τj = some (rest2, τ4) ∧ ys = part ++ rest2
      refine ⟨fun j m Hk => m = es.length - j ∧ j ≤ es.length ∧ Pw j Hk, ⟨es.length, by simp, Nat.zero_le _, F5, τ3, acc, [], ys, by rw [List.append_nil]; exact A5, Same.refl _, ww, hinner, rfl⟩, ?_⟩
      rintro j m Hk ⟨rfl, hj, F6, τj, acc2, part, rest2, A6, x6, w6, hgo2, hys⟩
      have hGj : G1 Hk := hG1 Hk (x6.trans w6.fh)
      by_cases hlt2 : j < es.length
      · refine .inr ⟨W1.goes j Hk hlt2 hGj, Pw (j + 1), fun H' p' => ⟨es.length - (j + 1), by omega, rfl, hlt2, p'⟩, fun x H' y => ?_⟩
        obtain ⟨F7, de, hde, gr2, rx2⟩ := hY1 j Hk x H' F6 hlt2 x6 w6.fh (W1.yields j Hk x H' hlt2 hGj y)
        have hdrop2 : es.drop j = de :: es.drop (j + 1) := by
          obtain ⟨hi', hz⟩ := List.getElem?_eq_some_iff.mp hde
          rw [List.drop_eq_getElem_cons hi', hz]
        rw [hdrop2] at hgo2
        unfold compGo at hgo2
        split at hgo2
        · cases hgo2
        rename_i as1 hbs1
        have w7 := w6.grow gr2
        have A7 := A6.go nD gr2.ext gr2.fh
        have s3 : ∀ a ∈ as1, 2 ≤ a.1 := fun a ha => hv _ (hv1 _ (hb1 _ (mem_slots hbs1 ha)))
        refine ⟨F7, de, as1, gr2.fh, rx2, hbs1, fun ws1 hw1 => ⟨?_, ?_⟩⟩
        · rw [wipe_setV ws1 _ fun y hy => ?_, wipe_wipe fun u hu => hu]
          have : y.1 ∈ as1.map (·.1) := by rw [← hw1.slots]; exact List.mem_map_of_mem hy
          rw [bindT_slots b1 de as1 hbs1] at this
          exact hb1 _ this
        have wv7 : View F7 sa (setV (wipe (setV (wipe σ vs) ws) vs1) ws1) H' (setD (wipeD (setD (wipeD η0 vs) as) vs1) as1) τj := View.sets hw1 w7 s3
        split at hgo2
        · cases hgo2
        · rename_i τ6 ht6
          refine tT.go wv7 ht6 fun F8 H8 x8 w8 => iteF ?_
          exact ⟨F8, τ6, acc2, part, rest2, A7.go nD x8 w8.fh, x6.trans (gr2.ff.trans x8.ff), w7.back x8.ff w8.fh w8.src w8.flag, hgo2, hys⟩
        · rename_i τ6 ht6
          split at hgo2
          · cases hgo2
          rename_i yy τ7 hte
          split at hgo2
          · cases hgo2
          rename_i rr τ8 hrr
          cases hgo2
          refine tT.go wv7 ht6 fun F8 H8 x8 w8 => iteT (tE.go w8 hte fun F9 H9 v x9 w9 r9 => ?_)
          have A9 := (A7.go nD x8 w8.fh).go nD x9 w9.fh
          have al : acc2.length < sizeLine := by
            have := A6.rp.length
            rw [hd, hys] at hdl
            simp only [List.length_append, List.length_cons] at hdl this
            omega
          have Ap := A9.put hD r9
          refine ⟨acc2, A9.at_, al, F9, τ7, acc2 ++ [v], part ++ [yy], rr, by rw [← List.append_assoc]; exact Ap, x6.trans (gr2.ff.trans (x8.ff.trans x9.ff)), ?_, hrr, by rw [hys, List.append_assoc]; rfl⟩
          exact w7.back (x8.ff.trans x9.ff) Ap.fh (w9.src.put nD) w9.flag
      · have hj' : j = es.length := by omega
        subst hj'
        rw [List.drop_eq_nil_of_le (Nat.le_refl _)] at hgo2
        cases hgo2
        rw [List.append_nil] at hys
        subst hys
        refine .inl ⟨W1.stops Hk hGj, F6, _, acc2, done ++ ys, zs, A6, ?_, hrest, by rw [hd, List.append_assoc]⟩
        have x36 : Same F3 F6 := x4.ff.trans (x5.ff.trans x6)
        exact w3.back x36 w6.fh w6.src w6.flag
  · have hi' : i = ds.length := by omega
    subst hi'
    rw [List.drop_eq_nil_of_le (Nat.le_refl _)] at hgo
    cases hgo
    rw [List.append_nil] at hd
    subst hd
    refine .inl ⟨W.stops Hc hGi, k F2 Hc L acc (x1.trans A.ext) ?_ hD0 A.nF A.at_ (by rw [A.rp.length]; exact hdl) nD A.rp⟩
    exact ⟨w2.fh, fun j q e => let ⟨v, h1, h2⟩ := w0.var j q e; ⟨v, h1, Rp.mono (x1.ff.trans A.ext.ff) _ _ h2⟩, w2.src, w0.len, w2.flag, w0.slot⟩
section
variable {X : Cx} {elt tg iter tg1 iter1 : Expr} {ifs ifs1 : List Expr} {scope : Scope} {own : List (Str × Nat)} {pos : Pos} {fi f1 : M (List D)} {b b1 : Tgt} {tt tt1 : M Bool} {te : M D} {vs1 : List Nat}
abbrev Blk (X : Cx) (scope : Scope) (f : Cx → Prop) : Prop := ∀ (s : Shared) (H : Hp) (C : Addr) (cl : List (Str × Addr)) (fp : List Addr), f (X.blk s H scope (compEnvC scope cl C X.env) fp)
theorem dn_lc2 (own : List (Str × Nat)) (vs1 : List Nat) (hc : X.calm = true) (hN : X.N.Nodup) (hi : DI X tg iter fi) (ok : BlkOk X.N X.env.scope scope own) (hv : ∀ i ∈ own.map (·.2), 2 ≤ i) (hb : ∀ i ∈ tgtSlots b, i ∈ own.map (·.2)) (hv1 : ∀ i ∈ vs1, i ∈ own.map (·.2)) (hb1 : ∀ i ∈ tgtSlots b1, i ∈ vs1)
    (hg : Blk X scope fun Y => DG Y tg b) (ht : Blk X scope fun Y => DTs Y ifs tt) (hi1 : Blk X scope fun Y => DI Y tg1 iter1 f1) (hg1 : Blk X scope fun Y => DG Y tg1 b1) (ht1 : Blk X scope fun Y => DTs Y ifs1 tt1) (he : Blk X scope fun Y => DE Y elt te)
    (hs : ∀ x, foldedSetIterable iter X.env x = pure x := by intro _; rfl) (hs1 : ∀ (env : Env) x, foldedSetIterable iter1 env x = pure x := by intro _ _; rfl) :
    DN X (.ListComp elt [⟨tg, iter, ifs, 0⟩, ⟨tg1, iter1, ifs1, 0⟩] scope pos) (mComp2 fi (own.map (·.2)) b tt f1 vs1 b1 tt1 te) :=
  pe_w (pe_lc2 hc hN hi ok hv1 hg ht hi1 hg1 ht1 he hs hs1) (tLc2_of hv hb hv1 hb1)
theorem ds_setLc2 {i : Nat} {y : Str} {spos py : Pos} (v : Bool) (own : List (Str × Nat)) (vs1 : List Nat) (hc : X.calm = true) (hN : X.N.Nodup) (hy : X.N[i]? = some y) (hyl : X.env.scope.names.lookup y = some .local)
    (hsw : swapsWith (.ListComp elt [⟨tg, iter, ifs, 0⟩, ⟨tg1, iter1, ifs1, 0⟩] scope pos) (some (.Name y py)) spos.line X.env = pure true) (hi : DI X tg iter fi) (ok : BlkOk X.N X.env.scope scope own) (hv : ∀ i ∈ own.map (·.2), 2 ≤ i) (hb : ∀ i ∈ tgtSlots b, i ∈ own.map (·.2)) (hv1 : ∀ i ∈ vs1, i ∈ own.map (·.2)) (hb1 : ∀ i ∈ tgtSlots b1, i ∈ vs1)
    (hg : Blk X scope fun Y => DG Y tg b) (ht : Blk X scope fun Y => DTs Y ifs tt) (hi1 : Blk X scope fun Y => DI Y tg1 iter1 f1) (hg1 : Blk X scope fun Y => DG Y tg1 b1) (ht1 : Blk X scope fun Y => DTs Y ifs1 tt1) (he : Blk X scope fun Y => DE Y elt te)
    (hs : ∀ x, foldedSetIterable iter X.env x = pure x := by intro _; rfl) (hs1 : ∀ (env : Env) x, foldedSetIterable iter1 env x = pure x := by intro _ _; rfl) :
    DS X (.Assign [.Name y py] (.ListComp elt [⟨tg, iter, ifs, 0⟩, ⟨tg1, iter1, ifs1, 0⟩] scope pos) spos) (mSetN v i (mComp2 fi (own.map (·.2)) b tt f1 vs1 b1 tt1 te)) := by
  refine ps_w (ps_setLc2 hc hN hy hyl hsw hi ok hv1 hg ht hi1 hg1 ht1 he hs hs1) fun E σ H h => ?_
  exact tLc2_of hv hb hv1 hb1 σ H _ (setN_of E σ H h)
end
end DL

/-! DLn: == of texts too; sorted; repr. -/
namespace DL
open PySem PySem.Spec PyProof.Rows L2

/-! ### == and != of any two -/
def dStrs (h : Str → Str → Bool) : D → D → Option D
  | .str a, .str b => some (.bool (h a b))
  | _, _ => none
def dEqA : D → D → Option D := dOr (dStrs fun a b => decide (a = b)) dEq
def dNeA : D → D → Option D := dOr (dStrs fun a b => !decide (a = b)) dNe
theorem dStrs_some {h : Str → Str → Bool} {x y d : D} (e : dStrs h x y = some d) : ∃ a b, x = .str a ∧ y = .str b ∧ d = .bool (h a b) := by
  cases x <;> cases y <;> simp only [dStrs, reduceCtorEq, Option.some.injEq] at e
  exact ⟨_, _, rfl, rfl, e.symm⟩
theorem op2_eqS : Op2 rEq (dStrs fun a b => decide (a = b)) := by
  intro x y dx dy d F H Q e s rx ry k
  obtain ⟨a, b, rfl, rfl, rfl⟩ := dStrs_some e
  cases rx
  cases ry
  refine ⟨rfl, ?_⟩
  have h := k F H _ (.refl s) (.bl _)
  by_cases q : a = b
  · subst q; simpa using h
  · simpa [q] using h
theorem op2_neS : Op2 rNe (dStrs fun a b => !decide (a = b)) := by
  intro x y dx dy d F H Q e s rx ry k
  obtain ⟨a, b, rfl, rfl, rfl⟩ := dStrs_some e
  cases rx
  cases ry
  refine ⟨rfl, ?_⟩
  have h := k F H _ (.refl s) (.bl _)
  by_cases q : a = b
  · subst q; simpa using h
  · simpa [q] using h
section
variable {X : Cx} {a b : Expr} {f g : M D} {pos : Pos}
theorem de_eqA (hu : X.A.units + 65 < cLine) (ha : DE X a f) (hb : DE X b g) : DE X (.Compare a [.Eq] [b] pos) (mOp2 dEqA f g) := de_cmp (op_eq.or (op_eqD (by omega))) (op2_eqS.or op2_eq) ha hb (nomark _)
theorem de_neA (hu : X.A.units + 65 < cLine) (ha : DE X a f) (hb : DE X b g) : DE X (.Compare a [.NotEq] [b] pos) (mOp2 dNeA f g) := de_cmp (op_ne.or (op_neD (by omega))) (op2_neS.or op2_ne) ha hb (nomark _)
theorem dt_eqA (hu : X.A.units + 65 < cLine) (ha : DE X a f) (hb : DE X b g) : DT X (.Compare a [.Eq] [b] pos) (mBool (mOp2 dEqA f g)) := dt_cmp (op_eq.or (op_eqD (by omega))) (op2_eqS.or op2_eq) ha hb (nomark _)
theorem dt_neA (hu : X.A.units + 65 < cLine) (ha : DE X a f) (hb : DE X b g) : DT X (.Compare a [.NotEq] [b] pos) (mBool (mOp2 dNeA f g)) := dt_cmp (op_ne.or (op_neD (by omega))) (op2_neS.or op2_ne) ha hb (nomark _)
end

/-! ### sorted of ints -/
def leI (i j : Int) : Bool := decide (i ≤ j)
def dSortI : D → Option (List D)
  | .list ds => (intsOf ds).bind fun ns => okLen ((ns.mergeSort leI).map .int)
  | _ => none
def mSort (f : M D) : M (List D) := mBind f fun x => mLift (dSortI x)
section
variable {X : Cx} {e : Expr} {f : M D} {p pos : Pos}
theorem dn_sorted (hg : Gl X "sorted") (hm : X.mg "sorted" = none) (ha : DE X e f) (he : starEach [e] X.env = (false, eval e X.env) :: starEach [] X.env := by rfl) : DN X (.Call (.Name "sorted" p) [e] [] pos) (mSort f) := by
  refine pe_w (pe_callB cr_sortedI hg hm (by decide +kernel) (pa_cons ha pa_nil he) (by decide) (by decide) he rfl) ?_
  rintro σ H Q ⟨F, sa, η, τ, d, τ', w, e, k⟩
  obtain ⟨x, τ1, e1, ea⟩ := mBind_some e
  obtain ⟨e2, rfl⟩ := mLift_some ea
  cases x <;> simp only [dSortI, reduceCtorEq] at e2
  rename_i ds
  obtain ⟨ns, e3, e4⟩ := Option.bind_eq_some_iff.mp e2
  obtain rfl := intsOf_some e3
  obtain ⟨rfl, hl⟩ := okLen_some e4
  refine tE.go w e1 fun F1 H1 u x1 w1 r1 => ?_
  obtain ⟨q, rfl, hq⟩ := rp_ints (K := X.K) w1.fh r1
  refine ⟨q, ns, rfl, hq, fun ns' l hp hs hl0 => ?_⟩
  have hm : ns' = ns.mergeSort leI := by
    refine PySem.W.ksm_same (hp.trans (List.mergeSort_perm ns leI).symm) hs ?_
    have := List.pairwise_mergeSort (le := leI) (fun a b c h1 h2 => by unfold leI at *; simp only [decide_eq_true_eq] at *; omega) (fun a b => by unfold leI; simp only [Bool.or_eq_true, decide_eq_true_eq]; omega) ns
    exact this.imp fun h => of_decide_eq_true h
  subst hm
  rw [List.length_map] at hl
  have gr := Grow.own w1.fh hl0 (.lst ((ns.mergeSort leI).map V.int))
  have hp0 : H l = none := by
    cases z : H l with
    | none => rfl
    | some o => exact absurd hl0 (x1.nn l (nn_of z))
  exact k _ _ _ _ (x1.trans gr.ext) (w1.grow gr) hp0 (w1.fh.free hl0) upd_same (by rw [List.length_map]; exact hl) (notSrc_new w1.src hl0) (RpA.ints _)
end

/-! ### repr -/
mutual
/-- no shorter than the text -/
def bnd : D → Nat
  | .none => 4
  | .bool _ => 5
  | .int i => i.natAbs.log2 + 2
  | .str x => (reprText x).length
  | .list ds => 2 + bndA ds
  | .tuple ds => 3 + bndA ds
  | .dict _ => 1000000000
def bndA : List D → Nat
  | [] => 0
  | d :: ds => bnd d + 2 + bndA ds
end
theorem listText_le : ∀ ts : List Str, (listText ts).length ≤ 2 + piled ts
  | [] => by decide
  | t :: r => by
    unfold listText
    rw [strLen_append]
    have e : textFrom 0 "[" (t :: r) = textFrom 1 (("[" : Str) ++ ("" : String) ++ t) r := rfl
    rw [e, textFrom_length_pos r 1 _ (by omega), strLen_append, strLen_append, piled_cons]
    have e1 : (("[" : String) : Str).length = 1 := rfl
    have e2 : (("]" : String) : Str).length = 1 := rfl
    have e3 : (("" : String) : Str).length = 0 := rfl
    rw [e1, e2, e3]
    omega
theorem tupleText_le (ts : List Str) : (tupleText ts).length ≤ 3 + piled ts := by
  unfold tupleText
  rw [strLen_append, strLen_append]
  have e1 : ((("(" : String) : Str)).length = 1 := rfl
  have e3 : (((if ts.length == 1 then ",)" else ")" : String) : Str)).length ≤ 2 := by split <;> decide
  rw [e1]
  by_cases h : ts = []
  · subst h
    have : (Str.join ", " []).length = 0 := rfl
    rw [this]
    omega
  · have := join_length_add ts h
    omega
mutual
theorem shown_le : ∀ d : D, d.canLay0 = true → (PyData.shown d).length ≤ bnd d
  | .none, _ => by simp only [PyData.shown, bnd]; decide
  | .bool b, _ => by cases b <;> (simp only [PyData.shown, bnd]; decide)
  | .int i, _ => by
    simp only [PyData.shown, bnd]
    show (Str.ofString (toString i)).length ≤ _
    rw [PySem.ofString_length]
    exact int_text_length_le (k := i.natAbs.log2 + 1) (by omega) (by omega)
  | .str x, _ => by simp only [PyData.shown, bnd]; exact Nat.le_refl _
  | .list ds, h => by
    simp only [PyData.shown, bnd]
    have := shownAll_le ds (by simpa [PyData.canLay0] using h)
    exact Nat.le_trans (listText_le _) (by omega)
  | .tuple ds, h => by
    simp only [PyData.shown, bnd]
    have := shownAll_le ds (by simpa [PyData.canLay0] using h)
    exact Nat.le_trans (tupleText_le _) (by omega)
  | .dict ds, h => by simp [PyData.canLay0] at h
theorem shownAll_le : ∀ ds : List D, PyData.canLayAll0 ds = true → piled (PyData.shownAll ds) ≤ bndA ds
  | [], _ => by simp only [PyData.shownAll, bndA]; exact Nat.le_refl _
  | d :: ds, h => by
    have h' : d.canLay0 = true ∧ PyData.canLayAll0 ds = true := by simpa [PyData.canLayAll0] using h
    simp only [PyData.shownAll, bndA, piled_cons]
    have h1 := shown_le d h'.1
    have h2 := shownAll_le ds h'.2
    omega
end
def okRepr (d : D) : Bool := SeqAt.shaped d && d.showable && decide (bnd d ≤ sizeLine)
def dRepr : List D → Option D
  | [d] => if okRepr d = true then some (.str d.shown) else none
  | _ => none
def rReprD (K : PySem.W.Frag) : List V → Hp → VK → Prop := fun xs H Q => ∃ x d, xs = [x] ∧ Dp K H x d ∧ okRepr d = true ∧ Q (.str d.shown) H
section
variable {X : Cx}
theorem call_reprD (hg : X.A.guards = some []) (hu : X.A.units + 66 < cLine) : CallR X (.builtin "repr") (rReprD X.K) := by
  intro pins s σ H xs us Q I r h
  obtain ⟨x, d, rfl, hd, ok, q⟩ := h
  obtain ⟨u, rfl, rx⟩ := vals1 r
  unfold okRepr at ok
  simp only [Bool.and_eq_true, decide_eq_true_eq] at ok
  obtain ⟨⟨o1, o2⟩, o3⟩ := ok
  have lay := SeqAt.canLay_of_shaped o1
  have dep := SeqAt.depth_of_shaped o1
  have hsz : d.shown.length ≤ sizeLine := Nat.le_trans (shown_le d lay) o3
  have ref : ∀ a, u = .ref a → wpAny (model X.prog X.w) X.A (call (.builtin "repr") [u]) (EP X pins σ Q) X.xe s := by
    rintro a rfl
    obtain ⟨as, r1⟩ := Dp.reads I d x _ hd rx
    refine repr_of_reads' r1 o2 (PyData.noDict_hsm (PyData.hasDict_of_canLay d lay)) hg (by omega) (fun _ _ e => e) (fun h' t tk hk => ?_) hsz
    exact ⟨.str d.shown, H, I.kept (t' := tk) hk, ⟨t, rfl⟩, q⟩
  cases d with
  | none =>
    cases hd
    cases (show u = Value.none from rx)
    exact PySem.P.repr_of_none ⟨.str _, H, I.tok _, ⟨_, rfl⟩, by simpa only [PyData.shown] using q⟩
  | bool b =>
    cases hd
    cases (show u = Value.bool b from rx)
    exact PySem.P.repr_of_bool ⟨.str _, H, I.tok _, ⟨_, rfl⟩, by simpa only [PyData.shown] using q⟩
  | int i =>
    cases hd
    obtain ⟨t, rfl⟩ := (show ∃ t, u = Value.int i t from rx)
    exact PySem.P.repr_of_int (by simpa [PyData.showable] using o2) ⟨.str _, H, I.tok _, ⟨_, rfl⟩, by simpa only [PyData.shown] using q⟩
  | str y =>
    cases hd
    obtain ⟨t, rfl⟩ := (show ∃ t, u = Value.str y t from rx)
    exact PySem.P.repr_of_str ⟨.str _, H, I.tok _, ⟨_, rfl⟩, by simpa only [PyData.shown] using q⟩ (by simpa only [PyData.shown] using hsz)
  | list ds => cases hd; exact ref _ rx
  | tuple ds => cases hd; exact ref _ rx
  | dict ds => simp [PyData.canLay0] at lay
theorem opl_repr {K : PySem.W.Frag} : OpL (rReprD K) dRepr := by
  intro x dx d F H Q e s rx k
  unfold dRepr at e
  split at e
  · rename_i d1
    split at e
    · rename_i ok
      cases e
      obtain ⟨v, rfl, r1⟩ := rpA_one rx
      refine ⟨v, d1, rfl, Rp.dp _ _ ?_ (Rp.mono s _ _ r1), ok, k F H _ (.refl s) (.str _)⟩
      unfold okRepr at ok
      simp only [Bool.and_eq_true] at ok
      exact SeqAt.canLay_of_shaped ok.1.1
    · cases e
  · cases e
variable {e : Expr} {g : M (List D)} {p pos : Pos}
theorem de_repr (hd : X.A.guards = some []) (hu : X.A.units + 66 < cLine) (hg : Gl X "repr") (hm : X.mg "repr" = none) (ha : DA X [e] g) (he : starEach [e] X.env = (false, eval e X.env) :: starEach [] X.env := by rfl) : DE X (.Call (.Name "repr" p) [e] [] pos) (mOpL dRepr g) :=
  de_callB (call_reprD hd hu) opl_repr hg hm (by decide +kernel) ha (by decide) (by decide) he rfl
end
end DL

/-! DLo: a def that stands in the module, as one word; lists of ints or of more in min; the order of any. -/
namespace DL
open PySem PySem.Spec PyProof.Rows L2

/-- a def of the module is there and keeps its promise -/
structure Has (P : Program) (w : World) (K : PySem.W.Frag) (mg : Str → Option Value) (base : Heap) (k : Nat) (x : Str) (n : Nat) (m : List D → Option D) : Prop where
  ex : ∃ (f : Addr) (fd : FuncData) (ps : List Str), ps.length = n ∧ FnG P w K mg base k f fd ps (spP n m) ∧ mg x = some (.ref f) ∧ PySem.W.keepIn K (.ref f) = true ∧ Binds K fd ps []
  len : ∀ ds d, m ds = some d → ds.length = n
structure HasS (P : Program) (w : World) (K : PySem.W.Frag) (mg : Str → Option Value) (base : Heap) (k : Nat) (x : Str) (n : Nat) (m : MS) : Prop where
  ex : ∃ (f : Addr) (fd : FuncData) (ps : List Str), ps.length = n ∧ FnG P w K mg base k f fd ps (spS n m) ∧ mg x = some (.ref f) ∧ PySem.W.keepIn K (.ref f) = true ∧ Binds K fd ps []
  len : ∀ ds τ d τ', m ds τ = some (d, τ') → ds.length + 1 = n
section
variable {P : Program} {w : World} {K : PySem.W.Frag} {mg : Str → Option Value} {base : Heap} {j k : Nat} {x : Str} {n : Nat} {m : List D → Option D} {ms : MS}
theorem Has.mono (h : Has P w K mg base j x n m) (hj : j ≤ k) : Has P w K mg base k x n m :=
  ⟨let ⟨f, fd, ps, h1, h2, h3⟩ := h.ex; ⟨f, fd, ps, h1, h2.mono hj, h3⟩, h.len⟩
theorem HasS.mono (h : HasS P w K mg base j x n ms) (hj : j ≤ k) : HasS P w K mg base k x n ms :=
  ⟨let ⟨f, fd, ps, h1, h2, h3⟩ := h.ex; ⟨f, fd, ps, h1, h2.mono hj, h3⟩, h.len⟩
/-- a def by its body -/
theorem has_P {f : Addr} {fd : FuncData} {N ps : List Str} {st : Stmt} {g : Stm} (F : Fun K x x st f fd) (S : FnScope N ps (defScope st)) (hn : N.length = n) (b : Binds K fd ps []) (hm : mg x = some (.ref f))
    (body : ∀ (cdv : Value) (A : Around) (outer : List Env) (s : Shared) (H : Hp), Room k (A.deeper (envOfC x (defScope st) s.heap.objs.size f cdv)) → A.guards = some [] →
      DSs (cxOf CX0 P w K mg base N x (defScope st) f cdv A outer s H E0).nox (defBody st) g) : Has P w K mg base (k + 1) x ps.length (runP ps.length n g) := by
  subst hn
  exact ⟨⟨f, fd, ps, rfl, fn_P F S body, hm, F.kp, b⟩, fun ds d h => runP_len h⟩
theorem has_S {f : Addr} {fd : FuncData} {N ps : List Str} {st : Stmt} {g : Stm} (F : Fun K x x st f fd) (S : FnScope N ps (defScope st)) (hn : N.length = n) (h1 : 1 ≤ n) (b : Binds K fd ps []) (hm : mg x = some (.ref f))
    (body : ∀ (cdv : Value) (A : Around) (outer : List Env) (s : Shared) (H : Hp), Room k (A.deeper (envOfC x (defScope st) s.heap.objs.size f cdv)) → A.guards = some [] →
      DSs (cxOf CX0 P w K mg base N x (defScope st) f cdv A outer s H E0).nox (defBody st) g) : HasS P w K mg base (k + 1) x ps.length (runS ps.length n g) := by
  subst hn
  exact ⟨⟨f, fd, ps, rfl, fn_S F S h1 body, hm, F.kp, b⟩, fun ds τ d τ' h => runS_len h⟩
end
section
variable {X : Cx} {k : Nat} {x : Str} {n : Nat} {m : List D → Option D} {ms : MS} {p pos : Pos} {e : Expr} {es : List Expr} {g : M (List D)}
theorem de_fn (h : Has X.prog X.w X.K X.mg X.base k x n m) (hr : Room k X.A) (hd : X.A.guards = some []) (hg : Gl X x) (ha : DA X (e :: es) g) (hdb : (x == ("__debug__" : Str)) = false := by decide)
    (he : starEach (e :: es) X.env = (false, eval e X.env) :: starEach es X.env := by rfl) (hpl : (backTo pos (starEach es X.env)).any (·.1) = false := by rfl) :
    DE X (.Call (.Name x p) (e :: es) [] pos) (mOpL m g) := by
  obtain ⟨f, fd, ps, rfl, F, hm, hk, hb⟩ := h.ex
  exact de_call F h.len hr hd hg hm hk hb ha hdb he hpl
theorem de_fnS (i : Nat) {y : Str} {py : Pos} (h : HasS X.prog X.w X.K X.mg X.base k x n ms) (hr : Room k X.A) (hd : X.A.guards = some []) (hg : Gl X x) (hv : PE X (.Name y py) (tVar i)) (ha : DA X es g) (hdb : (x == ("__debug__" : Str)) = false := by decide)
    (he : starEach (.Name y py :: es) X.env = (false, eval (.Name y py) X.env) :: starEach es X.env := by rfl) (hpl : (backTo pos (starEach es X.env)).any (·.1) = false := by rfl) :
    DE X (.Call (.Name x p) (.Name y py :: es) [] pos) (mCallS i ms g) := by
  obtain ⟨f, fd, ps, rfl, F, hm, hk, hb⟩ := h.ex
  exact de_callS i F h.len hr hd hg hm hk hb hv ha hdb he hpl
end
theorem CallR.or {X : Cx} {f : Value} {r r' : List V → Hp → VK → Prop} (h : CallR X f r) (h' : CallR X f r') : CallR X f (fun xs H Q => r xs H Q ∨ r' xs H Q) :=
  fun pins s σ H xs us Q I rv q => q.elim (h pins s σ H xs us Q I rv) (h' pins s σ H xs us Q I rv)
def dOrL (o o' : List D → Option D) (ds : List D) : Option D := match o ds with
  | some d => some d
  | none => o' ds
def dMinA : List D → Option D := dOrL dMinL dMinD
def dLtA : D → D → Option D := dOr dLt dLtD
section
variable {X : Cx} {a b : Expr} {f g : M D} {pos p : Pos} {e : Expr} {ga : M (List D)}
theorem de_ltA (hu : X.A.units + 66 < cLine) (ha : DE X a f) (hb : DE X b g) : DE X (.Compare a [.Lt] [b] pos) (mOp2 dLtA f g) := de_cmp (op_lt.or (op_ltD hu)) ((op2_int0 fun _ _ _ => .bl _).or op2_ltD) ha hb (nomark _)
theorem dt_ltA (hu : X.A.units + 66 < cLine) (ha : DE X a f) (hb : DE X b g) : DT X (.Compare a [.Lt] [b] pos) (mBool (mOp2 dLtA f g)) := dt_cmp (op_lt.or (op_ltD hu)) ((op2_int0 fun _ _ _ => .bl _).or op2_ltD) ha hb (nomark _)
end
section
variable {X : Cx} {p pos : Pos} {e : Expr} {g : M (List D)}
theorem de_minA (hc : X.calm = true) (hu : X.A.units + 70 < cLine) (hg : Gl X "min") (hm : X.mg "min" = none) (ha : DA X [e] g) (he : starEach [e] X.env = (false, eval e X.env) :: starEach [] X.env := by rfl) : DE X (.Call (.Name "min" p) [e] [] pos) (mOpL dMinA g) :=
  de_callB (CallR.or (cr_min hc) (cr_minD hc hu)) (opl_min.or opl_minD) hg hm (by decide +kernel) ha (by decide) (by decide) he rfl
end
theorem _root_.L2.Room.u66 {k : Nat} {A : Around} (r : Room k A) : A.units + 66 < cLine := by have := r.un; omega
theorem _root_.L2.Room.u65 {k : Nat} {A : Around} (r : Room k A) : A.units + 65 < cLine := by have := r.un; omega
theorem _root_.L2.Room.u70 {k : Nat} {A : Around} (r : Room k A) : A.units + 70 < cLine := by have := r.un; omega
end DL

/-! DLp: the source of drawn numbers: opened, picked from. -/
namespace DL
open PySem PySem.Spec PyProof.Rows L2

/-! ### picking, by value -/
/-- cells from the last on -/
def drawR : List Int → Int → List Int × Int
  | [], l => ([], l)
  | x :: xs, l => if l < 2 then drawR xs x else (x :: xs, l)
def nextLap (τ : Src) (l : Int) (cs : List Int) (most : Int) : Option (D × Src) :=
  if τ.turn.natAbs < 2 ^ 60 then
    let lap := τ.turn + 1
    let s1 := (τ.mixed + lap * 104729) % 998244353
    let s2 := (s1 * s1 + lap * 17) % 2147483647
    some (.int (s2 / 16 % most), { τ with cells := cs, left := l, turn := lap })
  else none
def mPick : MS := fun ds τ => match ds with
  | [.int most] => if most < 2 then some (.int 0, τ) else
    if most.natAbs.log2 < 9000 then
      let r := drawR τ.cells.reverse τ.left
      if 1 < r.2 then some (.int (r.2 % most), { τ with cells := r.1.reverse, left := r.2 / most }) else nextLap τ r.2 r.1.reverse most
    else none
  | _ => none
theorem mPick_len (ds : List D) (τ : Src) (d : D) (τ' : Src) (h : mPick ds τ = some (d, τ')) : ds.length + 1 = 2 := by
  unfold mPick at h
  split at h
  · rfl
  · cases h

/-! ### the reading of the text -/
abbrev tFld (k : Str) : TE := tDGet (tVar 0) (tC (V.str k))
abbrev rInt1 : List V → Hp → VK → Prop := fun xs H Q => (∃ i, xs = [V.int i] ∧ Q (V.int i) H) ∨ ∃ k, xs = [V.bl k] ∧ Q (V.int (if k = true then 1 else 0)) H
abbrev tInt1 (a : TE) : TE := tCB rInt1 (tCons a tNil)
abbrev rLt2 : R2 := rI0 fun i j => V.bl (decide (i < j))
abbrev rGt2 : R2 := rI0 fun i j => V.bl (decide (j < i))
abbrev rAdd2 : R2 := rI0 fun i j => V.int (i + j)
abbrev rMod2 : R2 := rI (fun _ j => 0 < j) fun i j => V.int (i % j)
abbrev rDiv2 : R2 := rI CDivW fun i j => V.int (i / j)
abbrev rMul2 : R2 := rI CMulX fun i j => V.int (i * j)
abbrev rLen2 (K : PySem.W.Frag) : List V → Hp → VK → Prop := fun xs H Q => ∃ p ys, xs = [V.ref p] ∧ (SqL K H p ys ∨ SqT K H p ys) ∧ Q (V.int ys.length) H
abbrev tLap : TS :=
  tSeq (sDPut (tVar 0) (tC (V.str "turn")) (tOp rAdd2 (tFld "turn") (tC (V.int 1))))
    (tSeq (tAsg (tFld "turn") (gName 4))
      (tSeq (tAsg (tOp rMod2 (tInt1 (tOp rAdd2 (tFld "mixed") (tOp rMul2 (tVar 4) (tC (V.int 104729))))) (tC (V.int 998244353))) (gName 5))
        (tSeq (tAsg (tOp rMod2 (tInt1 (tOp rAdd2 (tOp rMul2 (tVar 5) (tVar 5)) (tOp rMul2 (tVar 4) (tC (V.int 17))))) (tC (V.int 2147483647))) (gName 5))
          (tRet (tOp rMod2 (tInt1 (tOp rDiv2 (tVar 5) (tC (V.int 16)))) (tVar 1))))))
abbrev tPick (K : PySem.W.Frag) : TS :=
  tSeq (tIfS (tTest (tOp rLt2 (tVar 1) (tC (V.int 2)))) (tRet (tC (V.int 0))) tNext)
    (tSeq (tAsg (tFld "cells") (gName 2))
      (tSeq (tWhile (tAnd (tTest (tOp rLt2 (tFld "left") (tC (V.int 2)))) (tTest (tOp rGt2 (tCB (rLen2 K) (tCons (tVar 2) tNil)) (tC (V.int 0)))))
          (sDPut (tVar 0) (tC (V.str "left")) (tBM0 K "list" rPop (tVar 2))))
        (tSeq (tAsg (tFld "left") (gName 3))
          (tSeq (tIfS (tTest (tOp rGt2 (tVar 3) (tC (V.int 1)))) (tSeq (sDPut (tVar 0) (tC (V.str "left")) (tOp rDiv2 (tVar 3) (tVar 1))) (tRet (tOp rMod2 (tInt1 (tVar 3)) (tVar 1)))) tNext)
            tLap))))

/-- the heap while the source is at work -/
structure Gs (H0 : Hp) (p c : Addr) (H1 : Hp) (τ : Src) : Prop where
  hp : H1 p = some (τ.obj c)
  hc : H1 c = some (.lst (τ.cells.map V.int))
  el : ∀ a, a ≠ p → a ≠ c → H1 a = H0 a
  ne : p ≠ c
section
variable {H0 H1 : Hp} {p c : Addr} {τ : Src}
theorem Gs.dC (g : Gs H0 p c H1 τ) : DGet H1 p (.str "cells") (some (.ref c)) := DGet.k (k := .inr "cells") g.hp
theorem Gs.dL (g : Gs H0 p c H1 τ) : DGet H1 p (.str "left") (some (.int τ.left)) := DGet.k (k := .inr "left") g.hp
theorem Gs.dM (g : Gs H0 p c H1 τ) : DGet H1 p (.str "mixed") (some (.int τ.mixed)) := DGet.k (k := .inr "mixed") g.hp
theorem Gs.dT (g : Gs H0 p c H1 τ) : DGet H1 p (.str "turn") (some (.int τ.turn)) := DGet.k (k := .inr "turn") g.hp
theorem four : ∀ kvs : List (Key × V), kvs.length = 4 → kvs.length < sizeLine := fun kvs h => by rw [h, sizeLine_eq]; decide
theorem Gs.putL (g : Gs H0 p c H1 τ) (l : Int) : ∃ H2, DPut H1 p (.str "left") (.int l) H2 ∧ Gs H0 p c H2 { τ with left := l } :=
  ⟨_, DPut.k (k := .inr "left") (v := .int l) g.hp (four _ rfl), ⟨upd_same, by rw [upd_ne (Ne.symm g.ne)]; exact g.hc, fun a h1 h2 => by rw [upd_ne h1]; exact g.el a h1 h2, g.ne⟩⟩
theorem Gs.putT (g : Gs H0 p c H1 τ) (l : Int) : ∃ H2, DPut H1 p (.str "turn") (.int l) H2 ∧ Gs H0 p c H2 { τ with turn := l } :=
  ⟨_, DPut.k (k := .inr "turn") (v := .int l) g.hp (four _ rfl), ⟨upd_same, by rw [upd_ne (Ne.symm g.ne)]; exact g.hc, fun a h1 h2 => by rw [upd_ne h1]; exact g.el a h1 h2, g.ne⟩⟩
theorem Gs.pop (g : Gs H0 p c H1 τ) (cs : List Int) : Gs H0 p c (upd H1 c (.lst (cs.map V.int))) { τ with cells := cs } :=
  ⟨by rw [upd_ne g.ne]; exact g.hp, upd_same, fun a h1 h2 => by rw [upd_ne h2]; exact g.el a h1 h2, g.ne⟩
end
/-- the last part: a lap -/
theorem lap_read {H0 H1 : Hp} {p c : Addr} {τ τ' : Src} {d : D} {most : Int} {y2 y3 : Option V} {Q : VK} (g : Gs H0 p c H1 τ) (hm : 2 ≤ most) (e : nextLap τ τ.left τ.cells most = some (d, τ'))
    (k : ∀ r H2, d = .int r → Gs H0 p c H2 τ' → Q (.int r) H2) :
    tLap { nx := fun _ H' => Q .non H', rt := Q } [some (.ref p), some (.int most), y2, y3, none, none] H1 := by
  unfold nextLap at e
  split at e
  · rename_i hb
    simp only [Option.some.injEq, Prod.mk.injEq] at e
    obtain ⟨rfl, rfl⟩ := e
    obtain ⟨H2, hput, g2⟩ := g.putT (τ.turn + 1)
    have m1 : CMulX (τ.turn + 1) 104729 := mulx_ok (a := 61) (b := 20) (by omega) (by decide) (by decide)
    have m2 : CMulX (τ.turn + 1) 17 := mulx_ok (a := 61) (b := 20) (by omega) (by decide) (by decide)
    have b1 := Int.emod_nonneg (τ.mixed + (τ.turn + 1) * 104729) (show (998244353 : Int) ≠ 0 by decide)
    have b2 := Int.emod_lt_of_pos (τ.mixed + (τ.turn + 1) * 104729) (show (0 : Int) < 998244353 by decide)
    have m3 : CMulX ((τ.mixed + (τ.turn + 1) * 104729) % 998244353) ((τ.mixed + (τ.turn + 1) * 104729) % 998244353) := mulx_ok (a := 40) (b := 40) (by omega) (by omega) (by decide)
    -- source['turn'] = source['turn'] + 1
    refine ⟨.ref p, rfl, p, _, rfl, g.dT, _, _, rfl, rfl, .ref p, rfl, p, H2, rfl, hput, ?_⟩
    -- lap
    refine ⟨.ref p, rfl, p, _, rfl, g2.dT, ?_⟩
    -- stirred, twice
    refine ⟨.ref p, rfl, p, _, rfl, g2.dM, _, rfl, _, _, rfl, rfl, m1, _, _, rfl, rfl, .inl ⟨_, rfl, _, _, rfl, rfl, (show (0 : Int) < 998244353 by decide), ?_⟩⟩
    refine ⟨_, rfl, _, rfl, _, _, rfl, rfl, m3, _, rfl, _, _, rfl, rfl, m2, _, _, rfl, rfl, .inl ⟨_, rfl, _, _, rfl, rfl, (show (0 : Int) < 2147483647 by decide), ?_⟩⟩
    refine ⟨_, rfl, _, _, rfl, rfl, ⟨by decide, by decide⟩, .inl ⟨_, rfl, _, rfl, _, _, rfl, rfl, by omega, ?_⟩⟩
    exact k _ H2 rfl g2
  · cases e
theorem pick_read {K : PySem.W.Frag} {vs : List V} {H : Hp} {Q : VK} (h : spS 2 mPick vs H Q E0) : tPick K { nx := fun _ H' => Q .non H', rt := Q } (L2.start ["source", "most", "cells", "others", "lap", "stirred"] vs) H := by
  obtain ⟨F, p, c, us, ds, τ, d, τ', rfl, hl, sm, ks, hslot, r, e, q⟩ := h
  obtain ⟨h1, h2, h3, h4, h5⟩ := ks 0 p c rfl
  unfold mPick at e
  split at e
  case h_2 => cases e
  rename_i most
  obtain ⟨v, rfl, rv⟩ := rpA_one r
  cases rv
  have ne : p ≠ c := fun z => by
    rw [z, h2] at h1
    cases h1
  have g0 : Gs H p c H τ := ⟨h1, h2, fun _ _ _ => rfl, ne⟩
  -- behind it
  have fin : ∀ (r : Int) (H2 : Hp) (τ2 : Src), τ2.cells.length ≤ τ.cells.length → Gs H p c H2 τ2 → (d = .int r ∧ τ' = τ2) → Q (.int r) H2 := by
    rintro r H2 τ2 hlen g ⟨rfl, rfl⟩
    have Fne : ∀ a o, F a = some o → a ≠ p ∧ a ≠ c := fun a o e => ⟨fun z => (by rw [z, h4] at e; cases e), fun z => (by rw [z, h5] at e; cases e)⟩
    have s2 : Same F H2 := fun a o e => by
      obtain ⟨n1, n2⟩ := Fne a o e
      rw [g.el a n1 n2]; exact sm a o e
    refine q F H2 (.int r) ⟨Same.refl _, fun a o e n => ?_, fun a e => ?_, fun a e _ => e⟩ s2 (fun i p' c' z => ?_) (.int r)
    · obtain ⟨n1, n2⟩ := n 0 p c rfl
      rw [g.el a n1 n2]; exact e
    · by_cases z1 : a = p
      · rw [z1, g.hp]; simp
      · by_cases z2 : a = c
        · rw [z2, g.hc]; simp
        · rw [g.el a z1 z2]; exact e
    · cases z
      exact ⟨g.hp, g.hc, Nat.le_trans hlen h3, h4, h5⟩
  show tPick K _ [some (.ref p), some (.int most), none, none, none, none] H
  split at e
  · -- most < 2
    rename_i hlt
    simp only [Option.some.injEq, Prod.mk.injEq] at e
    refine ⟨_, rfl, _, _, rfl, rfl, true, by simp [hlt], iteT ?_⟩
    exact fin 0 H τ (Nat.le_refl _) g0 ⟨e.1.symm, e.2.symm⟩
  · rename_i hge
    split at e
    case isFalse => cases e
    rename_i hlog
    refine ⟨_, rfl, _, _, rfl, rfl, false, by simp [hge], iteF ?_⟩
    -- cells = source['cells']
    refine ⟨.ref p, rfl, p, _, rfl, g0.dC, ?_⟩
    -- the loop
    refine ⟨fun m σ H1 => ∃ τ1, σ = [some (.ref p), some (.int most), some (.ref c), none, none, none] ∧ m = τ1.cells.length ∧ Gs H p c H1 τ1 ∧ τ1.cells.length ≤ τ.cells.length ∧ τ1.mixed = τ.mixed ∧ τ1.turn = τ.turn ∧ τ1.slot = τ.slot ∧
      drawR τ1.cells.reverse τ1.left = drawR τ.cells.reverse τ.left, ⟨_, τ, rfl, rfl, g0, Nat.le_refl _, rfl, rfl, rfl, rfl⟩, ?_⟩
    rintro m σ H1 ⟨τ1, rfl, rfl, g1, hlen, hmix, htu, hsl, hdr⟩
    -- what is behind the loop
    have out : ∀ (hd : drawR τ.cells.reverse τ.left = (τ1.cells.reverse, τ1.left)), tSeq (tAsg (tFld "left") (gName 3))
          (tSeq (tIfS (tTest (tOp rGt2 (tVar 3) (tC (V.int 1)))) (tSeq (sDPut (tVar 0) (tC (V.str "left")) (tOp rDiv2 (tVar 3) (tVar 1))) (tRet (tOp rMod2 (tInt1 (tVar 3)) (tVar 1)))) tNext)
            tLap) { nx := fun _ H' => Q .non H', rt := Q } [some (.ref p), some (.int most), some (.ref c), none, none, none] H1 := by
      intro hd
      rw [hd] at e
      simp only [List.reverse_reverse] at e
      refine ⟨.ref p, rfl, p, _, rfl, g1.dL, ?_⟩
      by_cases hgt : 1 < τ1.left
      · rw [if_pos hgt] at e
        simp only [Option.some.injEq, Prod.mk.injEq] at e
        obtain ⟨rfl, rfl⟩ := e
        refine ⟨_, rfl, _, _, rfl, rfl, true, by simp [hgt], iteT ?_⟩
        obtain ⟨H2, hput, g2⟩ := g1.putL (τ1.left / most)
        refine ⟨_, rfl, _, rfl, _, _, rfl, rfl, ⟨by omega, hlog⟩, .ref p, rfl, p, H2, rfl, hput, ?_⟩
        refine ⟨_, rfl, .inl ⟨_, rfl, _, rfl, _, _, rfl, rfl, by omega, ?_⟩⟩
        refine fin _ H2 _ ?_ g2 ⟨rfl, ?_⟩
        · exact hlen
        · rw [← hmix, ← htu, ← hsl]
      · rw [if_neg hgt] at e
        refine ⟨_, rfl, _, _, rfl, rfl, false, by simp [hgt], iteF ?_⟩
        have e' : nextLap τ1 τ1.left τ1.cells most = some (d, τ') := by
          rw [← e]
          unfold nextLap
          rw [hmix, htu]
          cases τ1
          cases τ
          simp only at hsl hmix htu
          subst hsl hmix htu
          rfl
        refine lap_read g1 (by omega) e' fun r H2 hr g2 => fin r H2 τ' ?_ g2 ⟨hr, rfl⟩
        unfold nextLap at e'
        split at e'
        · cases e'; exact hlen
        · cases e'
    refine ⟨.ref p, rfl, p, _, rfl, g1.dL, _, _, rfl, rfl, _, rfl, ?_⟩
    by_cases hlt : τ1.left < 2
    · rw [decide_eq_true hlt]
      refine iteT ⟨_, rfl, c, _, rfl, .inl (.of g1.hc), _, _, rfl, rfl, _, rfl, ?_⟩
      rw [List.length_map]
      by_cases hz : τ1.cells = []
      · rw [hz]
        refine iteF (out ?_)
        rw [← hdr, hz]
        rfl
      · obtain ⟨init, last, hcs⟩ : ∃ init last, τ1.cells = init ++ [last] := ⟨τ1.cells.dropLast, τ1.cells.getLast hz, (List.dropLast_concat_getLast hz).symm⟩
        have hpos : (0 : Int) < (τ1.cells.length : Int) := by rw [hcs, List.length_append]; simp
        rw [decide_eq_true hpos]
        refine iteT ⟨fun σ' H' => ∃ τ2, σ' = [some (.ref p), some (.int most), some (.ref c), none, none, none] ∧ τ2.cells = init ∧ Gs H p c H' τ2 ∧ τ2.mixed = τ.mixed ∧ τ2.turn = τ.turn ∧ τ2.slot = τ.slot ∧ τ2.left = last, fun σ' H' hN => ?_, ?_⟩
        · obtain ⟨τ2, rfl, hc2, g2, n1, n2, n3, n4⟩ := hN
          refine ⟨_, ?_, τ2, rfl, rfl, g2, ?_, n1, n2, n3, ?_⟩
          · rw [hc2, hcs, List.length_append]; simp
          · rw [hc2]; rw [hcs, List.length_append] at hlen; omega
          · rw [← hdr, hc2, n4, hcs, List.reverse_append]
            have hd : drawR (last :: init.reverse) τ1.left = drawR init.reverse last := by simp only [drawR, if_pos hlt]
            exact hd.symm
        · have g2 := g1.pop init
          obtain ⟨H2, hput, g3⟩ := g2.putL last
          refine ⟨.ref c, rfl, .inl ⟨rfl, _, .of g1.hc⟩, c, _, .int last, rfl, rfl, g1.hc, ?_, ?_⟩
          · rw [hcs, List.map_append, List.length_append, List.length_map]
            simp
          · have ed : (τ1.cells.map V.int).dropLast = init.map V.int := by rw [hcs, List.map_append]; simp
            rw [ed]
            exact ⟨.ref p, rfl, p, H2, rfl, hput, _, rfl, rfl, g3, hmix, htu, hsl, rfl⟩
    · rw [decide_eq_false hlt]
      refine iteF (out ?_)
      rw [← hdr]
      cases hz : τ1.cells.reverse with
      | nil => rfl
      | cons x xs => unfold drawR; rw [if_neg hlt]
end DL

/-! DLq: the source opened; the law's own def; the end of a law row. -/
namespace DL
open PySem PySem.Spec PyProof.Rows L2

def stir1 (s c : Int) : Int := (s * 69069 + c * 31 + 5) % 2147483629
def stir (ns : List Int) : Int := ns.foldl stir1 11
def absI (i : Int) : Int := if i < 0 then -i else i
def srcOf (ns : List Int) : Src := ⟨some 1, (ns.map absI).reverse, 1, stir ns, 0⟩
/-- the script's numbers: as many as a list has, none too big -/
def OkNs (ns : List Int) : Prop := ns.length ≤ sizeLine ∧ ∀ n ∈ ns, n.natAbs.log2 ≤ 1048576
def spO (K : PySem.W.Frag) : Sp := fun vs H Q _ => ∃ a ns, vs = [.ref a] ∧ SqL K H a (ns.map V.int) ∧ OkNs ns ∧
  ∀ H' p c, Same H H' → SrcOk (some (1, p, c)) H H' (srcOf ns) → Q (.ref p) H'
abbrev rAbs1 : List V → Hp → VK → Prop := fun xs H Q => ∃ i, xs = [.int i] ∧ Q (.int (if i < 0 then -i else i)) H
abbrev tStir : TS := tAsg (tOp rMod2 (tInt1 (tOp rAdd2 (tOp rAdd2 (tOp rMul2 (tVar 1) (tC (V.int 69069))) (tOp rMul2 (tVar 2) (tC (V.int 31)))) (tC (V.int 5)))) (tC (V.int 2147483629))) (gName 1)
abbrev tOpen (K : PySem.W.Frag) : TS := tSeq (tAsg (tC (V.int 11)) (gName 1)) (tSeq (tFor (iList K (tVar 0)) (gName 2) tStir)
  (tSeq (tAsg (tLc (iList K (tVar 0)) (gName 2) tYes (tCB rAbs1 (tCons (tVar 2) tNil)) [2]) (gName 3))
    (tRet (tDisp [(tC (V.str "cells"), tRevL K (tVar 3)), (tC (V.str "left"), tC (V.int 1)), (tC (V.str "mixed"), tVar 1), (tC (V.str "turn"), tC (V.int 0))]))))
theorem stir1_lo (s c : Int) : 0 ≤ stir1 s c := Int.emod_nonneg _ (by decide)
theorem stir1_hi (s c : Int) : stir1 s c < 2147483629 := Int.emod_lt_of_pos _ (by decide)
theorem stir_in : ∀ (ns : List Int) (s : Int), 0 ≤ s → s < 2147483629 → 0 ≤ ns.foldl stir1 s ∧ ns.foldl stir1 s < 2147483629
  | [], s, h0, h1 => ⟨h0, h1⟩
  | n :: ns, s, _, _ => stir_in ns _ (stir1_lo s n) (stir1_hi s n)
theorem big_mul {c : Int} (hc : c.natAbs.log2 ≤ 1048576) : CMulX c 31 := mulx_ok (a := c.natAbs.log2 + 1) (b := 5) Nat.lt_log2_self (by decide) (by omega)
theorem open_read {K : PySem.W.Frag} {vs : List V} {H : Hp} {Q : VK} (h : spO K vs H Q E0) : tOpen K { nx := fun _ H' => Q .non H', rt := Q } (L2.start ["script", "stirred", "cell", "cells"] vs) H := by
  obtain ⟨a, ns, rfl, hq, ⟨hlen, hb⟩, q⟩ := h
  show tOpen K _ [some (.ref a), none, none, none] H
  refine ⟨.ref a, rfl, a, rfl, ⟨_, hq⟩, for_list (fun i σ H1 => H1 = H ∧ ∃ y, σ = [some (.ref a), some (.int ((ns.take i).foldl stir1 11)), y, none]) ⟨rfl, none, rfl⟩ (fun i σ H1 _ p => by rw [p.1]; exact hq) ?_ ?_⟩
  · rintro i x σ H1 hx ⟨rfl, y, rfl⟩
    rw [List.getElem?_map] at hx
    obtain ⟨n, hn, rfl⟩ := Option.map_eq_some_iff.mp hx
    obtain ⟨s0, s1⟩ := stir_in (ns.take i) 11 (by decide) (by decide)
    have m1 : CMulX ((ns.take i).foldl stir1 11) 69069 := mulx_ok (a := 31) (b := 17) (by omega) (by decide) (by decide)
    have m2 := big_mul (hb n (List.mem_of_getElem? hn))
    refine ⟨_, rfl, _, _, rfl, rfl, m1, _, rfl, _, _, rfl, rfl, m2, _, _, rfl, rfl, _, _, rfl, rfl, .inl ⟨_, rfl, _, _, rfl, rfl, (show (0 : Int) < 2147483629 by decide), rfl, some (.int n), ?_⟩⟩
    rw [List.take_add_one, hn, List.foldl_append]
    rfl
  · rintro σ H ⟨rfl, y, rfl⟩
    rw [List.length_map, List.take_length]
    -- cells = [abs(cell) for cell in script]
    refine ⟨.ref a, rfl, a, rfl, ⟨_, hq⟩, fun L hL => lc_list (fun i H1 => Same H H1 ∧ H1 L = some (.lst (((ns.take i).map absI).map V.int))) ⟨same_new hL, upd_same⟩ (fun i H1 _ p => p.1.seq hq) ?_ ?_⟩
    · rintro i x H1 hx ⟨sm, hl⟩
      rw [List.getElem?_map] at hx
      obtain ⟨n, hn, rfl⟩ := Option.map_eq_some_iff.mp hx
      refine ⟨rfl, ?_⟩
      unfold tYes
      refine Eq.mpr (if_pos rfl) ?_
      refine ⟨_, rfl, n, rfl, _, hl, ?_, ?_, ?_⟩
      · rw [List.length_map, List.length_map, List.length_take]
        have hi := (List.getElem?_eq_some_iff.mp hn).1
        omega
      · exact fun b o e => by rw [upd_ne (ne_of_none e hL)]; exact sm b o e
      · rw [upd_same, List.take_add_one, hn, List.map_append, List.map_append]
        rfl
    · rintro H3 ⟨sm, hl⟩
      rw [List.length_map, List.take_length] at hl
      refine fun p hp => ⟨.ref L, rfl, L, _, rfl, .of (by rw [upd_ne (ne_of_none hl hp)]; exact hl), fun c hc => ?_⟩
      have cp : c ≠ p := fun z => by rw [z, upd_same] at hc; cases hc
      have hc3 : H3 c = none := by rw [upd_ne cp] at hc; exact hc
      refine ⟨_, rfl, by rw [upd_ne (Ne.symm cp), upd_same], [(.inr "cells", .ref c), (.inr "left", .int 1), (.inr "mixed", .int (stir ns)), (.inr "turn", .int 0)], rfl, by simp, ?_⟩
      have em : mergeK [] [((.inr "cells" : Key), V.ref c), (.inr "left", .int 1), (.inr "mixed", .int (stir ns)), (.inr "turn", .int 0)] = [(.inr "cells", .ref c), (.inr "left", .int 1), (.inr "mixed", .int (stir ns)), (.inr "turn", .int 0)] := rfl
      rw [em]
      have hp0 : H p = none := sm.free hp
      have hc0 : H c = none := sm.free hc3
      refine q _ p c (fun b o e => ?_) fun i p' c' z => ?_
      · have e3 := sm b o e
        rw [upd_ne (ne_of_none e3 hp), upd_ne (ne_of_none e3 hc3), upd_ne (ne_of_none e3 hp)]; exact e3
      · cases z
        refine ⟨upd_same, ?_, ?_, hp0, hc0⟩
        · rw [upd_ne cp, upd_same]
          show _ = some (HO.lst ((ns.map absI).reverse.map V.int))
          rw [List.map_reverse]
        · show ((ns.map absI).reverse).length ≤ sizeLine
          rw [List.length_reverse, List.length_map]; exact hlen
end DL

/-! DLr: the law's own def, and the end of a law row for promises under no guard. -/
namespace DL
open PySem PySem.Spec PyProof.Rows L2

/-- the def that opens the source is there -/
structure HasO (P : Program) (w : World) (K : PySem.W.Frag) (mg : Str → Option Value) (base : Heap) (k : Nat) : Prop where
  ex : ∃ (f : Addr) (fd : FuncData), FnG P w K mg base k f fd ["script"] (spO K) ∧ mg "_law_open_cells" = some (.ref f) ∧ PySem.W.keepIn K (.ref f) = true ∧ Binds K fd ["script"] []
section
variable {P : Program} {w : World} {K : PySem.W.Frag} {mg : Str → Option Value} {base : Heap} {j k : Nat}
theorem HasO.mono (h : HasO P w K mg base j) (hj : j ≤ k) : HasO P w K mg base k := ⟨let ⟨f, fd, h2, h3⟩ := h.ex; ⟨f, fd, h2.mono hj, h3⟩⟩
theorem has_O {f : Addr} {fd : FuncData} {st : Stmt} (F : Fun K "_law_open_cells" "_law_open_cells" st f fd) (S : FnScope ["script", "stirred", "cell", "cells"] ["script"] (defScope st)) (b : Binds K fd ["script"] []) (hm : mg "_law_open_cells" = some (.ref f))
    (body : ∀ (cdv : Value) (A : Around) (outer : List Env) (s : Shared) (H : Hp), Room k (A.deeper (envOfC "_law_open_cells" (defScope st) s.heap.objs.size f cdv)) →
      PSs (cxOf CX0 P w K mg base ["script", "stirred", "cell", "cells"] "_law_open_cells" (defScope st) f cdv A outer s H E0).nox (defBody st) (tOpen K)) : HasO P w K mg base (k + 1) :=
  ⟨f, fd, fnG_of F S (fun vs H Q ⟨a, ns, e, _⟩ => by rw [e]; rfl) fun cdv A outer s H vs Q hr hg hsp => ⟨_, body cdv A outer s H hr, open_read hsp⟩, hm, F.kp, b⟩
theorem has_pick {f : Addr} {fd : FuncData} {st : Stmt} (F : Fun K "_law_pick" "_law_pick" st f fd) (S : FnScope ["source", "most", "cells", "others", "lap", "stirred"] ["source", "most"] (defScope st)) (b : Binds K fd ["source", "most"] []) (hm : mg "_law_pick" = some (.ref f))
    (body : ∀ (cdv : Value) (A : Around) (outer : List Env) (s : Shared) (H : Hp), Room k (A.deeper (envOfC "_law_pick" (defScope st) s.heap.objs.size f cdv)) →
      PSs (cxOf CX0 P w K mg base ["source", "most", "cells", "others", "lap", "stirred"] "_law_pick" (defScope st) f cdv A outer s H E0).nox (defBody st) (tPick K)) : HasS P w K mg base (k + 1) "_law_pick" 2 mPick :=
  ⟨⟨f, fd, ["source", "most"], rfl, fnG_of F S (fun vs H Q ⟨_, _, _, us, _, _, _, _, e, h, _⟩ => by rw [e]; exact h) fun cdv A outer s H vs Q hr hg hsp => ⟨_, body cdv A outer s H hr, pick_read hsp⟩, hm, F.kp, b⟩, mPick_len⟩
end
section
variable {X : Cx} {k : Nat} {e : Expr} {te : TE} {p pos : Pos}
theorem pe_open (h : HasO X.prog X.w X.K X.mg X.base k) (hr : Room k X.A) (hd : X.A.guards = some []) (hg : Gl X "_law_open_cells") (ha : PE X e te) (he : starEach [e] X.env = (false, eval e X.env) :: starEach [] X.env := by rfl) :
    PE X (.Call (.Name "_law_open_cells" p) [e] [] pos) (tCall (spO X.K) [] E0 (tCons te tNil)) := by
  obtain ⟨f, fd, F, hm, hk, hb⟩ := h.ex
  exact pe_callG F hr hd hg hm hk hb (pa_cons ha pa_nil he) (by decide) he rfl
end

/-- the law's def: the first statement opens the source, g mirrors the rest -/
def lawGo (n : Nat) (g : Stm) (ns : List Int) : Prop := ∃ ρ' τ', g (.no :: .src :: List.replicate (n - 2) .no) (srcOf ns) = some (.rt (.bool true), ρ', τ')
def spLaw (K : PySem.W.Frag) (n : Nat) (g : Stm) : Sp := fun vs H Q _ => ∃ a ns, vs = [.ref a] ∧ SqL K H a (ns.map V.int) ∧ OkNs ns ∧ lawGo n g ns ∧ ∀ H', Q (.bl true) H'
section
variable {P : Program} {w : World} {K : PySem.W.Frag} {mg : Str → Option Value} {base : Heap} {k : Nat}
theorem law_G {f : Addr} {fd : FuncData} {st : Stmt} {N : List Str} {g : Stm} (F : Fun K "law" "law" st f fd) (S : FnScope N ["script"] (defScope st)) (hN : 2 ≤ N.length)
    (body : ∀ (cdv : Value) (A : Around) (outer : List Env) (s : Shared) (H : Hp), Room k (A.deeper (envOfC "law" (defScope st) s.heap.objs.size f cdv)) → A.guards = some [] →
      ∃ st0 rest, defBody st = st0 :: rest ∧ PS (cxOf CX0 P w K mg base N "law" (defScope st) f cdv A outer s H E0).nox st0 (tAsg (tCall (spO K) [] E0 (tCons (tVar 0) tNil)) (gName 1)) ∧
        DSs (cxOf CX0 P w K mg base N "law" (defScope st) f cdv A outer s H E0).nox rest g) : FnG P w K mg base (k + 1) f fd ["script"] (spLaw K N.length g) := by
  refine fnG_of F S (fun vs H Q ⟨a, ns, e, _⟩ => by rw [e]; rfl) fun cdv A outer s H vs Q hr hg hsp => ?_
  obtain ⟨st0, rest, eb, h1, h2⟩ := body cdv A outer s H hr hg
  refine ⟨tSeq (tAsg (tCall (spO K) [] E0 (tCons (tVar 0) tNil)) (gName 1)) (tS g), by rw [eb]; exact pss_cons h1 h2, ?_⟩
  obtain ⟨a, ns, rfl, hq, ok, ⟨ρ', τ', hgo⟩, q⟩ := hsp
  have es : L2.start N [.ref a] = some (.ref a) :: none :: List.replicate (N.length - 2) none := by
    obtain ⟨m, hm⟩ : ∃ m, N.length = m + 2 := ⟨N.length - 2, by omega⟩
    unfold L2.start
    rw [hm]
    rfl
  rw [es]
  refine ⟨.ref a, rfl, a, ns, rfl, hq, ok, fun H' p c sm ks => ?_⟩
  refine ⟨H, H, H, some (1, p, c), .no :: .src :: List.replicate (N.length - 2) .no, srcOf ns, .rt (.bool true), ρ', τ', ⟨⟨Same.refl _, fun b o e _ => sm b o e, fun b e => ?_, fun b e _ => e⟩, sm, by simp, fun i d h => ?_, fun i d h => ?_, fun i j d e b _ h => ?_, ks, rfl, fun i p' c' z => ?_⟩, hgo, ?_⟩
  · cases z : H b with
    | none => exact absurd z e
    | some o => exact nn_of (sm b o z)
  · match i, h with
    | 0, h => cases h
    | 1, h => cases h
    | i + 2, h => rw [List.getElem?_cons_succ, List.getElem?_cons_succ, List.getElem?_replicate] at h; split at h <;> cases h
  · match i, h with
    | 0, h => cases h
    | 1, h => cases h
    | i + 2, h => rw [List.getElem?_cons_succ, List.getElem?_cons_succ, List.getElem?_replicate] at h; split at h <;> cases h
  · match i, h with
    | 0, h => cases h
    | 1, h => cases h
    | i + 2, h => rw [List.getElem?_cons_succ, List.getElem?_cons_succ, List.getElem?_replicate] at h; split at h <;> cases h
  · cases z
    exact ⟨by omega, rfl, rfl⟩
  · intro F1 H1 v x1 s1 k1 r1
    cases r1
    exact q H1
end

/-! ### the end of a row -/
theorem row_end {P : Program} {w : World} {K : PySem.W.Frag} {mg mb : Str → Option Value} {k : Nat} {fa a : Addr} {fd : FuncData} {sp : Sp} {sh : Shared} {us : List Value} {ns : List Int}
    (kin : K.In sh.heap) (gl : sh.heap.Ns mainGlobals mg) (bl : sh.heap.Ns builtinsNs mb) (bt : ∀ y : Str, y ≠ "__name__" → mb y = bootBuiltins y) (nl : sh.heap.NoLimit) (ge : sh.gens = #[])
    (at_ : sh.heap.get? a = some { cls := .type "list", data := .seq us.toArray }) (ii : IntsAre us ns) (len : ns.length ≤ sizeLine) (room : Room k callerA)
    (G : ∀ base : Heap, K.In base → base.Ns mainGlobals mg → FnG P w K mg base k fa fd ["script"] sp) (bi : ∀ (s : Shared) (u : Value), BindsTo s fd ⟨[u], []⟩ [("script", u)])
    (yes : ∀ H : Hp, SqL K H a (ns.map V.int) → sp [.ref a] H (fun v _ => v = .bl true) E0) :
    codeAny (model P w) callerA (.call (.ref fa) ⟨[.ref a], []⟩) (fun r s2 => r = .ok (.ret (.bool true)) ∧ OldK sh.heap s2.heap ∧ s2.os = sh.os ∧ AllBare s2.gens) sh := by
  have vv := vals_ints ii
  have main : ∀ H : Hp, Only H → SqL K H a (ns.map V.int) → HOk P w H sh.heap → (∀ b, H b ≠ none → b = a) → (H a ≠ none → K.lookup a = none) →
      codeAny (model P w) callerA (.call (.ref fa) ⟨[.ref a], []⟩) (fun r s2 => r = .ok (.ret (.bool true)) ∧ OldK sh.heap s2.heap ∧ s2.os = sh.os ∧ AllBare s2.gens) sh := by
    intro H only seq ok just notK
    have notD : ∀ {b : Addr} {ob : Obj} {es : Array DictEntry} {ep : Nat}, sh.heap.get? b = some ob → ob.data = .dict es ep → H b = none := fun {b ob es ep} e d => Classical.byContradiction fun z => by
      have ba := just b z
      rw [ba, at_] at e
      cases e
      cases (d : Data.seq us.toArray _ = Data.dict es ep)
    have ns2 : ∀ {b : Addr} {m : Str → Option Value}, sh.heap.Ns b m → (hidT sh.heap H).Ns b m := fun {b m} h => by
      obtain ⟨ob, es, ep, e, d, r⟩ := h
      exact ⟨ob, es, ep, hidT_get e (notD e d), d, r⟩
    have kin2 : K.In (hidT sh.heap H) := fun b ob e => hidT_get (kin b ob e) (Classical.byContradiction fun z => by
      have ba := just b z
      rw [ba] at e z
      rw [notK z] at e
      cases e)
    have limit : (hidT sh.heap H).NoLimit := by
      obtain ⟨mc, q1, q2⟩ := nl
      exact ⟨mc, ns2 q1, q2⟩
    have env : Env0 P w K mg (hidT sh.heap H) callerA [] sh H := ⟨rfl, ⟨kin2, ns2 gl, ⟨mb, ns2 bl, bt⟩, limit⟩, fun b ob e => of_hidT e, Nat.le_of_eq (hidT_size _ _), trivial, fun b hb => (List.not_mem_nil hb).elim, ok, .of_eq ge⟩
    refine codeAny_mono ((G _ kin2 (ns2 gl)).run callerA [] sh H ⟨[.ref a], []⟩ [.ref a] [.ref a] _ room rfl env (bi sh (.ref a)) (.cons rfl .nil) (yes H seq)) fun r s2 h => ?_
    match r, h with
    | .error e, h => exact h.elim
    | .ok .next, h => exact h.elim
    | .ok .brk, h => exact h.elim
    | .ok .cont, h => exact h.elim
    | .ok (.ret u), h =>
      obtain ⟨v, H2, eos, bare, un, ok2, rv, ev⟩ := h
      have ev2 : v = .bl true := ev
      rw [ev2] at rv
      have eu : u = Value.bool true := rv
      rw [eu]
      refine ⟨rfl, OldK.of_keep fun b ob e => ?_, eos, bare⟩
      rcases only b with z | ⟨o2, xs, z⟩
      · exact un.keep b ob e z (fun m => (List.not_mem_nil m).elim) (fun m => (List.not_mem_nil m).elim)
      · have e1 := (ok b _ z).1
        have e2 := (ok2 b _ (un.frzs b o2 _ z)).1
        rw [e] at e1
        cases e1
        exact e2
  cases hk : K.lookup a with
  | some ob =>
    have eo := kin a ob hk
    rw [at_] at eo
    cases eo
    exact main (fun _ => none) (fun _ => .inl rfl) (.inr ⟨_, us.toArray, _, hk, rfl, rfl, rfl, by rw [List.size_toArray, ii.length]; exact len, by simpa using vv⟩) (fun b u z => nomatch z) (fun b z => (z rfl).elim) fun z => (z rfl).elim
  | none =>
    have same : ∀ b, b ≠ a → (if b = a then some (HO.frz { cls := .type "list", data := .seq us.toArray } (.lst (ns.map V.int))) else none) = none := fun b h => if_neg h
    refine main (fun b => if b = a then some (.frz { cls := .type "list", data := .seq us.toArray } (.lst (ns.map V.int))) else none) (fun b => ?_) (.inl (.inr ⟨{ cls := .type "list", data := .seq us.toArray }, if_pos rfl⟩)) (fun b u z => ?_) (fun b z => Classical.byContradiction fun h => z (same b h)) fun _ => hk
    · rcases Classical.em (b = a) with h | h
      · exact .inr ⟨_, _, if_pos h⟩
      · exact .inl (if_neg h)
    · rcases Classical.em (b = a) with h | h
      · cases (if_pos h).symm.trans z
        rw [h]
        exact ⟨at_, by rw [List.length_map]; exact len, us, _, vv, at_⟩
      · cases (if_neg h).symm.trans z
theorem bits_log {z : Int} (h : Builtin.Int.intBits z ≤ 1048576) : z.natAbs.log2 ≤ 1048576 := by
  unfold Builtin.Int.intBits at h
  split at h
  · rename_i h0
    have : z = 0 := by simpa using h0
    subst this
    decide
  · omega
theorem row_walk {l : PySem.W.OpenLaw} {k : Nat} {q : Program} {loose : List Str} {XP : (Str → Option Value) → Heap → Prop} {YP : World → Heap → Prop} {d : DefRec} {K : Params → PySem.W.Frag} {n : Nat} {g : Stm}
    (h63 : l.most = some 63) (nodef : d.params.defaults = []) (room : Room k callerA) (kin : ∀ (w : World) (h : Heap), YP w h → (K w.params).In h)
    (G : ∀ (w : World) (mg : Str → Option Value) (fa : Addr) (h : Heap), (K w.params).In h → h.Ns mainGlobals mg → mg d.name = some (.ref fa) →
      ∃ fd : FuncData, (∀ (s : Shared) (u : Value), BindsTo s fd ⟨[u], []⟩ [("script", u)]) ∧ ∀ base : Heap, (K w.params).In base → base.Ns mainGlobals mg → FnG l.prog w (K w.params) mg base k fa fd ["script"] (spLaw (K w.params) n g))
    (plain : ∀ ns : List Int, ns.length ≤ 63 → OkNs ns → lawGo n g ns) : PySem.W.WalkO q loose XP YP l.row.toRowW d [] (fun f vs => PySem.call f vs) := by
  refine Att.attach_callB h63 nodef fun w s0 s1 mg mb fa o pm cd doc a us ns Gd Y _ _ _ hmg obj itg len bits gens => ?_
  have kin1 := kin w _ Y
  obtain ⟨fd, bi, hF⟩ := G w mg fa _ kin1 Gd.T.g hmg
  have l63 : ns.length ≤ sizeLine := Nat.le_trans len (by rw [sizeLine_eq]; decide)
  have ok : OkNs ns := ⟨l63, fun z hz => bits_log (bits z hz)⟩
  exact row_end kin1 Gd.T.g Gd.T.b Gd.T.builtins Gd.T.nolimit gens obj itg l63 room hF bi fun H seq => ⟨a, ns, rfl, seq, ok, plain ns len ok, fun _ => rfl⟩
end DL

/-! PL: tools to say what mirrors give, in plain Lean. -/
namespace DL
open PySem PySem.Spec

/-! ### evaluation -/
def okY : Sl → Bool
  | .src => false
  | _ => true
@[simp] theorem okY_no : okY .no = true := rfl
@[simp] theorem okY_dat (d : D) : okY (.dat d) = true := rfl
@[simp] theorem okY_own (d : D) : okY (.own d) = true := rfl
section
variable {α β : Type} {η : EnvD} {τ : Src} {ρ : EnvS}
@[simp] theorem mPure_ev (a : α) : mPure a η τ = some (a, τ) := rfl
@[simp] theorem mBind_ev (f : M α) (g : α → M β) : mBind f g η τ = match f η τ with | some (a, τ1) => g a η τ1 | none => none := rfl
@[simp] theorem mLift_ev (o : Option α) : mLift o η τ = match o with | some a => some (a, τ) | none => none := rfl
@[simp] theorem mVar_ev (i : Nat) : mVar i η τ = match η[i]? with | some (some d) => some (d, τ) | _ => none := rfl
@[simp] theorem mOp2_ev (o : D → D → Option D) (f g : M D) : mOp2 o f g = mBind f fun x => mBind g fun y => mLift (o x y) := rfl
@[simp] theorem mOp1_ev (o : D → Option D) (f : M D) : mOp1 o f = mBind f fun x => mLift (o x) := rfl
@[simp] theorem mOpL_ev (o : List D → Option D) (f : M (List D)) : mOpL o f = mBind f fun x => mLift (o x) := rfl
@[simp] theorem mBool_ev (f : M D) : mBool f = mBind f fun x => mLift (bOf x) := rfl
@[simp] theorem mNil_ev : mNil = mPure [] := rfl
@[simp] theorem mCons_ev (f : M D) (g : M (List D)) : mCons f g = mBind f fun x => mBind g fun xs => mPure (x :: xs) := rfl
@[simp] theorem mStar_ev (f : M D) (g : M (List D)) : mStar f g = mBind f fun x => mBind (mLift (seqOf x)) fun ds => mBind g fun xs => mPure (ds ++ xs) := rfl
@[simp] theorem mTup_ev (g : M (List D)) : mTup g = mBind g fun xs => mLift ((okLen xs).map PyData.tuple) := rfl
@[simp] theorem mLst_ev (g : M (List D)) : mLst g = mBind g fun xs => mLift (okLen xs) := rfl
@[simp] theorem mOfN_ev (g : M (List D)) : mOfN g = mBind g fun xs => mPure (.list xs) := rfl
@[simp] theorem mListOf_ev (f : M D) : mListOf f = mBind f fun x => mLift (seqOf x) := rfl
@[simp] theorem mItems_ev (f : M D) : mItems f = mBind f fun x => mLift (seqOf x) := rfl
@[simp] theorem mTrue_ev : mTrue = mPure true := rfl
@[simp] theorem seqOf_list (ds : List D) : seqOf (.list ds) = some ds := rfl
@[simp] theorem seqOf_tuple (ds : List D) : seqOf (.tuple ds) = some ds := rfl
@[simp] theorem bOf_bool (b : Bool) : bOf (.bool b) = some b := rfl
@[simp] theorem iOf_int (i : Int) : iOf (.int i) = some i := rfl
@[simp] theorem see_dat (b : Bool) (d : D) : see b (.dat d) = some d := rfl
@[simp] theorem see_no (b : Bool) : see b .no = none := rfl
@[simp] theorem see_src (b : Bool) : see b .src = none := rfl
@[simp] theorem see_ownT (d : D) : see true (.own d) = some d := rfl
@[simp] theorem see_ownF (d : D) : see false (.own d) = none := rfl
@[simp] theorem okD_F (d : D) : okD false d = true := rfl
@[simp] theorem okA_F (d : List D) : okA false d = true := rfl
@[simp] theorem okD_int (b : Bool) (i : Int) : okD b (.int i) = true := by simp [okD, pureD]
@[simp] theorem okD_bool (b : Bool) (i : Bool) : okD b (.bool i) = true := by simp [okD, pureD]
@[simp] theorem okA_nil (b : Bool) : okA b [] = true := by simp [okA, pureA]
theorem pureA_ints : ∀ xs : List Int, pureA (xs.map .int) = true
  | [] => by simp [pureA]
  | x :: xs => by simp [pureA, pureD, pureA_ints xs]
@[simp] theorem okA_ints (b : Bool) (xs : List Int) : okA b (xs.map .int) = true := by simp [okA, pureA_ints]
@[simp] theorem okD_ints (b : Bool) (xs : List Int) : okD b (.tuple (xs.map .int)) = true := by simp [okD, pureD, pureA_ints]
@[simp] theorem okSet_ev (i : Nat) : okSet ρ i = match ρ[i]? with | some s => okY s | none => false := by
  unfold okSet
  cases ρ[i]? with
  | none => rfl
  | some s => cases s <;> rfl
@[simp] theorem okLen_nil : okLen [] = some [] := by simp [okLen]
@[simp] theorem mIf_ev (f : M Bool) (u v : M D) : mIf f u v = mBind f fun b => if b = true then u else v := rfl
@[simp] theorem mAnd_ev (f g : M Bool) : mAnd f g = mBind f fun b => if b = true then g else mPure false := rfl
@[simp] theorem mOr_ev (f g : M Bool) : mOr f g = mBind f fun b => if b = true then mPure true else g := rfl
@[simp] theorem mNot_ev (f : M Bool) : mNot f = mBind f fun b => mPure (!b) := rfl
@[simp] theorem mNoPart_ev : mNoPart = mPure none := rfl
@[simp] theorem mPart_ev (f : M D) : mPart f = mBind f fun x => mLift ((iOf x).map some) := rfl
@[simp] theorem mSlice_ev (f : M D) (l h : M (Option Int)) : mSlice f l h = mBind f fun x => mBind l fun lo => mBind h fun hi => mLift (dCut x lo hi) := rfl
@[simp] theorem mRange1_ev (f : M D) : mRange1 f = mBind f fun x => mLift ((iOf x).bind fun n => rangeD 0 n) := rfl
@[simp] theorem mRange2_ev (f g : M D) : mRange2 f g = mBind f fun x => mBind g fun y => mLift ((iOf x).bind fun i => (iOf y).bind fun j => rangeD i j) := rfl
@[simp] theorem mRg1_ev (f : M D) : mRg1 f = mBind f fun x => mLift ((iOf x).map fun n => ((0 : Int), n)) := rfl
@[simp] theorem mRg2_ev (f g : M D) : mRg2 f g = mBind f fun x => mBind g fun y => mLift ((iOf x).bind fun i => (iOf y).map fun j => (i, j)) := rfl
@[simp] theorem mTupRg_ev (r : M (Int × Int)) : mTupRg r = mBind r fun x => mLift ((rangeD x.1 x.2).map .tuple) := rfl
@[simp] theorem mLstRg_ev (r : M (Int × Int)) : mLstRg r = mBind r fun x => mLift (rangeD x.1 x.2) := rfl
@[simp] theorem mSkip_ev : mSkip ρ τ = some (.nx, ρ, τ) := rfl
@[simp] theorem mRet_ev (f : M D) : mRet f ρ τ = match f (view true ρ) τ with | some (d, τ') => some (.rt d, ρ, τ') | none => none := rfl
@[simp] theorem mSet_ev (b : Bool) (i : Nat) (f : M D) : mSet b i f ρ τ = match f (view b ρ) τ with | some (d, τ') => if okSet ρ i && okD b d then some (.nx, ρ.set i (.dat d), τ') else none | none => none := rfl
@[simp] theorem mSetN_ev (b : Bool) (i : Nat) (f : M (List D)) : mSetN b i f ρ τ = match f (view b ρ) τ with | some (d, τ') => if okSet ρ i && okA b d then some (.nx, ρ.set i (.own (.list d)), τ') else none | none => none := rfl
@[simp] theorem mApp_ev (b : Bool) (i : Nat) (f : M D) : mApp b i f ρ τ = match f (view b ρ) τ with
  | some (d, τ') => (match ρ[i]? with
    | some (.own (.list ds)) => if okD b d && decide (ds.length < sizeLine) then some (.nx, ρ.set i (.own (.list (ds ++ [d]))), τ') else none
    | _ => none)
  | none => none := rfl
@[simp] theorem mExt_ev (b : Bool) (i : Nat) (f : M D) : mExt b i f ρ τ = match f (view b ρ) τ with
  | some (.list es, τ') => (match ρ[i]? with
    | some (.own (.list ds)) => if okA b es && decide (ds.length + es.length ≤ sizeLine) then some (.nx, ρ.set i (.own (.list (ds ++ es))), τ') else none
    | _ => none)
  | _ => none := rfl
@[simp] theorem mSetIx_ev (b : Bool) (i : Nat) (f k : M D) : mSetIx b i f k ρ τ = match f (view b ρ) τ with
  | some (d, τ1) => (match k (view b ρ) τ1 with
    | some (.int n, τ2) => (match ρ[i]? with
      | some (.own (.list ds)) => (match L2.ixN ds.length n with
        | some j => if okD b d then some (.nx, ρ.set i (.own (.list (ds.set j d))), τ2) else none
        | none => none)
      | _ => none)
    | _ => none)
  | none => none := rfl
@[simp] theorem mIfS_ev (c : M Bool) (g h : Stm) : mIfS c g h ρ τ = match c (view true ρ) τ with | some (b, τ') => if b = true then g ρ τ' else h ρ τ' | none => none := rfl
@[simp] theorem mVNil_ev : mVNil = mPure [] := rfl
@[simp] theorem mVDat_ev (f : M D) (g : M (List Sl)) : mVDat f g = mBind f fun x => mBind g fun xs => mPure (.dat x :: xs) := rfl
@[simp] theorem mVOwn_ev (f : M (List D)) (g : M (List Sl)) : mVOwn f g = mBind f fun x => mBind g fun xs => mPure (.own (.list x) :: xs) := rfl
@[simp] theorem mPar_ev (b : Bool) (is : List Nat) (f : M (List Sl)) : mPar b is f ρ τ = match f (view b ρ) τ with
  | some (ss, τ') => if okSlots ρ is && okV b ss && decide (ss.length = is.length) then some (.nx, putS ρ is ss, τ') else none
  | none => none := rfl
@[simp] theorem mFor_ev (fi : M (List D)) (b : Tgt) (g : Stm) : mFor fi b g ρ τ = match fi (view false ρ) τ with | some (ds, τ1) => forGo b g ds ρ τ1 | none => none := rfl
@[simp] theorem mAsgT_ev (v : Bool) (b : Tgt) (f : M D) : mAsgT v b f ρ τ = match f (view v ρ) τ with
  | some (d, τ1) => (match bindT b d with
    | some as => if okSets ρ as && okD v d then some (.nx, setSl ρ as, τ1) else none
    | none => none)
  | none => none := rfl
end
theorem rangeD_of {lo hi : Int} (h1 : -(2 ^ 62) ≤ lo) (h2 : hi < 2 ^ 62) (h3 : lo ≤ hi) (h4 : hi - lo ≤ 2 ^ 24) : rangeD lo hi = some ((List.range (hi - lo).toNat).map fun i => .int (lo + (i : Nat))) := by
  unfold rangeD
  rw [if_pos ⟨h1, by omega, by omega, h2, by omega⟩]
theorem seq_nx {g h : Stm} {ρ ρ1 : EnvS} {τ τ1 : Src} (e : g ρ τ = some (.nx, ρ1, τ1)) : mSeq g h ρ τ = h ρ1 τ1 := by
  unfold mSeq
  rw [e]
theorem seq_rt {g h : Stm} {ρ ρ1 : EnvS} {τ τ1 : Src} {d : D} (e : g ρ τ = some (.rt d, ρ1, τ1)) : mSeq g h ρ τ = some (.rt d, ρ1, τ1) := by
  unfold mSeq
  rw [e]
theorem for_nx {fi : M (List D)} {b : Tgt} {g : Stm} {ρ : EnvS} {τ τ1 : Src} {ds : List D} {r : Option (Out × EnvS × Src)} (e : fi (view false ρ) τ = some (ds, τ1)) (h : forGo b g ds ρ τ1 = r) : mFor fi b g ρ τ = r := by
  unfold mFor
  rw [e]
  exact h
theorem comp_nx {fi : M (List D)} {vs : List Nat} {b : Tgt} {tt : M Bool} {te : M D} {η : EnvD} {τ τ1 : Src} {ds : List D} {r : Option (List D × Src)} (e : fi η τ = some (ds, τ1)) (h : compGo b tt te (wipeD η vs) ds τ1 = r) : mComp fi vs b tt te η τ = r := by
  unfold mComp mBind
  rw [e]
  exact h
theorem runP_rt {np n : Nat} {g : Stm} {ds : List D} {d : D} {ρ : EnvS} {τ : Src} (hl : ds.length = np) (e : g (enter n ds) noSrc = some (.rt d, ρ, τ)) : runP np n g ds = some d := by
  unfold runP
  rw [if_pos hl, e]
  rfl
@[simp] theorem enter_1 (n : Nat) (a : D) : enter (n + 1) [a] = .dat a :: List.replicate n .no := rfl
@[simp] theorem enter_2 (n : Nat) (a b : D) : enter (n + 2) [a, b] = .dat a :: .dat b :: List.replicate n .no := by simp [enter]
@[simp] theorem enter_3 (n : Nat) (a b c : D) : enter (n + 3) [a, b, c] = .dat a :: .dat b :: .dat c :: List.replicate n .no := by simp [enter]
@[simp] theorem view_nil (b : Bool) : view b [] = [] := rfl
@[simp] theorem view_cons (b : Bool) (s : Sl) (ρ : EnvS) : view b (s :: ρ) = see b s :: view b ρ := rfl

/-! ### operators on ints -/
section
variable (i j : Int)
@[simp] theorem dAdd_ii : dAdd (.int i) (.int j) = some (.int (i + j)) := rfl
@[simp] theorem dSub_ii : dSub (.int i) (.int j) = some (.int (i - j)) := rfl
@[simp] theorem dLt_ii : dLt (.int i) (.int j) = some (.bool (decide (i < j))) := rfl
@[simp] theorem dLe_ii : dLe (.int i) (.int j) = some (.bool (decide (i ≤ j))) := rfl
@[simp] theorem dGt_ii : dGt (.int i) (.int j) = some (.bool (decide (j < i))) := rfl
@[simp] theorem dGe_ii : dGe (.int i) (.int j) = some (.bool (decide (j ≤ i))) := rfl
@[simp] theorem dMin2_ii : dMin2 [.int i, .int j] = some (.int (if j < i then j else i)) := rfl
@[simp] theorem dMax2_ii : dMax2 [.int i, .int j] = some (.int (if j > i then j else i)) := rfl
theorem dMul_ii (h : okMul i j = true) : dMul (.int i) (.int j) = some (.int (i * j)) := by
  simp [dMul, dOr, dI, h]
theorem dMod_ii (h : 0 < j) : dMod (.int i) (.int j) = some (.int (i % j)) := by simp [dMod, dI, h]
@[simp] theorem shaped_int : SeqAt.shaped (.int i) = true := by simp [SeqAt.shaped, PyData.canLay0, PyData.depth]
@[simp] theorem dEqA_ii : dEqA (.int i) (.int j) = some (.bool (i == j)) := by simp [dEqA, dOr, dStrs, dEq, okEq, PyData.eqv]
@[simp] theorem dNeA_ii : dNeA (.int i) (.int j) = some (.bool (!(i == j))) := by simp [dNeA, dOr, dStrs, dNe, okEq, PyData.eqv]
@[simp] theorem dNeA_ss (x y : Str) : dNeA (.str x) (.str y) = some (.bool (!decide (x = y))) := by simp [dNeA, dOr, dStrs]
end
theorem okMul_small {i j : Int} (h1 : i.natAbs < 2 ^ 64) (h2 : j.natAbs < 2 ^ 64) : okMul i j = true := by
  have l : ∀ n : Nat, n < 2 ^ 64 → n.log2 < 65 := fun n h => by
    by_cases hz : n = 0
    · rw [hz]; decide
    · exact Nat.lt_succ_of_lt ((Nat.log2_lt hz).mpr h)
  unfold okMul
  have a := l _ h1
  have b := l _ h2
  exact decide_eq_true (by omega)

/-! ### what may be compared; what may be shown -/
/-- plain nested data: no text, no dict; no deeper than k -/
def Lay (k : Nat) (d : D) : Prop := d.canLay0 = true ∧ d.depth ≤ k
theorem layAll {k : Nat} : ∀ {ds : List D}, (∀ d ∈ ds, Lay k d) → PyData.canLayAll0 ds = true ∧ PyData.depthAll ds ≤ k
  | [], _ => ⟨by simp [PyData.canLayAll0], by simp [PyData.depthAll]⟩
  | d :: ds, h => by
    obtain ⟨h1, h2⟩ := layAll (ds := ds) fun x hx => h x (List.mem_cons_of_mem _ hx)
    obtain ⟨h3, h4⟩ := h d List.mem_cons_self
    exact ⟨by simp [PyData.canLayAll0, h1, h3], by simp only [PyData.depthAll]; omega⟩
theorem Lay.int {k : Nat} (i : Int) : Lay k (.int i) := ⟨by simp [PyData.canLay0], by simp [PyData.depth]⟩
theorem Lay.bool {k : Nat} (b : Bool) : Lay k (.bool b) := ⟨by simp [PyData.canLay0], by simp [PyData.depth]⟩
theorem Lay.tup {k : Nat} {ds : List D} (h : ∀ d ∈ ds, Lay k d) : Lay (k + 1) (.tuple ds) := by
  obtain ⟨h1, h2⟩ := layAll h
  exact ⟨by simp [PyData.canLay0, h1], by simp only [PyData.depth]; omega⟩
theorem Lay.lst {k : Nat} {ds : List D} (h : ∀ d ∈ ds, Lay k d) : Lay (k + 1) (.list ds) := by
  obtain ⟨h1, h2⟩ := layAll h
  exact ⟨by simp [PyData.canLay0, h1], by simp only [PyData.depth]; omega⟩
theorem Lay.mono {k j : Nat} {d : D} (h : Lay k d) (hj : k ≤ j) : Lay j d := ⟨h.1, Nat.le_trans h.2 hj⟩
theorem Lay.shaped {k : Nat} {d : D} (h : Lay k d) (hk : k ≤ 64) : SeqAt.shaped d = true := by
  unfold SeqAt.shaped
  rw [h.1, Bool.true_and]
  exact decide_eq_true (Nat.le_trans h.2 hk)
theorem Lay.map {α : Type} {k : Nat} {f : α → D} {xs : List α} (h : ∀ x ∈ xs, Lay k (f x)) : ∀ d ∈ xs.map f, Lay k d := fun d hd => by
  obtain ⟨x, hx, rfl⟩ := List.mem_map.mp hd
  exact h x hx
/-- .. whose text is no longer than n -/
def Shw (k n : Nat) (d : D) : Prop := Lay k d ∧ d.showable = true ∧ bnd d ≤ n
theorem Shw.int {n : Nat} {i : Int} (h : i.natAbs < 2 ^ 64) (hn : 70 ≤ n) {k : Nat} : Shw k n (.int i) := by
  have l : i.natAbs.log2 < 65 := by
    by_cases hz : i.natAbs = 0
    · rw [hz]; decide
    · exact Nat.lt_succ_of_lt ((Nat.log2_lt hz).mpr h)
  exact ⟨.int i, by simp only [PyData.showable]; exact decide_eq_true (by omega), by simp only [bnd]; omega⟩
theorem shwAll {k n : Nat} : ∀ {ds : List D}, (∀ d ∈ ds, Shw k n d) → PyData.showableAll ds = true ∧ bndA ds ≤ ds.length * (n + 2)
  | [], _ => ⟨by simp [PyData.showableAll], by simp [bndA]⟩
  | d :: ds, h => by
    obtain ⟨h1, h2⟩ := shwAll (ds := ds) fun x hx => h x (List.mem_cons_of_mem _ hx)
    obtain ⟨_, h3, h4⟩ := h d List.mem_cons_self
    refine ⟨by simp [PyData.showableAll, h1, h3], ?_⟩
    simp only [bndA, List.length_cons, Nat.add_mul, Nat.one_mul]
    omega
theorem Shw.tup {k n m r : Nat} {ds : List D} (h : ∀ d ∈ ds, Shw k n d) (hm : ds.length ≤ m) (hr : 3 + m * (n + 2) ≤ r) : Shw (k + 1) r (.tuple ds) := by
  obtain ⟨h1, h2⟩ := shwAll h
  refine ⟨.tup fun d hd => (h d hd).1, by simp [PyData.showable, h1], ?_⟩
  simp only [bnd]
  have := Nat.mul_le_mul_right (n + 2) hm
  omega
theorem Shw.lst {k n m r : Nat} {ds : List D} (h : ∀ d ∈ ds, Shw k n d) (hm : ds.length ≤ m) (hr : 3 + m * (n + 2) ≤ r) : Shw (k + 1) r (.list ds) := by
  obtain ⟨h1, h2⟩ := shwAll h
  refine ⟨.lst fun d hd => (h d hd).1, by simp [PyData.showable, h1], ?_⟩
  simp only [bnd]
  have := Nat.mul_le_mul_right (n + 2) hm
  omega
theorem Shw.map {α : Type} {k n : Nat} {f : α → D} {xs : List α} (h : ∀ x ∈ xs, Shw k n (f x)) : ∀ d ∈ xs.map f, Shw k n d := fun d hd => by
  obtain ⟨x, hx, rfl⟩ := List.mem_map.mp hd
  exact h x hx
theorem dRepr_of {k n : Nat} {d : D} (h : Shw k n d) (hk : k ≤ 64) (hn : n ≤ 2 ^ 24) : dRepr [d] = some (.str d.shown) := by
  show (if okRepr d = true then some (.str d.shown) else none : Option D) = _
  have : okRepr d = true := by
    unfold okRepr
    rw [h.1.shaped hk, h.2.1]
    have l := h.2.2
    have e := line24
    exact decide_eq_true (by rw [e]; omega)
  rw [if_pos this]

/-! ### lists of ints, of lists of ints -/
abbrev It (xs : List Int) : D := .tuple (xs.map .int)
abbrev Il (xs : List Int) : D := .list (xs.map .int)
abbrev Itt (xs : List (List Int)) : D := .tuple (xs.map It)
theorem lay_it {k : Nat} (xs : List Int) : Lay (k + 1) (It xs) := .tup (Lay.map fun x _ => .int x)
theorem lay_il {k : Nat} (xs : List Int) : Lay (k + 1) (Il xs) := .lst (Lay.map fun x _ => .int x)
theorem lay_itt {k : Nat} (xs : List (List Int)) : Lay (k + 2) (Itt xs) := .tup (Lay.map fun x _ => lay_it x)
mutual
theorem eqv_self : ∀ (d : D) , d.canLay0 = true → PyData.eqv d d = true
  | .none, _ => by simp [PyData.eqv]
  | .bool b, _ => by simp [PyData.eqv]
  | .int i, _ => by simp [PyData.eqv]
  | .str x, _ => by simp [PyData.eqv]
  | .list ds, h => by simp only [PyData.eqv]; exact eqvAll_self ds (by simpa [PyData.canLay0] using h)
  | .tuple ds, h => by simp only [PyData.eqv]; exact eqvAll_self ds (by simpa [PyData.canLay0] using h)
  | .dict ds, h => by simp [PyData.canLay0] at h
theorem eqvAll_self : ∀ (ds : List D), PyData.canLayAll0 ds = true → PyData.eqvAll ds ds = true
  | [], _ => by simp [PyData.eqvAll]
  | d :: ds, h => by
    have h' : d.canLay0 = true ∧ PyData.canLayAll0 ds = true := by simpa [PyData.canLayAll0] using h
    simp [PyData.eqvAll, eqv_self d h'.1, eqvAll_self ds h'.2]
end
theorem eqvAll_int : ∀ xs ys : List Int, PyData.eqvAll (xs.map .int) (ys.map .int) = decide (xs = ys)
  | [], [] => by simp [PyData.eqvAll]
  | [], y :: ys => by simp [PyData.eqvAll]
  | x :: xs, [] => by simp [PyData.eqvAll]
  | x :: xs, y :: ys => by
    simp only [List.map_cons, PyData.eqvAll, PyData.eqv, eqvAll_int xs ys]
    by_cases h1 : x = y <;> by_cases h2 : xs = ys <;> simp [h1, h2]
theorem dEqA_it (xs ys : List Int) : dEqA (It xs) (It ys) = some (.bool (decide (xs = ys))) := by
  simp only [dEqA, dOr, dStrs, dEq, okEq, (lay_it (k := 1) _).shaped (by decide), PyData.eqv, eqvAll_int]
  simp
theorem dNeA_it (xs ys : List Int) : dNeA (It xs) (It ys) = some (.bool (!decide (xs = ys))) := by
  simp only [dNeA, dOr, dStrs, dNe, okEq, (lay_it (k := 1) _).shaped (by decide), PyData.eqv, eqvAll_int]
  simp
theorem dNeA_il (xs ys : List Int) : dNeA (Il xs) (Il ys) = some (.bool (!decide (xs = ys))) := by
  simp only [dNeA, dOr, dStrs, dNe, okEq, (lay_il (k := 1) _).shaped (by decide), PyData.eqv, eqvAll_int]
  simp
theorem dEqA_il (xs ys : List Int) : dEqA (Il xs) (Il ys) = some (.bool (decide (xs = ys))) := by
  simp only [dEqA, dOr, dStrs, dEq, okEq, (lay_il (k := 1) _).shaped (by decide), PyData.eqv, eqvAll_int]
  simp
theorem any_eqv (x : Int) : ∀ xs : List Int, (xs.map PyData.int).any (fun z => PyData.eqv z (.int x)) = decide (x ∈ xs)
  | [] => by simp
  | y :: ys => by
    simp only [List.map_cons, List.any_cons, any_eqv x ys, PyData.eqv]
    by_cases h : y = x
    · simp [h]
    · simp [h, Ne.symm h]
theorem dIn_it (x : Int) (xs : List Int) : dIn (.int x) (It xs) = some (.bool (decide (x ∈ xs))) := by
  simp only [dIn, seqOf, okEq, shaped_int, (lay_it (k := 1) _).shaped (by decide), any_eqv]
  simp
theorem dIn_il (x : Int) (xs : List Int) : dIn (.int x) (Il xs) = some (.bool (decide (x ∈ xs))) := by
  simp only [dIn, seqOf, okEq, shaped_int, (lay_il (k := 1) _).shaped (by decide), any_eqv]
  simp
theorem dNotIn_it (x : Int) (xs : List Int) : dNotIn (.int x) (It xs) = some (.bool (!decide (x ∈ xs))) := by
  simp only [dNotIn, seqOf, okEq, shaped_int, (lay_it (k := 1) _).shaped (by decide), any_eqv]
  simp
theorem dNotIn_il (x : Int) (xs : List Int) : dNotIn (.int x) (Il xs) = some (.bool (!decide (x ∈ xs))) := by
  simp only [dNotIn, seqOf, okEq, shaped_int, (lay_il (k := 1) _).shaped (by decide), any_eqv]
  simp
theorem ixN_int {n : Nat} {i : Int} (h : 0 ≤ i ∧ i < n) : L2.ixN n i = some i.toNat := by
  unfold L2.ixN
  rw [if_pos h.1, if_pos h.2]
/-! items -/
theorem atI_nat {α : Type} {xs : List α} {i : Nat} {x : α} (h : xs[i]? = some x) : L2.atI xs (i : Int) = some x := by
  have hi := (List.getElem?_eq_some_iff.mp h).1
  unfold L2.atI L2.ixN
  rw [if_pos (by omega), if_pos (by omega)]
  simpa using h
theorem atI_int {α : Type} {xs : List α} {i : Int} {x : α} (h0 : 0 ≤ i) (h : xs[i.toNat]? = some x) : L2.atI xs i = some x := by
  have := atI_nat h
  rwa [Int.toNat_of_nonneg h0] at this
theorem dIx_it {xs : List Int} {i x : Int} (h0 : 0 ≤ i) (h : xs[i.toNat]? = some x) : dIx (It xs) (.int i) = some (.int x) := by
  simp only [dIx, seqOf]
  exact atI_int h0 (by rw [List.getElem?_map, h]; rfl)
theorem dIx_il {xs : List Int} {i x : Int} (h0 : 0 ≤ i) (h : xs[i.toNat]? = some x) : dIx (Il xs) (.int i) = some (.int x) := by
  simp only [dIx, seqOf]
  exact atI_int h0 (by rw [List.getElem?_map, h]; rfl)
theorem okLen_of {xs : List D} (h : xs.length ≤ 2 ^ 24) : okLen xs = some xs := by
  unfold okLen
  rw [if_pos (by rw [line24]; exact h)]

@[simp] theorem dLen_it (xs : List Int) : dLen [It xs] = some (.int xs.length) := by simp [dLen]
@[simp] theorem dLen_il (xs : List Int) : dLen [Il xs] = some (.int xs.length) := by simp [dLen]
theorem dLen_tup (xs : List D) : dLen [.tuple xs] = some (.int xs.length) := by simp [dLen]
theorem dLen_lst (xs : List D) : dLen [.list xs] = some (.int xs.length) := by simp [dLen]

/-! ### comprehensions -/
theorem comp_map {α : Type} {b : Tgt} {tt : M Bool} {te : M D} {η : EnvD} {τ : Src} {enc : α → D} {p : α → Bool} {q : α → D} : ∀ {xs : List α},
    (∀ x ∈ xs, ∃ as, bindT b (enc x) = some as ∧ tt (setD η as) τ = some (p x, τ) ∧ (p x = true → te (setD η as) τ = some (q x, τ))) →
    compGo b tt te η (xs.map enc) τ = some ((xs.filter p).map q, τ)
  | [], _ => rfl
  | x :: xs, h => by
    obtain ⟨as, h1, h2, h3⟩ := h x List.mem_cons_self
    have ih := comp_map (xs := xs) fun y hy => h y (List.mem_cons_of_mem _ hy)
    simp only [List.map_cons, compGo, h1, h2]
    cases hp : p x with
    | false => simp only [List.filter_cons, hp, ih]; rfl
    | true => simp only [h3 hp, ih, List.filter_cons, hp]; rfl
/-- with no test -/
theorem comp_all {α : Type} {b : Tgt} {te : M D} {η : EnvD} {τ : Src} {enc : α → D} {q : α → D} {xs : List α}
    (h : ∀ x ∈ xs, ∃ as, bindT b (enc x) = some as ∧ te (setD η as) τ = some (q x, τ)) : compGo b mTrue te η (xs.map enc) τ = some (xs.map q, τ) := by
  have := comp_map (b := b) (tt := mTrue) (te := te) (η := η) (τ := τ) (enc := enc) (p := fun _ => true) (q := q) (xs := xs) fun x hx => by
    obtain ⟨as, h1, h2⟩ := h x hx
    exact ⟨as, h1, rfl, fun _ => h2⟩
  rw [this, List.filter_eq_self.mpr fun _ _ => rfl]

theorem comp2_all {α : Type} {b b1 : Tgt} {f1 : M (List D)} {vs1 : List Nat} {tt1 : M Bool} {te : M D} {η : EnvD} {τ : Src} {enc : α → D} {ys : α → List D} : ∀ {xs : List α},
    (∀ x ∈ xs, ∃ as es, bindT b (enc x) = some as ∧ f1 (setD η as) τ = some (es, τ) ∧ compGo b1 tt1 te (wipeD (setD η as) vs1) es τ = some (ys x, τ)) → compGo2 b mTrue f1 vs1 b1 tt1 te η (xs.map enc) τ = some (xs.flatMap ys, τ)
  | [], _ => rfl
  | x :: xs, h => by
    obtain ⟨as, es, h1, h2, h3⟩ := h x List.mem_cons_self
    have ih := comp2_all (xs := xs) fun y hy => h y (List.mem_cons_of_mem _ hy)
    have ht : mTrue (setD η as) τ = some (true, τ) := rfl
    simp only [List.map_cons, compGo2, h1, ht, h2, h3, ih, List.flatMap_cons]

/-! ### loops -/
theorem for_inv {α : Type} {b : Tgt} {g : Stm} {enc : α → D} (P : List α → EnvS → Src → Prop) : ∀ {todo done : List α} {ρ : EnvS} {τ : Src}, P done ρ τ →
    (∀ done x ρ τ, x ∈ todo → P done ρ τ → ∃ as, bindT b (enc x) = some as ∧ okSets ρ as = true ∧ ∃ ρ' τ', (g (setSl ρ as) τ = some (.nx, ρ', τ') ∨ g (setSl ρ as) τ = some (.ct, ρ', τ')) ∧ P (done ++ [x]) ρ' τ') →
    ∃ ρ' τ', forGo b g (todo.map enc) ρ τ = some (.nx, ρ', τ') ∧ P (done ++ todo) ρ' τ'
  | [], done, ρ, τ, h, _ => ⟨ρ, τ, rfl, by rw [List.append_nil]; exact h⟩
  | x :: xs, done, ρ, τ, h, step => by
    obtain ⟨as, h1, h2, ρ1, τ1, h3, h4⟩ := step done x ρ τ List.mem_cons_self h
    obtain ⟨ρ2, τ2, h5, h6⟩ := for_inv P (todo := xs) (done := done ++ [x]) h4 fun d y ρ τ hy => step d y ρ τ (List.mem_cons_of_mem _ hy)
    refine ⟨ρ2, τ2, ?_, by rw [List.append_assoc] at h6; exact h6⟩
    simp only [List.map_cons, forGo, h1, h2, if_pos]
    rcases h3 with h3 | h3 <;> (rw [h3]; exact h5)
theorem for_at {α : Type} {b : Tgt} {g : Stm} {enc : α → D} {xs : List α} (P : Nat → EnvS → Src → Prop)
    (step : ∀ i x ρ τ, xs[i]? = some x → P i ρ τ → ∃ as, bindT b (enc x) = some as ∧ okSets ρ as = true ∧ ∃ ρ' τ', (g (setSl ρ as) τ = some (.nx, ρ', τ') ∨ g (setSl ρ as) τ = some (.ct, ρ', τ')) ∧ P (i + 1) ρ' τ') :
    ∀ (k i : Nat) {ρ : EnvS} {τ : Src}, i + k = xs.length → P i ρ τ → ∃ ρ' τ', forGo b g ((xs.drop i).map enc) ρ τ = some (.nx, ρ', τ') ∧ P xs.length ρ' τ'
  | 0, i, ρ, τ, hk, h => by
    rw [List.drop_eq_nil_of_le (by omega)]
    have hi : i = xs.length := by omega
    subst hi
    exact ⟨ρ, τ, rfl, h⟩
  | k + 1, i, ρ, τ, hk, h => by
    have hi : i < xs.length := by omega
    obtain ⟨as, h1, h2, ρ1, τ1, h3, h4⟩ := step i xs[i] ρ τ (List.getElem?_eq_getElem hi) h
    obtain ⟨ρ2, τ2, h5, h6⟩ := for_at P step k (i + 1) (by omega) h4
    refine ⟨ρ2, τ2, ?_, h6⟩
    rw [List.drop_eq_getElem_cons hi]
    simp only [List.map_cons, forGo, h1, h2, if_pos]
    rcases h3 with h3 | h3 <;> (rw [h3]; exact h5)
theorem for_ix {α : Type} {b : Tgt} {g : Stm} {enc : α → D} {xs : List α} {ρ : EnvS} {τ : Src} (P : Nat → EnvS → Src → Prop) (h0 : P 0 ρ τ)
    (step : ∀ i x ρ τ, xs[i]? = some x → P i ρ τ → ∃ as, bindT b (enc x) = some as ∧ okSets ρ as = true ∧ ∃ ρ' τ', (g (setSl ρ as) τ = some (.nx, ρ', τ') ∨ g (setSl ρ as) τ = some (.ct, ρ', τ')) ∧ P (i + 1) ρ' τ') :
    ∃ ρ' τ', forGo b g (xs.map enc) ρ τ = some (.nx, ρ', τ') ∧ P xs.length ρ' τ' := for_at P step xs.length 0 (by omega) h0
theorem for_rg {b : Tgt} {g : Stm} {enc : Nat → D} {n : Nat} {ρ : EnvS} {τ : Src} (P : Nat → EnvS → Src → Prop) (h0 : P 0 ρ τ)
    (step : ∀ i ρ τ, i < n → P i ρ τ → ∃ as, bindT b (enc i) = some as ∧ okSets ρ as = true ∧ ∃ ρ' τ', (g (setSl ρ as) τ = some (.nx, ρ', τ') ∨ g (setSl ρ as) τ = some (.ct, ρ', τ')) ∧ P (i + 1) ρ' τ') :
    ∃ ρ' τ', forGo b g ((List.range n).map enc) ρ τ = some (.nx, ρ', τ') ∧ P n ρ' τ' := by
  have := for_ix (b := b) (g := g) (enc := enc) (xs := List.range n) P h0 fun i x ρ τ hx h => by
    obtain ⟨hi, rfl⟩ := List.getElem?_eq_some_iff.mp hx
    rw [List.getElem_range]
    exact step i ρ τ (by simpa using hi) h
  simpa using this
theorem while_inv {c : M Bool} {g : Stm} (P : Nat → EnvS → Src → Prop) (Post : EnvS → Src → Prop)
    (step : ∀ m ρ τ, P m ρ τ → ∃ τ1, (c (view true ρ) τ = some (false, τ1) ∧ Post ρ τ1) ∨ (c (view true ρ) τ = some (true, τ1) ∧ ∃ ρ' τ', (g ρ τ1 = some (.nx, ρ', τ') ∨ g ρ τ1 = some (.ct, ρ', τ')) ∧ ∃ m', m' < m ∧ P m' ρ' τ')) :
    ∀ {n m : Nat} {ρ : EnvS} {τ : Src}, m < n → P m ρ τ → ∃ ρ' τ', whileGo c g n ρ τ = some (.nx, ρ', τ') ∧ Post ρ' τ'
  | 0, m, ρ, τ, hm, _ => absurd hm (Nat.not_lt_zero _)
  | n + 1, m, ρ, τ, hm, h => by
    obtain ⟨τ1, h | ⟨h1, ρ2, τ2, h2, m', hm', h3⟩⟩ := step m ρ τ h
    · exact ⟨ρ, τ1, by simp only [whileGo, h.1], h.2⟩
    · obtain ⟨ρ3, τ3, h4, h5⟩ := while_inv P Post step (n := n) (m := m') (by omega) h3
      refine ⟨ρ3, τ3, ?_, h5⟩
      simp only [whileGo, h1]
      rcases h2 with h2 | h2 <;> (rw [h2]; exact h4)

theorem sum_perm {l m : List Int} (f : Int → Int) (h : l.Perm m) : (l.map f).sum = (m.map f).sum := by
  induction h with
  | nil => rfl
  | cons x _ ih => simp only [List.map_cons, List.sum_cons, ih]
  | swap x y l => simp only [List.map_cons, List.sum_cons]; omega
  | trans _ _ h1 h2 => rw [h1, h2]
theorem dSortI_ints {ns : List Int} (h : ns.length ≤ 2 ^ 24) : dSortI (Il ns) = some ((ns.mergeSort leI).map .int) := by
  simp only [dSortI, intsOf_map, Option.bind_some]
  exact okLen_of (by rw [List.length_map, List.length_mergeSort]; exact h)
theorem sort_perm (ns : List Int) : (ns.mergeSort leI).Perm ns := List.mergeSort_perm ns leI

/-! ### picks -/
/-- the source may be picked from for t more laps at least -/
structure Wf (t : Nat) (τ : Src) : Prop where
  slot : τ.slot = some 1
  turn : 0 ≤ τ.turn ∧ τ.turn + t < 2 ^ 59
theorem wf_src (ns : List Int) : Wf (2 ^ 58) (srcOf ns) := ⟨rfl, Int.le_refl 0, (show (0 : Int) + ((2 ^ 58 : Nat) : Int) < 2 ^ 59 by decide)⟩
theorem pick_of {t : Nat} {τ : Src} (h : Wf (t + 1) τ) (most : Int) (h1 : 1 ≤ most) (h2 : most < 2 ^ 60) : ∃ r τ', mPick [.int most] { τ with slot := some 0 } = some (.int r, { τ' with slot := some 0 }) ∧ 0 ≤ r ∧ r < most ∧ Wf t τ' := by
  obtain ⟨hs, ht⟩ := h
  unfold mPick
  by_cases hm : most < 2
  · exact ⟨0, τ, by simp [hm], by omega, by omega, hs, by omega⟩
  · have hlog : most.natAbs.log2 < 9000 := by
      have : most.natAbs.log2 < 60 := (Nat.log2_lt (by omega)).mpr (by omega)
      omega
    simp only [hm, if_false, hlog, if_true]
    generalize drawR τ.cells.reverse τ.left = r
    by_cases hg : 1 < r.2
    · rw [if_pos hg]
      exact ⟨r.2 % most, { τ with cells := r.1.reverse, left := r.2 / most }, rfl, Int.emod_nonneg _ (by omega), Int.emod_lt_of_pos _ (by omega), hs, ht.1, by have := ht.2; show τ.turn + (t : Int) < _; omega⟩
    · rw [if_neg hg]
      unfold nextLap
      have hb : τ.turn.natAbs < 2 ^ 60 := by omega
      simp only [hb, if_true]
      exact ⟨_, { τ with cells := r.1.reverse, left := r.2, turn := τ.turn + 1 }, rfl, Int.emod_nonneg _ (by omega), Int.emod_lt_of_pos _ (by omega), hs, by show 0 ≤ τ.turn + 1; omega, by show τ.turn + 1 + (t : Int) < _; omega⟩
theorem Wf.mono {s t : Nat} {τ : Src} (h : Wf t τ) (hs : s ≤ t) : Wf s τ := ⟨h.slot, h.turn.1, by have := h.turn.2; omega⟩
/-- a pick in the law's frame -/
theorem pick_law {t : Nat} {τ : Src} (h : Wf (t + 1) τ) (most : Int) (h1 : 1 ≤ most) (h2 : most < 2 ^ 60) : ∃ r τ', (∀ η, mCallS 1 mPick (mCons (mPure (.int most)) mNil) η τ = some (.int r, τ')) ∧ 0 ≤ r ∧ r < most ∧ Wf t τ' := by
  obtain ⟨r, τ', e, h3, h4, h5⟩ := pick_of h most h1 h2
  refine ⟨r, τ', fun η => ?_, h3, h4, h5⟩
  unfold mCallS
  rw [if_pos h.slot]
  simp only [mBind, mCons, mNil, mPure, callS, e, h.slot, ← h5.slot]
/-- a comprehension over picks -/
theorem comp_picks {b : Tgt} {te : M D} {η : EnvD} (ok : Int → Prop) (hb : ∀ d, ∃ as, bindT b d = some as) (step : ∀ (t : Nat) (τ : Src) (η : EnvD), Wf (t + 1) τ → ∃ r τ', te η τ = some (.int r, τ') ∧ ok r ∧ Wf t τ') : ∀ (ds : List D) (t : Nat) (τ : Src), Wf (t + ds.length) τ →
    ∃ (xs : List Int) (τ' : Src), compGo b mTrue te η ds τ = some (xs.map .int, τ') ∧ xs.length = ds.length ∧ (∀ x ∈ xs, ok x) ∧ Wf t τ'
  | [], t, τ, h => ⟨[], τ, rfl, rfl, fun x hx => by simp at hx, h⟩
  | d :: ds, t, τ, h => by
    obtain ⟨as, has⟩ := hb d
    obtain ⟨r, τ1, e1, h1, w1⟩ := step (t + ds.length) τ (setD η as) h
    obtain ⟨xs, τ2, e2, h2, h3, w2⟩ := comp_picks (η := η) ok hb step ds t τ1 w1
    refine ⟨r :: xs, τ2, ?_, by simp [h2], fun x hx => ?_, w2⟩
    · have ht : mTrue (setD η as) τ = some (true, τ) := rfl
      simp only [compGo, has, ht, e1, e2, List.map_cons]
    · rcases List.mem_cons.mp hx with e | hx
      · rw [e]; exact h1
      · exact h3 x hx
theorem cut_from (xs : List Int) (m : Nat) (h : m ≤ xs.length) : dCut (Il xs) (some (m : Int)) none = some (Il (xs.drop m)) := by
  simp only [dCut, cutD, HT.sIx_nat, HT.sIx_none, List.length_map]
  rw [Nat.min_eq_left h, List.take_of_length_le (by rw [List.length_drop, List.length_map]; exact Nat.le_refl _), ← List.map_drop]
theorem rep_flat {α : Type} (n : Nat) (x : α) : (List.replicate n [x]).flatten = List.replicate n x := by
  induction n with
  | zero => rfl
  | succ n ih => rw [List.replicate_succ, List.flatten_cons, ih]; rfl
theorem dMul_one {n : Nat} (h : n ≤ 2 ^ 20) (x : Int) : dMul (.tuple [.int x]) (.int n) = some (It (List.replicate n x)) := by
  have ok : okRep [PyData.int x].length (n : Int) = true := by
    unfold okRep
    rw [line24]
    simp only [Bool.and_eq_true, decide_eq_true_eq, List.length_cons, List.length_nil]
    omega
  simp only [dMul, dOr, dI, iOf, dRepL, dRepT, ok, if_true]
  rw [Int.toNat_natCast, rep_flat, It, List.map_replicate]
theorem dAdd_tup {xs ys : List D} (h : xs.length + ys.length ≤ 2 ^ 24) : dAdd (.tuple xs) (.tuple ys) = some (.tuple (xs ++ ys)) := by
  simp only [dAdd, dOr, dI, iOf, dCatL, dCatT]
  rw [if_pos (by rw [line24]; exact h)]
theorem cost_sub (f : Int → Int) : ∀ (sub s : List Int), sub.Nodup → (∀ x ∈ sub, x ∈ s) → (∀ x ∈ s, 0 ≤ f x) → (sub.map f).sum ≤ (s.map f).sum
  | [], s, _, _, h => by
    have : ∀ l : List Int, (∀ x ∈ l, 0 ≤ f x) → 0 ≤ (l.map f).sum := fun l => by
      induction l with
      | nil => intro _; exact Int.le_refl _
      | cons y l ih =>
        intro h
        have := ih fun x hx => h x (List.mem_cons_of_mem _ hx)
        have := h y List.mem_cons_self
        simp only [List.map_cons, List.sum_cons]
        omega
    exact this s h
  | x :: sub, s, hn, hs, h => by
    obtain ⟨hx, hn⟩ := List.nodup_cons.mp hn
    have hp := List.perm_cons_erase (hs x List.mem_cons_self)
    rw [sum_perm f hp]
    have ih := cost_sub f sub (s.erase x) hn (fun y hy => (List.mem_erase_of_ne (fun e => hx (by rw [← e]; exact hy))).mpr (hs y (List.mem_cons_of_mem _ hy))) fun y hy => h y (List.mem_of_mem_erase hy)
    simp only [List.map_cons, List.sum_cons]
    omega
end DL

namespace W93
open PySem PySem.Spec PyProof.Rows L2 DL
def topS (i : Nat) : Stmt := PySem.Challenge.pw_beforeitcomes_k93_whole_nothing_below_f.main.body.getD i (.Pass ⟨0, 0, 0, 0⟩)

/-! ### taken_at -/
abbrev s_taken_at : Stmt := topS 1
theorem sc_taken_at : FnScope ["takes", "turn"] ["takes", "turn"] (defScope s_taken_at) := ⟨rfl, rfl, rfl, by decide +kernel, rfl, by decide +kernel, by decide +kernel⟩
noncomputable def g_taken_at : Stm :=
  (mRet (mOp2 dIx (mVar 0) (mOpL dMin2 (mCons (mVar 1) (mCons (mOp2 dSub (mOpL dLen (mCons (mVar 0) mNil)) (mPure (.int 1))) mNil)))))
noncomputable def m_taken_at : List D → Option D := runP 2 2 g_taken_at
theorem h_taken_at {P : Program} {w : World} {K : PySem.W.Frag} {mg : Str → Option Value} {base : Heap} {f : Addr} {fd : FuncData} (F : Fun K "taken_at" "taken_at" s_taken_at f fd) (hm : mg "taken_at" = some (.ref f)) (b : Binds K fd ["takes", "turn"] []) (z_len : mg "len" = none) (z_min : mg "min" = none) :
    Has P w K mg base 1 "taken_at" 2 m_taken_at := by
  have sc := sc_taken_at
  refine has_P F sc rfl b hm fun cdv A outer s H hr hd => ?_
  exact (dss_one (ds_ret (de_ix (de_var 0) (de_min2 rfl (by rfl) z_min (da_cons (de_var 1) (da_cons (de_sub (de_len (by rfl) z_len (da_cons (de_var 0) da_nil)) de_int) da_nil))) (fun _ _ => rfl))))

/-! ### nested_row -/
abbrev s_nested_row : Stmt := topS 2
theorem sc_nested_row : FnScope ["f", "takes", "found", "first"] ["f", "takes"] (defScope s_nested_row) := ⟨rfl, rfl, rfl, by decide +kernel, rfl, by decide +kernel, by decide +kernel⟩
noncomputable def g_nested_row : Stm :=
  (mSeq (mPar false [2, 3] (mVOwn (mLst mNil) (mVDat (mPure (.int 0)) mVNil)))
    (mSeq (mWhile (mBool (mOp2 dLt (mVar 3) (mVar 0))) (mSeq (mApp false 2 (mTupRg (mRg2 (mVar 3) (mVar 0))))
    (mSet true 3 (mOp2 dAdd (mVar 3) (mOpL m_taken_at (mCons (mVar 1) (mCons (mOp2 dSub (mOpL dLen (mCons (mVar 2) mNil)) (mPure (.int 1))) mNil)))))))
    (mRet (mOpL dTuple (mCons (mVar 2) mNil)))))
noncomputable def m_nested_row : List D → Option D := runP 2 4 g_nested_row
theorem h_nested_row {P : Program} {w : World} {K : PySem.W.Frag} {mg : Str → Option Value} {base : Heap} {f : Addr} {fd : FuncData} (F : Fun K "nested_row" "nested_row" s_nested_row f fd) (hm : mg "nested_row" = some (.ref f)) (b : Binds K fd ["f", "takes"] []) (h_taken_at : Has P w K mg base 1 "taken_at" 2 m_taken_at) (z_len : mg "len" = none) (z_range : mg "range" = none) (z_tuple : mg "tuple" = none) :
    Has P w K mg base 2 "nested_row" 2 m_nested_row := by
  have sc := sc_nested_row
  refine has_P F sc rfl b hm fun cdv A outer s H hr hd => ?_
  exact (dss_cons (ds_par false rfl sc.nd rfl rfl (by decide) rfl rfl (dv_own (dn_lst da_nil) (dv_dat de_int dv_nil)) rfl)
    (dss_cons (ds_while PassesOwn.never (dt_lt (de_var 3) (de_var 0)) (dss_cons (ds_app false 2 (pv 2) (de_tupRg rfl (by rfl) z_tuple (dr_2 (by rfl) z_range (de_var 3) (de_var 0))))
    (dss_one (ds_set true sc.nd rfl (by first | exact .inl rfl | exact .inr rfl) (de_add (de_var 3) (de_fn h_taken_at hr hd (by rfl) (da_cons (de_var 1) (da_cons (de_sub (de_len (by rfl) z_len (da_cons (de_var 2) da_nil)) de_int) da_nil))))))))
    (dss_one (ds_ret (de_tuple (by rfl) z_tuple (da_cons (de_var 2) da_nil))))))

/-! ### nested_cost -/
abbrev s_nested_cost : Stmt := topS 3
theorem sc_nested_cost : FnScope ["f", "takes", "turn", "call"] ["f", "takes"] (defScope s_nested_cost) := ⟨rfl, rfl, rfl, by decide +kernel, rfl, by decide +kernel, by decide +kernel⟩
noncomputable def g_nested_cost : Stm :=
  (mRet (mOpL dSum (mCons (mOfN (mComp (mEnum (mOpL m_nested_row (mCons (mVar 0) (mCons (mVar 1) mNil)))) [2, 3] (.tp [(.nm 2), (.nm 3)]) mTrue (mOpL dMin2 (mCons (mOpL dLen (mCons (mVar 3) mNil)) (mCons (mOpL m_taken_at (mCons (mVar 1) (mCons (mVar 2) mNil))) mNil))))) mNil)))
noncomputable def m_nested_cost : List D → Option D := runP 2 4 g_nested_cost
theorem h_nested_cost {P : Program} {w : World} {K : PySem.W.Frag} {mg : Str → Option Value} {base : Heap} {f : Addr} {fd : FuncData} (F : Fun K "nested_cost" "nested_cost" s_nested_cost f fd) (hm : mg "nested_cost" = some (.ref f)) (b : Binds K fd ["f", "takes"] []) (h_nested_row : Has P w K mg base 2 "nested_row" 2 m_nested_row) (h_taken_at : Has P w K mg base 2 "taken_at" 2 m_taken_at) (z_enumerate : mg "enumerate" = none) (z_len : mg "len" = none) (z_min : mg "min" = none) (z_sum : mg "sum" = none) :
    Has P w K mg base 3 "nested_cost" 2 m_nested_cost := by
  have sc := sc_nested_cost
  refine has_P F sc rfl b hm fun cdv A outer s H hr hd => ?_
  exact (dss_one (ds_ret (de_sum rfl (by rfl) z_sum (da_cons (de_ofN (dn_lc [("turn", 2), ("call", 3)] rfl sc.nd (di_enum (by rfl) z_enumerate (de_fn h_nested_row hr hd (by rfl) (da_cons (de_var 0) (da_cons (de_var 1) da_nil)))) (blkOk_by rfl) (by decide) (by decide) (fun _ _ _ _ _ => (dg_tup rfl (dgs_cons (dg_name sc.nd rfl (by first | exact .inl rfl | exact .inr rfl)) (dgs_cons (dg_name sc.nd rfl (by first | exact .inl rfl | exact .inr rfl)) dgs_nil)) rfl)) (fun _ _ _ _ _ => dts_nil) (fun _ _ _ _ _ => (de_min2 rfl (by rfl) z_min (da_cons (de_len (by rfl) z_len (da_cons (de_var 3) da_nil)) (da_cons (de_fn h_taken_at hr hd (by rfl) (da_cons (de_var 1) (da_cons (de_var 2) da_nil))) da_nil)))))) da_nil))))

/-! ### tight_row -/
abbrev s_tight_row : Stmt := topS 4
theorem sc_tight_row : FnScope ["f"] ["f"] (defScope s_tight_row) := ⟨rfl, rfl, rfl, by decide +kernel, rfl, by decide +kernel, by decide +kernel⟩
noncomputable def g_tight_row : Stm :=
  (mRet (mOpL m_nested_row (mCons (mVar 0) (mCons (mTup (mCons (mVar 0) mNil)) mNil))))
noncomputable def m_tight_row : List D → Option D := runP 1 1 g_tight_row
theorem h_tight_row {P : Program} {w : World} {K : PySem.W.Frag} {mg : Str → Option Value} {base : Heap} {f : Addr} {fd : FuncData} (F : Fun K "tight_row" "tight_row" s_tight_row f fd) (hm : mg "tight_row" = some (.ref f)) (b : Binds K fd ["f"] []) (h_nested_row : Has P w K mg base 2 "nested_row" 2 m_nested_row) :
    Has P w K mg base 3 "tight_row" 1 m_tight_row := by
  have sc := sc_tight_row
  refine has_P F sc rfl b hm fun cdv A outer s H hr hd => ?_
  exact (dss_one (ds_ret (de_fn h_nested_row hr hd (by rfl) (da_cons (de_var 0) (da_cons (de_tup (da_cons (de_var 0) da_nil)) da_nil)))))

/-! ### is_call_answered -/
abbrev s_is_call_answered : Stmt := topS 6
theorem sc_is_call_answered : FnScope ["call", "lots", "lot"] ["call", "lots"] (defScope s_is_call_answered) := ⟨rfl, rfl, rfl, by decide +kernel, rfl, by decide +kernel, by decide +kernel⟩
noncomputable def g_is_call_answered : Stm :=
  (mRet (mOpL dAny (mCons (mOfN (mComp (mItems (mVar 0)) [2] (.nm 2) mTrue (mOp2 dIn (mVar 2) (mVar 1)))) mNil)))
noncomputable def m_is_call_answered : List D → Option D := runP 2 3 g_is_call_answered
theorem h_is_call_answered {P : Program} {w : World} {K : PySem.W.Frag} {mg : Str → Option Value} {base : Heap} {f : Addr} {fd : FuncData} (F : Fun K "is_call_answered" "is_call_answered" s_is_call_answered f fd) (hm : mg "is_call_answered" = some (.ref f)) (b : Binds K fd ["call", "lots"] []) (z_any : mg "any" = none) :
    Has P w K mg base 1 "is_call_answered" 2 m_is_call_answered := by
  have sc := sc_is_call_answered
  refine has_P F sc rfl b hm fun cdv A outer s H hr hd => ?_
  exact (dss_one (ds_ret (de_any rfl (by rfl) z_any (da_cons (de_ofN (dn_lc [("lot", 2)] rfl sc.nd (di_seq (de_var 0)) (blkOk_by rfl) (by decide) (by decide) (fun _ _ _ _ _ => (dg_name sc.nd rfl (by first | exact .inl rfl | exact .inr rfl))) (fun _ _ _ _ _ => dts_nil) (fun _ _ _ _ _ => (de_in hr.u65 (de_var 2) (de_var 1))))) da_nil))))

/-! ### do_answer -/
abbrev s_do_answer : Stmt := topS 7
theorem sc_do_answer : FnScope ["row", "lots", "call"] ["row", "lots"] (defScope s_do_answer) := ⟨rfl, rfl, rfl, by decide +kernel, rfl, by decide +kernel, by decide +kernel⟩
noncomputable def g_do_answer : Stm :=
  (mRet (mOpL dAll (mCons (mOfN (mComp (mItems (mVar 0)) [2] (.nm 2) mTrue (mOpL m_is_call_answered (mCons (mVar 2) (mCons (mVar 1) mNil))))) mNil)))
noncomputable def m_do_answer : List D → Option D := runP 2 3 g_do_answer
theorem h_do_answer {P : Program} {w : World} {K : PySem.W.Frag} {mg : Str → Option Value} {base : Heap} {f : Addr} {fd : FuncData} (F : Fun K "do_answer" "do_answer" s_do_answer f fd) (hm : mg "do_answer" = some (.ref f)) (b : Binds K fd ["row", "lots"] []) (h_is_call_answered : Has P w K mg base 1 "is_call_answered" 2 m_is_call_answered) (z_all : mg "all" = none) :
    Has P w K mg base 2 "do_answer" 2 m_do_answer := by
  have sc := sc_do_answer
  refine has_P F sc rfl b hm fun cdv A outer s H hr hd => ?_
  exact (dss_one (ds_ret (de_all rfl (by rfl) z_all (da_cons (de_ofN (dn_lc [("call", 2)] rfl sc.nd (di_seq (de_var 0)) (blkOk_by rfl) (by decide) (by decide) (fun _ _ _ _ _ => (dg_name sc.nd rfl (by first | exact .inl rfl | exact .inr rfl))) (fun _ _ _ _ _ => dts_nil) (fun _ _ _ _ _ => (de_fn h_is_call_answered hr hd (by rfl) (da_cons (de_var 2) (da_cons (de_var 1) da_nil)))))) da_nil))))

/-! ### lots_cost -/
abbrev s_lots_cost : Stmt := topS 8
theorem sc_lots_cost : FnScope ["costs", "lots", "lot"] ["costs", "lots"] (defScope s_lots_cost) := ⟨rfl, rfl, rfl, by decide +kernel, rfl, by decide +kernel, by decide +kernel⟩
noncomputable def g_lots_cost : Stm :=
  (mRet (mOpL dSum (mCons (mOfN (mComp (mItems (mVar 1)) [2] (.nm 2) mTrue (mOp2 dIx (mVar 0) (mVar 2)))) mNil)))
noncomputable def m_lots_cost : List D → Option D := runP 2 3 g_lots_cost
theorem h_lots_cost {P : Program} {w : World} {K : PySem.W.Frag} {mg : Str → Option Value} {base : Heap} {f : Addr} {fd : FuncData} (F : Fun K "lots_cost" "lots_cost" s_lots_cost f fd) (hm : mg "lots_cost" = some (.ref f)) (b : Binds K fd ["costs", "lots"] []) (z_sum : mg "sum" = none) :
    Has P w K mg base 1 "lots_cost" 2 m_lots_cost := by
  have sc := sc_lots_cost
  refine has_P F sc rfl b hm fun cdv A outer s H hr hd => ?_
  exact (dss_one (ds_ret (de_sum rfl (by rfl) z_sum (da_cons (de_ofN (dn_lc [("lot", 2)] rfl sc.nd (di_seq (de_var 1)) (blkOk_by rfl) (by decide) (by decide) (fun _ _ _ _ _ => (dg_name sc.nd rfl (by first | exact .inl rfl | exact .inr rfl))) (fun _ _ _ _ _ => dts_nil) (fun _ _ _ _ _ => (de_ix (de_var 0) (de_var 2) (fun _ _ => rfl))))) da_nil))))

/-! ### all_lot_rows -/
abbrev s_all_lot_rows : Stmt := topS 9
theorem sc_all_lot_rows : FnScope ["many", "found", "lot", "lots"] ["many"] (defScope s_all_lot_rows) := ⟨rfl, rfl, rfl, by decide +kernel, rfl, by decide +kernel, by decide +kernel⟩
noncomputable def g_all_lot_rows : Stm :=
  (mSeq (mSetN false 1 (mLst (mCons (mTup mNil) mNil)))
    (mSeq (mFor (mRange1 (mVar 0)) (.nm 2) (mExt true 1 (mOfN (mComp (mItems (mOfN (mListOf (mVar 1)))) [3] (.nm 3) mTrue (mTup (mStar (mVar 3) (mCons (mVar 2) mNil)))))))
    (mRet (mVar 1))))
noncomputable def m_all_lot_rows : List D → Option D := runP 1 4 g_all_lot_rows
theorem h_all_lot_rows {P : Program} {w : World} {K : PySem.W.Frag} {mg : Str → Option Value} {base : Heap} {f : Addr} {fd : FuncData} (F : Fun K "all_lot_rows" "all_lot_rows" s_all_lot_rows f fd) (hm : mg "all_lot_rows" = some (.ref f)) (b : Binds K fd ["many"] []) (z_list : mg "list" = none) (z_range : mg "range" = none) :
    Has P w K mg base 1 "all_lot_rows" 1 m_all_lot_rows := by
  have sc := sc_all_lot_rows
  refine has_P F sc rfl b hm fun cdv A outer s H hr hd => ?_
  exact (dss_cons (ds_setN false sc.nd rfl (by first | exact .inl rfl | exact .inr rfl) (dn_lst (da_cons (de_tup da_nil) da_nil)))
    (dss_cons (ds_for PassesOwn.never rfl (di_range1 (by rfl) z_range (de_var 0)) (dg_name sc.nd rfl (by first | exact .inl rfl | exact .inr rfl)) (dss_one (ds_ext true 1 (pv 1) (de_ofN (dn_lc [("lots", 3)] rfl sc.nd (di_seq (de_ofN (dn_list (by rfl) z_list (de_var 1)))) (blkOk_by rfl) (by decide) (by decide) (fun _ _ _ _ _ => (dg_name sc.nd rfl (by first | exact .inl rfl | exact .inr rfl))) (fun _ _ _ _ _ => dts_nil) (fun _ _ _ _ _ => (de_tup (da_star (de_var 3) (da_cons (de_var 2) da_nil)))))))))
    (dss_one (ds_ret (de_var 1)))))

/-! ### least_lots -/
abbrev s_least_lots : Stmt := topS 10
theorem sc_least_lots : FnScope ["costs", "row", "lots"] ["costs", "row"] (defScope s_least_lots) := ⟨rfl, rfl, rfl, by decide +kernel, rfl, by decide +kernel, by decide +kernel⟩
noncomputable def g_least_lots : Stm :=
  (mRet (mOp2 dIx (mOpL dMinA (mCons (mOfN (mComp (mItems (mOpL m_all_lot_rows (mCons (mOpL dLen (mCons (mVar 0) mNil)) mNil))) [2] (.nm 2) (mBool (mOpL m_do_answer (mCons (mVar 1) (mCons (mVar 2) mNil)))) (mTup (mCons (mOpL m_lots_cost (mCons (mVar 0) (mCons (mVar 2) mNil))) (mCons (mVar 2) mNil))))) mNil)) (mPure (.int 1))))
noncomputable def m_least_lots : List D → Option D := runP 2 3 g_least_lots
theorem h_least_lots {P : Program} {w : World} {K : PySem.W.Frag} {mg : Str → Option Value} {base : Heap} {f : Addr} {fd : FuncData} (F : Fun K "least_lots" "least_lots" s_least_lots f fd) (hm : mg "least_lots" = some (.ref f)) (b : Binds K fd ["costs", "row"] []) (h_all_lot_rows : Has P w K mg base 2 "all_lot_rows" 1 m_all_lot_rows) (h_do_answer : Has P w K mg base 2 "do_answer" 2 m_do_answer) (h_lots_cost : Has P w K mg base 2 "lots_cost" 2 m_lots_cost) (z_len : mg "len" = none) (z_min : mg "min" = none) :
    Has P w K mg base 3 "least_lots" 2 m_least_lots := by
  have sc := sc_least_lots
  refine has_P F sc rfl b hm fun cdv A outer s H hr hd => ?_
  exact (dss_one (ds_ret (de_ix (de_minA rfl hr.u70 (by rfl) z_min (da_cons (de_ofN (dn_lc [("lots", 2)] rfl sc.nd (di_seq (de_fn h_all_lot_rows hr hd (by rfl) (da_cons (de_len (by rfl) z_len (da_cons (de_var 0) da_nil)) da_nil))) (blkOk_by rfl) (by decide) (by decide) (fun _ _ _ _ _ => (dg_name sc.nd rfl (by first | exact .inl rfl | exact .inr rfl))) (fun _ _ _ _ _ => (dts_one (dt_val (de_fn h_do_answer hr hd (by rfl) (da_cons (de_var 1) (da_cons (de_var 2) da_nil)))))) (fun _ _ _ _ _ => (de_tup (da_cons (de_fn h_lots_cost hr hd (by rfl) (da_cons (de_var 0) (da_cons (de_var 2) da_nil))) (da_cons (de_var 2) da_nil)))))) da_nil)) de_int (fun _ _ => rfl))))

/-! ### least_answer -/
abbrev s_least_answer : Stmt := topS 11
theorem sc_least_answer : FnScope ["costs", "row"] ["costs", "row"] (defScope s_least_answer) := ⟨rfl, rfl, rfl, by decide +kernel, rfl, by decide +kernel, by decide +kernel⟩
noncomputable def g_least_answer : Stm :=
  (mRet (mOpL m_lots_cost (mCons (mVar 0) (mCons (mOpL m_least_lots (mCons (mVar 0) (mCons (mVar 1) mNil))) mNil))))
noncomputable def m_least_answer : List D → Option D := runP 2 2 g_least_answer
theorem h_least_answer {P : Program} {w : World} {K : PySem.W.Frag} {mg : Str → Option Value} {base : Heap} {f : Addr} {fd : FuncData} (F : Fun K "least_answer" "least_answer" s_least_answer f fd) (hm : mg "least_answer" = some (.ref f)) (b : Binds K fd ["costs", "row"] []) (h_least_lots : Has P w K mg base 3 "least_lots" 2 m_least_lots) (h_lots_cost : Has P w K mg base 3 "lots_cost" 2 m_lots_cost) :
    Has P w K mg base 4 "least_answer" 2 m_least_answer := by
  have sc := sc_least_answer
  refine has_P F sc rfl b hm fun cdv A outer s H hr hd => ?_
  exact (dss_one (ds_ret (de_fn h_lots_cost hr hd (by rfl) (da_cons (de_var 0) (da_cons (de_fn h_least_lots hr hd (by rfl) (da_cons (de_var 0) (da_cons (de_var 1) da_nil))) da_nil)))))

/-! ### longest_call -/
abbrev s_longest_call : Stmt := topS 12
theorem sc_longest_call : FnScope ["row", "?0", "call"] ["row"] (defScope s_longest_call) := ⟨rfl, rfl, rfl, by decide +kernel, rfl, by decide +kernel, by decide +kernel⟩
noncomputable def g_longest_call : Stm :=
  (mRet (mOpL dMaxL (mCons (mOfN (mLst (mCons (mPure (.int 0)) (mStar (mOfN (mComp (mItems (mVar 0)) [2] (.nm 2) mTrue (mOpL dLen (mCons (mVar 2) mNil)))) mNil)))) mNil)))
noncomputable def m_longest_call : List D → Option D := runP 1 3 g_longest_call
theorem h_longest_call {P : Program} {w : World} {K : PySem.W.Frag} {mg : Str → Option Value} {base : Heap} {f : Addr} {fd : FuncData} (F : Fun K "longest_call" "longest_call" s_longest_call f fd) (hm : mg "longest_call" = some (.ref f)) (b : Binds K fd ["row"] []) (z_len : mg "len" = none) (z_max : mg "max" = none) :
    Has P w K mg base 1 "longest_call" 1 m_longest_call := by
  have sc := sc_longest_call
  refine has_P F sc rfl b hm fun cdv A outer s H hr hd => ?_
  exact (dss_one (ds_ret (de_maxI rfl (by rfl) z_max (da_cons (de_ofN (dn_lst (da_cons de_int (da_star (de_ofN (dn_lc [("call", 2)] rfl sc.nd (di_seq (de_var 0)) (blkOk_by rfl) (by decide) (by decide) (fun _ _ _ _ _ => (dg_name sc.nd rfl (by first | exact .inl rfl | exact .inr rfl))) (fun _ _ _ _ _ => dts_nil) (fun _ _ _ _ _ => (de_len (by rfl) z_len (da_cons (de_var 2) da_nil))))) da_nil)))) da_nil))))

/-! ### tight_run -/
abbrev s_tight_run : Stmt := topS 14
theorem sc_tight_run : FnScope ["costs", "row", "left", "taken", "steps", "prices", "call", "price", "lot", "new"] ["costs", "row"] (defScope s_tight_run) := ⟨rfl, rfl, rfl, by decide +kernel, rfl, by decide +kernel, by decide +kernel⟩
noncomputable def g_tight_run : Stm :=
  (mSeq (mPar false [2, 3, 4, 5] (mVOwn (mListOf (mVar 0)) (mVOwn (mLst mNil) (mVOwn (mLst mNil) (mVOwn (mLst mNil) mVNil)))))
    (mSeq (mFor (mItems (mVar 1)) (.nm 6) (mSeq (mSet true 7 (mIf (mBool (mOpL m_is_call_answered (mCons (mVar 6) (mCons (mVar 3) mNil)))) (mPure (.int 0)) (mOpL dMinA (mCons (mOfN (mComp (mItems (mVar 6)) [8] (.nm 8) mTrue (mOp2 dIx (mVar 2) (mVar 8)))) mNil))))
    (mSeq (mFor (mItems (mVar 6)) (.nm 8) (mSetIx true 2 (mOp2 dSub (mOp2 dIx (mVar 2) (mVar 8)) (mVar 7)) (mVar 8)))
    (mSeq (mSetN true 9 (mComp (mItems (mVar 6)) [8] (.nm 8) (mAnd (mBool (mOp2 dEqA (mOp2 dIx (mVar 2) (mVar 8)) (mPure (.int 0)))) (mBool (mOp2 dNotIn (mVar 8) (mVar 3)))) (mVar 8)))
    (mSeq (mExt true 3 (mVar 9))
    (mSeq (mApp true 4 (mOpL dTuple (mCons (mVar 9) mNil)))
    (mApp false 5 (mVar 7))))))))
    (mRet (mTup (mCons (mVar 4) (mCons (mVar 5) mNil))))))
noncomputable def m_tight_run : List D → Option D := runP 2 10 g_tight_run
theorem h_tight_run {P : Program} {w : World} {K : PySem.W.Frag} {mg : Str → Option Value} {base : Heap} {f : Addr} {fd : FuncData} (F : Fun K "tight_run" "tight_run" s_tight_run f fd) (hm : mg "tight_run" = some (.ref f)) (b : Binds K fd ["costs", "row"] []) (h_is_call_answered : Has P w K mg base 1 "is_call_answered" 2 m_is_call_answered) (z_list : mg "list" = none) (z_min : mg "min" = none) (z_tuple : mg "tuple" = none) :
    Has P w K mg base 2 "tight_run" 2 m_tight_run := by
  have sc := sc_tight_run
  refine has_P F sc rfl b hm fun cdv A outer s H hr hd => ?_
  exact (dss_cons (ds_parN false rfl sc.nd (.cons rfl (by first | exact .inl rfl | exact .inr rfl) (by first | exact .inl rfl | exact .inr rfl) (.cons rfl (by first | exact .inl rfl | exact .inr rfl) (by first | exact .inl rfl | exact .inr rfl) (.cons rfl (by first | exact .inl rfl | exact .inr rfl) (by first | exact .inl rfl | exact .inr rfl) (.cons rfl (by first | exact .inl rfl | exact .inr rfl) (by first | exact .inl rfl | exact .inr rfl) .nil rfl) rfl) rfl) rfl) (dv_own (dn_list (by rfl) z_list (de_var 0)) (dv_own (dn_lst da_nil) (dv_own (dn_lst da_nil) (dv_own (dn_lst da_nil) dv_nil)))) (by decide))
    (dss_cons (ds_for PassesOwn.never rfl (di_seq (de_var 1)) (dg_name sc.nd rfl (by first | exact .inl rfl | exact .inr rfl)) (dss_cons (ds_set true sc.nd rfl (by first | exact .inl rfl | exact .inr rfl) (de_if (dt_val (de_fn h_is_call_answered hr hd (by rfl) (da_cons (de_var 6) (da_cons (de_var 3) da_nil)))) de_int (de_minA rfl hr.u70 (by rfl) z_min (da_cons (de_ofN (dn_lc [("lot", 8)] rfl sc.nd (di_seq (de_var 6)) (blkOk_by rfl) (by decide) (by decide) (fun _ _ _ _ _ => (dg_name sc.nd rfl (by first | exact .inl rfl | exact .inr rfl))) (fun _ _ _ _ _ => dts_nil) (fun _ _ _ _ _ => (de_ix (de_var 2) (de_var 8) (fun _ _ => rfl))))) da_nil))))
    (dss_cons (ds_for PassesOwn.never rfl (di_seq (de_var 6)) (dg_name sc.nd rfl (by first | exact .inl rfl | exact .inr rfl)) (dss_one (ds_setIx true 2 (pv 2) (de_sub (de_ix (de_var 2) (de_var 8) (fun _ _ => rfl)) (de_var 7)) (de_var 8))))
    (dss_cons (ds_setLc true [("lot", 8)] rfl sc.nd (by rfl) rfl (sw_true rfl rfl rfl rfl) (di_seq (de_var 6)) (blkOk_by rfl) (by decide) (by decide) (fun _ _ _ _ _ => (dg_name sc.nd rfl (by first | exact .inl rfl | exact .inr rfl))) (fun _ _ _ _ _ => (dts_one (dt_w (dw_and (dt_eqA hr.u65 (de_ix (de_var 2) (de_var 8) (fun _ _ => rfl)) de_int) (dw_and1 (dt_notIn hr.u65 (de_var 8) (de_var 3))))))) (fun _ _ _ _ _ => (de_var 8)))
    (dss_cons (ds_ext true 3 (pv 3) (de_var 9))
    (dss_cons (ds_app true 4 (pv 4) (de_tuple (by rfl) z_tuple (da_cons (de_var 9) da_nil)))
    (dss_one (ds_app false 5 (pv 5) (de_var 7)))))))))
    (dss_one (ds_ret (de_tup (da_cons (de_var 4) (da_cons (de_var 5) da_nil)))))))

/-! ### tight_steps -/
abbrev s_tight_steps : Stmt := topS 15
theorem sc_tight_steps : FnScope ["costs", "row"] ["costs", "row"] (defScope s_tight_steps) := ⟨rfl, rfl, rfl, by decide +kernel, rfl, by decide +kernel, by decide +kernel⟩
noncomputable def g_tight_steps : Stm :=
  (mRet (mOpL dTuple (mCons (mOp2 dIx (mOpL m_tight_run (mCons (mVar 0) (mCons (mVar 1) mNil))) (mPure (.int 0))) mNil)))
noncomputable def m_tight_steps : List D → Option D := runP 2 2 g_tight_steps
theorem h_tight_steps {P : Program} {w : World} {K : PySem.W.Frag} {mg : Str → Option Value} {base : Heap} {f : Addr} {fd : FuncData} (F : Fun K "tight_steps" "tight_steps" s_tight_steps f fd) (hm : mg "tight_steps" = some (.ref f)) (b : Binds K fd ["costs", "row"] []) (h_tight_run : Has P w K mg base 2 "tight_run" 2 m_tight_run) (z_tuple : mg "tuple" = none) :
    Has P w K mg base 3 "tight_steps" 2 m_tight_steps := by
  have sc := sc_tight_steps
  refine has_P F sc rfl b hm fun cdv A outer s H hr hd => ?_
  exact (dss_one (ds_ret (de_tuple (by rfl) z_tuple (da_cons (de_ix (de_fn h_tight_run hr hd (by rfl) (da_cons (de_var 0) (da_cons (de_var 1) da_nil))) de_int (fun _ _ => rfl)) da_nil))))

/-! ### tight_way -/
abbrev s_tight_way : Stmt := topS 16
theorem sc_tight_way : FnScope ["costs", "row", "steps", "prices", "step", "lot"] ["costs", "row"] (defScope s_tight_way) := ⟨rfl, rfl, rfl, by decide +kernel, rfl, by decide +kernel, by decide +kernel⟩
noncomputable def g_tight_way : Stm :=
  (mSeq (mAsgT false (.tp [(.nm 2), (.nm 3)]) (mOpL m_tight_run (mCons (mVar 0) (mCons (mVar 1) mNil))))
    (mRet (mTup (mCons (mOpL dTuple (mCons (mOfN (mSort (mOfN (mComp2 (mItems (mVar 2)) [4, 5] (.nm 4) mTrue (mItems (mVar 4)) [5] (.nm 5) mTrue (mVar 5))))) mNil)) (mCons (mOpL dTuple (mCons (mVar 3) mNil)) mNil)))))
noncomputable def m_tight_way : List D → Option D := runP 2 6 g_tight_way
theorem h_tight_way {P : Program} {w : World} {K : PySem.W.Frag} {mg : Str → Option Value} {base : Heap} {f : Addr} {fd : FuncData} (F : Fun K "tight_way" "tight_way" s_tight_way f fd) (hm : mg "tight_way" = some (.ref f)) (b : Binds K fd ["costs", "row"] []) (h_tight_run : Has P w K mg base 2 "tight_run" 2 m_tight_run) (z_sorted : mg "sorted" = none) (z_tuple : mg "tuple" = none) :
    Has P w K mg base 3 "tight_way" 2 m_tight_way := by
  have sc := sc_tight_way
  refine has_P F sc rfl b hm fun cdv A outer s H hr hd => ?_
  exact (dss_cons (ds_asgT false (de_fn h_tight_run hr hd (by rfl) (da_cons (de_var 0) (da_cons (de_var 1) da_nil))) (dg_tup rfl (dgs_cons (dg_name sc.nd rfl (by first | exact .inl rfl | exact .inr rfl)) (dgs_cons (dg_name sc.nd rfl (by first | exact .inl rfl | exact .inr rfl)) dgs_nil)) rfl))
    (dss_one (ds_ret (de_tup (da_cons (de_tuple (by rfl) z_tuple (da_cons (de_ofN (dn_sorted (by rfl) z_sorted (de_ofN (dn_lc2 [("step", 4), ("lot", 5)] [5] rfl sc.nd (di_seq (de_var 2)) (blkOk_by rfl) (by decide) (by decide) (by decide) (by decide) (fun _ _ _ _ _ => (dg_name sc.nd rfl (by first | exact .inl rfl | exact .inr rfl))) (fun _ _ _ _ _ => dts_nil) (fun _ _ _ _ _ => (di_seq (de_var 4))) (fun _ _ _ _ _ => (dg_name sc.nd rfl (by first | exact .inl rfl | exact .inr rfl))) (fun _ _ _ _ _ => dts_nil) (fun _ _ _ _ _ => (de_var 5)))))) da_nil)) (da_cons (de_tuple (by rfl) z_tuple (da_cons (de_var 3) da_nil)) da_nil))))))

/-! ### tight_cost -/
abbrev s_tight_cost : Stmt := topS 17
theorem sc_tight_cost : FnScope ["costs", "row"] ["costs", "row"] (defScope s_tight_cost) := ⟨rfl, rfl, rfl, by decide +kernel, rfl, by decide +kernel, by decide +kernel⟩
noncomputable def g_tight_cost : Stm :=
  (mRet (mOpL m_lots_cost (mCons (mVar 0) (mCons (mOp2 dIx (mOpL m_tight_way (mCons (mVar 0) (mCons (mVar 1) mNil))) (mPure (.int 0))) mNil))))
noncomputable def m_tight_cost : List D → Option D := runP 2 2 g_tight_cost
theorem h_tight_cost {P : Program} {w : World} {K : PySem.W.Frag} {mg : Str → Option Value} {base : Heap} {f : Addr} {fd : FuncData} (F : Fun K "tight_cost" "tight_cost" s_tight_cost f fd) (hm : mg "tight_cost" = some (.ref f)) (b : Binds K fd ["costs", "row"] []) (h_lots_cost : Has P w K mg base 3 "lots_cost" 2 m_lots_cost) (h_tight_way : Has P w K mg base 3 "tight_way" 2 m_tight_way) :
    Has P w K mg base 4 "tight_cost" 2 m_tight_cost := by
  have sc := sc_tight_cost
  refine has_P F sc rfl b hm fun cdv A outer s H hr hd => ?_
  exact (dss_one (ds_ret (de_fn h_lots_cost hr hd (by rfl) (da_cons (de_var 0) (da_cons (de_ix (de_fn h_tight_way hr hd (by rfl) (da_cons (de_var 0) (da_cons (de_var 1) da_nil))) de_int (fun _ _ => rfl)) da_nil)))))

/-! ### rent_row -/
abbrev s_rent_row : Stmt := topS 18
theorem sc_rent_row : FnScope ["b", "days", "day"] ["b", "days"] (defScope s_rent_row) := ⟨rfl, rfl, rfl, by decide +kernel, rfl, by decide +kernel, by decide +kernel⟩
noncomputable def g_rent_row : Stm :=
  (mRet (mTup (mCons (mTup (mCons (mVar 0) (mStar (mOfN (mComp (mRange1 (mVar 1)) [2] (.nm 2) mTrue (mPure (.int 1)))) mNil))) (mCons (mOpL dTuple (mCons (mOfN (mComp (mRange2 (mPure (.int 1)) (mOp2 dAdd (mVar 1) (mPure (.int 1)))) [2] (.nm 2) mTrue (mTup (mCons (mPure (.int 0)) (mCons (mVar 2) mNil))))) mNil)) mNil))))
noncomputable def m_rent_row : List D → Option D := runP 2 3 g_rent_row
theorem h_rent_row {P : Program} {w : World} {K : PySem.W.Frag} {mg : Str → Option Value} {base : Heap} {f : Addr} {fd : FuncData} (F : Fun K "rent_row" "rent_row" s_rent_row f fd) (hm : mg "rent_row" = some (.ref f)) (b : Binds K fd ["b", "days"] []) (z_range : mg "range" = none) (z_tuple : mg "tuple" = none) :
    Has P w K mg base 1 "rent_row" 2 m_rent_row := by
  have sc := sc_rent_row
  refine has_P F sc rfl b hm fun cdv A outer s H hr hd => ?_
  exact (dss_one (ds_ret (de_tup (da_cons (de_tup (da_cons (de_var 0) (da_star (de_ofN (dn_lc [("day", 2)] rfl sc.nd (di_range1 (by rfl) z_range (de_var 1)) (blkOk_by rfl) (by decide) (by decide) (fun _ _ _ _ _ => (dg_name sc.nd rfl (by first | exact .inl rfl | exact .inr rfl))) (fun _ _ _ _ _ => dts_nil) (fun _ _ _ _ _ => de_int))) da_nil))) (da_cons (de_tuple (by rfl) z_tuple (da_cons (de_ofN (dn_lc [("day", 2)] rfl sc.nd (di_range2 (by rfl) z_range de_int (de_add (de_var 1) de_int)) (blkOk_by rfl) (by decide) (by decide) (fun _ _ _ _ _ => (dg_name sc.nd rfl (by first | exact .inl rfl | exact .inr rfl))) (fun _ _ _ _ _ => dts_nil) (fun _ _ _ _ _ => (de_tup (da_cons de_int (da_cons (de_var 2) da_nil)))))) da_nil)) da_nil)))))

/-! ### law -/
abbrev s_law : Stmt := topS 22
theorem sc_law : FnScope ["script", "source", "lap", "f", "takes", "row", "left", "paid", "turn", "many", "b", "days", "costs", "calls", "due", "steps", "day", "taken"] ["script"] (defScope s_law) := ⟨rfl, rfl, rfl, by decide +kernel, rfl, by decide +kernel, by decide +kernel⟩
noncomputable def g_law : Stm :=
  (mSeq (mFor (mRange1 (mPure (.int 4))) (.nm 2) (mSeq (mSet false 3 (mOp2 dAdd (mPure (.int 1)) (mCallS 1 mPick (mCons (mPure (.int 9)) mNil))))
    (mSeq (mSet false 4 (mOpL dTuple (mCons (mOfN (mComp (mRange1 (mOp2 dAdd (mPure (.int 1)) (mCallS 1 mPick (mCons (mPure (.int 6)) mNil)))) [8] (.nm 8) mTrue (mOp2 dAdd (mPure (.int 1)) (mCallS 1 mPick (mCons (mPure (.int 3)) mNil))))) mNil)))
    (mSeq (mPar false [5, 6, 7, 8] (mVOwn (mLst mNil) (mVDat (mOfN (mLstRg (mRg1 (mVar 3)))) (mVDat (mPure (.int 0)) (mVDat (mPure (.int 0)) mVNil)))))
    (mSeq (mWhile (mBool (mOp2 dNeA (mVar 6) (mOfN (mLst mNil)))) (mSeq (mApp false 5 (mOpL dTuple (mCons (mVar 6) mNil)))
    (mSeq (mSet false 9 (mOpL dMin2 (mCons (mOpL dLen (mCons (mVar 6) mNil)) (mCons (mOp2 dIx (mVar 4) (mOpL dMin2 (mCons (mVar 8) (mCons (mOp2 dSub (mOpL dLen (mCons (mVar 4) mNil)) (mPure (.int 1))) mNil)))) mNil))))
    (mPar false [6, 7, 8] (mVDat (mSlice (mVar 6) (mPart (mVar 9)) mNoPart) (mVDat (mOp2 dAdd (mVar 7) (mVar 9)) (mVDat (mOp2 dAdd (mVar 8) (mPure (.int 1))) mVNil)))))))
    (mSeq (mIfS (mBool (mOp2 dNeA (mOpL dRepr (mCons (mOfN (mLst (mCons (mOpL m_nested_row (mCons (mVar 3) (mCons (mVar 4) mNil))) (mCons (mOpL m_nested_cost (mCons (mVar 3) (mCons (mVar 4) mNil))) mNil)))) mNil)) (mOpL dRepr (mCons (mOfN (mLst (mCons (mOpL dTuple (mCons (mVar 5) mNil)) (mCons (mVar 7) mNil)))) mNil)))) (mRet (mPure (.bool false))) mSkip)
    (mSeq (mIfS (mOr (mBool (mOp2 dNeA (mVar 7) (mVar 3))) (mOr (mBool (mOp2 dGt (mOpL dLen (mCons (mVar 5) mNil)) (mVar 3))) (mOr (mBool (mOp2 dNeA (mOpL m_longest_call (mCons (mOpL dTuple (mCons (mVar 5) mNil)) mNil)) (mVar 3))) (mBool (mOp2 dNeA (mOpL m_least_answer (mCons (mOp2 dMul (mTup (mCons (mPure (.int 1)) mNil)) (mVar 3)) (mCons (mOpL dTuple (mCons (mVar 5) mNil)) mNil))) (mPure (.int 1))))))) (mRet (mPure (.bool false))) mSkip)
    (mSeq (mIfS (mOr (mBool (mOp2 dNeA (mOpL dRepr (mCons (mOpL m_tight_row (mCons (mVar 3) mNil)) mNil)) (mOpL dRepr (mCons (mTup (mCons (mTupRg (mRg1 (mVar 3))) mNil)) mNil)))) (mBool (mOp2 dNeA (mOpL m_tight_cost (mCons (mOp2 dMul (mTup (mCons (mPure (.int 1)) mNil)) (mVar 3)) (mCons (mOpL m_tight_row (mCons (mVar 3) mNil)) mNil))) (mVar 3)))) (mRet (mPure (.bool false))) mSkip)
    (mSeq (mPar false [10, 11] (mVDat (mOp2 dAdd (mPure (.int 1)) (mCallS 1 mPick (mCons (mPure (.int 12)) mNil))) (mVDat (mCallS 1 mPick (mCons (mPure (.int 10)) mNil)) mVNil)))
    (mSeq (mAsgT false (.tp [(.nm 12), (.nm 13)]) (mOpL m_rent_row (mCons (mVar 10) (mCons (mVar 11) mNil))))
    (mSeq (mIfS (mBool (mOp2 dNeA (mOpL dRepr (mCons (mTup (mCons (mVar 12) (mCons (mVar 13) mNil))) mNil)) (mOpL dRepr (mCons (mTup (mCons (mOp2 dAdd (mTup (mCons (mVar 10) mNil)) (mOp2 dMul (mTup (mCons (mPure (.int 1)) mNil)) (mVar 11))) (mCons (mOpL dTuple (mCons (mOfN (mComp (mRange2 (mPure (.int 1)) (mOp2 dAdd (mVar 11) (mPure (.int 1)))) [16] (.nm 16) mTrue (mTup (mCons (mPure (.int 0)) (mCons (mVar 16) mNil))))) mNil)) mNil))) mNil)))) (mRet (mPure (.bool false))) mSkip)
    (mSeq (mSet false 14 (mIf (mBool (mOp2 dLt (mVar 11) (mVar 10))) (mVar 11) (mOp2 dMul (mPure (.int 2)) (mVar 10))))
    (mSeq (mIfS (mOr (mBool (mOp2 dNeA (mOpL m_tight_cost (mCons (mVar 12) (mCons (mVar 13) mNil))) (mVar 14))) (mBool (mOp2 dNeA (mOpL m_least_answer (mCons (mVar 12) (mCons (mVar 13) mNil))) (mOpL dMin2 (mCons (mVar 11) (mCons (mVar 10) mNil)))))) (mRet (mPure (.bool false))) mSkip)
    (mSeq (mSet false 15 (mOpL m_tight_steps (mCons (mVar 12) (mCons (mVar 13) mNil))))
    (mFor (mRange2 (mPure (.int 1)) (mOp2 dAdd (mVar 11) (mPure (.int 1)))) (.nm 16) (mSeq (mSet false 17 (mIf (mBool (mOp2 dLt (mVar 16) (mVar 10))) (mTup (mCons (mVar 16) mNil)) (mIf (mBool (mOp2 dEqA (mVar 16) (mVar 10))) (mTup (mCons (mPure (.int 0)) (mCons (mVar 16) mNil))) (mTup mNil))))
    (mIfS (mBool (mOp2 dNeA (mOp2 dIx (mVar 15) (mOp2 dSub (mVar 16) (mPure (.int 1)))) (mVar 17))) (mRet (mPure (.bool false))) mSkip)))))))))))))))))
    (mRet (mOp2 dEqA (mOpL m_nested_row (mCons (mPure (.int 3)) (mCons (mTup (mCons (mPure (.int 1)) mNil)) mNil))) (mTup (mCons (mTup (mCons (mPure (.int 0)) (mCons (mPure (.int 1)) (mCons (mPure (.int 2)) mNil)))) (mCons (mTup (mCons (mPure (.int 1)) (mCons (mPure (.int 2)) mNil))) (mCons (mTup (mCons (mPure (.int 2)) mNil)) mNil)))))))
theorem b_law {P : Program} {w : World} {K : PySem.W.Frag} {mg : Str → Option Value} {base : Heap} {f : Addr} (h__law_pick : HasS P w K mg base 4 "_law_pick" 2 mPick) (h_least_answer : Has P w K mg base 4 "least_answer" 2 m_least_answer) (h_longest_call : Has P w K mg base 4 "longest_call" 1 m_longest_call) (h_nested_cost : Has P w K mg base 4 "nested_cost" 2 m_nested_cost) (h_nested_row : Has P w K mg base 4 "nested_row" 2 m_nested_row) (h_rent_row : Has P w K mg base 4 "rent_row" 2 m_rent_row) (h_tight_cost : Has P w K mg base 4 "tight_cost" 2 m_tight_cost) (h_tight_row : Has P w K mg base 4 "tight_row" 1 m_tight_row) (h_tight_steps : Has P w K mg base 4 "tight_steps" 2 m_tight_steps) (z_len : mg "len" = none) (z_list : mg "list" = none) (z_min : mg "min" = none) (z_range : mg "range" = none) (z_repr : mg "repr" = none) (z_tuple : mg "tuple" = none) (cdv : Value) (A : Around) (outer : List Env) (s : Shared) (H : Hp) (hr : Room 4 (A.deeper (envOfC "law" (defScope s_law) s.heap.objs.size f cdv))) (hd : A.guards = some []) :
    DSs (cxOf CX0 P w K mg base ["script", "source", "lap", "f", "takes", "row", "left", "paid", "turn", "many", "b", "days", "costs", "calls", "due", "steps", "day", "taken"] "law" (defScope s_law) f cdv A outer s H E0).nox ((defBody s_law).drop 1) g_law := by
  have sc := sc_law
  exact (dss_cons (ds_for PassesOwn.never rfl (di_range1 (by rfl) z_range de_int) (dg_name sc.nd rfl (by first | exact .inl rfl | exact .inr rfl)) (dss_cons (ds_set false sc.nd rfl (by first | exact .inl rfl | exact .inr rfl) (de_add de_int (de_fnS 1 h__law_pick hr hd (by rfl) (pv 1) (da_cons de_int da_nil))))
    (dss_cons (ds_set false sc.nd rfl (by first | exact .inl rfl | exact .inr rfl) (de_tuple (by rfl) z_tuple (da_cons (de_ofN (dn_lc [("turn", 8)] rfl sc.nd (di_range1 (by rfl) z_range (de_add de_int (de_fnS 1 h__law_pick hr hd (by rfl) (pv 1) (da_cons de_int da_nil)))) (blkOk_by rfl) (by decide) (by decide) (fun _ _ _ _ _ => (dg_name sc.nd rfl (by first | exact .inl rfl | exact .inr rfl))) (fun _ _ _ _ _ => dts_nil) (fun _ _ _ _ _ => (de_add de_int (de_fnS 1 h__law_pick hr hd (by rfl) (pv 1) (da_cons de_int da_nil)))))) da_nil)))
    (dss_cons (ds_parN false rfl sc.nd (.cons rfl (by first | exact .inl rfl | exact .inr rfl) (by first | exact .inl rfl | exact .inr rfl) (.cons rfl (by first | exact .inl rfl | exact .inr rfl) (by first | exact .inl rfl | exact .inr rfl) (.cons rfl (by first | exact .inl rfl | exact .inr rfl) (by first | exact .inl rfl | exact .inr rfl) (.cons rfl (by first | exact .inl rfl | exact .inr rfl) (by first | exact .inl rfl | exact .inr rfl) .nil rfl) rfl) rfl) rfl) (dv_own (dn_lst da_nil) (dv_dat (de_ofN (dn_lstRg rfl (by rfl) z_list (dr_1 (by rfl) z_range (de_var 3)))) (dv_dat de_int (dv_dat de_int dv_nil)))) (by decide))
    (dss_cons (ds_while PassesOwn.never (dt_neA hr.u65 (de_var 6) (de_ofN (dn_lst da_nil))) (dss_cons (ds_app false 5 (pv 5) (de_tuple (by rfl) z_tuple (da_cons (de_var 6) da_nil)))
    (dss_cons (ds_set false sc.nd rfl (by first | exact .inl rfl | exact .inr rfl) (de_min2 rfl (by rfl) z_min (da_cons (de_len (by rfl) z_len (da_cons (de_var 6) da_nil)) (da_cons (de_ix (de_var 4) (de_min2 rfl (by rfl) z_min (da_cons (de_var 8) (da_cons (de_sub (de_len (by rfl) z_len (da_cons (de_var 4) da_nil)) de_int) da_nil))) (fun _ _ => rfl)) da_nil))))
    (dss_one (ds_par3 false rfl sc.nd rfl rfl rfl (by decide) (by decide) (by decide) rfl rfl rfl (dv_dat (de_slice (de_var 6) (do_some (de_var 9)) do_none) (dv_dat (de_add (de_var 7) (de_var 9)) (dv_dat (de_add (de_var 8) de_int) dv_nil))) rfl)))))
    (dss_cons (ds_if (dt_neA hr.u65 (de_repr hd hr.u66 (by rfl) z_repr (da_cons (de_ofN (dn_lst (da_cons (de_fn h_nested_row hr hd (by rfl) (da_cons (de_var 3) (da_cons (de_var 4) da_nil))) (da_cons (de_fn h_nested_cost hr hd (by rfl) (da_cons (de_var 3) (da_cons (de_var 4) da_nil))) da_nil)))) da_nil)) (de_repr hd hr.u66 (by rfl) z_repr (da_cons (de_ofN (dn_lst (da_cons (de_tuple (by rfl) z_tuple (da_cons (de_var 5) da_nil)) (da_cons (de_var 7) da_nil)))) da_nil))) (dss_one (ds_ret de_bl)) dss_nil)
    (dss_cons (ds_if (dt_w (dw_or (dt_neA hr.u65 (de_var 7) (de_var 3)) (dw_or (dt_gt (de_len (by rfl) z_len (da_cons (de_var 5) da_nil)) (de_var 3)) (dw_or (dt_neA hr.u65 (de_fn h_longest_call hr hd (by rfl) (da_cons (de_tuple (by rfl) z_tuple (da_cons (de_var 5) da_nil)) da_nil)) (de_var 3)) (dw_or1 (dt_neA hr.u65 (de_fn h_least_answer hr hd (by rfl) (da_cons (de_mul (de_tup (da_cons de_int da_nil)) (de_var 3)) (da_cons (de_tuple (by rfl) z_tuple (da_cons (de_var 5) da_nil)) da_nil))) de_int)))))) (dss_one (ds_ret de_bl)) dss_nil)
    (dss_cons (ds_if (dt_w (dw_or (dt_neA hr.u65 (de_repr hd hr.u66 (by rfl) z_repr (da_cons (de_fn h_tight_row hr hd (by rfl) (da_cons (de_var 3) da_nil)) da_nil)) (de_repr hd hr.u66 (by rfl) z_repr (da_cons (de_tup (da_cons (de_tupRg rfl (by rfl) z_tuple (dr_1 (by rfl) z_range (de_var 3))) da_nil)) da_nil))) (dw_or1 (dt_neA hr.u65 (de_fn h_tight_cost hr hd (by rfl) (da_cons (de_mul (de_tup (da_cons de_int da_nil)) (de_var 3)) (da_cons (de_fn h_tight_row hr hd (by rfl) (da_cons (de_var 3) da_nil)) da_nil))) (de_var 3))))) (dss_one (ds_ret de_bl)) dss_nil)
    (dss_cons (ds_par false rfl sc.nd rfl rfl (by decide) rfl rfl (dv_dat (de_add de_int (de_fnS 1 h__law_pick hr hd (by rfl) (pv 1) (da_cons de_int da_nil))) (dv_dat (de_fnS 1 h__law_pick hr hd (by rfl) (pv 1) (da_cons de_int da_nil)) dv_nil)) rfl)
    (dss_cons (ds_asgT false (de_fn h_rent_row hr hd (by rfl) (da_cons (de_var 10) (da_cons (de_var 11) da_nil))) (dg_tup rfl (dgs_cons (dg_name sc.nd rfl (by first | exact .inl rfl | exact .inr rfl)) (dgs_cons (dg_name sc.nd rfl (by first | exact .inl rfl | exact .inr rfl)) dgs_nil)) rfl))
    (dss_cons (ds_if (dt_neA hr.u65 (de_repr hd hr.u66 (by rfl) z_repr (da_cons (de_tup (da_cons (de_var 12) (da_cons (de_var 13) da_nil))) da_nil)) (de_repr hd hr.u66 (by rfl) z_repr (da_cons (de_tup (da_cons (de_add (de_tup (da_cons (de_var 10) da_nil)) (de_mul (de_tup (da_cons de_int da_nil)) (de_var 11))) (da_cons (de_tuple (by rfl) z_tuple (da_cons (de_ofN (dn_lc [("day", 16)] rfl sc.nd (di_range2 (by rfl) z_range de_int (de_add (de_var 11) de_int)) (blkOk_by rfl) (by decide) (by decide) (fun _ _ _ _ _ => (dg_name sc.nd rfl (by first | exact .inl rfl | exact .inr rfl))) (fun _ _ _ _ _ => dts_nil) (fun _ _ _ _ _ => (de_tup (da_cons de_int (da_cons (de_var 16) da_nil)))))) da_nil)) da_nil))) da_nil))) (dss_one (ds_ret de_bl)) dss_nil)
    (dss_cons (ds_set false sc.nd rfl (by first | exact .inl rfl | exact .inr rfl) (de_if (dt_lt (de_var 11) (de_var 10)) (de_var 11) (de_mul de_int (de_var 10))))
    (dss_cons (ds_if (dt_w (dw_or (dt_neA hr.u65 (de_fn h_tight_cost hr hd (by rfl) (da_cons (de_var 12) (da_cons (de_var 13) da_nil))) (de_var 14)) (dw_or1 (dt_neA hr.u65 (de_fn h_least_answer hr hd (by rfl) (da_cons (de_var 12) (da_cons (de_var 13) da_nil))) (de_min2 rfl (by rfl) z_min (da_cons (de_var 11) (da_cons (de_var 10) da_nil))))))) (dss_one (ds_ret de_bl)) dss_nil)
    (dss_cons (ds_set false sc.nd rfl (by first | exact .inl rfl | exact .inr rfl) (de_fn h_tight_steps hr hd (by rfl) (da_cons (de_var 12) (da_cons (de_var 13) da_nil))))
    (dss_one (ds_for PassesOwn.never rfl (di_range2 (by rfl) z_range de_int (de_add (de_var 11) de_int)) (dg_name sc.nd rfl (by first | exact .inl rfl | exact .inr rfl)) (dss_cons (ds_set false sc.nd rfl (by first | exact .inl rfl | exact .inr rfl) (de_if (dt_lt (de_var 16) (de_var 10)) (de_tup (da_cons (de_var 16) da_nil)) (de_if (dt_eqA hr.u65 (de_var 16) (de_var 10)) (de_tup (da_cons de_int (da_cons (de_var 16) da_nil))) (de_tup da_nil))))
    (dss_one (ds_if (dt_neA hr.u65 (de_ix (de_var 15) (de_sub (de_var 16) de_int) (fun _ _ => rfl)) (de_var 17)) (dss_one (ds_ret de_bl)) dss_nil)))))))))))))))))))
    (dss_one (ds_ret (de_eqA hr.u65 (de_fn h_nested_row hr hd (by rfl) (da_cons de_int (da_cons (de_tup (da_cons de_int da_nil)) da_nil))) (de_tup (da_cons (de_tup (da_cons de_int (da_cons de_int (da_cons de_int da_nil)))) (da_cons (de_tup (da_cons de_int (da_cons de_int da_nil))) (da_cons (de_tup (da_cons de_int da_nil)) da_nil))))))))

/-! ### _law_open_cells -/
abbrev s__law_open_cells : Stmt := topS 20
theorem sc__law_open_cells : FnScope ["script", "stirred", "cell", "cells"] ["script"] (defScope s__law_open_cells) := ⟨rfl, rfl, rfl, by decide +kernel, rfl, by decide +kernel, by decide +kernel⟩
theorem h__law_open_cells {P : Program} {w : World} {K : PySem.W.Frag} {mg : Str → Option Value} {base : Heap} {f : Addr} {fd : FuncData} (F : Fun K "_law_open_cells" "_law_open_cells" s__law_open_cells f fd) (hm : mg "_law_open_cells" = some (.ref f)) (b : Binds K fd ["script"] []) (z_abs : mg "abs" = none) (z_int : mg "int" = none) : HasO P w K mg base 1 := by
  have sc := sc__law_open_cells
  refine has_O F sc b hm fun cdv A outer s H hr => ?_
  exact pss_cons (ps_set (i := 1) sc.nd rfl (.inl rfl) pe_int)
    (pss_cons (ps_for PassesOwn.never rfl (pi_list (pv 0)) (pg_name (i := 2) sc.nd rfl (.inl rfl)) (pss_one (ps_set (i := 1) sc.nd rfl (.inl rfl) (pe_op op_mod (pe_callTy call_int1 (by rfl) z_int (by decide +kernel) (pa_cons (pe_op op_add (pe_op op_add (pe_op op_mulX (pv 1) pe_int) (pe_op op_mulX (pv 2) pe_int)) pe_int) pa_nil)) pe_int))))
    (pss_cons (ps_setLc (own := [("cell", 2)]) rfl sc.nd (by rfl) rfl (sw_true rfl rfl rfl rfl) (pi_list (pv 0)) (blkOk_by rfl) (fun _ _ _ _ _ => pg_name (i := 2) sc.nd rfl (.inl rfl)) (fun _ _ _ _ _ => pts_nil) (fun _ _ _ _ _ => pe_callB call_abs (by rfl) z_abs (by decide +kernel) (pa_cons (pv 2) pa_nil)))
    (pss_one (ps_ret (pe_disp (pps_cons pe_str (pe_revL (pv 3)) (pps_cons pe_str pe_int (pps_cons pe_str (pv 1) (pps_cons pe_str pe_int pps_nil)))) rfl rfl (by simp) (by decide))))))

/-! ### _law_pick -/
abbrev s__law_pick : Stmt := topS 21
theorem sc__law_pick : FnScope ["source", "most", "cells", "others", "lap", "stirred"] ["source", "most"] (defScope s__law_pick) := ⟨rfl, rfl, rfl, by decide +kernel, rfl, by decide +kernel, by decide +kernel⟩
theorem h__law_pick {P : Program} {w : World} {K : PySem.W.Frag} {mg : Str → Option Value} {base : Heap} {f : Addr} {fd : FuncData} (F : Fun K "_law_pick" "_law_pick" s__law_pick f fd) (hm : mg "_law_pick" = some (.ref f)) (b : Binds K fd ["source", "most"] []) (z_int : mg "int" = none) (z_len : mg "len" = none) : HasS P w K mg base 1 "_law_pick" 2 mPick := by
  have sc := sc__law_pick
  refine has_pick F sc b hm fun cdv A outer s H hr => ?_
  have hu := hu_of hr
  exact pss_cons (ps_if (pt_cmpR op_lt (pv 1) pe_int (nomark _)) (pss_one (ps_ret pe_int)) pss_nil)
    (pss_cons (ps_set (i := 2) sc.nd rfl (.inl rfl) (pe_dget hu (pv 0) pe_str (fun _ _ => rfl)))
    (pss_cons (ps_while PassesOwn.never (pw_and (pt_cmpR op_lt (pe_dget hu (pv 0) pe_str (fun _ _ => rfl)) pe_int (nomark _)) (pw_and1 (pt_cmpR op_gt (pe_callB call_len_seq (by rfl) z_len PySem.boot_len (pa_cons (pv 2) pa_nil)) pe_int (nomark _)))).pt
       (pss_one (ps_dput hu (pv 0) pe_str (pe_bm0 PySem.F.plainAttrs_list PySem.F.slot_list_pop PySem.F.type_list_pop mt_pop (pv 2)) rfl)))
    (pss_cons (ps_set (i := 3) sc.nd rfl (.inl rfl) (pe_dget hu (pv 0) pe_str (fun _ _ => rfl)))
    (pss_cons (ps_if (pt_cmpR op_gt (pv 3) pe_int (nomark _)) (pss_cons (ps_dput hu (pv 0) pe_str (pe_op op_fdivW (pv 3) (pv 1)) rfl) (pss_one (ps_ret (pe_op op_mod (pe_callTy call_int1 (by rfl) z_int (by decide +kernel) (pa_cons (pv 3) pa_nil)) (pv 1))))) pss_nil)
    (pss_cons (ps_dput hu (pv 0) pe_str (pe_op op_add (pe_dget hu (pv 0) pe_str (fun _ _ => rfl)) pe_int) rfl)
    (pss_cons (ps_set (i := 4) sc.nd rfl (.inl rfl) (pe_dget hu (pv 0) pe_str (fun _ _ => rfl)))
    (pss_cons (ps_set (i := 5) sc.nd rfl (.inl rfl) (pe_op op_mod (pe_callTy call_int1 (by rfl) z_int (by decide +kernel) (pa_cons (pe_op op_add (pe_dget hu (pv 0) pe_str (fun _ _ => rfl)) (pe_op op_mulX (pv 4) pe_int)) pa_nil)) pe_int))
    (pss_cons (ps_set (i := 5) sc.nd rfl (.inl rfl) (pe_op op_mod (pe_callTy call_int1 (by rfl) z_int (by decide +kernel) (pa_cons (pe_op op_add (pe_op op_mulX (pv 5) (pv 5)) (pe_op op_mulX (pv 4) pe_int)) pa_nil)) pe_int))
    (pss_one (ps_ret (pe_op op_mod (pe_callTy call_int1 (by rfl) z_int (by decide +kernel) (pa_cons (pe_op op_fdivW (pv 5) pe_int) pa_nil)) (pv 1))))))))))))

theorem h_law {P : Program} {w : World} {K : PySem.W.Frag} {mg : Str → Option Value} {base : Heap} {f : Addr} {fd : FuncData} (F : Fun K "law" "law" s_law f fd) (ho : HasO P w K mg base 4) (h__law_pick : HasS P w K mg base 4 "_law_pick" 2 mPick) (h_least_answer : Has P w K mg base 4 "least_answer" 2 m_least_answer) (h_longest_call : Has P w K mg base 4 "longest_call" 1 m_longest_call) (h_nested_cost : Has P w K mg base 4 "nested_cost" 2 m_nested_cost) (h_nested_row : Has P w K mg base 4 "nested_row" 2 m_nested_row) (h_rent_row : Has P w K mg base 4 "rent_row" 2 m_rent_row) (h_tight_cost : Has P w K mg base 4 "tight_cost" 2 m_tight_cost) (h_tight_row : Has P w K mg base 4 "tight_row" 1 m_tight_row) (h_tight_steps : Has P w K mg base 4 "tight_steps" 2 m_tight_steps) (z_len : mg "len" = none) (z_list : mg "list" = none) (z_min : mg "min" = none) (z_range : mg "range" = none) (z_repr : mg "repr" = none) (z_tuple : mg "tuple" = none) : FnG P w K mg base 5 f fd ["script"] (spLaw K 18 g_law) := by
  refine law_G F sc_law (by decide) fun cdv A outer s H hr hd => ?_
  exact ⟨_, _, rfl, ps_set (i := 1) sc_law.nd rfl (by first | exact .inl rfl | exact .inr rfl) (pe_open ho hr hd (by rfl) (pv 0)), b_law h__law_pick h_least_answer h_longest_call h_nested_cost h_nested_row h_rent_row h_tight_cost h_tight_row h_tight_steps z_len z_list z_min z_range z_repr z_tuple cdv A outer s H hr hd⟩

theorem all_here {l : PySem.W.OpenLaw} {w : World} {K : PySem.W.Frag} {h : Heap} {mg : Str → Option Value} {fa f0 f1 f2 f3 f4 f5 f6 f7 f8 f9 f10 f11 f12 f13 f14 f15 f16 f17 f18 : Addr} (X : K.In h) (G : h.Ns mainGlobals mg) (hfa : mg "law" = some (.ref fa))
    {od0 an0 od1 an1 od2 an2 od3 an3 od4 an4 od5 an5 od6 an6 od7 an7 od8 an8 od9 an9 od10 an10 od11 an11 od12 an12 od13 an13 od14 an14 od15 an15 od16 an16 od17 an17 od18 an18 : Option Addr} {sl0 sl1 sl2 sl3 sl4 sl5 sl6 sl7 sl8 sl9 sl10 sl11 sl12 sl13 sl14 sl15 sl16 sl17 sl18 : Array (Option Value)} {oc0 kV0 dc0 pm0 cd0 ct0 oc1 kV1 dc1 pm1 cd1 ct1 oc2 kV2 dc2 pm2 cd2 ct2 oc3 kV3 dc3 pm3 cd3 ct3 oc4 kV4 dc4 pm4 cd4 ct4 oc5 kV5 dc5 pm5 cd5 ct5 oc6 kV6 dc6 pm6 cd6 ct6 oc7 kV7 dc7 pm7 cd7 ct7 oc8 kV8 dc8 pm8 cd8 ct8 oc9 kV9 dc9 pm9 cd9 ct9 oc10 kV10 dc10 pm10 cd10 ct10 oc11 kV11 dc11 pm11 cd11 ct11 oc12 kV12 dc12 pm12 cd12 ct12 oc13 kV13 dc13 pm13 cd13 ct13 oc14 kV14 dc14 pm14 cd14 ct14 oc15 kV15 dc15 pm15 cd15 ct15 oc16 kV16 dc16 pm16 cd16 ct16 oc17 kV17 dc17 pm17 cd17 ct17 oc18 kV18 dc18 pm18 cd18 ct18 : Value}
    (a0 : PySem.W.nsIn K mainGlobals "_law_open_cells" = some (some (.ref f0))) (l0 : K.lookup f0 = some ⟨oc0, od0, .func (PySem.W.fnOf "_law_open_cells" "_law_open_cells" (defArgs s__law_open_cells) (defBody s__law_open_cells) (defScope s__law_open_cells) .none kV0 dc0 pm0 an0 cd0 ct0), sl0⟩) (c0 : PySem.W.codeIn K cd0 "_law_open_cells" = true) (k0 : PySem.W.keepIn K (.ref f0) = true)
    (a1 : PySem.W.nsIn K mainGlobals "_law_pick" = some (some (.ref f1))) (l1 : K.lookup f1 = some ⟨oc1, od1, .func (PySem.W.fnOf "_law_pick" "_law_pick" (defArgs s__law_pick) (defBody s__law_pick) (defScope s__law_pick) .none kV1 dc1 pm1 an1 cd1 ct1), sl1⟩) (c1 : PySem.W.codeIn K cd1 "_law_pick" = true) (k1 : PySem.W.keepIn K (.ref f1) = true)
    (a2 : PySem.W.nsIn K mainGlobals "taken_at" = some (some (.ref f2))) (l2 : K.lookup f2 = some ⟨oc2, od2, .func (PySem.W.fnOf "taken_at" "taken_at" (defArgs s_taken_at) (defBody s_taken_at) (defScope s_taken_at) .none kV2 dc2 pm2 an2 cd2 ct2), sl2⟩) (c2 : PySem.W.codeIn K cd2 "taken_at" = true) (k2 : PySem.W.keepIn K (.ref f2) = true)
    (a3 : PySem.W.nsIn K mainGlobals "nested_row" = some (some (.ref f3))) (l3 : K.lookup f3 = some ⟨oc3, od3, .func (PySem.W.fnOf "nested_row" "nested_row" (defArgs s_nested_row) (defBody s_nested_row) (defScope s_nested_row) .none kV3 dc3 pm3 an3 cd3 ct3), sl3⟩) (c3 : PySem.W.codeIn K cd3 "nested_row" = true) (k3 : PySem.W.keepIn K (.ref f3) = true)
    (a4 : PySem.W.nsIn K mainGlobals "nested_cost" = some (some (.ref f4))) (l4 : K.lookup f4 = some ⟨oc4, od4, .func (PySem.W.fnOf "nested_cost" "nested_cost" (defArgs s_nested_cost) (defBody s_nested_cost) (defScope s_nested_cost) .none kV4 dc4 pm4 an4 cd4 ct4), sl4⟩) (c4 : PySem.W.codeIn K cd4 "nested_cost" = true) (k4 : PySem.W.keepIn K (.ref f4) = true)
    (a5 : PySem.W.nsIn K mainGlobals "tight_row" = some (some (.ref f5))) (l5 : K.lookup f5 = some ⟨oc5, od5, .func (PySem.W.fnOf "tight_row" "tight_row" (defArgs s_tight_row) (defBody s_tight_row) (defScope s_tight_row) .none kV5 dc5 pm5 an5 cd5 ct5), sl5⟩) (c5 : PySem.W.codeIn K cd5 "tight_row" = true) (k5 : PySem.W.keepIn K (.ref f5) = true)
    (a6 : PySem.W.nsIn K mainGlobals "is_call_answered" = some (some (.ref f6))) (l6 : K.lookup f6 = some ⟨oc6, od6, .func (PySem.W.fnOf "is_call_answered" "is_call_answered" (defArgs s_is_call_answered) (defBody s_is_call_answered) (defScope s_is_call_answered) .none kV6 dc6 pm6 an6 cd6 ct6), sl6⟩) (c6 : PySem.W.codeIn K cd6 "is_call_answered" = true) (k6 : PySem.W.keepIn K (.ref f6) = true)
    (a7 : PySem.W.nsIn K mainGlobals "do_answer" = some (some (.ref f7))) (l7 : K.lookup f7 = some ⟨oc7, od7, .func (PySem.W.fnOf "do_answer" "do_answer" (defArgs s_do_answer) (defBody s_do_answer) (defScope s_do_answer) .none kV7 dc7 pm7 an7 cd7 ct7), sl7⟩) (c7 : PySem.W.codeIn K cd7 "do_answer" = true) (k7 : PySem.W.keepIn K (.ref f7) = true)
    (a8 : PySem.W.nsIn K mainGlobals "lots_cost" = some (some (.ref f8))) (l8 : K.lookup f8 = some ⟨oc8, od8, .func (PySem.W.fnOf "lots_cost" "lots_cost" (defArgs s_lots_cost) (defBody s_lots_cost) (defScope s_lots_cost) .none kV8 dc8 pm8 an8 cd8 ct8), sl8⟩) (c8 : PySem.W.codeIn K cd8 "lots_cost" = true) (k8 : PySem.W.keepIn K (.ref f8) = true)
    (a9 : PySem.W.nsIn K mainGlobals "all_lot_rows" = some (some (.ref f9))) (l9 : K.lookup f9 = some ⟨oc9, od9, .func (PySem.W.fnOf "all_lot_rows" "all_lot_rows" (defArgs s_all_lot_rows) (defBody s_all_lot_rows) (defScope s_all_lot_rows) .none kV9 dc9 pm9 an9 cd9 ct9), sl9⟩) (c9 : PySem.W.codeIn K cd9 "all_lot_rows" = true) (k9 : PySem.W.keepIn K (.ref f9) = true)
    (a10 : PySem.W.nsIn K mainGlobals "least_lots" = some (some (.ref f10))) (l10 : K.lookup f10 = some ⟨oc10, od10, .func (PySem.W.fnOf "least_lots" "least_lots" (defArgs s_least_lots) (defBody s_least_lots) (defScope s_least_lots) .none kV10 dc10 pm10 an10 cd10 ct10), sl10⟩) (c10 : PySem.W.codeIn K cd10 "least_lots" = true) (k10 : PySem.W.keepIn K (.ref f10) = true)
    (a11 : PySem.W.nsIn K mainGlobals "least_answer" = some (some (.ref f11))) (l11 : K.lookup f11 = some ⟨oc11, od11, .func (PySem.W.fnOf "least_answer" "least_answer" (defArgs s_least_answer) (defBody s_least_answer) (defScope s_least_answer) .none kV11 dc11 pm11 an11 cd11 ct11), sl11⟩) (c11 : PySem.W.codeIn K cd11 "least_answer" = true) (k11 : PySem.W.keepIn K (.ref f11) = true)
    (a12 : PySem.W.nsIn K mainGlobals "longest_call" = some (some (.ref f12))) (l12 : K.lookup f12 = some ⟨oc12, od12, .func (PySem.W.fnOf "longest_call" "longest_call" (defArgs s_longest_call) (defBody s_longest_call) (defScope s_longest_call) .none kV12 dc12 pm12 an12 cd12 ct12), sl12⟩) (c12 : PySem.W.codeIn K cd12 "longest_call" = true) (k12 : PySem.W.keepIn K (.ref f12) = true)
    (a13 : PySem.W.nsIn K mainGlobals "tight_run" = some (some (.ref f13))) (l13 : K.lookup f13 = some ⟨oc13, od13, .func (PySem.W.fnOf "tight_run" "tight_run" (defArgs s_tight_run) (defBody s_tight_run) (defScope s_tight_run) .none kV13 dc13 pm13 an13 cd13 ct13), sl13⟩) (c13 : PySem.W.codeIn K cd13 "tight_run" = true) (k13 : PySem.W.keepIn K (.ref f13) = true)
    (a14 : PySem.W.nsIn K mainGlobals "tight_steps" = some (some (.ref f14))) (l14 : K.lookup f14 = some ⟨oc14, od14, .func (PySem.W.fnOf "tight_steps" "tight_steps" (defArgs s_tight_steps) (defBody s_tight_steps) (defScope s_tight_steps) .none kV14 dc14 pm14 an14 cd14 ct14), sl14⟩) (c14 : PySem.W.codeIn K cd14 "tight_steps" = true) (k14 : PySem.W.keepIn K (.ref f14) = true)
    (a15 : PySem.W.nsIn K mainGlobals "tight_way" = some (some (.ref f15))) (l15 : K.lookup f15 = some ⟨oc15, od15, .func (PySem.W.fnOf "tight_way" "tight_way" (defArgs s_tight_way) (defBody s_tight_way) (defScope s_tight_way) .none kV15 dc15 pm15 an15 cd15 ct15), sl15⟩) (c15 : PySem.W.codeIn K cd15 "tight_way" = true) (k15 : PySem.W.keepIn K (.ref f15) = true)
    (a16 : PySem.W.nsIn K mainGlobals "tight_cost" = some (some (.ref f16))) (l16 : K.lookup f16 = some ⟨oc16, od16, .func (PySem.W.fnOf "tight_cost" "tight_cost" (defArgs s_tight_cost) (defBody s_tight_cost) (defScope s_tight_cost) .none kV16 dc16 pm16 an16 cd16 ct16), sl16⟩) (c16 : PySem.W.codeIn K cd16 "tight_cost" = true) (k16 : PySem.W.keepIn K (.ref f16) = true)
    (a17 : PySem.W.nsIn K mainGlobals "rent_row" = some (some (.ref f17))) (l17 : K.lookup f17 = some ⟨oc17, od17, .func (PySem.W.fnOf "rent_row" "rent_row" (defArgs s_rent_row) (defBody s_rent_row) (defScope s_rent_row) .none kV17 dc17 pm17 an17 cd17 ct17), sl17⟩) (c17 : PySem.W.codeIn K cd17 "rent_row" = true) (k17 : PySem.W.keepIn K (.ref f17) = true)
    (a18 : PySem.W.nsIn K mainGlobals "law" = some (some (.ref f18))) (l18 : K.lookup f18 = some ⟨oc18, od18, .func (PySem.W.fnOf "law" "law" (defArgs s_law) (defBody s_law) (defScope s_law) .none kV18 dc18 pm18 an18 cd18 ct18), sl18⟩) (c18 : PySem.W.codeIn K cd18 "law" = true) (k18 : PySem.W.keepIn K (.ref f18) = true)
    (y_abs : PySem.W.nsIn K mainGlobals "abs" = some none)
    (y_all : PySem.W.nsIn K mainGlobals "all" = some none)
    (y_any : PySem.W.nsIn K mainGlobals "any" = some none)
    (y_enumerate : PySem.W.nsIn K mainGlobals "enumerate" = some none)
    (y_int : PySem.W.nsIn K mainGlobals "int" = some none)
    (y_len : PySem.W.nsIn K mainGlobals "len" = some none)
    (y_list : PySem.W.nsIn K mainGlobals "list" = some none)
    (y_max : PySem.W.nsIn K mainGlobals "max" = some none)
    (y_min : PySem.W.nsIn K mainGlobals "min" = some none)
    (y_range : PySem.W.nsIn K mainGlobals "range" = some none)
    (y_repr : PySem.W.nsIn K mainGlobals "repr" = some none)
    (y_sorted : PySem.W.nsIn K mainGlobals "sorted" = some none)
    (y_sum : PySem.W.nsIn K mainGlobals "sum" = some none)
    (y_tuple : PySem.W.nsIn K mainGlobals "tuple" = some none) :
    ∃ fd : FuncData, (∀ (s : Shared) (u : Value), BindsTo s fd ⟨[u], []⟩ [("script", u)]) ∧ ∀ base : Heap, K.In base → base.Ns mainGlobals mg → FnG l.prog w K mg base 5 fa fd ["script"] (spLaw K 18 g_law) := by
  cases hfa.symm.trans (PySem.W.mg_of X G a18)
  have z_abs := PySem.W.mg_none_of X G y_abs
  have z_all := PySem.W.mg_none_of X G y_all
  have z_any := PySem.W.mg_none_of X G y_any
  have z_enumerate := PySem.W.mg_none_of X G y_enumerate
  have z_int := PySem.W.mg_none_of X G y_int
  have z_len := PySem.W.mg_none_of X G y_len
  have z_list := PySem.W.mg_none_of X G y_list
  have z_max := PySem.W.mg_none_of X G y_max
  have z_min := PySem.W.mg_none_of X G y_min
  have z_range := PySem.W.mg_none_of X G y_range
  have z_repr := PySem.W.mg_none_of X G y_repr
  have z_sorted := PySem.W.mg_none_of X G y_sorted
  have z_sum := PySem.W.mg_none_of X G y_sum
  have z_tuple := PySem.W.mg_none_of X G y_tuple
  have F0 := fun_mk (st := s__law_open_cells) l0 c0 k0
  have b0 := F0.binds (ps := ["script"]) fun _ _ _ _ _ _ us hl => match us, hl with | [_], _ => rfl
  have F1 := fun_mk (st := s__law_pick) l1 c1 k1
  have b1 := F1.binds (ps := ["source", "most"]) fun _ _ _ _ _ _ us hl => match us, hl with | [_, _], _ => rfl
  have F2 := fun_mk (st := s_taken_at) l2 c2 k2
  have b2 := F2.binds (ps := ["takes", "turn"]) fun _ _ _ _ _ _ us hl => match us, hl with | [_, _], _ => rfl
  have F3 := fun_mk (st := s_nested_row) l3 c3 k3
  have b3 := F3.binds (ps := ["f", "takes"]) fun _ _ _ _ _ _ us hl => match us, hl with | [_, _], _ => rfl
  have F4 := fun_mk (st := s_nested_cost) l4 c4 k4
  have b4 := F4.binds (ps := ["f", "takes"]) fun _ _ _ _ _ _ us hl => match us, hl with | [_, _], _ => rfl
  have F5 := fun_mk (st := s_tight_row) l5 c5 k5
  have b5 := F5.binds (ps := ["f"]) fun _ _ _ _ _ _ us hl => match us, hl with | [_], _ => rfl
  have F6 := fun_mk (st := s_is_call_answered) l6 c6 k6
  have b6 := F6.binds (ps := ["call", "lots"]) fun _ _ _ _ _ _ us hl => match us, hl with | [_, _], _ => rfl
  have F7 := fun_mk (st := s_do_answer) l7 c7 k7
  have b7 := F7.binds (ps := ["row", "lots"]) fun _ _ _ _ _ _ us hl => match us, hl with | [_, _], _ => rfl
  have F8 := fun_mk (st := s_lots_cost) l8 c8 k8
  have b8 := F8.binds (ps := ["costs", "lots"]) fun _ _ _ _ _ _ us hl => match us, hl with | [_, _], _ => rfl
  have F9 := fun_mk (st := s_all_lot_rows) l9 c9 k9
  have b9 := F9.binds (ps := ["many"]) fun _ _ _ _ _ _ us hl => match us, hl with | [_], _ => rfl
  have F10 := fun_mk (st := s_least_lots) l10 c10 k10
  have b10 := F10.binds (ps := ["costs", "row"]) fun _ _ _ _ _ _ us hl => match us, hl with | [_, _], _ => rfl
  have F11 := fun_mk (st := s_least_answer) l11 c11 k11
  have b11 := F11.binds (ps := ["costs", "row"]) fun _ _ _ _ _ _ us hl => match us, hl with | [_, _], _ => rfl
  have F12 := fun_mk (st := s_longest_call) l12 c12 k12
  have b12 := F12.binds (ps := ["row"]) fun _ _ _ _ _ _ us hl => match us, hl with | [_], _ => rfl
  have F13 := fun_mk (st := s_tight_run) l13 c13 k13
  have b13 := F13.binds (ps := ["costs", "row"]) fun _ _ _ _ _ _ us hl => match us, hl with | [_, _], _ => rfl
  have F14 := fun_mk (st := s_tight_steps) l14 c14 k14
  have b14 := F14.binds (ps := ["costs", "row"]) fun _ _ _ _ _ _ us hl => match us, hl with | [_, _], _ => rfl
  have F15 := fun_mk (st := s_tight_way) l15 c15 k15
  have b15 := F15.binds (ps := ["costs", "row"]) fun _ _ _ _ _ _ us hl => match us, hl with | [_, _], _ => rfl
  have F16 := fun_mk (st := s_tight_cost) l16 c16 k16
  have b16 := F16.binds (ps := ["costs", "row"]) fun _ _ _ _ _ _ us hl => match us, hl with | [_, _], _ => rfl
  have F17 := fun_mk (st := s_rent_row) l17 c17 k17
  have b17 := F17.binds (ps := ["b", "days"]) fun _ _ _ _ _ _ us hl => match us, hl with | [_, _], _ => rfl
  have F18 := fun_mk (st := s_law) l18 c18 k18
  refine ⟨PySem.W.fnOf "law" "law" (defArgs s_law) (defBody s_law) (defScope s_law) .none kV18 dc18 pm18 an18 cd18 ct18, fun s v => .of_eq rfl, fun base _ _ => ?_⟩
  have H__law_open_cells : HasO l.prog w K mg base 1 := h__law_open_cells F0 (PySem.W.mg_of X G a0) b0 z_abs z_int
  have H__law_pick : HasS l.prog w K mg base 1 "_law_pick" 2 mPick := h__law_pick F1 (PySem.W.mg_of X G a1) b1 z_int z_len
  have H_taken_at : Has l.prog w K mg base 1 "taken_at" 2 m_taken_at := h_taken_at F2 (PySem.W.mg_of X G a2) b2 z_len z_min
  have H_nested_row : Has l.prog w K mg base 2 "nested_row" 2 m_nested_row := h_nested_row F3 (PySem.W.mg_of X G a3) b3 (H_taken_at.mono (by decide)) z_len z_range z_tuple
  have H_nested_cost : Has l.prog w K mg base 3 "nested_cost" 2 m_nested_cost := h_nested_cost F4 (PySem.W.mg_of X G a4) b4 (H_nested_row.mono (by decide)) (H_taken_at.mono (by decide)) z_enumerate z_len z_min z_sum
  have H_tight_row : Has l.prog w K mg base 3 "tight_row" 1 m_tight_row := h_tight_row F5 (PySem.W.mg_of X G a5) b5 (H_nested_row.mono (by decide))
  have H_is_call_answered : Has l.prog w K mg base 1 "is_call_answered" 2 m_is_call_answered := h_is_call_answered F6 (PySem.W.mg_of X G a6) b6 z_any
  have H_do_answer : Has l.prog w K mg base 2 "do_answer" 2 m_do_answer := h_do_answer F7 (PySem.W.mg_of X G a7) b7 (H_is_call_answered.mono (by decide)) z_all
  have H_lots_cost : Has l.prog w K mg base 1 "lots_cost" 2 m_lots_cost := h_lots_cost F8 (PySem.W.mg_of X G a8) b8 z_sum
  have H_all_lot_rows : Has l.prog w K mg base 1 "all_lot_rows" 1 m_all_lot_rows := h_all_lot_rows F9 (PySem.W.mg_of X G a9) b9 z_list z_range
  have H_least_lots : Has l.prog w K mg base 3 "least_lots" 2 m_least_lots := h_least_lots F10 (PySem.W.mg_of X G a10) b10 (H_all_lot_rows.mono (by decide)) (H_do_answer.mono (by decide)) (H_lots_cost.mono (by decide)) z_len z_min
  have H_least_answer : Has l.prog w K mg base 4 "least_answer" 2 m_least_answer := h_least_answer F11 (PySem.W.mg_of X G a11) b11 (H_least_lots.mono (by decide)) (H_lots_cost.mono (by decide))
  have H_longest_call : Has l.prog w K mg base 1 "longest_call" 1 m_longest_call := h_longest_call F12 (PySem.W.mg_of X G a12) b12 z_len z_max
  have H_tight_run : Has l.prog w K mg base 2 "tight_run" 2 m_tight_run := h_tight_run F13 (PySem.W.mg_of X G a13) b13 (H_is_call_answered.mono (by decide)) z_list z_min z_tuple
  have H_tight_steps : Has l.prog w K mg base 3 "tight_steps" 2 m_tight_steps := h_tight_steps F14 (PySem.W.mg_of X G a14) b14 (H_tight_run.mono (by decide)) z_tuple
  have H_tight_way : Has l.prog w K mg base 3 "tight_way" 2 m_tight_way := h_tight_way F15 (PySem.W.mg_of X G a15) b15 (H_tight_run.mono (by decide)) z_sorted z_tuple
  have H_tight_cost : Has l.prog w K mg base 4 "tight_cost" 2 m_tight_cost := h_tight_cost F16 (PySem.W.mg_of X G a16) b16 (H_lots_cost.mono (by decide)) (H_tight_way.mono (by decide))
  have H_rent_row : Has l.prog w K mg base 1 "rent_row" 2 m_rent_row := h_rent_row F17 (PySem.W.mg_of X G a17) b17 z_range z_tuple
  exact h_law F18 (H__law_open_cells.mono (by decide)) (H__law_pick.mono (by decide)) (H_least_answer.mono (by decide)) (H_longest_call.mono (by decide)) (H_nested_cost.mono (by decide)) (H_nested_row.mono (by decide)) (H_rent_row.mono (by decide)) (H_tight_cost.mono (by decide)) (H_tight_row.mono (by decide)) (H_tight_steps.mono (by decide)) z_len z_list z_min z_range z_repr z_tuple

end W93

namespace W93
open PySem DL
/-! ### lots that answer; what they cost -/
def ansC (lots call : List Int) : Bool := call.any fun l => decide (l ∈ lots)
def ansR (lots : List Int) (row : List (List Int)) : Bool := row.all (ansC lots)
def gt (cs : List Int) (l : Int) : Int := cs.getD l.toNat 0
def costL (cs lots : List Int) : Int := (lots.map (gt cs)).sum
def Okl (n : Nat) (lots : List Int) : Prop := ∀ l ∈ lots, 0 ≤ l ∧ l < n
theorem gt_some {cs : List Int} {l : Int} (h : 0 ≤ l ∧ l < cs.length) : cs[l.toNat]? = some (gt cs l) := by
  have hi : l.toNat < cs.length := by omega
  unfold gt
  rw [List.getD_eq_getElem?_getD, List.getElem?_eq_getElem hi]
  rfl
theorem dAny_bools (bs : List Bool) : dAny [.list (bs.map .bool)] = some (.bool (bs.any fun b => b)) := by
  simp [dAny, dBools, boolsOf_map]
theorem dAll_bools (bs : List Bool) : dAll [.list (bs.map .bool)] = some (.bool (bs.all fun b => b)) := by
  simp [dAll, dBools, boolsOf_map]
theorem dSum_ints (ns : List Int) : dSum [.list (ns.map .int)] = some (.int ns.sum) := by
  simp [dSum, dInts, intsOf_map]
theorem dTuple_list (ds : List D) : dTuple [.list ds] = some (.tuple ds) := by simp [dTuple, seqOf]
theorem dTuple_tuple (ds : List D) : dTuple [.tuple ds] = some (.tuple ds) := by simp [dTuple, seqOf]
/-- a row of lots as a tuple or as a list -/
def seqD (b : Bool) (xs : List Int) : D := if b = true then It xs else Il xs
theorem dIn_seq (b : Bool) (x : Int) (xs : List Int) : dIn (.int x) (seqD b xs) = some (.bool (decide (x ∈ xs))) := by
  cases b
  · exact dIn_il x xs
  · exact dIn_it x xs
theorem answered_ev (call lots : List Int) (b : Bool) : m_is_call_answered [It call, seqD b lots] = some (.bool (ansC lots call)) := by
  have hc : compGo (.nm 2) (mPure true) (mOp2 dIn (mVar 2) (mVar 1)) [some (It call), some (seqD b lots), none] (call.map .int) noSrc = some ((call.map fun l => decide (l ∈ lots)).map .bool, noSrc) := by
    rw [List.map_map]
    refine comp_all (q := fun l => .bool (decide (l ∈ lots))) fun l _ => ⟨[(2, .int l)], rfl, ?_⟩
    simp only [setD, List.foldl_cons, List.foldl_nil]
    simp only [mPure_ev, mBind_ev, mLift_ev, mVar_ev, mOp2_ev, mOp1_ev, mOpL_ev, mBool_ev, mNil_ev, mCons_ev, mStar_ev, mTup_ev, mLst_ev, mOfN_ev, mListOf_ev, mItems_ev, mTrue_ev, seqOf_list, seqOf_tuple, bOf_bool, iOf_int, see_dat, see_no, see_src, see_ownT, see_ownF, okD_F, okA_F, okD_int, okD_bool, okA_nil, okA_ints, okD_ints, okSet_ev, okLen_nil, mIf_ev, mAnd_ev, mOr_ev, mNot_ev, mNoPart_ev, mPart_ev, mSlice_ev, mRange1_ev, mRange2_ev, mRg1_ev, mRg2_ev, mTupRg_ev, mLstRg_ev, mSkip_ev, mRet_ev, mSet_ev, mSetN_ev, mApp_ev, mExt_ev, mSetIx_ev, okY_no, okY_dat, okY_own, mIfS_ev, mVNil_ev, mVDat_ev, mVOwn_ev, mPar_ev, mFor_ev, mAsgT_ev, dAdd_ii, dSub_ii, dLt_ii, dLe_ii, dGt_ii, dGe_ii, dMin2_ii, dMax2_ii, dEqA_ii, dNeA_ii, dNeA_ss, enter_1, enter_2, enter_3, view_nil, view_cons, List.replicate_succ, List.replicate_zero, List.getElem?_cons_zero, List.getElem?_cons_succ, List.set_cons_zero, List.set_cons_succ, Bool.and_true, Bool.true_and, if_true, if_false, Bool.false_eq_true, Option.map_some, Option.bind_some, decide_true, decide_false, dLen_it, dLen_il, mComp, mComp2, wipeD, dIn_seq]
  simp only [mOp2_ev, mOp1_ev, mOpL_ev, mBool_ev, mNil_ev, mCons_ev, mStar_ev, mTup_ev, mLst_ev, mOfN_ev, mListOf_ev, mItems_ev, mTrue_ev, mIf_ev, mAnd_ev, mOr_ev, mNot_ev, mNoPart_ev, mPart_ev, mSlice_ev, mRange1_ev, mRange2_ev, mRg1_ev, mRg2_ev, mTupRg_ev, mLstRg_ev, mVNil_ev, mVDat_ev, mVOwn_ev, mComp, mComp2, wipeD] at hc
  refine runP_rt rfl (ρ := [.dat (It call), .dat (seqD b lots), .no]) (τ := noSrc) ?_
  simp only [mPure_ev, mBind_ev, mLift_ev, mVar_ev, mOp2_ev, mOp1_ev, mOpL_ev, mBool_ev, mNil_ev, mCons_ev, mStar_ev, mTup_ev, mLst_ev, mOfN_ev, mListOf_ev, mItems_ev, mTrue_ev, seqOf_list, seqOf_tuple, bOf_bool, iOf_int, see_dat, see_no, see_src, see_ownT, see_ownF, okD_F, okA_F, okD_int, okD_bool, okA_nil, okA_ints, okD_ints, okSet_ev, okLen_nil, mIf_ev, mAnd_ev, mOr_ev, mNot_ev, mNoPart_ev, mPart_ev, mSlice_ev, mRange1_ev, mRange2_ev, mRg1_ev, mRg2_ev, mTupRg_ev, mLstRg_ev, mSkip_ev, mRet_ev, mSet_ev, mSetN_ev, mApp_ev, mExt_ev, mSetIx_ev, okY_no, okY_dat, okY_own, mIfS_ev, mVNil_ev, mVDat_ev, mVOwn_ev, mPar_ev, mFor_ev, mAsgT_ev, dAdd_ii, dSub_ii, dLt_ii, dLe_ii, dGt_ii, dGe_ii, dMin2_ii, dMax2_ii, dEqA_ii, dNeA_ii, dNeA_ss, enter_1, enter_2, enter_3, view_nil, view_cons, List.replicate_succ, List.replicate_zero, List.getElem?_cons_zero, List.getElem?_cons_succ, List.set_cons_zero, List.set_cons_succ, Bool.and_true, Bool.true_and, if_true, if_false, Bool.false_eq_true, Option.map_some, Option.bind_some, decide_true, decide_false, dLen_it, dLen_il, mComp, mComp2, wipeD, g_is_call_answered, hc, dAny_bools]
  simp only [ansC, List.any_map, Function.comp_def]
theorem do_answer_ev (row : List (List Int)) (lots : List Int) (b : Bool) : m_do_answer [Itt row, seqD b lots] = some (.bool (ansR lots row)) := by
  have hc : compGo (.nm 2) (mPure true) (mOpL m_is_call_answered (mCons (mVar 2) (mCons (mVar 1) mNil))) [some (Itt row), some (seqD b lots), none] (row.map It) noSrc = some ((row.map (ansC lots)).map .bool, noSrc) := by
    rw [List.map_map]
    refine comp_all (q := fun c => .bool (ansC lots c)) fun c _ => ⟨[(2, It c)], rfl, ?_⟩
    simp only [setD, List.foldl_cons, List.foldl_nil]
    simp only [mPure_ev, mBind_ev, mLift_ev, mVar_ev, mOp2_ev, mOp1_ev, mOpL_ev, mBool_ev, mNil_ev, mCons_ev, mStar_ev, mTup_ev, mLst_ev, mOfN_ev, mListOf_ev, mItems_ev, mTrue_ev, seqOf_list, seqOf_tuple, bOf_bool, iOf_int, see_dat, see_no, see_src, see_ownT, see_ownF, okD_F, okA_F, okD_int, okD_bool, okA_nil, okA_ints, okD_ints, okSet_ev, okLen_nil, mIf_ev, mAnd_ev, mOr_ev, mNot_ev, mNoPart_ev, mPart_ev, mSlice_ev, mRange1_ev, mRange2_ev, mRg1_ev, mRg2_ev, mTupRg_ev, mLstRg_ev, mSkip_ev, mRet_ev, mSet_ev, mSetN_ev, mApp_ev, mExt_ev, mSetIx_ev, okY_no, okY_dat, okY_own, mIfS_ev, mVNil_ev, mVDat_ev, mVOwn_ev, mPar_ev, mFor_ev, mAsgT_ev, dAdd_ii, dSub_ii, dLt_ii, dLe_ii, dGt_ii, dGe_ii, dMin2_ii, dMax2_ii, dEqA_ii, dNeA_ii, dNeA_ss, enter_1, enter_2, enter_3, view_nil, view_cons, List.replicate_succ, List.replicate_zero, List.getElem?_cons_zero, List.getElem?_cons_succ, List.set_cons_zero, List.set_cons_succ, Bool.and_true, Bool.true_and, if_true, if_false, Bool.false_eq_true, Option.map_some, Option.bind_some, decide_true, decide_false, dLen_it, dLen_il, mComp, mComp2, wipeD, answered_ev]
  simp only [mOp2_ev, mOp1_ev, mOpL_ev, mBool_ev, mNil_ev, mCons_ev, mStar_ev, mTup_ev, mLst_ev, mOfN_ev, mListOf_ev, mItems_ev, mTrue_ev, mIf_ev, mAnd_ev, mOr_ev, mNot_ev, mNoPart_ev, mPart_ev, mSlice_ev, mRange1_ev, mRange2_ev, mRg1_ev, mRg2_ev, mTupRg_ev, mLstRg_ev, mVNil_ev, mVDat_ev, mVOwn_ev, mComp, mComp2, wipeD] at hc
  refine runP_rt rfl (ρ := [.dat (Itt row), .dat (seqD b lots), .no]) (τ := noSrc) ?_
  simp only [mPure_ev, mBind_ev, mLift_ev, mVar_ev, mOp2_ev, mOp1_ev, mOpL_ev, mBool_ev, mNil_ev, mCons_ev, mStar_ev, mTup_ev, mLst_ev, mOfN_ev, mListOf_ev, mItems_ev, mTrue_ev, seqOf_list, seqOf_tuple, bOf_bool, iOf_int, see_dat, see_no, see_src, see_ownT, see_ownF, okD_F, okA_F, okD_int, okD_bool, okA_nil, okA_ints, okD_ints, okSet_ev, okLen_nil, mIf_ev, mAnd_ev, mOr_ev, mNot_ev, mNoPart_ev, mPart_ev, mSlice_ev, mRange1_ev, mRange2_ev, mRg1_ev, mRg2_ev, mTupRg_ev, mLstRg_ev, mSkip_ev, mRet_ev, mSet_ev, mSetN_ev, mApp_ev, mExt_ev, mSetIx_ev, okY_no, okY_dat, okY_own, mIfS_ev, mVNil_ev, mVDat_ev, mVOwn_ev, mPar_ev, mFor_ev, mAsgT_ev, dAdd_ii, dSub_ii, dLt_ii, dLe_ii, dGt_ii, dGe_ii, dMin2_ii, dMax2_ii, dEqA_ii, dNeA_ii, dNeA_ss, enter_1, enter_2, enter_3, view_nil, view_cons, List.replicate_succ, List.replicate_zero, List.getElem?_cons_zero, List.getElem?_cons_succ, List.set_cons_zero, List.set_cons_succ, Bool.and_true, Bool.true_and, if_true, if_false, Bool.false_eq_true, Option.map_some, Option.bind_some, decide_true, decide_false, dLen_it, dLen_il, mComp, mComp2, wipeD, g_do_answer, hc, dAll_bools]
  simp only [ansR, List.all_map, Function.comp_def]
theorem lots_cost_ev {cs lots : List Int} (h : Okl cs.length lots) : m_lots_cost [It cs, It lots] = some (.int (costL cs lots)) := by
  have hc : compGo (.nm 2) (mPure true) (mOp2 dIx (mVar 0) (mVar 2)) [some (It cs), some (It lots), none] (lots.map .int) noSrc = some ((lots.map (gt cs)).map .int, noSrc) := by
    rw [List.map_map]
    refine comp_all (q := fun l => .int (gt cs l)) fun l hl => ⟨[(2, .int l)], rfl, ?_⟩
    have hx : dIx (It cs) (.int l) = some (.int (gt cs l)) := dIx_it (h l hl).1 (gt_some (h l hl))
    simp only [setD, List.foldl_cons, List.foldl_nil]
    simp only [mPure_ev, mBind_ev, mLift_ev, mVar_ev, mOp2_ev, mOp1_ev, mOpL_ev, mBool_ev, mNil_ev, mCons_ev, mStar_ev, mTup_ev, mLst_ev, mOfN_ev, mListOf_ev, mItems_ev, mTrue_ev, seqOf_list, seqOf_tuple, bOf_bool, iOf_int, see_dat, see_no, see_src, see_ownT, see_ownF, okD_F, okA_F, okD_int, okD_bool, okA_nil, okA_ints, okD_ints, okSet_ev, okLen_nil, mIf_ev, mAnd_ev, mOr_ev, mNot_ev, mNoPart_ev, mPart_ev, mSlice_ev, mRange1_ev, mRange2_ev, mRg1_ev, mRg2_ev, mTupRg_ev, mLstRg_ev, mSkip_ev, mRet_ev, mSet_ev, mSetN_ev, mApp_ev, mExt_ev, mSetIx_ev, okY_no, okY_dat, okY_own, mIfS_ev, mVNil_ev, mVDat_ev, mVOwn_ev, mPar_ev, mFor_ev, mAsgT_ev, dAdd_ii, dSub_ii, dLt_ii, dLe_ii, dGt_ii, dGe_ii, dMin2_ii, dMax2_ii, dEqA_ii, dNeA_ii, dNeA_ss, enter_1, enter_2, enter_3, view_nil, view_cons, List.replicate_succ, List.replicate_zero, List.getElem?_cons_zero, List.getElem?_cons_succ, List.set_cons_zero, List.set_cons_succ, Bool.and_true, Bool.true_and, if_true, if_false, Bool.false_eq_true, Option.map_some, Option.bind_some, decide_true, decide_false, dLen_it, dLen_il, mComp, mComp2, wipeD, hx]
  simp only [mOp2_ev, mOp1_ev, mOpL_ev, mBool_ev, mNil_ev, mCons_ev, mStar_ev, mTup_ev, mLst_ev, mOfN_ev, mListOf_ev, mItems_ev, mTrue_ev, mIf_ev, mAnd_ev, mOr_ev, mNot_ev, mNoPart_ev, mPart_ev, mSlice_ev, mRange1_ev, mRange2_ev, mRg1_ev, mRg2_ev, mTupRg_ev, mLstRg_ev, mVNil_ev, mVDat_ev, mVOwn_ev, mComp, mComp2, wipeD] at hc
  refine runP_rt rfl (ρ := [.dat (It cs), .dat (It lots), .no]) (τ := noSrc) ?_
  simp only [mPure_ev, mBind_ev, mLift_ev, mVar_ev, mOp2_ev, mOp1_ev, mOpL_ev, mBool_ev, mNil_ev, mCons_ev, mStar_ev, mTup_ev, mLst_ev, mOfN_ev, mListOf_ev, mItems_ev, mTrue_ev, seqOf_list, seqOf_tuple, bOf_bool, iOf_int, see_dat, see_no, see_src, see_ownT, see_ownF, okD_F, okA_F, okD_int, okD_bool, okA_nil, okA_ints, okD_ints, okSet_ev, okLen_nil, mIf_ev, mAnd_ev, mOr_ev, mNot_ev, mNoPart_ev, mPart_ev, mSlice_ev, mRange1_ev, mRange2_ev, mRg1_ev, mRg2_ev, mTupRg_ev, mLstRg_ev, mSkip_ev, mRet_ev, mSet_ev, mSetN_ev, mApp_ev, mExt_ev, mSetIx_ev, okY_no, okY_dat, okY_own, mIfS_ev, mVNil_ev, mVDat_ev, mVOwn_ev, mPar_ev, mFor_ev, mAsgT_ev, dAdd_ii, dSub_ii, dLt_ii, dLe_ii, dGt_ii, dGe_ii, dMin2_ii, dMax2_ii, dEqA_ii, dNeA_ii, dNeA_ss, enter_1, enter_2, enter_3, view_nil, view_cons, List.replicate_succ, List.replicate_zero, List.getElem?_cons_zero, List.getElem?_cons_succ, List.set_cons_zero, List.set_cons_succ, Bool.and_true, Bool.true_and, if_true, if_false, Bool.false_eq_true, Option.map_some, Option.bind_some, decide_true, decide_false, dLen_it, dLen_il, mComp, mComp2, wipeD, g_lots_cost, hc, dSum_ints]
  rfl
/-! ### all rows of lots -/
def subs : Nat → List (List Int)
  | 0 => [[]]
  | n + 1 => subs n ++ (subs n).map (· ++ [(n : Int)])
theorem subs_len : ∀ n, (subs n).length = 2 ^ n
  | 0 => rfl
  | n + 1 => by rw [subs, List.length_append, List.length_map, subs_len n, Nat.pow_succ]; omega
theorem pureA_its : ∀ xs : List (List Int), pureA (xs.map It) = true
  | [] => by simp [pureA]
  | x :: xs => by simp [pureA, pureD, pureA_ints, pureA_its xs]
theorem subs_row : ∀ (n : Nat) (s : List Int), s ∈ subs n → s.length ≤ n
  | 0, s, h => by simp [subs] at h; simp [h]
  | n + 1, s, h => by
    rw [subs, List.mem_append, List.mem_map] at h
    rcases h with h | ⟨t, h, rfl⟩
    · exact Nat.le_succ_of_le (subs_row n s h)
    · have := subs_row n t h
      simp
      omega
theorem rangeD_nat (n : Nat) (h : n ≤ 2 ^ 24) : rangeD 0 (n : Int) = some ((List.range n).map fun i => .int (i : Nat)) := by
  have := rangeD_of (lo := 0) (hi := (n : Int)) (by decide) (by omega) (by omega) (by omega)
  rw [this]
  simp
theorem its_snoc (n : Nat) : ((subs n).map It).map (fun d => d) = (subs n).map It := List.map_id _
theorem all_lot_rows_ev (n : Nat) (hn : n ≤ 20) : m_all_lot_rows [.int n] = some (.list ((subs n).map It)) := by
  have p20 : 2 ^ n ≤ 2 ^ 20 := Nat.pow_le_pow_right (by decide) hn
  obtain ⟨ρ', τ', e1, y, z, e2, rfl⟩ := for_rg (b := .nm 2) (g := mExt true 1 (mOfN (mComp (mItems (mOfN (mListOf (mVar 1)))) [3] (.nm 3) mTrue (mTup (mStar (mVar 3) (mCons (mVar 2) mNil)))))) (enc := fun i : Nat => .int (0 + (i : Nat)))
    (n := n) (fun i ρ τ => ∃ y, (y = .no ∨ ∃ d, y = .dat d) ∧ ρ = [.dat (.int n), .own (.list ((subs i).map It)), y, .no] ∧ τ = noSrc)
    (ρ := [.dat (.int n), .own (.list [.tuple []]), .no, .no]) (τ := noSrc) ⟨.no, .inl rfl, rfl, rfl⟩ (by
      rintro i ρ τ hi ⟨y, hy, rfl, rfl⟩
      refine ⟨[(2, .int (0 + (i : Nat)))], rfl, by rcases hy with rfl | ⟨d, rfl⟩ <;> rfl, [.dat (.int n), .own (.list ((subs (i + 1)).map It)), .dat (.int (0 + (i : Nat))), .no], noSrc, .inl ?_, .dat (.int (0 + (i : Nat))), .inr ⟨_, rfl⟩, rfl, rfl⟩
      have hs : setSl [.dat (.int n), .own (.list ((subs i).map It)), y, .no] [(2, .int (0 + (i : Nat)))] = [.dat (.int n), .own (.list ((subs i).map It)), .dat (.int (0 + (i : Nat))), .no] := rfl
      rw [hs]
      have hc : compGo (.nm 3) (mPure true) (mTup (mStar (mVar 3) (mCons (mVar 2) mNil))) [some (.int n), some (.list ((subs i).map It)), some (.int (0 + (i : Nat))), none] ((subs i).map It) noSrc = some (((subs i).map (· ++ [(i : Int)])).map It, noSrc) := by
        rw [List.map_map]
        refine comp_all (q := fun s => It (s ++ [(i : Int)])) fun s hs => ⟨[(3, It s)], rfl, ?_⟩
        have hl : s.length ≤ n := Nat.le_trans (subs_row i s hs) (Nat.le_of_lt hi)
        have ho : okLen (s.map PyData.int ++ [.int (0 + (i : Nat))]) = some (s.map PyData.int ++ [.int (0 + (i : Nat))]) := okLen_of (by rw [List.length_append, List.length_map]; simp; omega)
        simp only [setD, List.foldl_cons, List.foldl_nil]
        simp only [mPure_ev, mBind_ev, mLift_ev, mVar_ev, mOp2_ev, mOp1_ev, mOpL_ev, mBool_ev, mNil_ev, mCons_ev, mStar_ev, mTup_ev, mLst_ev, mOfN_ev, mListOf_ev, mItems_ev, mTrue_ev, seqOf_list, seqOf_tuple, bOf_bool, iOf_int, see_dat, see_no, see_src, see_ownT, see_ownF, okD_F, okA_F, okD_int, okD_bool, okA_nil, okA_ints, okD_ints, okSet_ev, okLen_nil, mIf_ev, mAnd_ev, mOr_ev, mNot_ev, mNoPart_ev, mPart_ev, mSlice_ev, mRange1_ev, mRange2_ev, mRg1_ev, mRg2_ev, mTupRg_ev, mLstRg_ev, mSkip_ev, mRet_ev, mSet_ev, mSetN_ev, mApp_ev, mExt_ev, mSetIx_ev, okY_no, okY_dat, okY_own, mIfS_ev, mVNil_ev, mVDat_ev, mVOwn_ev, mPar_ev, mFor_ev, mAsgT_ev, dAdd_ii, dSub_ii, dLt_ii, dLe_ii, dGt_ii, dGe_ii, dMin2_ii, dMax2_ii, dEqA_ii, dNeA_ii, dNeA_ss, enter_1, enter_2, enter_3, view_nil, view_cons, List.replicate_succ, List.replicate_zero, List.getElem?_cons_zero, List.getElem?_cons_succ, List.set_cons_zero, List.set_cons_succ, Bool.and_true, Bool.true_and, if_true, if_false, Bool.false_eq_true, Option.map_some, Option.bind_some, decide_true, decide_false, dLen_it, dLen_il, mComp, mComp2, wipeD, ho]
        simp
      simp only [mOp2_ev, mOp1_ev, mOpL_ev, mBool_ev, mNil_ev, mCons_ev, mStar_ev, mTup_ev, mLst_ev, mOfN_ev, mListOf_ev, mItems_ev, mTrue_ev, mIf_ev, mAnd_ev, mOr_ev, mNot_ev, mNoPart_ev, mPart_ev, mSlice_ev, mRange1_ev, mRange2_ev, mRg1_ev, mRg2_ev, mTupRg_ev, mLstRg_ev, mVNil_ev, mVDat_ev, mVOwn_ev, mComp, mComp2, wipeD] at hc
      have hl2 : decide (((subs i).map It).length + (((subs i).map (· ++ [(i : Int)])).map It).length ≤ sizeLine) = true := by
        rw [line24]
        have : 2 ^ (i + 1) ≤ 2 ^ 20 := Nat.pow_le_pow_right (by decide) (by omega)
        rw [Nat.pow_succ] at this
        refine decide_eq_true ?_
        rw [List.length_map, List.length_map, List.length_map, subs_len]
        omega
      have ho2 : okA true (((subs i).map (· ++ [(i : Int)])).map It) = true := by simp only [okA, pureA_its]; rfl
      simp only [mPure_ev, mBind_ev, mLift_ev, mVar_ev, mOp2_ev, mOp1_ev, mOpL_ev, mBool_ev, mNil_ev, mCons_ev, mStar_ev, mTup_ev, mLst_ev, mOfN_ev, mListOf_ev, mItems_ev, mTrue_ev, seqOf_list, seqOf_tuple, bOf_bool, iOf_int, see_dat, see_no, see_src, see_ownT, see_ownF, okD_F, okA_F, okD_int, okD_bool, okA_nil, okA_ints, okD_ints, okSet_ev, okLen_nil, mIf_ev, mAnd_ev, mOr_ev, mNot_ev, mNoPart_ev, mPart_ev, mSlice_ev, mRange1_ev, mRange2_ev, mRg1_ev, mRg2_ev, mTupRg_ev, mLstRg_ev, mSkip_ev, mRet_ev, mSet_ev, mSetN_ev, mApp_ev, mExt_ev, mSetIx_ev, okY_no, okY_dat, okY_own, mIfS_ev, mVNil_ev, mVDat_ev, mVOwn_ev, mPar_ev, mFor_ev, mAsgT_ev, dAdd_ii, dSub_ii, dLt_ii, dLe_ii, dGt_ii, dGe_ii, dMin2_ii, dMax2_ii, dEqA_ii, dNeA_ii, dNeA_ss, enter_1, enter_2, enter_3, view_nil, view_cons, List.replicate_succ, List.replicate_zero, List.getElem?_cons_zero, List.getElem?_cons_succ, List.set_cons_zero, List.set_cons_succ, Bool.and_true, Bool.true_and, if_true, if_false, Bool.false_eq_true, Option.map_some, Option.bind_some, decide_true, decide_false, dLen_it, dLen_il, mComp, mComp2, wipeD, hc, hl2, ho2, subs, List.map_append])
  have hr : rangeD 0 (n : Int) = some ((List.range n).map fun i => .int (0 + (i : Nat))) := by
    have := rangeD_of (lo := 0) (hi := (n : Int)) (by decide) (by omega) (by omega) (by omega)
    rw [this]
    simp
  subst e2
  have ho : okLen [PyData.tuple []] = some [.tuple []] := okLen_of (by simp)
  refine runP_rt rfl (ρ := [.dat (.int n), .own (.list ((subs n).map It)), y, .no]) (τ := noSrc) ?_
  unfold g_all_lot_rows
  refine Eq.trans (seq_nx (ρ1 := [.dat (.int n), .own (.list [.tuple []]), .no, .no]) (τ1 := noSrc) ?_) (Eq.trans (seq_nx (ρ1 := [.dat (.int n), .own (.list ((subs n).map It)), y, .no]) (τ1 := noSrc) ?_) ?_)
  · simp only [mPure_ev, mBind_ev, mLift_ev, mVar_ev, mOp2_ev, mOp1_ev, mOpL_ev, mBool_ev, mNil_ev, mCons_ev, mStar_ev, mTup_ev, mLst_ev, mOfN_ev, mListOf_ev, mItems_ev, mTrue_ev, seqOf_list, seqOf_tuple, bOf_bool, iOf_int, see_dat, see_no, see_src, see_ownT, see_ownF, okD_F, okA_F, okD_int, okD_bool, okA_nil, okA_ints, okD_ints, okSet_ev, okLen_nil, mIf_ev, mAnd_ev, mOr_ev, mNot_ev, mNoPart_ev, mPart_ev, mSlice_ev, mRange1_ev, mRange2_ev, mRg1_ev, mRg2_ev, mTupRg_ev, mLstRg_ev, mSkip_ev, mRet_ev, mSet_ev, mSetN_ev, mApp_ev, mExt_ev, mSetIx_ev, okY_no, okY_dat, okY_own, mIfS_ev, mVNil_ev, mVDat_ev, mVOwn_ev, mPar_ev, mFor_ev, mAsgT_ev, dAdd_ii, dSub_ii, dLt_ii, dLe_ii, dGt_ii, dGe_ii, dMin2_ii, dMax2_ii, dEqA_ii, dNeA_ii, dNeA_ss, enter_1, enter_2, enter_3, view_nil, view_cons, List.replicate_succ, List.replicate_zero, List.getElem?_cons_zero, List.getElem?_cons_succ, List.set_cons_zero, List.set_cons_succ, Bool.and_true, Bool.true_and, if_true, if_false, Bool.false_eq_true, Option.map_some, Option.bind_some, decide_true, decide_false, dLen_it, dLen_il, mComp, mComp2, wipeD, ho]
  · exact for_nx (τ1 := noSrc) (by simp only [mPure_ev, mBind_ev, mLift_ev, mVar_ev, mOp2_ev, mOp1_ev, mOpL_ev, mBool_ev, mNil_ev, mCons_ev, mStar_ev, mTup_ev, mLst_ev, mOfN_ev, mListOf_ev, mItems_ev, mTrue_ev, seqOf_list, seqOf_tuple, bOf_bool, iOf_int, see_dat, see_no, see_src, see_ownT, see_ownF, okD_F, okA_F, okD_int, okD_bool, okA_nil, okA_ints, okD_ints, okSet_ev, okLen_nil, mIf_ev, mAnd_ev, mOr_ev, mNot_ev, mNoPart_ev, mPart_ev, mSlice_ev, mRange1_ev, mRange2_ev, mRg1_ev, mRg2_ev, mTupRg_ev, mLstRg_ev, mSkip_ev, mRet_ev, mSet_ev, mSetN_ev, mApp_ev, mExt_ev, mSetIx_ev, okY_no, okY_dat, okY_own, mIfS_ev, mVNil_ev, mVDat_ev, mVOwn_ev, mPar_ev, mFor_ev, mAsgT_ev, dAdd_ii, dSub_ii, dLt_ii, dLe_ii, dGt_ii, dGe_ii, dMin2_ii, dMax2_ii, dEqA_ii, dNeA_ii, dNeA_ss, enter_1, enter_2, enter_3, view_nil, view_cons, List.replicate_succ, List.replicate_zero, List.getElem?_cons_zero, List.getElem?_cons_succ, List.set_cons_zero, List.set_cons_succ, Bool.and_true, Bool.true_and, if_true, if_false, Bool.false_eq_true, Option.map_some, Option.bind_some, decide_true, decide_false, dLen_it, dLen_il, mComp, mComp2, wipeD, hr]) e1
  · simp only [mPure_ev, mBind_ev, mLift_ev, mVar_ev, mOp2_ev, mOp1_ev, mOpL_ev, mBool_ev, mNil_ev, mCons_ev, mStar_ev, mTup_ev, mLst_ev, mOfN_ev, mListOf_ev, mItems_ev, mTrue_ev, seqOf_list, seqOf_tuple, bOf_bool, iOf_int, see_dat, see_no, see_src, see_ownT, see_ownF, okD_F, okA_F, okD_int, okD_bool, okA_nil, okA_ints, okD_ints, okSet_ev, okLen_nil, mIf_ev, mAnd_ev, mOr_ev, mNot_ev, mNoPart_ev, mPart_ev, mSlice_ev, mRange1_ev, mRange2_ev, mRg1_ev, mRg2_ev, mTupRg_ev, mLstRg_ev, mSkip_ev, mRet_ev, mSet_ev, mSetN_ev, mApp_ev, mExt_ev, mSetIx_ev, okY_no, okY_dat, okY_own, mIfS_ev, mVNil_ev, mVDat_ev, mVOwn_ev, mPar_ev, mFor_ev, mAsgT_ev, dAdd_ii, dSub_ii, dLt_ii, dLe_ii, dGt_ii, dGe_ii, dMin2_ii, dMax2_ii, dEqA_ii, dNeA_ii, dNeA_ss, enter_1, enter_2, enter_3, view_nil, view_cons, List.replicate_succ, List.replicate_zero, List.getElem?_cons_zero, List.getElem?_cons_succ, List.set_cons_zero, List.set_cons_succ, Bool.and_true, Bool.true_and, if_true, if_false, Bool.false_eq_true, Option.map_some, Option.bind_some, decide_true, decide_false, dLen_it, dLen_il, mComp, mComp2, wipeD]
end W93

namespace W93
open PySem DL
/-! ### the least lots -/
theorem ltA_ints : ∀ xs ys : List Int, ∃ b, ltA (xs.map .int) (ys.map .int) = some b
  | [], [] => ⟨false, by simp [ltA]⟩
  | [], y :: ys => ⟨true, by simp [ltA]⟩
  | x :: xs, [] => ⟨false, by simp [ltA]⟩
  | x :: xs, y :: ys => by
    obtain ⟨b, h⟩ := ltA_ints xs ys
    simp only [List.map_cons, ltA, h]
    by_cases e : PyData.eqv (.int x) (.int y) = true
    · rw [if_pos e]; exact ⟨b, rfl⟩
    · rw [if_neg e]; exact ⟨_, by simp only [ltD]; rfl⟩
def enc (cs s : List Int) : D := .tuple [.int (costL cs s), It s]
theorem ltD_enc (cs s t : List Int) : ∃ b, ltD (enc cs s) (enc cs t) = some b ∧ (b = true → costL cs s ≤ costL cs t) ∧ (b = false → costL cs t ≤ costL cs s) := by
  obtain ⟨b, hb⟩ := ltA_ints s t
  have h1 : ∃ c, ltA [It s] [It t] = some c := by
    simp only [ltA]
    by_cases e : PyData.eqv (It s) (It t) = true
    · rw [if_pos e]; exact ⟨_, rfl⟩
    · rw [if_neg e]; exact ⟨b, by simp only [ltD, hb]⟩
  obtain ⟨c, hc⟩ := h1
  have e0 : ltD (enc cs s) (enc cs t) = ltA [.int (costL cs s), It s] [.int (costL cs t), It t] := by simp only [enc, ltD]
  rw [e0]
  have e1 : ltA [.int (costL cs s), It s] [.int (costL cs t), It t] = if PyData.eqv (.int (costL cs s)) (.int (costL cs t)) = true then some c else ltD (.int (costL cs s)) (.int (costL cs t)) := by
    rw [ltA, hc]
  rw [e1]
  by_cases e : costL cs s = costL cs t
  · rw [if_pos (by simp only [PyData.eqv, e]; exact beq_self_eq_true _)]
    exact ⟨c, rfl, fun _ => by omega, fun _ => by omega⟩
  · rw [if_neg (by simp only [PyData.eqv]; simpa using e)]
    refine ⟨_, by simp only [ltD]; rfl, fun h => ?_, fun h => ?_⟩
    · have := of_decide_eq_true h; omega
    · have := of_decide_eq_false h; omega
theorem minGo_enc (cs : List Int) : ∀ (xs : List (List Int)) (x : List Int), ∃ y, y ∈ x :: xs ∧ minGo (enc cs x) (xs.map (enc cs)) = some (enc cs y) ∧ ∀ z ∈ x :: xs, costL cs y ≤ costL cs z
  | [], x => ⟨x, List.mem_cons_self, rfl, fun z hz => by simp at hz; rw [hz]; exact Int.le_refl _⟩
  | y :: xs, x => by
    obtain ⟨b, h1, h2, h3⟩ := ltD_enc cs y x
    simp only [List.map_cons, minGo, h1]
    cases b with
    | true =>
      obtain ⟨z, g1, g2, g3⟩ := minGo_enc cs xs y
      refine ⟨z, List.mem_cons_of_mem _ g1, g2, fun u hu => ?_⟩
      rcases List.mem_cons.mp hu with e | hu
      · have a1 := h2 rfl
        have a2 := g3 y List.mem_cons_self
        rw [e]; omega
      · exact g3 u hu
    | false =>
      obtain ⟨z, g1, g2, g3⟩ := minGo_enc cs xs x
      refine ⟨z, ?_, g2, fun u hu => ?_⟩
      · rcases List.mem_cons.mp g1 with e | g1
        · rw [e]; exact List.mem_cons_self
        · exact List.mem_cons_of_mem _ (List.mem_cons_of_mem _ g1)
      · rcases List.mem_cons.mp hu with e | hu
        · exact g3 u (by rw [e]; exact List.mem_cons_self)
        · rcases List.mem_cons.mp hu with e | hu
          · have a1 := h3 rfl
            have a2 := g3 x List.mem_cons_self
            rw [e]; omega
          · exact g3 u (List.mem_cons_of_mem _ hu)
theorem lay_enc (cs s : List Int) : Lay 2 (enc cs s) := .tup fun d hd => by
  simp at hd
  rcases hd with rfl | rfl
  · exact .int _
  · exact lay_it s
theorem dMinA_enc (cs : List Int) (x : List Int) (xs : List (List Int)) : ∃ y, y ∈ x :: xs ∧ dMinA [.list ((x :: xs).map (enc cs))] = some (enc cs y) ∧ ∀ z ∈ x :: xs, costL cs y ≤ costL cs z := by
  obtain ⟨y, h1, h2, h3⟩ := minGo_enc cs xs x
  refine ⟨y, h1, ?_, h3⟩
  have e1 : dMinL [.list ((x :: xs).map (enc cs))] = none := by simp [dMinL, dInts, intsOf, enc]
  have sh : SeqAt.shaped (.list ((x :: xs).map (enc cs))) = true := (Lay.lst (Lay.map fun s _ => lay_enc cs s)).shaped (by decide)
  have al : allLt ((x :: xs).map (enc cs)) = true := by
    unfold allLt
    rw [List.all_eq_true]
    intro a ha
    rw [List.all_eq_true]
    intro b hb
    obtain ⟨s, _, rfl⟩ := List.mem_map.mp ha
    obtain ⟨t, _, rfl⟩ := List.mem_map.mp hb
    obtain ⟨c, hc, _⟩ := ltD_enc cs s t
    rw [hc]; rfl
  unfold dMinA dOrL
  rw [e1]
  show dMinD [.list (enc cs x :: xs.map (enc cs))] = _
  have sh' : SeqAt.shaped (.list (enc cs x :: xs.map (enc cs))) = true := sh
  have al' : allLt (enc cs x :: xs.map (enc cs)) = true := al
  show (if (SeqAt.shaped (.list (enc cs x :: xs.map (enc cs))) && allLt (enc cs x :: xs.map (enc cs))) = true then minGo (enc cs x) (xs.map (enc cs)) else none) = _
  rw [sh', al']
  exact h2
theorem subs_ok : ∀ (n : Nat) (s : List Int), s ∈ subs n → Okl n s
  | 0, s, h => by simp [subs] at h; subst h; intro l hl; simp at hl
  | n + 1, s, h => by
    rw [subs, List.mem_append, List.mem_map] at h
    rcases h with h | ⟨t, h, rfl⟩
    · intro l hl
      have := subs_ok n s h l hl
      omega
    · intro l hl
      rw [List.mem_append] at hl
      rcases hl with hl | hl
      · have := subs_ok n t h l hl
        omega
      · simp at hl; omega
/-- an answer that costs least -/
structure Least (cs : List Int) (row : List (List Int)) (s : List Int) : Prop where
  mem : s ∈ subs cs.length
  ans : ansR s row = true
  low : ∀ t ∈ subs cs.length, ansR t row = true → costL cs s ≤ costL cs t
theorem least_lots_ev {cs : List Int} {row : List (List Int)} {t : List Int} (hn : cs.length ≤ 20) (ht : t ∈ subs cs.length) (ha : ansR t row = true) : ∃ s, m_least_lots [It cs, Itt row] = some (It s) ∧ Least cs row s := by
  have hc : compGo (.nm 2) (mBool (mOpL m_do_answer (mCons (mVar 1) (mCons (mVar 2) mNil)))) (mTup (mCons (mOpL m_lots_cost (mCons (mVar 0) (mCons (mVar 2) mNil))) (mCons (mVar 2) mNil))) [some (It cs), some (Itt row), none] ((subs cs.length).map It) noSrc =
      some (((subs cs.length).filter fun s => ansR s row).map (enc cs), noSrc) := by
    refine comp_map (p := fun s => ansR s row) (q := enc cs) fun s hs => ⟨[(2, It s)], rfl, ?_, fun _ => ?_⟩
    · have := do_answer_ev row s true
      simp only [seqD, if_true] at this
      simp only [setD, List.foldl_cons, List.foldl_nil]
      simp only [mPure_ev, mBind_ev, mLift_ev, mVar_ev, mOp2_ev, mOp1_ev, mOpL_ev, mBool_ev, mNil_ev, mCons_ev, mStar_ev, mTup_ev, mLst_ev, mOfN_ev, mListOf_ev, mItems_ev, mTrue_ev, seqOf_list, seqOf_tuple, bOf_bool, iOf_int, see_dat, see_no, see_src, see_ownT, see_ownF, okD_F, okA_F, okD_int, okD_bool, okA_nil, okA_ints, okD_ints, okSet_ev, okLen_nil, mIf_ev, mAnd_ev, mOr_ev, mNot_ev, mNoPart_ev, mPart_ev, mSlice_ev, mRange1_ev, mRange2_ev, mRg1_ev, mRg2_ev, mTupRg_ev, mLstRg_ev, mSkip_ev, mRet_ev, mSet_ev, mSetN_ev, mApp_ev, mExt_ev, mSetIx_ev, okY_no, okY_dat, okY_own, mIfS_ev, mVNil_ev, mVDat_ev, mVOwn_ev, mPar_ev, mFor_ev, mAsgT_ev, dAdd_ii, dSub_ii, dLt_ii, dLe_ii, dGt_ii, dGe_ii, dMin2_ii, dMax2_ii, dEqA_ii, dNeA_ii, dNeA_ss, enter_1, enter_2, enter_3, view_nil, view_cons, List.replicate_succ, List.replicate_zero, List.getElem?_cons_zero, List.getElem?_cons_succ, List.set_cons_zero, List.set_cons_succ, Bool.and_true, Bool.true_and, if_true, if_false, Bool.false_eq_true, Option.map_some, Option.bind_some, decide_true, decide_false, dLen_it, dLen_il, mComp, mComp2, wipeD, this]
    · have h1 := lots_cost_ev (cs := cs) (subs_ok _ s hs)
      have h2 : okLen [.int (costL cs s), It s] = some [.int (costL cs s), It s] := okLen_of (by simp)
      simp only [setD, List.foldl_cons, List.foldl_nil]
      simp only [mPure_ev, mBind_ev, mLift_ev, mVar_ev, mOp2_ev, mOp1_ev, mOpL_ev, mBool_ev, mNil_ev, mCons_ev, mStar_ev, mTup_ev, mLst_ev, mOfN_ev, mListOf_ev, mItems_ev, mTrue_ev, seqOf_list, seqOf_tuple, bOf_bool, iOf_int, see_dat, see_no, see_src, see_ownT, see_ownF, okD_F, okA_F, okD_int, okD_bool, okA_nil, okA_ints, okD_ints, okSet_ev, okLen_nil, mIf_ev, mAnd_ev, mOr_ev, mNot_ev, mNoPart_ev, mPart_ev, mSlice_ev, mRange1_ev, mRange2_ev, mRg1_ev, mRg2_ev, mTupRg_ev, mLstRg_ev, mSkip_ev, mRet_ev, mSet_ev, mSetN_ev, mApp_ev, mExt_ev, mSetIx_ev, okY_no, okY_dat, okY_own, mIfS_ev, mVNil_ev, mVDat_ev, mVOwn_ev, mPar_ev, mFor_ev, mAsgT_ev, dAdd_ii, dSub_ii, dLt_ii, dLe_ii, dGt_ii, dGe_ii, dMin2_ii, dMax2_ii, dEqA_ii, dNeA_ii, dNeA_ss, enter_1, enter_2, enter_3, view_nil, view_cons, List.replicate_succ, List.replicate_zero, List.getElem?_cons_zero, List.getElem?_cons_succ, List.set_cons_zero, List.set_cons_succ, Bool.and_true, Bool.true_and, if_true, if_false, Bool.false_eq_true, Option.map_some, Option.bind_some, decide_true, decide_false, dLen_it, dLen_il, mComp, mComp2, wipeD, h1, h2]
      rfl
  have hmem : t ∈ (subs cs.length).filter fun s => ansR s row := List.mem_filter.mpr ⟨ht, ha⟩
  cases hL : (subs cs.length).filter fun s => ansR s row with
  | nil => rw [hL] at hmem; simp at hmem
  | cons x xs =>
    obtain ⟨y, h1, h2, h3⟩ := dMinA_enc cs x xs
    rw [hL] at hc
    have back : ∀ z, z ∈ x :: xs ↔ z ∈ subs cs.length ∧ ansR z row = true := fun z => by rw [← hL, List.mem_filter]
    refine ⟨y, ?_, ((back y).mp h1).1, ((back y).mp h1).2, fun u hu hau => h3 u ((back u).mpr ⟨hu, hau⟩)⟩
    have hx : dIx (enc cs y) (.int 1) = some (It y) := by
      simp only [enc, dIx, seqOf]
      exact atI_int (by decide) rfl
    have hall := all_lot_rows_ev cs.length hn
    refine runP_rt rfl (ρ := [.dat (It cs), .dat (Itt row), .no]) (τ := noSrc) ?_
    simp only [mOp2_ev, mOp1_ev, mOpL_ev, mBool_ev, mNil_ev, mCons_ev, mStar_ev, mTup_ev, mLst_ev, mOfN_ev, mListOf_ev, mItems_ev, mTrue_ev, mIf_ev, mAnd_ev, mOr_ev, mNot_ev, mNoPart_ev, mPart_ev, mSlice_ev, mRange1_ev, mRange2_ev, mRg1_ev, mRg2_ev, mTupRg_ev, mLstRg_ev, mVNil_ev, mVDat_ev, mVOwn_ev, mComp, mComp2, wipeD] at hc
    simp only [mPure_ev, mBind_ev, mLift_ev, mVar_ev, mOp2_ev, mOp1_ev, mOpL_ev, mBool_ev, mNil_ev, mCons_ev, mStar_ev, mTup_ev, mLst_ev, mOfN_ev, mListOf_ev, mItems_ev, mTrue_ev, seqOf_list, seqOf_tuple, bOf_bool, iOf_int, see_dat, see_no, see_src, see_ownT, see_ownF, okD_F, okA_F, okD_int, okD_bool, okA_nil, okA_ints, okD_ints, okSet_ev, okLen_nil, mIf_ev, mAnd_ev, mOr_ev, mNot_ev, mNoPart_ev, mPart_ev, mSlice_ev, mRange1_ev, mRange2_ev, mRg1_ev, mRg2_ev, mTupRg_ev, mLstRg_ev, mSkip_ev, mRet_ev, mSet_ev, mSetN_ev, mApp_ev, mExt_ev, mSetIx_ev, okY_no, okY_dat, okY_own, mIfS_ev, mVNil_ev, mVDat_ev, mVOwn_ev, mPar_ev, mFor_ev, mAsgT_ev, dAdd_ii, dSub_ii, dLt_ii, dLe_ii, dGt_ii, dGe_ii, dMin2_ii, dMax2_ii, dEqA_ii, dNeA_ii, dNeA_ss, enter_1, enter_2, enter_3, view_nil, view_cons, List.replicate_succ, List.replicate_zero, List.getElem?_cons_zero, List.getElem?_cons_succ, List.set_cons_zero, List.set_cons_succ, Bool.and_true, Bool.true_and, if_true, if_false, Bool.false_eq_true, Option.map_some, Option.bind_some, decide_true, decide_false, dLen_it, dLen_il, mComp, mComp2, wipeD, g_least_lots, hall, hc, h2, hx]
theorem least_answer_ev {cs : List Int} {row : List (List Int)} {t : List Int} (hn : cs.length ≤ 20) (ht : t ∈ subs cs.length) (ha : ansR t row = true) : ∃ s, m_least_answer [It cs, Itt row] = some (.int (costL cs s)) ∧ Least cs row s := by
  obtain ⟨s, h1, h2⟩ := least_lots_ev hn ht ha
  refine ⟨s, ?_, h2⟩
  have h3 := lots_cost_ev (cs := cs) (subs_ok _ s h2.mem)
  refine runP_rt rfl (ρ := [.dat (It cs), .dat (Itt row)]) (τ := noSrc) ?_
  simp only [mPure_ev, mBind_ev, mLift_ev, mVar_ev, mOp2_ev, mOp1_ev, mOpL_ev, mBool_ev, mNil_ev, mCons_ev, mStar_ev, mTup_ev, mLst_ev, mOfN_ev, mListOf_ev, mItems_ev, mTrue_ev, seqOf_list, seqOf_tuple, bOf_bool, iOf_int, see_dat, see_no, see_src, see_ownT, see_ownF, okD_F, okA_F, okD_int, okD_bool, okA_nil, okA_ints, okD_ints, okSet_ev, okLen_nil, mIf_ev, mAnd_ev, mOr_ev, mNot_ev, mNoPart_ev, mPart_ev, mSlice_ev, mRange1_ev, mRange2_ev, mRg1_ev, mRg2_ev, mTupRg_ev, mLstRg_ev, mSkip_ev, mRet_ev, mSet_ev, mSetN_ev, mApp_ev, mExt_ev, mSetIx_ev, okY_no, okY_dat, okY_own, mIfS_ev, mVNil_ev, mVDat_ev, mVOwn_ev, mPar_ev, mFor_ev, mAsgT_ev, dAdd_ii, dSub_ii, dLt_ii, dLe_ii, dGt_ii, dGe_ii, dMin2_ii, dMax2_ii, dEqA_ii, dNeA_ii, dNeA_ss, enter_1, enter_2, enter_3, view_nil, view_cons, List.replicate_succ, List.replicate_zero, List.getElem?_cons_zero, List.getElem?_cons_succ, List.set_cons_zero, List.set_cons_succ, Bool.and_true, Bool.true_and, if_true, if_false, Bool.false_eq_true, Option.map_some, Option.bind_some, decide_true, decide_false, dLen_it, dLen_il, mComp, mComp2, wipeD, g_least_answer, h1, h3]
/-! which rows of lots there are -/
theorem subs_nil : ∀ n, [] ∈ subs n
  | 0 => by simp [subs]
  | n + 1 => by rw [subs]; exact List.mem_append_left _ (subs_nil n)
theorem subs_one : ∀ (n k : Nat), k < n → [(k : Int)] ∈ subs n
  | 0, k, h => absurd h (Nat.not_lt_zero _)
  | n + 1, k, h => by
    rw [subs]
    by_cases e : k = n
    · subst e
      exact List.mem_append_right _ (List.mem_map.mpr ⟨[], subs_nil k, rfl⟩)
    · exact List.mem_append_left _ (subs_one n k (by omega))
theorem subs_rising : ∀ (n : Nat) (s : List Int), s ∈ subs n → s.Pairwise (· < ·)
  | 0, s, h => by simp [subs] at h; subst h; exact .nil
  | n + 1, s, h => by
    rw [subs, List.mem_append, List.mem_map] at h
    rcases h with h | ⟨t, h, rfl⟩
    · exact subs_rising n s h
    · rw [List.pairwise_append]
      refine ⟨subs_rising n t h, .cons (by simp) .nil, fun a ha b hb => ?_⟩
      simp at hb
      have := subs_ok n t h a ha
      omega
/-- from lo on -/
theorem subs_from (lo : Nat) : ∀ n : Nat, lo ≤ n → ((List.range (n - lo)).map fun i => ((lo + i : Nat) : Int)) ∈ subs n
  | 0, h => by
    obtain rfl : lo = 0 := by omega
    simp [subs]
  | n + 1, h => by
    by_cases e : lo = n + 1
    · subst e
      simp
      exact subs_nil _
    · have ih := subs_from lo n (by omega)
      rw [subs]
      refine List.mem_append_right _ (List.mem_map.mpr ⟨_, ih, ?_⟩)
      have e2 : n + 1 - lo = (n - lo) + 1 := by omega
      rw [e2, List.range_succ, List.map_append]
      simp
      omega
end W93

namespace W93
open PySem DL
/-! ### the tight way -/
structure TR where
  left : List Int
  taken : List Int
  steps : List (List Int)
  prices : List Int
def priceOf (left taken call : List Int) : Int := if ansC taken call = true then 0 else (minI (call.map (gt left))).getD 0
def pay1 (pr : Int) (l : List Int) (x : Int) : List Int := l.set x.toNat (gt l x - pr)
def payL (pr : Int) (call left : List Int) : List Int := call.foldl (pay1 pr) left
def newL (left taken call : List Int) : List Int := call.filter fun x => (gt left x == 0) && !decide (x ∈ taken)
def tstep (s : TR) (call : List Int) : TR :=
  let pr := priceOf s.left s.taken call
  let l := payL pr call s.left
  let nw := newL l s.taken call
  ⟨l, s.taken ++ nw, s.steps ++ [nw], s.prices ++ [pr]⟩
def tight (cs : List Int) (row : List (List Int)) : TR := row.foldl tstep ⟨cs, [], [], []⟩
theorem pay1_len (pr : Int) (l : List Int) (x : Int) : (pay1 pr l x).length = l.length := by unfold pay1; rw [List.length_set]
theorem payL_len (pr : Int) : ∀ (call l : List Int), (payL pr call l).length = l.length
  | [], l => rfl
  | x :: r, l => by
    have := payL_len pr r (pay1 pr l x)
    rw [pay1_len] at this
    exact this
/-- calls that a row may have -/
def OkCall (n : Nat) (call : List Int) : Prop := call ≠ [] ∧ Okl n call ∧ call.length ≤ 1000
theorem minI_map {call : List Int} (h : call ≠ []) (f : Int → Int) : ∃ m, minI (call.map f) = some m := by
  cases call with
  | nil => exact absurd rfl h
  | cons x r => exact ⟨_, rfl⟩
theorem dMinA_ints {ns : List Int} {m : Int} (h : minI ns = some m) : dMinA [.list (ns.map .int)] = some (.int m) := by
  have e : dMinL [.list (ns.map PyData.int)] = some (.int m) := by simp [dMinL, dInts, intsOf_map, h]
  unfold dMinA dOrL
  rw [e]
/-- the frame's slots -/
abbrev fr (cs : List Int) (row : List (List Int)) (left taken : List Int) (steps : List (List Int)) (prices : List Int) (a b c d : Sl) : EnvS :=
  [.dat (It cs), .dat (Itt row), .own (Il left), .own (Il taken), .own (.list (steps.map It)), .own (Il prices), a, b, c, d]
def gPay : Stm := mSetIx true 2 (mOp2 dSub (mOp2 dIx (mVar 2) (mVar 8)) (mVar 7)) (mVar 8)
theorem pay_ev (cs : List Int) (row : List (List Int)) (taken : List Int) (steps : List (List Int)) (prices call : List Int) (pr : Int) (d : Sl) : ∀ (todo left : List Int) (c : Sl), okY c = true → Okl left.length todo →
    ∃ c', okY c' = true ∧ forGo (.nm 8) gPay (todo.map .int) (fr cs row left taken steps prices (.dat (It call)) (.dat (.int pr)) c d) noSrc = some (.nx, fr cs row (payL pr todo left) taken steps prices (.dat (It call)) (.dat (.int pr)) c' d, noSrc)
  | [], left, c, hc, _ => ⟨c, hc, rfl⟩
  | x :: r, left, c, hc, h => by
    have hx := h x List.mem_cons_self
    have e1 : dIx (Il left) (.int x) = some (.int (gt left x)) := dIx_il hx.1 (gt_some hx)
    have e2 : L2.ixN (left.map PyData.int).length x = some x.toNat := ixN_int (by rw [List.length_map]; exact hx)
    obtain ⟨c', hc', ih⟩ := pay_ev cs row taken steps prices call pr d r (pay1 pr left x) (.dat (.int x)) rfl (by rw [pay1_len]; exact fun y hy => h y (List.mem_cons_of_mem _ hy))
    refine ⟨c', hc', ?_⟩
    have es : (left.map PyData.int).set x.toNat (.int (gt left x - pr)) = (pay1 pr left x).map .int := by unfold pay1; rw [List.map_set]
    have hs : okSets (fr cs row left taken steps prices (.dat (It call)) (.dat (.int pr)) c d) [(8, .int x)] = true := by
      unfold okSets
      simp only [List.all_cons, List.all_nil, Bool.and_true]
      simp only [mPure_ev, mBind_ev, mLift_ev, mVar_ev, mOp2_ev, mOp1_ev, mOpL_ev, mBool_ev, mNil_ev, mCons_ev, mStar_ev, mTup_ev, mLst_ev, mOfN_ev, mListOf_ev, mItems_ev, mTrue_ev, seqOf_list, seqOf_tuple, bOf_bool, iOf_int, see_dat, see_no, see_src, see_ownT, see_ownF, okD_F, okA_F, okD_int, okD_bool, okA_nil, okA_ints, okD_ints, okSet_ev, okLen_nil, mIf_ev, mAnd_ev, mOr_ev, mNot_ev, mNoPart_ev, mPart_ev, mSlice_ev, mRange1_ev, mRange2_ev, mRg1_ev, mRg2_ev, mTupRg_ev, mLstRg_ev, mSkip_ev, mRet_ev, mSet_ev, mSetN_ev, mApp_ev, mExt_ev, mSetIx_ev, okY_no, okY_dat, okY_own, mIfS_ev, mVNil_ev, mVDat_ev, mVOwn_ev, mPar_ev, mFor_ev, mAsgT_ev, dAdd_ii, dSub_ii, dLt_ii, dLe_ii, dGt_ii, dGe_ii, dMin2_ii, dMax2_ii, dEqA_ii, dNeA_ii, dNeA_ss, enter_1, enter_2, enter_3, view_nil, view_cons, List.replicate_succ, List.replicate_zero, List.getElem?_cons_zero, List.getElem?_cons_succ, List.set_cons_zero, List.set_cons_succ, Bool.and_true, Bool.true_and, if_true, if_false, Bool.false_eq_true, Option.map_some, Option.bind_some, decide_true, decide_false, dLen_it, dLen_il, mComp, mComp2, wipeD, hc]
    have st : gPay (setSl (fr cs row left taken steps prices (.dat (It call)) (.dat (.int pr)) c d) [(8, .int x)]) noSrc = some (.nx, fr cs row (pay1 pr left x) taken steps prices (.dat (It call)) (.dat (.int pr)) (.dat (.int x)) d, noSrc) := by
      unfold gPay setSl
      simp only [List.foldl_cons, List.foldl_nil]
      simp only [mPure_ev, mBind_ev, mLift_ev, mVar_ev, mOp2_ev, mOp1_ev, mOpL_ev, mBool_ev, mNil_ev, mCons_ev, mStar_ev, mTup_ev, mLst_ev, mOfN_ev, mListOf_ev, mItems_ev, mTrue_ev, seqOf_list, seqOf_tuple, bOf_bool, iOf_int, see_dat, see_no, see_src, see_ownT, see_ownF, okD_F, okA_F, okD_int, okD_bool, okA_nil, okA_ints, okD_ints, okSet_ev, okLen_nil, mIf_ev, mAnd_ev, mOr_ev, mNot_ev, mNoPart_ev, mPart_ev, mSlice_ev, mRange1_ev, mRange2_ev, mRg1_ev, mRg2_ev, mTupRg_ev, mLstRg_ev, mSkip_ev, mRet_ev, mSet_ev, mSetN_ev, mApp_ev, mExt_ev, mSetIx_ev, okY_no, okY_dat, okY_own, mIfS_ev, mVNil_ev, mVDat_ev, mVOwn_ev, mPar_ev, mFor_ev, mAsgT_ev, dAdd_ii, dSub_ii, dLt_ii, dLe_ii, dGt_ii, dGe_ii, dMin2_ii, dMax2_ii, dEqA_ii, dNeA_ii, dNeA_ss, enter_1, enter_2, enter_3, view_nil, view_cons, List.replicate_succ, List.replicate_zero, List.getElem?_cons_zero, List.getElem?_cons_succ, List.set_cons_zero, List.set_cons_succ, Bool.and_true, Bool.true_and, if_true, if_false, Bool.false_eq_true, Option.map_some, Option.bind_some, decide_true, decide_false, dLen_it, dLen_il, mComp, mComp2, wipeD, e1, e2, es]
    simp only [List.map_cons, forGo, bindT, hs, if_pos, st]
    exact ih
theorem new_ev (cs : List Int) (row : List (List Int)) (left taken : List Int) (steps : List (List Int)) (prices call : List Int) (pr : Int) (c d : Sl) (h : Okl left.length call) :
    mComp (mItems (mVar 6)) [8] (.nm 8) (mAnd (mBool (mOp2 dEqA (mOp2 dIx (mVar 2) (mVar 8)) (mPure (.int 0)))) (mBool (mOp2 dNotIn (mVar 8) (mVar 3)))) (mVar 8) (view true (fr cs row left taken steps prices (.dat (It call)) (.dat (.int pr)) c d)) noSrc = some ((newL left taken call).map .int, noSrc) := by
  have hc : compGo (.nm 8) (mAnd (mBool (mOp2 dEqA (mOp2 dIx (mVar 2) (mVar 8)) (mPure (.int 0)))) (mBool (mOp2 dNotIn (mVar 8) (mVar 3)))) (mVar 8) [some (It cs), some (Itt row), some (Il left), some (Il taken), some (.list (steps.map It)), some (Il prices), some (It call), some (.int pr), none, see true d] (call.map .int) noSrc = some ((newL left taken call).map .int, noSrc) := by
    refine comp_map (p := fun x => (gt left x == 0) && !decide (x ∈ taken)) (q := fun x => .int x) fun x hx => ⟨[(8, .int x)], rfl, ?_, fun _ => ?_⟩
    · have e1 : dIx (Il left) (.int x) = some (.int (gt left x)) := dIx_il (h x hx).1 (gt_some (h x hx))
      have e2 := dNotIn_il x taken
      simp only [setD, List.foldl_cons, List.foldl_nil]
      simp only [mPure_ev, mBind_ev, mLift_ev, mVar_ev, mOp2_ev, mOp1_ev, mOpL_ev, mBool_ev, mNil_ev, mCons_ev, mStar_ev, mTup_ev, mLst_ev, mOfN_ev, mListOf_ev, mItems_ev, mTrue_ev, seqOf_list, seqOf_tuple, bOf_bool, iOf_int, see_dat, see_no, see_src, see_ownT, see_ownF, okD_F, okA_F, okD_int, okD_bool, okA_nil, okA_ints, okD_ints, okSet_ev, okLen_nil, mIf_ev, mAnd_ev, mOr_ev, mNot_ev, mNoPart_ev, mPart_ev, mSlice_ev, mRange1_ev, mRange2_ev, mRg1_ev, mRg2_ev, mTupRg_ev, mLstRg_ev, mSkip_ev, mRet_ev, mSet_ev, mSetN_ev, mApp_ev, mExt_ev, mSetIx_ev, okY_no, okY_dat, okY_own, mIfS_ev, mVNil_ev, mVDat_ev, mVOwn_ev, mPar_ev, mFor_ev, mAsgT_ev, dAdd_ii, dSub_ii, dLt_ii, dLe_ii, dGt_ii, dGe_ii, dMin2_ii, dMax2_ii, dEqA_ii, dNeA_ii, dNeA_ss, enter_1, enter_2, enter_3, view_nil, view_cons, List.replicate_succ, List.replicate_zero, List.getElem?_cons_zero, List.getElem?_cons_succ, List.set_cons_zero, List.set_cons_succ, Bool.and_true, Bool.true_and, if_true, if_false, Bool.false_eq_true, Option.map_some, Option.bind_some, decide_true, decide_false, dLen_it, dLen_il, mComp, mComp2, wipeD, e1]
      cases gt left x == 0 with
      | true => simp only [mPure_ev, mBind_ev, mLift_ev, mVar_ev, mOp2_ev, mOp1_ev, mOpL_ev, mBool_ev, mNil_ev, mCons_ev, mStar_ev, mTup_ev, mLst_ev, mOfN_ev, mListOf_ev, mItems_ev, mTrue_ev, seqOf_list, seqOf_tuple, bOf_bool, iOf_int, see_dat, see_no, see_src, see_ownT, see_ownF, okD_F, okA_F, okD_int, okD_bool, okA_nil, okA_ints, okD_ints, okSet_ev, okLen_nil, mIf_ev, mAnd_ev, mOr_ev, mNot_ev, mNoPart_ev, mPart_ev, mSlice_ev, mRange1_ev, mRange2_ev, mRg1_ev, mRg2_ev, mTupRg_ev, mLstRg_ev, mSkip_ev, mRet_ev, mSet_ev, mSetN_ev, mApp_ev, mExt_ev, mSetIx_ev, okY_no, okY_dat, okY_own, mIfS_ev, mVNil_ev, mVDat_ev, mVOwn_ev, mPar_ev, mFor_ev, mAsgT_ev, dAdd_ii, dSub_ii, dLt_ii, dLe_ii, dGt_ii, dGe_ii, dMin2_ii, dMax2_ii, dEqA_ii, dNeA_ii, dNeA_ss, enter_1, enter_2, enter_3, view_nil, view_cons, List.replicate_succ, List.replicate_zero, List.getElem?_cons_zero, List.getElem?_cons_succ, List.set_cons_zero, List.set_cons_succ, Bool.and_true, Bool.true_and, if_true, if_false, Bool.false_eq_true, Option.map_some, Option.bind_some, decide_true, decide_false, dLen_it, dLen_il, mComp, mComp2, wipeD, e2]
      | false => simp only [mPure_ev, mBind_ev, mLift_ev, mVar_ev, mOp2_ev, mOp1_ev, mOpL_ev, mBool_ev, mNil_ev, mCons_ev, mStar_ev, mTup_ev, mLst_ev, mOfN_ev, mListOf_ev, mItems_ev, mTrue_ev, seqOf_list, seqOf_tuple, bOf_bool, iOf_int, see_dat, see_no, see_src, see_ownT, see_ownF, okD_F, okA_F, okD_int, okD_bool, okA_nil, okA_ints, okD_ints, okSet_ev, okLen_nil, mIf_ev, mAnd_ev, mOr_ev, mNot_ev, mNoPart_ev, mPart_ev, mSlice_ev, mRange1_ev, mRange2_ev, mRg1_ev, mRg2_ev, mTupRg_ev, mLstRg_ev, mSkip_ev, mRet_ev, mSet_ev, mSetN_ev, mApp_ev, mExt_ev, mSetIx_ev, okY_no, okY_dat, okY_own, mIfS_ev, mVNil_ev, mVDat_ev, mVOwn_ev, mPar_ev, mFor_ev, mAsgT_ev, dAdd_ii, dSub_ii, dLt_ii, dLe_ii, dGt_ii, dGe_ii, dMin2_ii, dMax2_ii, dEqA_ii, dNeA_ii, dNeA_ss, enter_1, enter_2, enter_3, view_nil, view_cons, List.replicate_succ, List.replicate_zero, List.getElem?_cons_zero, List.getElem?_cons_succ, List.set_cons_zero, List.set_cons_succ, Bool.and_true, Bool.true_and, if_true, if_false, Bool.false_eq_true, Option.map_some, Option.bind_some, decide_true, decide_false, dLen_it, dLen_il, mComp, mComp2, wipeD, Bool.false_and]
    · simp only [setD, List.foldl_cons, List.foldl_nil]
      simp only [mPure_ev, mBind_ev, mLift_ev, mVar_ev, mOp2_ev, mOp1_ev, mOpL_ev, mBool_ev, mNil_ev, mCons_ev, mStar_ev, mTup_ev, mLst_ev, mOfN_ev, mListOf_ev, mItems_ev, mTrue_ev, seqOf_list, seqOf_tuple, bOf_bool, iOf_int, see_dat, see_no, see_src, see_ownT, see_ownF, okD_F, okA_F, okD_int, okD_bool, okA_nil, okA_ints, okD_ints, okSet_ev, okLen_nil, mIf_ev, mAnd_ev, mOr_ev, mNot_ev, mNoPart_ev, mPart_ev, mSlice_ev, mRange1_ev, mRange2_ev, mRg1_ev, mRg2_ev, mTupRg_ev, mLstRg_ev, mSkip_ev, mRet_ev, mSet_ev, mSetN_ev, mApp_ev, mExt_ev, mSetIx_ev, okY_no, okY_dat, okY_own, mIfS_ev, mVNil_ev, mVDat_ev, mVOwn_ev, mPar_ev, mFor_ev, mAsgT_ev, dAdd_ii, dSub_ii, dLt_ii, dLe_ii, dGt_ii, dGe_ii, dMin2_ii, dMax2_ii, dEqA_ii, dNeA_ii, dNeA_ss, enter_1, enter_2, enter_3, view_nil, view_cons, List.replicate_succ, List.replicate_zero, List.getElem?_cons_zero, List.getElem?_cons_succ, List.set_cons_zero, List.set_cons_succ, Bool.and_true, Bool.true_and, if_true, if_false, Bool.false_eq_true, Option.map_some, Option.bind_some, decide_true, decide_false, dLen_it, dLen_il, mComp, mComp2, wipeD]
  refine comp_nx (ds := call.map .int) (τ1 := noSrc) ?_ ?_
  · simp only [mPure_ev, mBind_ev, mLift_ev, mVar_ev, mOp2_ev, mOp1_ev, mOpL_ev, mBool_ev, mNil_ev, mCons_ev, mStar_ev, mTup_ev, mLst_ev, mOfN_ev, mListOf_ev, mItems_ev, mTrue_ev, seqOf_list, seqOf_tuple, bOf_bool, iOf_int, see_dat, see_no, see_src, see_ownT, see_ownF, okD_F, okA_F, okD_int, okD_bool, okA_nil, okA_ints, okD_ints, okSet_ev, okLen_nil, mIf_ev, mAnd_ev, mOr_ev, mNot_ev, mNoPart_ev, mPart_ev, mSlice_ev, mRange1_ev, mRange2_ev, mRg1_ev, mRg2_ev, mTupRg_ev, mLstRg_ev, mSkip_ev, mRet_ev, mSet_ev, mSetN_ev, mApp_ev, mExt_ev, mSetIx_ev, okY_no, okY_dat, okY_own, mIfS_ev, mVNil_ev, mVDat_ev, mVOwn_ev, mPar_ev, mFor_ev, mAsgT_ev, dAdd_ii, dSub_ii, dLt_ii, dLe_ii, dGt_ii, dGe_ii, dMin2_ii, dMax2_ii, dEqA_ii, dNeA_ii, dNeA_ss, enter_1, enter_2, enter_3, view_nil, view_cons, List.replicate_succ, List.replicate_zero, List.getElem?_cons_zero, List.getElem?_cons_succ, List.set_cons_zero, List.set_cons_succ, Bool.and_true, Bool.true_and, if_true, if_false, Bool.false_eq_true, Option.map_some, Option.bind_some, decide_true, decide_false, dLen_it, dLen_il, mComp, mComp2, wipeD]
  · simp only [mPure_ev, mBind_ev, mLift_ev, mVar_ev, mOp2_ev, mOp1_ev, mOpL_ev, mBool_ev, mNil_ev, mCons_ev, mStar_ev, mTup_ev, mLst_ev, mOfN_ev, mListOf_ev, mItems_ev, mTrue_ev, seqOf_list, seqOf_tuple, bOf_bool, iOf_int, see_dat, see_no, see_src, see_ownT, see_ownF, okD_F, okA_F, okD_int, okD_bool, okA_nil, okA_ints, okD_ints, okSet_ev, okLen_nil, mIf_ev, mAnd_ev, mOr_ev, mNot_ev, mNoPart_ev, mPart_ev, mSlice_ev, mRange1_ev, mRange2_ev, mRg1_ev, mRg2_ev, mTupRg_ev, mLstRg_ev, mSkip_ev, mRet_ev, mSet_ev, mSetN_ev, mApp_ev, mExt_ev, mSetIx_ev, okY_no, okY_dat, okY_own, mIfS_ev, mVNil_ev, mVDat_ev, mVOwn_ev, mPar_ev, mFor_ev, mAsgT_ev, dAdd_ii, dSub_ii, dLt_ii, dLe_ii, dGt_ii, dGe_ii, dMin2_ii, dMax2_ii, dEqA_ii, dNeA_ii, dNeA_ss, enter_1, enter_2, enter_3, view_nil, view_cons, List.replicate_succ, List.replicate_zero, List.getElem?_cons_zero, List.getElem?_cons_succ, List.set_cons_zero, List.set_cons_succ, Bool.and_true, Bool.true_and, if_true, if_false, Bool.false_eq_true, Option.map_some, Option.bind_some, decide_true, decide_false, dLen_it, dLen_il, mComp, mComp2, wipeD]
    simp only [mOp2_ev, mOp1_ev, mOpL_ev, mBool_ev, mNil_ev, mCons_ev, mStar_ev, mTup_ev, mLst_ev, mOfN_ev, mListOf_ev, mItems_ev, mTrue_ev, mIf_ev, mAnd_ev, mOr_ev, mNot_ev, mNoPart_ev, mPart_ev, mSlice_ev, mRange1_ev, mRange2_ev, mRg1_ev, mRg2_ev, mTupRg_ev, mLstRg_ev, mVNil_ev, mVDat_ev, mVOwn_ev, mComp, mComp2, wipeD] at hc
    exact hc
noncomputable def gTight : Stm := mSeq (mSet true 7 (mIf (mBool (mOpL m_is_call_answered (mCons (mVar 6) (mCons (mVar 3) mNil)))) (mPure (.int 0)) (mOpL dMinA (mCons (mOfN (mComp (mItems (mVar 6)) [8] (.nm 8) mTrue (mOp2 dIx (mVar 2) (mVar 8)))) mNil))))
    (mSeq (mFor (mItems (mVar 6)) (.nm 8) gPay)
    (mSeq (mSetN true 9 (mComp (mItems (mVar 6)) [8] (.nm 8) (mAnd (mBool (mOp2 dEqA (mOp2 dIx (mVar 2) (mVar 8)) (mPure (.int 0)))) (mBool (mOp2 dNotIn (mVar 8) (mVar 3)))) (mVar 8)))
    (mSeq (mExt true 3 (mVar 9))
    (mSeq (mApp true 4 (mOpL dTuple (mCons (mVar 9) mNil)))
    (mApp false 5 (mVar 7))))))
theorem step_ev (cs : List Int) (row : List (List Int)) (s : TR) (call : List Int) (b c d : Sl) (hb : okY b = true) (hc : okY c = true) (hd : okY d = true) (h : OkCall s.left.length call) (h1 : s.taken.length ≤ 10000000) (h2 : s.steps.length ≤ 10000) (h3 : s.prices.length ≤ 10000) :
    ∃ b' c' d', okY b' = true ∧ okY c' = true ∧ okY d' = true ∧ gTight (fr cs row s.left s.taken s.steps s.prices (.dat (It call)) b c d) noSrc = some (.nx, fr cs row (tstep s call).left (tstep s call).taken (tstep s call).steps (tstep s call).prices (.dat (It call)) b' c' d', noSrc) := by
  obtain ⟨hne, hok, hlen⟩ := h
  have hans := answered_ev call s.taken false
  simp only [seqD, Bool.false_eq_true, if_false] at hans
  -- the price
  have hmin : compGo (.nm 8) (mPure true) (mOp2 dIx (mVar 2) (mVar 8)) [some (It cs), some (Itt row), some (Il s.left), some (Il s.taken), some (.list (s.steps.map It)), some (Il s.prices), some (It call), see true b, none, see true d] (call.map .int) noSrc = some ((call.map (gt s.left)).map .int, noSrc) := by
    rw [List.map_map]
    refine comp_all (q := fun x => .int (gt s.left x)) fun x hx => ⟨[(8, .int x)], rfl, ?_⟩
    have e1 : dIx (Il s.left) (.int x) = some (.int (gt s.left x)) := dIx_il (hok x hx).1 (gt_some (hok x hx))
    simp only [setD, List.foldl_cons, List.foldl_nil]
    simp only [mPure_ev, mBind_ev, mLift_ev, mVar_ev, mOp2_ev, mOp1_ev, mOpL_ev, mBool_ev, mNil_ev, mCons_ev, mStar_ev, mTup_ev, mLst_ev, mOfN_ev, mListOf_ev, mItems_ev, mTrue_ev, seqOf_list, seqOf_tuple, bOf_bool, iOf_int, see_dat, see_no, see_src, see_ownT, see_ownF, okD_F, okA_F, okD_int, okD_bool, okA_nil, okA_ints, okD_ints, okSet_ev, okLen_nil, mIf_ev, mAnd_ev, mOr_ev, mNot_ev, mNoPart_ev, mPart_ev, mSlice_ev, mRange1_ev, mRange2_ev, mRg1_ev, mRg2_ev, mTupRg_ev, mLstRg_ev, mSkip_ev, mRet_ev, mSet_ev, mSetN_ev, mApp_ev, mExt_ev, mSetIx_ev, okY_no, okY_dat, okY_own, mIfS_ev, mVNil_ev, mVDat_ev, mVOwn_ev, mPar_ev, mFor_ev, mAsgT_ev, dAdd_ii, dSub_ii, dLt_ii, dLe_ii, dGt_ii, dGe_ii, dMin2_ii, dMax2_ii, dEqA_ii, dNeA_ii, dNeA_ss, enter_1, enter_2, enter_3, view_nil, view_cons, List.replicate_succ, List.replicate_zero, List.getElem?_cons_zero, List.getElem?_cons_succ, List.set_cons_zero, List.set_cons_succ, Bool.and_true, Bool.true_and, if_true, if_false, Bool.false_eq_true, Option.map_some, Option.bind_some, decide_true, decide_false, dLen_it, dLen_il, mComp, mComp2, wipeD, e1]
  obtain ⟨m, hm⟩ := minI_map hne (gt s.left)
  have hprice : mSet true 7 (mIf (mBool (mOpL m_is_call_answered (mCons (mVar 6) (mCons (mVar 3) mNil)))) (mPure (.int 0)) (mOpL dMinA (mCons (mOfN (mComp (mItems (mVar 6)) [8] (.nm 8) mTrue (mOp2 dIx (mVar 2) (mVar 8)))) mNil))) (fr cs row s.left s.taken s.steps s.prices (.dat (It call)) b c d) noSrc =
      some (.nx, fr cs row s.left s.taken s.steps s.prices (.dat (It call)) (.dat (.int (priceOf s.left s.taken call))) c d, noSrc) := by
    have e2 := dMinA_ints hm
    simp only [mOp2_ev, mOp1_ev, mOpL_ev, mBool_ev, mNil_ev, mCons_ev, mStar_ev, mTup_ev, mLst_ev, mOfN_ev, mListOf_ev, mItems_ev, mTrue_ev, mIf_ev, mAnd_ev, mOr_ev, mNot_ev, mNoPart_ev, mPart_ev, mSlice_ev, mRange1_ev, mRange2_ev, mRg1_ev, mRg2_ev, mTupRg_ev, mLstRg_ev, mVNil_ev, mVDat_ev, mVOwn_ev, mComp, mComp2, wipeD] at hmin
    unfold priceOf
    cases hz : ansC s.taken call with
    | true => rw [hz] at hans; simp only [mPure_ev, mBind_ev, mLift_ev, mVar_ev, mOp2_ev, mOp1_ev, mOpL_ev, mBool_ev, mNil_ev, mCons_ev, mStar_ev, mTup_ev, mLst_ev, mOfN_ev, mListOf_ev, mItems_ev, mTrue_ev, seqOf_list, seqOf_tuple, bOf_bool, iOf_int, see_dat, see_no, see_src, see_ownT, see_ownF, okD_F, okA_F, okD_int, okD_bool, okA_nil, okA_ints, okD_ints, okSet_ev, okLen_nil, mIf_ev, mAnd_ev, mOr_ev, mNot_ev, mNoPart_ev, mPart_ev, mSlice_ev, mRange1_ev, mRange2_ev, mRg1_ev, mRg2_ev, mTupRg_ev, mLstRg_ev, mSkip_ev, mRet_ev, mSet_ev, mSetN_ev, mApp_ev, mExt_ev, mSetIx_ev, okY_no, okY_dat, okY_own, mIfS_ev, mVNil_ev, mVDat_ev, mVOwn_ev, mPar_ev, mFor_ev, mAsgT_ev, dAdd_ii, dSub_ii, dLt_ii, dLe_ii, dGt_ii, dGe_ii, dMin2_ii, dMax2_ii, dEqA_ii, dNeA_ii, dNeA_ss, enter_1, enter_2, enter_3, view_nil, view_cons, List.replicate_succ, List.replicate_zero, List.getElem?_cons_zero, List.getElem?_cons_succ, List.set_cons_zero, List.set_cons_succ, Bool.and_true, Bool.true_and, if_true, if_false, Bool.false_eq_true, Option.map_some, Option.bind_some, decide_true, decide_false, dLen_it, dLen_il, mComp, mComp2, wipeD, hans, hb]
    | false => rw [hz] at hans; simp only [mPure_ev, mBind_ev, mLift_ev, mVar_ev, mOp2_ev, mOp1_ev, mOpL_ev, mBool_ev, mNil_ev, mCons_ev, mStar_ev, mTup_ev, mLst_ev, mOfN_ev, mListOf_ev, mItems_ev, mTrue_ev, seqOf_list, seqOf_tuple, bOf_bool, iOf_int, see_dat, see_no, see_src, see_ownT, see_ownF, okD_F, okA_F, okD_int, okD_bool, okA_nil, okA_ints, okD_ints, okSet_ev, okLen_nil, mIf_ev, mAnd_ev, mOr_ev, mNot_ev, mNoPart_ev, mPart_ev, mSlice_ev, mRange1_ev, mRange2_ev, mRg1_ev, mRg2_ev, mTupRg_ev, mLstRg_ev, mSkip_ev, mRet_ev, mSet_ev, mSetN_ev, mApp_ev, mExt_ev, mSetIx_ev, okY_no, okY_dat, okY_own, mIfS_ev, mVNil_ev, mVDat_ev, mVOwn_ev, mPar_ev, mFor_ev, mAsgT_ev, dAdd_ii, dSub_ii, dLt_ii, dLe_ii, dGt_ii, dGe_ii, dMin2_ii, dMax2_ii, dEqA_ii, dNeA_ii, dNeA_ss, enter_1, enter_2, enter_3, view_nil, view_cons, List.replicate_succ, List.replicate_zero, List.getElem?_cons_zero, List.getElem?_cons_succ, List.set_cons_zero, List.set_cons_succ, Bool.and_true, Bool.true_and, if_true, if_false, Bool.false_eq_true, Option.map_some, Option.bind_some, decide_true, decide_false, dLen_it, dLen_il, mComp, mComp2, wipeD, hans, hb, hmin, e2, hm, Option.getD_some]
  obtain ⟨c', hc', hpay⟩ := pay_ev cs row s.taken s.steps s.prices call (priceOf s.left s.taken call) d call s.left c hc hok
  have hnew := new_ev cs row (payL (priceOf s.left s.taken call) call s.left) s.taken s.steps s.prices call (priceOf s.left s.taken call) c' d (by rw [payL_len]; exact hok)
  have hnl : (newL (payL (priceOf s.left s.taken call) call s.left) s.taken call).length ≤ 1000 := Nat.le_trans (List.length_filter_le _ _) hlen
  refine ⟨.dat (.int (priceOf s.left s.taken call)), c', .own (Il (newL (payL (priceOf s.left s.taken call) call s.left) s.taken call)), rfl, hc', rfl, ?_⟩
  generalize hpr : priceOf s.left s.taken call = pr at *
  generalize hpl : payL pr call s.left = pl at *
  generalize hnw : newL pl s.taken call = nw at *
  have et : tstep s call = ⟨pl, s.taken ++ nw, s.steps ++ [nw], s.prices ++ [pr]⟩ := by unfold tstep; simp only [hpr, hpl, hnw]
  rw [et]
  have line := line24
  unfold gTight
  refine Eq.trans (seq_nx hprice) (Eq.trans (seq_nx (for_nx (ds := call.map .int) (τ1 := noSrc) (by simp only [mPure_ev, mBind_ev, mLift_ev, mVar_ev, mOp2_ev, mOp1_ev, mOpL_ev, mBool_ev, mNil_ev, mCons_ev, mStar_ev, mTup_ev, mLst_ev, mOfN_ev, mListOf_ev, mItems_ev, mTrue_ev, seqOf_list, seqOf_tuple, bOf_bool, iOf_int, see_dat, see_no, see_src, see_ownT, see_ownF, okD_F, okA_F, okD_int, okD_bool, okA_nil, okA_ints, okD_ints, okSet_ev, okLen_nil, mIf_ev, mAnd_ev, mOr_ev, mNot_ev, mNoPart_ev, mPart_ev, mSlice_ev, mRange1_ev, mRange2_ev, mRg1_ev, mRg2_ev, mTupRg_ev, mLstRg_ev, mSkip_ev, mRet_ev, mSet_ev, mSetN_ev, mApp_ev, mExt_ev, mSetIx_ev, okY_no, okY_dat, okY_own, mIfS_ev, mVNil_ev, mVDat_ev, mVOwn_ev, mPar_ev, mFor_ev, mAsgT_ev, dAdd_ii, dSub_ii, dLt_ii, dLe_ii, dGt_ii, dGe_ii, dMin2_ii, dMax2_ii, dEqA_ii, dNeA_ii, dNeA_ss, enter_1, enter_2, enter_3, view_nil, view_cons, List.replicate_succ, List.replicate_zero, List.getElem?_cons_zero, List.getElem?_cons_succ, List.set_cons_zero, List.set_cons_succ, Bool.and_true, Bool.true_and, if_true, if_false, Bool.false_eq_true, Option.map_some, Option.bind_some, decide_true, decide_false, dLen_it, dLen_il, mComp, mComp2, wipeD]) hpay)) ?_)
  refine Eq.trans (seq_nx (ρ1 := fr cs row pl s.taken s.steps s.prices (.dat (It call)) (.dat (.int pr)) c' (.own (Il nw))) (τ1 := noSrc) ?_) ?_
  · simp only [mSetN_ev, hnew]
    simp only [mPure_ev, mBind_ev, mLift_ev, mVar_ev, mOp2_ev, mOp1_ev, mOpL_ev, mBool_ev, mNil_ev, mCons_ev, mStar_ev, mTup_ev, mLst_ev, mOfN_ev, mListOf_ev, mItems_ev, mTrue_ev, seqOf_list, seqOf_tuple, bOf_bool, iOf_int, see_dat, see_no, see_src, see_ownT, see_ownF, okD_F, okA_F, okD_int, okD_bool, okA_nil, okA_ints, okD_ints, okSet_ev, okLen_nil, mIf_ev, mAnd_ev, mOr_ev, mNot_ev, mNoPart_ev, mPart_ev, mSlice_ev, mRange1_ev, mRange2_ev, mRg1_ev, mRg2_ev, mTupRg_ev, mLstRg_ev, mSkip_ev, mRet_ev, mSet_ev, mSetN_ev, mApp_ev, mExt_ev, mSetIx_ev, okY_no, okY_dat, okY_own, mIfS_ev, mVNil_ev, mVDat_ev, mVOwn_ev, mPar_ev, mFor_ev, mAsgT_ev, dAdd_ii, dSub_ii, dLt_ii, dLe_ii, dGt_ii, dGe_ii, dMin2_ii, dMax2_ii, dEqA_ii, dNeA_ii, dNeA_ss, enter_1, enter_2, enter_3, view_nil, view_cons, List.replicate_succ, List.replicate_zero, List.getElem?_cons_zero, List.getElem?_cons_succ, List.set_cons_zero, List.set_cons_succ, Bool.and_true, Bool.true_and, if_true, if_false, Bool.false_eq_true, Option.map_some, Option.bind_some, decide_true, decide_false, dLen_it, dLen_il, mComp, mComp2, wipeD, hd]
  · have l1 : decide ((s.taken.map PyData.int).length + (nw.map PyData.int).length ≤ sizeLine) = true := decide_eq_true (by rw [line, List.length_map, List.length_map]; omega)
    refine Eq.trans (seq_nx (ρ1 := fr cs row pl (s.taken ++ nw) s.steps s.prices (.dat (It call)) (.dat (.int pr)) c' (.own (Il nw))) (τ1 := noSrc) ?_) ?_
    · simp only [mPure_ev, mBind_ev, mLift_ev, mVar_ev, mOp2_ev, mOp1_ev, mOpL_ev, mBool_ev, mNil_ev, mCons_ev, mStar_ev, mTup_ev, mLst_ev, mOfN_ev, mListOf_ev, mItems_ev, mTrue_ev, seqOf_list, seqOf_tuple, bOf_bool, iOf_int, see_dat, see_no, see_src, see_ownT, see_ownF, okD_F, okA_F, okD_int, okD_bool, okA_nil, okA_ints, okD_ints, okSet_ev, okLen_nil, mIf_ev, mAnd_ev, mOr_ev, mNot_ev, mNoPart_ev, mPart_ev, mSlice_ev, mRange1_ev, mRange2_ev, mRg1_ev, mRg2_ev, mTupRg_ev, mLstRg_ev, mSkip_ev, mRet_ev, mSet_ev, mSetN_ev, mApp_ev, mExt_ev, mSetIx_ev, okY_no, okY_dat, okY_own, mIfS_ev, mVNil_ev, mVDat_ev, mVOwn_ev, mPar_ev, mFor_ev, mAsgT_ev, dAdd_ii, dSub_ii, dLt_ii, dLe_ii, dGt_ii, dGe_ii, dMin2_ii, dMax2_ii, dEqA_ii, dNeA_ii, dNeA_ss, enter_1, enter_2, enter_3, view_nil, view_cons, List.replicate_succ, List.replicate_zero, List.getElem?_cons_zero, List.getElem?_cons_succ, List.set_cons_zero, List.set_cons_succ, Bool.and_true, Bool.true_and, if_true, if_false, Bool.false_eq_true, Option.map_some, Option.bind_some, decide_true, decide_false, dLen_it, dLen_il, mComp, mComp2, wipeD, l1]
      simp only [fr, Il, List.map_append]
    · have l2 : decide ((s.steps.map It).length < sizeLine) = true := decide_eq_true (by rw [line, List.length_map]; omega)
      have l3 : decide ((s.prices.map PyData.int).length < sizeLine) = true := decide_eq_true (by rw [line, List.length_map]; omega)
      refine Eq.trans (seq_nx (ρ1 := fr cs row pl (s.taken ++ nw) (s.steps ++ [nw]) s.prices (.dat (It call)) (.dat (.int pr)) c' (.own (Il nw))) (τ1 := noSrc) ?_) ?_
      · simp only [mPure_ev, mBind_ev, mLift_ev, mVar_ev, mOp2_ev, mOp1_ev, mOpL_ev, mBool_ev, mNil_ev, mCons_ev, mStar_ev, mTup_ev, mLst_ev, mOfN_ev, mListOf_ev, mItems_ev, mTrue_ev, seqOf_list, seqOf_tuple, bOf_bool, iOf_int, see_dat, see_no, see_src, see_ownT, see_ownF, okD_F, okA_F, okD_int, okD_bool, okA_nil, okA_ints, okD_ints, okSet_ev, okLen_nil, mIf_ev, mAnd_ev, mOr_ev, mNot_ev, mNoPart_ev, mPart_ev, mSlice_ev, mRange1_ev, mRange2_ev, mRg1_ev, mRg2_ev, mTupRg_ev, mLstRg_ev, mSkip_ev, mRet_ev, mSet_ev, mSetN_ev, mApp_ev, mExt_ev, mSetIx_ev, okY_no, okY_dat, okY_own, mIfS_ev, mVNil_ev, mVDat_ev, mVOwn_ev, mPar_ev, mFor_ev, mAsgT_ev, dAdd_ii, dSub_ii, dLt_ii, dLe_ii, dGt_ii, dGe_ii, dMin2_ii, dMax2_ii, dEqA_ii, dNeA_ii, dNeA_ss, enter_1, enter_2, enter_3, view_nil, view_cons, List.replicate_succ, List.replicate_zero, List.getElem?_cons_zero, List.getElem?_cons_succ, List.set_cons_zero, List.set_cons_succ, Bool.and_true, Bool.true_and, if_true, if_false, Bool.false_eq_true, Option.map_some, Option.bind_some, decide_true, decide_false, dLen_it, dLen_il, mComp, mComp2, wipeD, dTuple_list, l2]
        simp only [fr, List.map_append, List.map_cons, List.map_nil]
      · simp only [mPure_ev, mBind_ev, mLift_ev, mVar_ev, mOp2_ev, mOp1_ev, mOpL_ev, mBool_ev, mNil_ev, mCons_ev, mStar_ev, mTup_ev, mLst_ev, mOfN_ev, mListOf_ev, mItems_ev, mTrue_ev, seqOf_list, seqOf_tuple, bOf_bool, iOf_int, see_dat, see_no, see_src, see_ownT, see_ownF, okD_F, okA_F, okD_int, okD_bool, okA_nil, okA_ints, okD_ints, okSet_ev, okLen_nil, mIf_ev, mAnd_ev, mOr_ev, mNot_ev, mNoPart_ev, mPart_ev, mSlice_ev, mRange1_ev, mRange2_ev, mRg1_ev, mRg2_ev, mTupRg_ev, mLstRg_ev, mSkip_ev, mRet_ev, mSet_ev, mSetN_ev, mApp_ev, mExt_ev, mSetIx_ev, okY_no, okY_dat, okY_own, mIfS_ev, mVNil_ev, mVDat_ev, mVOwn_ev, mPar_ev, mFor_ev, mAsgT_ev, dAdd_ii, dSub_ii, dLt_ii, dLe_ii, dGt_ii, dGe_ii, dMin2_ii, dMax2_ii, dEqA_ii, dNeA_ii, dNeA_ss, enter_1, enter_2, enter_3, view_nil, view_cons, List.replicate_succ, List.replicate_zero, List.getElem?_cons_zero, List.getElem?_cons_succ, List.set_cons_zero, List.set_cons_succ, Bool.and_true, Bool.true_and, if_true, if_false, Bool.false_eq_true, Option.map_some, Option.bind_some, decide_true, decide_false, dLen_it, dLen_il, mComp, mComp2, wipeD, l3]
        simp only [fr, Il, List.map_append, List.map_cons, List.map_nil]
end W93

namespace W93
open PySem DL
def st (cs : List Int) (row : List (List Int)) (i : Nat) : TR := (row.take i).foldl tstep ⟨cs, [], [], []⟩
theorem st_len (cs : List Int) : ∀ (row : List (List Int)) (s : TR), (∀ c ∈ row, c.length ≤ 1000) → (row.foldl tstep s).left.length = s.left.length ∧ (row.foldl tstep s).taken.length ≤ s.taken.length + 1000 * row.length ∧ (row.foldl tstep s).steps.length = s.steps.length + row.length ∧ (row.foldl tstep s).prices.length = s.prices.length + row.length
  | [], s, _ => ⟨rfl, by simp, rfl, rfl⟩
  | c :: row, s, h => by
    obtain ⟨h1, h2, h3, h4⟩ := st_len cs row (tstep s c) fun d hd => h d (List.mem_cons_of_mem _ hd)
    have e1 : (tstep s c).left.length = s.left.length := payL_len _ _ _
    have e2 : (tstep s c).taken.length ≤ s.taken.length + 1000 := by
      show (s.taken ++ newL _ _ c).length ≤ _
      rw [List.length_append]
      have : (newL (payL (priceOf s.left s.taken c) c s.left) s.taken c).length ≤ c.length := List.length_filter_le _ _
      have := h c List.mem_cons_self
      omega
    have e3 : (tstep s c).steps.length = s.steps.length + 1 := by show (s.steps ++ [_]).length = _; simp
    have e4 : (tstep s c).prices.length = s.prices.length + 1 := by show (s.prices ++ [_]).length = _; simp
    simp only [List.foldl_cons, List.length_cons]
    refine ⟨by omega, by omega, by omega, by omega⟩
theorem tight_run_ev {cs : List Int} {row : List (List Int)} (hr : row.length ≤ 1000) (ok : ∀ c ∈ row, OkCall cs.length c) : m_tight_run [It cs, Itt row] = some (.tuple [.list ((tight cs row).steps.map It), Il (tight cs row).prices]) := by
  obtain ⟨ρ', τ', e1, a, b, c, d, ha, hb, hc, hd, rfl, rfl⟩ := for_ix (b := .nm 6) (g := gTight) (enc := It) (xs := row) (ρ := fr cs row cs [] [] [] .no .no .no .no) (τ := noSrc)
    (fun i ρ τ => ∃ a b c d, okY a = true ∧ okY b = true ∧ okY c = true ∧ okY d = true ∧ ρ = fr cs row (st cs row i).left (st cs row i).taken (st cs row i).steps (st cs row i).prices a b c d ∧ τ = noSrc) ⟨.no, .no, .no, .no, rfl, rfl, rfl, rfl, rfl, rfl⟩ (by
      rintro i x ρ τ hx ⟨a, b, c, d, ha, hb, hc, hd, rfl, rfl⟩
      have hi := (List.getElem?_eq_some_iff.mp hx).1
      have hxm := List.mem_of_getElem? hx
      obtain ⟨l1, l2, l3, l4⟩ := st_len cs (row.take i) ⟨cs, [], [], []⟩ fun c hc => (ok c (List.mem_of_mem_take hc)).2.2
      have ht : (row.take i).length ≤ 1000 := by rw [List.length_take]; omega
      have q1 : (st cs row i).left.length = cs.length := l1
      have q2 : (st cs row i).taken.length ≤ 10000000 := by have : (st cs row i).taken.length ≤ 0 + 1000 * (row.take i).length := l2; omega
      have q3 : (st cs row i).steps.length ≤ 10000 := by have : (st cs row i).steps.length = 0 + (row.take i).length := l3; omega
      have q4 : (st cs row i).prices.length ≤ 10000 := by have : (st cs row i).prices.length = 0 + (row.take i).length := l4; omega
      obtain ⟨b', c', d', g1, g2, g3, g4⟩ := step_ev cs row (st cs row i) x b c d hb hc hd (by rw [q1]; exact ok x hxm) q2 q3 q4
      have es : st cs row (i + 1) = tstep (st cs row i) x := by
        unfold st
        rw [List.take_add_one, hx, List.foldl_append]
        rfl
      refine ⟨[(6, It x)], rfl, ?_, _, noSrc, .inl g4, .dat (It x), b', c', d', rfl, g1, g2, g3, by rw [es], rfl⟩
      unfold okSets
      simp only [List.all_cons, List.all_nil, Bool.and_true]
      simp only [mPure_ev, mBind_ev, mLift_ev, mVar_ev, mOp2_ev, mOp1_ev, mOpL_ev, mBool_ev, mNil_ev, mCons_ev, mStar_ev, mTup_ev, mLst_ev, mOfN_ev, mListOf_ev, mItems_ev, mTrue_ev, seqOf_list, seqOf_tuple, bOf_bool, iOf_int, see_dat, see_no, see_src, see_ownT, see_ownF, okD_F, okA_F, okD_int, okD_bool, okA_nil, okA_ints, okD_ints, okSet_ev, okLen_nil, mIf_ev, mAnd_ev, mOr_ev, mNot_ev, mNoPart_ev, mPart_ev, mSlice_ev, mRange1_ev, mRange2_ev, mRg1_ev, mRg2_ev, mTupRg_ev, mLstRg_ev, mSkip_ev, mRet_ev, mSet_ev, mSetN_ev, mApp_ev, mExt_ev, mSetIx_ev, okY_no, okY_dat, okY_own, mIfS_ev, mVNil_ev, mVDat_ev, mVOwn_ev, mPar_ev, mFor_ev, mAsgT_ev, dAdd_ii, dSub_ii, dLt_ii, dLe_ii, dGt_ii, dGe_ii, dMin2_ii, dMax2_ii, dEqA_ii, dNeA_ii, dNeA_ss, enter_1, enter_2, enter_3, view_nil, view_cons, List.replicate_succ, List.replicate_zero, List.getElem?_cons_zero, List.getElem?_cons_succ, List.set_cons_zero, List.set_cons_succ, Bool.and_true, Bool.true_and, if_true, if_false, Bool.false_eq_true, Option.map_some, Option.bind_some, decide_true, decide_false, dLen_it, dLen_il, mComp, mComp2, wipeD, ha])
  have hw : st cs row row.length = tight cs row := by unfold st tight; rw [List.take_length]
  rw [hw] at e1
  refine runP_rt rfl (ρ := fr cs row (tight cs row).left (tight cs row).taken (tight cs row).steps (tight cs row).prices a b c d) (τ := noSrc) ?_
  have o2 : okLen [.list ((tight cs row).steps.map It), Il (tight cs row).prices] = some [.list ((tight cs row).steps.map It), Il (tight cs row).prices] := okLen_of (by simp)
  unfold g_tight_run
  refine Eq.trans (seq_nx (ρ1 := fr cs row cs [] [] [] .no .no .no .no) (τ1 := noSrc) ?_) (Eq.trans (seq_nx (for_nx (ds := row.map It) (τ1 := noSrc) ?_ e1)) ?_)
  · simp only [mPure_ev, mBind_ev, mLift_ev, mVar_ev, mOp2_ev, mOp1_ev, mOpL_ev, mBool_ev, mNil_ev, mCons_ev, mStar_ev, mTup_ev, mLst_ev, mOfN_ev, mListOf_ev, mItems_ev, mTrue_ev, seqOf_list, seqOf_tuple, bOf_bool, iOf_int, see_dat, see_no, see_src, see_ownT, see_ownF, okD_F, okA_F, okD_int, okD_bool, okA_nil, okA_ints, okD_ints, okSet_ev, okLen_nil, mIf_ev, mAnd_ev, mOr_ev, mNot_ev, mNoPart_ev, mPart_ev, mSlice_ev, mRange1_ev, mRange2_ev, mRg1_ev, mRg2_ev, mTupRg_ev, mLstRg_ev, mSkip_ev, mRet_ev, mSet_ev, mSetN_ev, mApp_ev, mExt_ev, mSetIx_ev, okY_no, okY_dat, okY_own, mIfS_ev, mVNil_ev, mVDat_ev, mVOwn_ev, mPar_ev, mFor_ev, mAsgT_ev, dAdd_ii, dSub_ii, dLt_ii, dLe_ii, dGt_ii, dGe_ii, dMin2_ii, dMax2_ii, dEqA_ii, dNeA_ii, dNeA_ss, enter_1, enter_2, enter_3, view_nil, view_cons, List.replicate_succ, List.replicate_zero, List.getElem?_cons_zero, List.getElem?_cons_succ, List.set_cons_zero, List.set_cons_succ, Bool.and_true, Bool.true_and, if_true, if_false, Bool.false_eq_true, Option.map_some, Option.bind_some, decide_true, decide_false, dLen_it, dLen_il, mComp, mComp2, wipeD]
    rfl
  · simp only [mPure_ev, mBind_ev, mLift_ev, mVar_ev, mOp2_ev, mOp1_ev, mOpL_ev, mBool_ev, mNil_ev, mCons_ev, mStar_ev, mTup_ev, mLst_ev, mOfN_ev, mListOf_ev, mItems_ev, mTrue_ev, seqOf_list, seqOf_tuple, bOf_bool, iOf_int, see_dat, see_no, see_src, see_ownT, see_ownF, okD_F, okA_F, okD_int, okD_bool, okA_nil, okA_ints, okD_ints, okSet_ev, okLen_nil, mIf_ev, mAnd_ev, mOr_ev, mNot_ev, mNoPart_ev, mPart_ev, mSlice_ev, mRange1_ev, mRange2_ev, mRg1_ev, mRg2_ev, mTupRg_ev, mLstRg_ev, mSkip_ev, mRet_ev, mSet_ev, mSetN_ev, mApp_ev, mExt_ev, mSetIx_ev, okY_no, okY_dat, okY_own, mIfS_ev, mVNil_ev, mVDat_ev, mVOwn_ev, mPar_ev, mFor_ev, mAsgT_ev, dAdd_ii, dSub_ii, dLt_ii, dLe_ii, dGt_ii, dGe_ii, dMin2_ii, dMax2_ii, dEqA_ii, dNeA_ii, dNeA_ss, enter_1, enter_2, enter_3, view_nil, view_cons, List.replicate_succ, List.replicate_zero, List.getElem?_cons_zero, List.getElem?_cons_succ, List.set_cons_zero, List.set_cons_succ, Bool.and_true, Bool.true_and, if_true, if_false, Bool.false_eq_true, Option.map_some, Option.bind_some, decide_true, decide_false, dLen_it, dLen_il, mComp, mComp2, wipeD]
  · simp only [mPure_ev, mBind_ev, mLift_ev, mVar_ev, mOp2_ev, mOp1_ev, mOpL_ev, mBool_ev, mNil_ev, mCons_ev, mStar_ev, mTup_ev, mLst_ev, mOfN_ev, mListOf_ev, mItems_ev, mTrue_ev, seqOf_list, seqOf_tuple, bOf_bool, iOf_int, see_dat, see_no, see_src, see_ownT, see_ownF, okD_F, okA_F, okD_int, okD_bool, okA_nil, okA_ints, okD_ints, okSet_ev, okLen_nil, mIf_ev, mAnd_ev, mOr_ev, mNot_ev, mNoPart_ev, mPart_ev, mSlice_ev, mRange1_ev, mRange2_ev, mRg1_ev, mRg2_ev, mTupRg_ev, mLstRg_ev, mSkip_ev, mRet_ev, mSet_ev, mSetN_ev, mApp_ev, mExt_ev, mSetIx_ev, okY_no, okY_dat, okY_own, mIfS_ev, mVNil_ev, mVDat_ev, mVOwn_ev, mPar_ev, mFor_ev, mAsgT_ev, dAdd_ii, dSub_ii, dLt_ii, dLe_ii, dGt_ii, dGe_ii, dMin2_ii, dMax2_ii, dEqA_ii, dNeA_ii, dNeA_ss, enter_1, enter_2, enter_3, view_nil, view_cons, List.replicate_succ, List.replicate_zero, List.getElem?_cons_zero, List.getElem?_cons_succ, List.set_cons_zero, List.set_cons_succ, Bool.and_true, Bool.true_and, if_true, if_false, Bool.false_eq_true, Option.map_some, Option.bind_some, decide_true, decide_false, dLen_it, dLen_il, mComp, mComp2, wipeD, o2]
theorem tight_steps_ev {cs : List Int} {row : List (List Int)} (hr : row.length ≤ 1000) (ok : ∀ c ∈ row, OkCall cs.length c) : m_tight_steps [It cs, Itt row] = some (Itt (tight cs row).steps) := by
  have h := tight_run_ev hr ok
  have hx : dIx (.tuple [.list ((tight cs row).steps.map It), Il (tight cs row).prices]) (.int 0) = some (.list ((tight cs row).steps.map It)) := by
    simp only [dIx, seqOf]
    exact atI_int (by decide) rfl
  refine runP_rt rfl (ρ := [.dat (It cs), .dat (Itt row)]) (τ := noSrc) ?_
  simp only [mPure_ev, mBind_ev, mLift_ev, mVar_ev, mOp2_ev, mOp1_ev, mOpL_ev, mBool_ev, mNil_ev, mCons_ev, mStar_ev, mTup_ev, mLst_ev, mOfN_ev, mListOf_ev, mItems_ev, mTrue_ev, seqOf_list, seqOf_tuple, bOf_bool, iOf_int, see_dat, see_no, see_src, see_ownT, see_ownF, okD_F, okA_F, okD_int, okD_bool, okA_nil, okA_ints, okD_ints, okSet_ev, okLen_nil, mIf_ev, mAnd_ev, mOr_ev, mNot_ev, mNoPart_ev, mPart_ev, mSlice_ev, mRange1_ev, mRange2_ev, mRg1_ev, mRg2_ev, mTupRg_ev, mLstRg_ev, mSkip_ev, mRet_ev, mSet_ev, mSetN_ev, mApp_ev, mExt_ev, mSetIx_ev, okY_no, okY_dat, okY_own, mIfS_ev, mVNil_ev, mVDat_ev, mVOwn_ev, mPar_ev, mFor_ev, mAsgT_ev, dAdd_ii, dSub_ii, dLt_ii, dLe_ii, dGt_ii, dGe_ii, dMin2_ii, dMax2_ii, dEqA_ii, dNeA_ii, dNeA_ss, enter_1, enter_2, enter_3, view_nil, view_cons, List.replicate_succ, List.replicate_zero, List.getElem?_cons_zero, List.getElem?_cons_succ, List.set_cons_zero, List.set_cons_succ, Bool.and_true, Bool.true_and, if_true, if_false, Bool.false_eq_true, Option.map_some, Option.bind_some, decide_true, decide_false, dLen_it, dLen_il, mComp, mComp2, wipeD, g_tight_steps, h, hx, dTuple_list]
theorem flat_map (xs : List (List Int)) : xs.flatMap (fun s => s.map PyData.int) = xs.flatten.map .int := by
  induction xs with
  | nil => rfl
  | cons x xs ih => simp only [List.flatMap_cons, List.flatten_cons, List.map_append, ih]
def wayL (cs : List Int) (row : List (List Int)) : List Int := ((tight cs row).steps.flatten).mergeSort leI
theorem tight_way_ev {cs : List Int} {row : List (List Int)} (hr : row.length ≤ 1000) (ok : ∀ c ∈ row, OkCall cs.length c) (hf : (tight cs row).steps.flatten.length ≤ 2 ^ 24) : m_tight_way [It cs, Itt row] = some (.tuple [It (wayL cs row), It (tight cs row).prices]) := by
  have h := tight_run_ev hr ok
  have hc : compGo2 (.nm 4) (mPure true) (mItems (mVar 4)) [5] (.nm 5) (mPure true) (mVar 5) [some (It cs), some (Itt row), some (.list ((tight cs row).steps.map It)), some (Il (tight cs row).prices), none, none] ((tight cs row).steps.map It) noSrc = some ((tight cs row).steps.flatten.map .int, noSrc) := by
    rw [← flat_map]
    refine comp2_all fun s _ => ⟨[(4, It s)], s.map .int, rfl, ?_, ?_⟩
    · simp only [setD, List.foldl_cons, List.foldl_nil]
      simp only [mPure_ev, mBind_ev, mLift_ev, mVar_ev, mOp2_ev, mOp1_ev, mOpL_ev, mBool_ev, mNil_ev, mCons_ev, mStar_ev, mTup_ev, mLst_ev, mOfN_ev, mListOf_ev, mItems_ev, mTrue_ev, seqOf_list, seqOf_tuple, bOf_bool, iOf_int, see_dat, see_no, see_src, see_ownT, see_ownF, okD_F, okA_F, okD_int, okD_bool, okA_nil, okA_ints, okD_ints, okSet_ev, okLen_nil, mIf_ev, mAnd_ev, mOr_ev, mNot_ev, mNoPart_ev, mPart_ev, mSlice_ev, mRange1_ev, mRange2_ev, mRg1_ev, mRg2_ev, mTupRg_ev, mLstRg_ev, mSkip_ev, mRet_ev, mSet_ev, mSetN_ev, mApp_ev, mExt_ev, mSetIx_ev, okY_no, okY_dat, okY_own, mIfS_ev, mVNil_ev, mVDat_ev, mVOwn_ev, mPar_ev, mFor_ev, mAsgT_ev, dAdd_ii, dSub_ii, dLt_ii, dLe_ii, dGt_ii, dGe_ii, dMin2_ii, dMax2_ii, dEqA_ii, dNeA_ii, dNeA_ss, enter_1, enter_2, enter_3, view_nil, view_cons, List.replicate_succ, List.replicate_zero, List.getElem?_cons_zero, List.getElem?_cons_succ, List.set_cons_zero, List.set_cons_succ, Bool.and_true, Bool.true_and, if_true, if_false, Bool.false_eq_true, Option.map_some, Option.bind_some, decide_true, decide_false, dLen_it, dLen_il, mComp, mComp2, wipeD]
    · simp only [setD, List.foldl_cons, List.foldl_nil]
      simp only [mPure_ev, mBind_ev, mLift_ev, mVar_ev, mOp2_ev, mOp1_ev, mOpL_ev, mBool_ev, mNil_ev, mCons_ev, mStar_ev, mTup_ev, mLst_ev, mOfN_ev, mListOf_ev, mItems_ev, mTrue_ev, seqOf_list, seqOf_tuple, bOf_bool, iOf_int, see_dat, see_no, see_src, see_ownT, see_ownF, okD_F, okA_F, okD_int, okD_bool, okA_nil, okA_ints, okD_ints, okSet_ev, okLen_nil, mIf_ev, mAnd_ev, mOr_ev, mNot_ev, mNoPart_ev, mPart_ev, mSlice_ev, mRange1_ev, mRange2_ev, mRg1_ev, mRg2_ev, mTupRg_ev, mLstRg_ev, mSkip_ev, mRet_ev, mSet_ev, mSetN_ev, mApp_ev, mExt_ev, mSetIx_ev, okY_no, okY_dat, okY_own, mIfS_ev, mVNil_ev, mVDat_ev, mVOwn_ev, mPar_ev, mFor_ev, mAsgT_ev, dAdd_ii, dSub_ii, dLt_ii, dLe_ii, dGt_ii, dGe_ii, dMin2_ii, dMax2_ii, dEqA_ii, dNeA_ii, dNeA_ss, enter_1, enter_2, enter_3, view_nil, view_cons, List.replicate_succ, List.replicate_zero, List.getElem?_cons_zero, List.getElem?_cons_succ, List.set_cons_zero, List.set_cons_succ, Bool.and_true, Bool.true_and, if_true, if_false, Bool.false_eq_true, Option.map_some, Option.bind_some, decide_true, decide_false, dLen_it, dLen_il, mComp, mComp2, wipeD]
      refine comp_all (q := fun l => .int l) fun l _ => ⟨[(5, .int l)], rfl, ?_⟩
      simp only [setD, List.foldl_cons, List.foldl_nil]
      simp only [mPure_ev, mBind_ev, mLift_ev, mVar_ev, mOp2_ev, mOp1_ev, mOpL_ev, mBool_ev, mNil_ev, mCons_ev, mStar_ev, mTup_ev, mLst_ev, mOfN_ev, mListOf_ev, mItems_ev, mTrue_ev, seqOf_list, seqOf_tuple, bOf_bool, iOf_int, see_dat, see_no, see_src, see_ownT, see_ownF, okD_F, okA_F, okD_int, okD_bool, okA_nil, okA_ints, okD_ints, okSet_ev, okLen_nil, mIf_ev, mAnd_ev, mOr_ev, mNot_ev, mNoPart_ev, mPart_ev, mSlice_ev, mRange1_ev, mRange2_ev, mRg1_ev, mRg2_ev, mTupRg_ev, mLstRg_ev, mSkip_ev, mRet_ev, mSet_ev, mSetN_ev, mApp_ev, mExt_ev, mSetIx_ev, okY_no, okY_dat, okY_own, mIfS_ev, mVNil_ev, mVDat_ev, mVOwn_ev, mPar_ev, mFor_ev, mAsgT_ev, dAdd_ii, dSub_ii, dLt_ii, dLe_ii, dGt_ii, dGe_ii, dMin2_ii, dMax2_ii, dEqA_ii, dNeA_ii, dNeA_ss, enter_1, enter_2, enter_3, view_nil, view_cons, List.replicate_succ, List.replicate_zero, List.getElem?_cons_zero, List.getElem?_cons_succ, List.set_cons_zero, List.set_cons_succ, Bool.and_true, Bool.true_and, if_true, if_false, Bool.false_eq_true, Option.map_some, Option.bind_some, decide_true, decide_false, dLen_it, dLen_il, mComp, mComp2, wipeD]
  have hs := dSortI_ints hf
  have ho : okLen ((tight cs row).steps.flatten.map PyData.int) = some ((tight cs row).steps.flatten.map .int) := okLen_of (by rw [List.length_map]; exact hf)
  have ho2 : okLen [It (wayL cs row), It (tight cs row).prices] = some [It (wayL cs row), It (tight cs row).prices] := okLen_of (by simp)
  simp only [mOp2_ev, mOp1_ev, mOpL_ev, mBool_ev, mNil_ev, mCons_ev, mStar_ev, mTup_ev, mLst_ev, mOfN_ev, mListOf_ev, mItems_ev, mTrue_ev, mIf_ev, mAnd_ev, mOr_ev, mNot_ev, mNoPart_ev, mPart_ev, mSlice_ev, mRange1_ev, mRange2_ev, mRg1_ev, mRg2_ev, mTupRg_ev, mLstRg_ev, mVNil_ev, mVDat_ev, mVOwn_ev, mComp, mComp2, wipeD] at hc
  refine runP_rt rfl (ρ := [.dat (It cs), .dat (Itt row), .dat (.list ((tight cs row).steps.map It)), .dat (Il (tight cs row).prices), .no, .no]) (τ := noSrc) ?_
  unfold g_tight_way
  refine Eq.trans (seq_nx (ρ1 := [.dat (It cs), .dat (Itt row), .dat (.list ((tight cs row).steps.map It)), .dat (Il (tight cs row).prices), .no, .no]) (τ1 := noSrc) ?_) ?_
  · simp only [mPure_ev, mBind_ev, mLift_ev, mVar_ev, mOp2_ev, mOp1_ev, mOpL_ev, mBool_ev, mNil_ev, mCons_ev, mStar_ev, mTup_ev, mLst_ev, mOfN_ev, mListOf_ev, mItems_ev, mTrue_ev, seqOf_list, seqOf_tuple, bOf_bool, iOf_int, see_dat, see_no, see_src, see_ownT, see_ownF, okD_F, okA_F, okD_int, okD_bool, okA_nil, okA_ints, okD_ints, okSet_ev, okLen_nil, mIf_ev, mAnd_ev, mOr_ev, mNot_ev, mNoPart_ev, mPart_ev, mSlice_ev, mRange1_ev, mRange2_ev, mRg1_ev, mRg2_ev, mTupRg_ev, mLstRg_ev, mSkip_ev, mRet_ev, mSet_ev, mSetN_ev, mApp_ev, mExt_ev, mSetIx_ev, okY_no, okY_dat, okY_own, mIfS_ev, mVNil_ev, mVDat_ev, mVOwn_ev, mPar_ev, mFor_ev, mAsgT_ev, dAdd_ii, dSub_ii, dLt_ii, dLe_ii, dGt_ii, dGe_ii, dMin2_ii, dMax2_ii, dEqA_ii, dNeA_ii, dNeA_ss, enter_1, enter_2, enter_3, view_nil, view_cons, List.replicate_succ, List.replicate_zero, List.getElem?_cons_zero, List.getElem?_cons_succ, List.set_cons_zero, List.set_cons_succ, Bool.and_true, Bool.true_and, if_true, if_false, Bool.false_eq_true, Option.map_some, Option.bind_some, decide_true, decide_false, dLen_it, dLen_il, mComp, mComp2, wipeD, h, bindT, bindTs, List.append_nil, List.cons_append, List.nil_append]
    rfl
  · have hw : (wayL cs row) = ((tight cs row).steps.flatten).mergeSort leI := rfl
    rw [← hw] at hs
    simp only [mPure_ev, mBind_ev, mLift_ev, mVar_ev, mOp2_ev, mOp1_ev, mOpL_ev, mBool_ev, mNil_ev, mCons_ev, mStar_ev, mTup_ev, mLst_ev, mOfN_ev, mListOf_ev, mItems_ev, mTrue_ev, seqOf_list, seqOf_tuple, bOf_bool, iOf_int, see_dat, see_no, see_src, see_ownT, see_ownF, okD_F, okA_F, okD_int, okD_bool, okA_nil, okA_ints, okD_ints, okSet_ev, okLen_nil, mIf_ev, mAnd_ev, mOr_ev, mNot_ev, mNoPart_ev, mPart_ev, mSlice_ev, mRange1_ev, mRange2_ev, mRg1_ev, mRg2_ev, mTupRg_ev, mLstRg_ev, mSkip_ev, mRet_ev, mSet_ev, mSetN_ev, mApp_ev, mExt_ev, mSetIx_ev, okY_no, okY_dat, okY_own, mIfS_ev, mVNil_ev, mVDat_ev, mVOwn_ev, mPar_ev, mFor_ev, mAsgT_ev, dAdd_ii, dSub_ii, dLt_ii, dLe_ii, dGt_ii, dGe_ii, dMin2_ii, dMax2_ii, dEqA_ii, dNeA_ii, dNeA_ss, enter_1, enter_2, enter_3, view_nil, view_cons, List.replicate_succ, List.replicate_zero, List.getElem?_cons_zero, List.getElem?_cons_succ, List.set_cons_zero, List.set_cons_succ, Bool.and_true, Bool.true_and, if_true, if_false, Bool.false_eq_true, Option.map_some, Option.bind_some, decide_true, decide_false, dLen_it, dLen_il, mComp, mComp2, wipeD, hc, ho, mSort, hs, dTuple_list, ho2]
theorem wayL_cost (cs : List Int) (row : List (List Int)) : costL cs (wayL cs row) = costL cs (tight cs row).steps.flatten := sum_perm _ (sort_perm _)
theorem tight_cost_ev {cs : List Int} {row : List (List Int)} (hr : row.length ≤ 1000) (ok : ∀ c ∈ row, OkCall cs.length c) (hf : (tight cs row).steps.flatten.length ≤ 2 ^ 24) (hl : Okl cs.length (tight cs row).steps.flatten) : m_tight_cost [It cs, Itt row] = some (.int (costL cs (tight cs row).steps.flatten)) := by
  have h := tight_way_ev hr ok hf
  have hx : dIx (.tuple [It (wayL cs row), It (tight cs row).prices]) (.int 0) = some (It (wayL cs row)) := by
    simp only [dIx, seqOf]
    exact atI_int (by decide) rfl
  have hc := lots_cost_ev (cs := cs) (lots := wayL cs row) fun l hm => hl l ((sort_perm _).mem_iff.mp hm)
  rw [wayL_cost] at hc
  refine runP_rt rfl (ρ := [.dat (It cs), .dat (Itt row)]) (τ := noSrc) ?_
  simp only [mPure_ev, mBind_ev, mLift_ev, mVar_ev, mOp2_ev, mOp1_ev, mOpL_ev, mBool_ev, mNil_ev, mCons_ev, mStar_ev, mTup_ev, mLst_ev, mOfN_ev, mListOf_ev, mItems_ev, mTrue_ev, seqOf_list, seqOf_tuple, bOf_bool, iOf_int, see_dat, see_no, see_src, see_ownT, see_ownF, okD_F, okA_F, okD_int, okD_bool, okA_nil, okA_ints, okD_ints, okSet_ev, okLen_nil, mIf_ev, mAnd_ev, mOr_ev, mNot_ev, mNoPart_ev, mPart_ev, mSlice_ev, mRange1_ev, mRange2_ev, mRg1_ev, mRg2_ev, mTupRg_ev, mLstRg_ev, mSkip_ev, mRet_ev, mSet_ev, mSetN_ev, mApp_ev, mExt_ev, mSetIx_ev, okY_no, okY_dat, okY_own, mIfS_ev, mVNil_ev, mVDat_ev, mVOwn_ev, mPar_ev, mFor_ev, mAsgT_ev, dAdd_ii, dSub_ii, dLt_ii, dLe_ii, dGt_ii, dGe_ii, dMin2_ii, dMax2_ii, dEqA_ii, dNeA_ii, dNeA_ss, enter_1, enter_2, enter_3, view_nil, view_cons, List.replicate_succ, List.replicate_zero, List.getElem?_cons_zero, List.getElem?_cons_succ, List.set_cons_zero, List.set_cons_succ, Bool.and_true, Bool.true_and, if_true, if_false, Bool.false_eq_true, Option.map_some, Option.bind_some, decide_true, decide_false, dLen_it, dLen_il, mComp, mComp2, wipeD, g_tight_cost, h, hx, hc]
end W93

namespace W93
open PySem DL
/-! ### nested rows -/
def tk (ts : List Int) (n : Nat) : Int := ts.getD (min n (ts.length - 1)) 1
structure OkT (ts : List Int) : Prop where
  ne : ts ≠ []
  len : ts.length ≤ 100
  lo : ∀ t ∈ ts, 1 ≤ t ∧ t ≤ 100
theorem OkT.pos {ts : List Int} (h : OkT ts) (n : Nat) : 1 ≤ tk ts n ∧ tk ts n ≤ 100 := by
  have hl : 0 < ts.length := List.length_pos_iff.mpr h.ne
  have hi : min n (ts.length - 1) < ts.length := by omega
  unfold tk
  rw [List.getD_eq_getElem?_getD, List.getElem?_eq_getElem hi]
  exact h.lo _ (List.getElem_mem hi)
theorem turn_min (ts : List Int) (h : ts ≠ []) (n : Nat) : (if (ts.length : Int) - 1 < (n : Int) then (ts.length : Int) - 1 else (n : Int)) = ((min n (ts.length - 1) : Nat) : Int) := by
  have hl : 0 < ts.length := List.length_pos_iff.mpr h
  split <;> omega
theorem ix_tk (ts : List Int) (h : ts ≠ []) (n : Nat) : dIx (It ts) (.int ((min n (ts.length - 1) : Nat) : Int)) = some (.int (tk ts n)) := by
  have hl : 0 < ts.length := List.length_pos_iff.mpr h
  refine dIx_it (by omega) ?_
  rw [Int.toNat_natCast]
  have hi : min n (ts.length - 1) < ts.length := by omega
  unfold tk
  rw [List.getD_eq_getElem?_getD, List.getElem?_eq_getElem hi]
  rfl
theorem taken_at_ev {ts : List Int} (h : ts ≠ []) (n : Nat) : m_taken_at [It ts, .int n] = some (.int (tk ts n)) := by
  have e := turn_min ts h n
  have hx := ix_tk ts h n
  refine runP_rt rfl (ρ := [.dat (It ts), .dat (.int n)]) (τ := noSrc) ?_
  simp only [mPure_ev, mBind_ev, mLift_ev, mVar_ev, mOp2_ev, mOp1_ev, mOpL_ev, mBool_ev, mNil_ev, mCons_ev, mStar_ev, mTup_ev, mLst_ev, mOfN_ev, mListOf_ev, mItems_ev, mTrue_ev, seqOf_list, seqOf_tuple, bOf_bool, iOf_int, see_dat, see_no, see_src, see_ownT, see_ownF, okD_F, okA_F, okD_int, okD_bool, okA_nil, okA_ints, okD_ints, okSet_ev, okLen_nil, mIf_ev, mAnd_ev, mOr_ev, mNot_ev, mNoPart_ev, mPart_ev, mSlice_ev, mRange1_ev, mRange2_ev, mRg1_ev, mRg2_ev, mTupRg_ev, mLstRg_ev, mSkip_ev, mRet_ev, mSet_ev, mSetN_ev, mApp_ev, mExt_ev, mSetIx_ev, okY_no, okY_dat, okY_own, mIfS_ev, mVNil_ev, mVDat_ev, mVOwn_ev, mPar_ev, mFor_ev, mAsgT_ev, dAdd_ii, dSub_ii, dLt_ii, dLe_ii, dGt_ii, dGe_ii, dMin2_ii, dMax2_ii, dEqA_ii, dNeA_ii, dNeA_ss, enter_1, enter_2, enter_3, view_nil, view_cons, List.replicate_succ, List.replicate_zero, List.getElem?_cons_zero, List.getElem?_cons_succ, List.set_cons_zero, List.set_cons_succ, Bool.and_true, Bool.true_and, if_true, if_false, Bool.false_eq_true, Option.map_some, Option.bind_some, decide_true, decide_false, dLen_it, dLen_il, mComp, mComp2, wipeD, g_taken_at, e, hx]
def rg (a f : Nat) : List Int := (List.range (f - a)).map fun i => ((a + i : Nat) : Int)
theorem rg_len (a f : Nat) : (rg a f).length = f - a := by simp [rg]
def rows (ts : List Int) (f : Nat) : Nat → Nat → Nat → List (List Int)
  | 0, _, _ => []
  | k + 1, a, n => if a < f then rg a f :: rows ts f k (a + (tk ts n).toNat) (n + 1) else []
theorem rows_end (ts : List Int) (f k a n : Nat) (h : f ≤ a) : rows ts f k a n = [] := by
  cases k with
  | zero => rfl
  | succ k => simp [rows, Nat.not_lt.mpr h]
theorem rangeD_rg (a f : Nat) (h : a ≤ f) (hf : f ≤ 2 ^ 20) : rangeD (a : Int) (f : Int) = some ((rg a f).map .int) := by
  rw [rangeD_of (by omega) (by omega) (by omega) (by omega)]
  have e : ((f : Int) - (a : Int)).toNat = f - a := by omega
  rw [e]
  unfold rg
  rw [List.map_map]
  congr 1
noncomputable def gNest : Stm := mSeq (mApp false 2 (mTupRg (mRg2 (mVar 3) (mVar 0))))
    (mSet true 3 (mOp2 dAdd (mVar 3) (mOpL m_taken_at (mCons (mVar 1) (mCons (mOp2 dSub (mOpL dLen (mCons (mVar 2) mNil)) (mPure (.int 1))) mNil)))))
theorem nested_row_ev {ts : List Int} (h : OkT ts) (f : Nat) (hf : f ≤ 100) : m_nested_row [.int f, It ts] = some (Itt (rows ts f f 0 0)) := by
  obtain ⟨ρ', τ', e1, done, a, e2, e3, e4⟩ := while_inv (c := mBool (mOp2 dLt (mVar 3) (mVar 0))) (g := gNest)
    (fun m ρ τ => ∃ (done : List (List Int)) (a k : Nat), m = f - a ∧ done ++ rows ts f k a done.length = rows ts f f 0 0 ∧ f - a ≤ k ∧ done.length ≤ a ∧ ρ = [.dat (.int f), .dat (It ts), .own (.list (done.map It)), .dat (.int a)] ∧ τ = noSrc)
    (fun ρ τ => ∃ (done : List (List Int)) (a : Nat), done = rows ts f f 0 0 ∧ ρ = [.dat (.int f), .dat (It ts), .own (.list (done.map It)), .dat (.int a)] ∧ τ = noSrc) (by
      rintro m ρ τ ⟨done, a, k, rfl, hd, hk, hn, rfl, rfl⟩
      refine ⟨noSrc, ?_⟩
      by_cases hlt : a < f
      · right
        have hb : decide ((a : Int) < (f : Int)) = true := decide_eq_true (by omega)
        refine ⟨by simp only [mPure_ev, mBind_ev, mLift_ev, mVar_ev, mOp2_ev, mOp1_ev, mOpL_ev, mBool_ev, mNil_ev, mCons_ev, mStar_ev, mTup_ev, mLst_ev, mOfN_ev, mListOf_ev, mItems_ev, mTrue_ev, seqOf_list, seqOf_tuple, bOf_bool, iOf_int, see_dat, see_no, see_src, see_ownT, see_ownF, okD_F, okA_F, okD_int, okD_bool, okA_nil, okA_ints, okD_ints, okSet_ev, okLen_nil, mIf_ev, mAnd_ev, mOr_ev, mNot_ev, mNoPart_ev, mPart_ev, mSlice_ev, mRange1_ev, mRange2_ev, mRg1_ev, mRg2_ev, mTupRg_ev, mLstRg_ev, mSkip_ev, mRet_ev, mSet_ev, mSetN_ev, mApp_ev, mExt_ev, mSetIx_ev, okY_no, okY_dat, okY_own, mIfS_ev, mVNil_ev, mVDat_ev, mVOwn_ev, mPar_ev, mFor_ev, mAsgT_ev, dAdd_ii, dSub_ii, dLt_ii, dLe_ii, dGt_ii, dGe_ii, dMin2_ii, dMax2_ii, dEqA_ii, dNeA_ii, dNeA_ss, enter_1, enter_2, enter_3, view_nil, view_cons, List.replicate_succ, List.replicate_zero, List.getElem?_cons_zero, List.getElem?_cons_succ, List.set_cons_zero, List.set_cons_succ, Bool.and_true, Bool.true_and, if_true, if_false, Bool.false_eq_true, Option.map_some, Option.bind_some, decide_true, decide_false, dLen_it, dLen_il, mComp, mComp2, wipeD, hb], ?_⟩
        obtain ⟨k, rfl⟩ : ∃ k', k = k' + 1 := ⟨k - 1, by omega⟩
        obtain ⟨p1, p2⟩ := h.pos done.length
        have hr := rangeD_rg a f (by omega) (by omega)
        have l1 : decide ((done.map It).length < sizeLine) = true := decide_eq_true (by rw [line24, List.length_map]; omega)
        have ht := taken_at_ev h.ne done.length
        have el : ((done ++ [rg a f]).map It).length = done.length + 1 := by simp
        have e5 : (((done.length + 1 : Nat) : Int) - 1) = (done.length : Int) := by omega
        refine ⟨[.dat (.int f), .dat (It ts), .own (.list ((done ++ [rg a f]).map It)), .dat (.int ((a + (tk ts done.length).toNat : Nat) : Int))], noSrc, .inl ?_, f - (a + (tk ts done.length).toNat), by omega, done ++ [rg a f], a + (tk ts done.length).toNat, k, rfl, ?_, by omega, by rw [List.length_append]; simp; omega, rfl, rfl⟩
        · unfold gNest
          refine Eq.trans (seq_nx (ρ1 := [.dat (.int f), .dat (It ts), .own (.list ((done ++ [rg a f]).map It)), .dat (.int a)]) (τ1 := noSrc) ?_) ?_
          · simp only [mPure_ev, mBind_ev, mLift_ev, mVar_ev, mOp2_ev, mOp1_ev, mOpL_ev, mBool_ev, mNil_ev, mCons_ev, mStar_ev, mTup_ev, mLst_ev, mOfN_ev, mListOf_ev, mItems_ev, mTrue_ev, seqOf_list, seqOf_tuple, bOf_bool, iOf_int, see_dat, see_no, see_src, see_ownT, see_ownF, okD_F, okA_F, okD_int, okD_bool, okA_nil, okA_ints, okD_ints, okSet_ev, okLen_nil, mIf_ev, mAnd_ev, mOr_ev, mNot_ev, mNoPart_ev, mPart_ev, mSlice_ev, mRange1_ev, mRange2_ev, mRg1_ev, mRg2_ev, mTupRg_ev, mLstRg_ev, mSkip_ev, mRet_ev, mSet_ev, mSetN_ev, mApp_ev, mExt_ev, mSetIx_ev, okY_no, okY_dat, okY_own, mIfS_ev, mVNil_ev, mVDat_ev, mVOwn_ev, mPar_ev, mFor_ev, mAsgT_ev, dAdd_ii, dSub_ii, dLt_ii, dLe_ii, dGt_ii, dGe_ii, dMin2_ii, dMax2_ii, dEqA_ii, dNeA_ii, dNeA_ss, enter_1, enter_2, enter_3, view_nil, view_cons, List.replicate_succ, List.replicate_zero, List.getElem?_cons_zero, List.getElem?_cons_succ, List.set_cons_zero, List.set_cons_succ, Bool.and_true, Bool.true_and, if_true, if_false, Bool.false_eq_true, Option.map_some, Option.bind_some, decide_true, decide_false, dLen_it, dLen_il, mComp, mComp2, wipeD, hr, l1]
            simp only [List.map_append, List.map_cons, List.map_nil]
          · have e6 : ((a + (tk ts done.length).toNat : Nat) : Int) = (a : Int) + tk ts done.length := by omega
            simp only [mPure_ev, mBind_ev, mLift_ev, mVar_ev, mOp2_ev, mOp1_ev, mOpL_ev, mBool_ev, mNil_ev, mCons_ev, mStar_ev, mTup_ev, mLst_ev, mOfN_ev, mListOf_ev, mItems_ev, mTrue_ev, seqOf_list, seqOf_tuple, bOf_bool, iOf_int, see_dat, see_no, see_src, see_ownT, see_ownF, okD_F, okA_F, okD_int, okD_bool, okA_nil, okA_ints, okD_ints, okSet_ev, okLen_nil, mIf_ev, mAnd_ev, mOr_ev, mNot_ev, mNoPart_ev, mPart_ev, mSlice_ev, mRange1_ev, mRange2_ev, mRg1_ev, mRg2_ev, mTupRg_ev, mLstRg_ev, mSkip_ev, mRet_ev, mSet_ev, mSetN_ev, mApp_ev, mExt_ev, mSetIx_ev, okY_no, okY_dat, okY_own, mIfS_ev, mVNil_ev, mVDat_ev, mVOwn_ev, mPar_ev, mFor_ev, mAsgT_ev, dAdd_ii, dSub_ii, dLt_ii, dLe_ii, dGt_ii, dGe_ii, dMin2_ii, dMax2_ii, dEqA_ii, dNeA_ii, dNeA_ss, enter_1, enter_2, enter_3, view_nil, view_cons, List.replicate_succ, List.replicate_zero, List.getElem?_cons_zero, List.getElem?_cons_succ, List.set_cons_zero, List.set_cons_succ, Bool.and_true, Bool.true_and, if_true, if_false, Bool.false_eq_true, Option.map_some, Option.bind_some, decide_true, decide_false, dLen_it, dLen_il, mComp, mComp2, wipeD, dLen_lst, el, e5, ht, e6]
        · rw [← hd, rows, if_pos hlt, List.append_assoc]
          simp
      · left
        have hb : decide ((a : Int) < (f : Int)) = false := decide_eq_false (by omega)
        refine ⟨by simp only [mPure_ev, mBind_ev, mLift_ev, mVar_ev, mOp2_ev, mOp1_ev, mOpL_ev, mBool_ev, mNil_ev, mCons_ev, mStar_ev, mTup_ev, mLst_ev, mOfN_ev, mListOf_ev, mItems_ev, mTrue_ev, seqOf_list, seqOf_tuple, bOf_bool, iOf_int, see_dat, see_no, see_src, see_ownT, see_ownF, okD_F, okA_F, okD_int, okD_bool, okA_nil, okA_ints, okD_ints, okSet_ev, okLen_nil, mIf_ev, mAnd_ev, mOr_ev, mNot_ev, mNoPart_ev, mPart_ev, mSlice_ev, mRange1_ev, mRange2_ev, mRg1_ev, mRg2_ev, mTupRg_ev, mLstRg_ev, mSkip_ev, mRet_ev, mSet_ev, mSetN_ev, mApp_ev, mExt_ev, mSetIx_ev, okY_no, okY_dat, okY_own, mIfS_ev, mVNil_ev, mVDat_ev, mVOwn_ev, mPar_ev, mFor_ev, mAsgT_ev, dAdd_ii, dSub_ii, dLt_ii, dLe_ii, dGt_ii, dGe_ii, dMin2_ii, dMax2_ii, dEqA_ii, dNeA_ii, dNeA_ss, enter_1, enter_2, enter_3, view_nil, view_cons, List.replicate_succ, List.replicate_zero, List.getElem?_cons_zero, List.getElem?_cons_succ, List.set_cons_zero, List.set_cons_succ, Bool.and_true, Bool.true_and, if_true, if_false, Bool.false_eq_true, Option.map_some, Option.bind_some, decide_true, decide_false, dLen_it, dLen_il, mComp, mComp2, wipeD, hb], done, a, ?_, rfl, rfl⟩
        rw [rows_end ts f k a _ (by omega), List.append_nil] at hd
        exact hd)
    (n := fuel) (m := f - 0) (ρ := [.dat (.int f), .dat (It ts), .own (.list []), .dat (.int 0)]) (τ := noSrc) (by unfold fuel; omega) ⟨[], 0, f, rfl, rfl, by omega, Nat.le_refl _, rfl, rfl⟩
  subst e2 e3 e4
  refine runP_rt rfl (ρ := [.dat (.int f), .dat (It ts), .own (.list ((rows ts f f 0 0).map It)), .dat (.int a)]) (τ := noSrc) ?_
  unfold g_nested_row
  refine Eq.trans (seq_nx (ρ1 := [.dat (.int f), .dat (It ts), .own (.list []), .dat (.int 0)]) (τ1 := noSrc) ?_) (Eq.trans (seq_nx e1) ?_)
  · simp only [mPure_ev, mBind_ev, mLift_ev, mVar_ev, mOp2_ev, mOp1_ev, mOpL_ev, mBool_ev, mNil_ev, mCons_ev, mStar_ev, mTup_ev, mLst_ev, mOfN_ev, mListOf_ev, mItems_ev, mTrue_ev, seqOf_list, seqOf_tuple, bOf_bool, iOf_int, see_dat, see_no, see_src, see_ownT, see_ownF, okD_F, okA_F, okD_int, okD_bool, okA_nil, okA_ints, okD_ints, okSet_ev, okLen_nil, mIf_ev, mAnd_ev, mOr_ev, mNot_ev, mNoPart_ev, mPart_ev, mSlice_ev, mRange1_ev, mRange2_ev, mRg1_ev, mRg2_ev, mTupRg_ev, mLstRg_ev, mSkip_ev, mRet_ev, mSet_ev, mSetN_ev, mApp_ev, mExt_ev, mSetIx_ev, okY_no, okY_dat, okY_own, mIfS_ev, mVNil_ev, mVDat_ev, mVOwn_ev, mPar_ev, mFor_ev, mAsgT_ev, dAdd_ii, dSub_ii, dLt_ii, dLe_ii, dGt_ii, dGe_ii, dMin2_ii, dMax2_ii, dEqA_ii, dNeA_ii, dNeA_ss, enter_1, enter_2, enter_3, view_nil, view_cons, List.replicate_succ, List.replicate_zero, List.getElem?_cons_zero, List.getElem?_cons_succ, List.set_cons_zero, List.set_cons_succ, Bool.and_true, Bool.true_and, if_true, if_false, Bool.false_eq_true, Option.map_some, Option.bind_some, decide_true, decide_false, dLen_it, dLen_il, mComp, mComp2, wipeD]
    rfl
  · simp only [mPure_ev, mBind_ev, mLift_ev, mVar_ev, mOp2_ev, mOp1_ev, mOpL_ev, mBool_ev, mNil_ev, mCons_ev, mStar_ev, mTup_ev, mLst_ev, mOfN_ev, mListOf_ev, mItems_ev, mTrue_ev, seqOf_list, seqOf_tuple, bOf_bool, iOf_int, see_dat, see_no, see_src, see_ownT, see_ownF, okD_F, okA_F, okD_int, okD_bool, okA_nil, okA_ints, okD_ints, okSet_ev, okLen_nil, mIf_ev, mAnd_ev, mOr_ev, mNot_ev, mNoPart_ev, mPart_ev, mSlice_ev, mRange1_ev, mRange2_ev, mRg1_ev, mRg2_ev, mTupRg_ev, mLstRg_ev, mSkip_ev, mRet_ev, mSet_ev, mSetN_ev, mApp_ev, mExt_ev, mSetIx_ev, okY_no, okY_dat, okY_own, mIfS_ev, mVNil_ev, mVDat_ev, mVOwn_ev, mPar_ev, mFor_ev, mAsgT_ev, dAdd_ii, dSub_ii, dLt_ii, dLe_ii, dGt_ii, dGe_ii, dMin2_ii, dMax2_ii, dEqA_ii, dNeA_ii, dNeA_ss, enter_1, enter_2, enter_3, view_nil, view_cons, List.replicate_succ, List.replicate_zero, List.getElem?_cons_zero, List.getElem?_cons_succ, List.set_cons_zero, List.set_cons_succ, Bool.and_true, Bool.true_and, if_true, if_false, Bool.false_eq_true, Option.map_some, Option.bind_some, decide_true, decide_false, dLen_it, dLen_il, mComp, mComp2, wipeD, dTuple_list]
end W93

namespace W93
open PySem DL
theorem enum_its : ∀ (xs : List (List Int)) (n : Nat), enumD n (xs.map It) = (xs.zipIdx n).map fun p => .tuple [.int (p.2 : Nat), It p.1]
  | [], n => rfl
  | x :: xs, n => by simp only [List.map_cons, enumD, List.zipIdx_cons, enum_its xs (n + 1)]
def many (ts : List Int) (call : List Int) (n : Nat) : Int := if tk ts n < (call.length : Int) then tk ts n else (call.length : Int)
theorem many_sum {ts : List Int} (h : OkT ts) (f : Nat) : ∀ (k a n : Nat), f - a ≤ k → (((rows ts f k a n).zipIdx n).map fun p => many ts p.1 p.2).sum = ((f - a : Nat) : Int)
  | 0, a, n, hk => by
    have e : f - a = 0 := by omega
    simp [rows, e]
  | k + 1, a, n, hk => by
    obtain ⟨p1, p2⟩ := h.pos n
    by_cases hlt : a < f
    · have ih := many_sum h f k (a + (tk ts n).toNat) (n + 1) (by omega)
      rw [rows, if_pos hlt, List.zipIdx_cons, List.map_cons, List.sum_cons, ih]
      show many ts (rg a f) n + _ = _
      unfold many
      rw [rg_len]
      split <;> omega
    · have e : f - a = 0 := by omega
      simp [rows, hlt, e]
theorem nested_cost_ev {ts : List Int} (h : OkT ts) (f : Nat) (hf : f ≤ 100) : m_nested_cost [.int f, It ts] = some (.int f) := by
  have hr := nested_row_ev h f hf
  have hc : compGo (.tp [(.nm 2), (.nm 3)]) (mPure true) (mOpL dMin2 (mCons (mOpL dLen (mCons (mVar 3) mNil)) (mCons (mOpL m_taken_at (mCons (mVar 1) (mCons (mVar 2) mNil))) mNil))) [some (.int f), some (It ts), none, none] (enumD 0 ((rows ts f f 0 0).map It)) noSrc =
      some ((((rows ts f f 0 0).zipIdx 0).map fun p => many ts p.1 p.2).map .int, noSrc) := by
    rw [enum_its, List.map_map]
    refine comp_all (q := fun p : List Int × Nat => .int (many ts p.1 p.2)) fun p _ => ⟨[(2, .int (p.2 : Nat)), (3, It p.1)], rfl, ?_⟩
    have ht := taken_at_ev h.ne p.2
    simp only [setD, List.foldl_cons, List.foldl_nil]
    simp only [mPure_ev, mBind_ev, mLift_ev, mVar_ev, mOp2_ev, mOp1_ev, mOpL_ev, mBool_ev, mNil_ev, mCons_ev, mStar_ev, mTup_ev, mLst_ev, mOfN_ev, mListOf_ev, mItems_ev, mTrue_ev, seqOf_list, seqOf_tuple, bOf_bool, iOf_int, see_dat, see_no, see_src, see_ownT, see_ownF, okD_F, okA_F, okD_int, okD_bool, okA_nil, okA_ints, okD_ints, okSet_ev, okLen_nil, mIf_ev, mAnd_ev, mOr_ev, mNot_ev, mNoPart_ev, mPart_ev, mSlice_ev, mRange1_ev, mRange2_ev, mRg1_ev, mRg2_ev, mTupRg_ev, mLstRg_ev, mSkip_ev, mRet_ev, mSet_ev, mSetN_ev, mApp_ev, mExt_ev, mSetIx_ev, okY_no, okY_dat, okY_own, mIfS_ev, mVNil_ev, mVDat_ev, mVOwn_ev, mPar_ev, mFor_ev, mAsgT_ev, dAdd_ii, dSub_ii, dLt_ii, dLe_ii, dGt_ii, dGe_ii, dMin2_ii, dMax2_ii, dEqA_ii, dNeA_ii, dNeA_ss, enter_1, enter_2, enter_3, view_nil, view_cons, List.replicate_succ, List.replicate_zero, List.getElem?_cons_zero, List.getElem?_cons_succ, List.set_cons_zero, List.set_cons_succ, Bool.and_true, Bool.true_and, if_true, if_false, Bool.false_eq_true, Option.map_some, Option.bind_some, decide_true, decide_false, dLen_it, dLen_il, mComp, mComp2, wipeD, ht, many]
  have hs := many_sum h f f 0 0 (by omega)
  simp only [mOp2_ev, mOp1_ev, mOpL_ev, mBool_ev, mNil_ev, mCons_ev, mStar_ev, mTup_ev, mLst_ev, mOfN_ev, mListOf_ev, mItems_ev, mTrue_ev, mIf_ev, mAnd_ev, mOr_ev, mNot_ev, mNoPart_ev, mPart_ev, mSlice_ev, mRange1_ev, mRange2_ev, mRg1_ev, mRg2_ev, mTupRg_ev, mLstRg_ev, mVNil_ev, mVDat_ev, mVOwn_ev, mComp, mComp2, wipeD] at hc
  refine runP_rt rfl (ρ := [.dat (.int f), .dat (It ts), .no, .no]) (τ := noSrc) ?_
  simp only [mPure_ev, mBind_ev, mLift_ev, mVar_ev, mOp2_ev, mOp1_ev, mOpL_ev, mBool_ev, mNil_ev, mCons_ev, mStar_ev, mTup_ev, mLst_ev, mOfN_ev, mListOf_ev, mItems_ev, mTrue_ev, seqOf_list, seqOf_tuple, bOf_bool, iOf_int, see_dat, see_no, see_src, see_ownT, see_ownF, okD_F, okA_F, okD_int, okD_bool, okA_nil, okA_ints, okD_ints, okSet_ev, okLen_nil, mIf_ev, mAnd_ev, mOr_ev, mNot_ev, mNoPart_ev, mPart_ev, mSlice_ev, mRange1_ev, mRange2_ev, mRg1_ev, mRg2_ev, mTupRg_ev, mLstRg_ev, mSkip_ev, mRet_ev, mSet_ev, mSetN_ev, mApp_ev, mExt_ev, mSetIx_ev, okY_no, okY_dat, okY_own, mIfS_ev, mVNil_ev, mVDat_ev, mVOwn_ev, mPar_ev, mFor_ev, mAsgT_ev, dAdd_ii, dSub_ii, dLt_ii, dLe_ii, dGt_ii, dGe_ii, dMin2_ii, dMax2_ii, dEqA_ii, dNeA_ii, dNeA_ss, enter_1, enter_2, enter_3, view_nil, view_cons, List.replicate_succ, List.replicate_zero, List.getElem?_cons_zero, List.getElem?_cons_succ, List.set_cons_zero, List.set_cons_succ, Bool.and_true, Bool.true_and, if_true, if_false, Bool.false_eq_true, Option.map_some, Option.bind_some, decide_true, decide_false, dLen_it, dLen_il, mComp, mComp2, wipeD, g_nested_cost, mEnum, hr, hc, dSum_ints, hs, Nat.sub_zero]
theorem okT_one (f : Nat) (h1 : 1 ≤ f) (h2 : f ≤ 100) : OkT [(f : Int)] := ⟨by simp, by simp, fun t ht => by simp at ht; omega⟩
theorem rows_one (f : Nat) (h1 : 1 ≤ f) : rows [(f : Int)] f f 0 0 = [rg 0 f] := by
  obtain ⟨k, rfl⟩ : ∃ k, f = k + 1 := ⟨f - 1, by omega⟩
  have e : tk [((k + 1 : Nat) : Int)] 0 = ((k + 1 : Nat) : Int) := rfl
  rw [rows, if_pos (by omega), e, rows_end _ _ _ _ _ (by omega)]
theorem tight_row_ev (f : Nat) (h1 : 1 ≤ f) (h2 : f ≤ 100) : m_tight_row [.int f] = some (Itt [rg 0 f]) := by
  have h := nested_row_ev (okT_one f h1 h2) f h2
  rw [rows_one f h1] at h
  have ho : okLen [PyData.int f] = some [.int f] := okLen_of (by simp)
  have h' : m_nested_row [.int f, .tuple [.int f]] = some (Itt [rg 0 f]) := h
  refine runP_rt rfl (ρ := [.dat (.int f)]) (τ := noSrc) ?_
  simp only [mPure_ev, mBind_ev, mLift_ev, mVar_ev, mOp2_ev, mOp1_ev, mOpL_ev, mBool_ev, mNil_ev, mCons_ev, mStar_ev, mTup_ev, mLst_ev, mOfN_ev, mListOf_ev, mItems_ev, mTrue_ev, seqOf_list, seqOf_tuple, bOf_bool, iOf_int, see_dat, see_no, see_src, see_ownT, see_ownF, okD_F, okA_F, okD_int, okD_bool, okA_nil, okA_ints, okD_ints, okSet_ev, okLen_nil, mIf_ev, mAnd_ev, mOr_ev, mNot_ev, mNoPart_ev, mPart_ev, mSlice_ev, mRange1_ev, mRange2_ev, mRg1_ev, mRg2_ev, mTupRg_ev, mLstRg_ev, mSkip_ev, mRet_ev, mSet_ev, mSetN_ev, mApp_ev, mExt_ev, mSetIx_ev, okY_no, okY_dat, okY_own, mIfS_ev, mVNil_ev, mVDat_ev, mVOwn_ev, mPar_ev, mFor_ev, mAsgT_ev, dAdd_ii, dSub_ii, dLt_ii, dLe_ii, dGt_ii, dGe_ii, dMin2_ii, dMax2_ii, dEqA_ii, dNeA_ii, dNeA_ss, enter_1, enter_2, enter_3, view_nil, view_cons, List.replicate_succ, List.replicate_zero, List.getElem?_cons_zero, List.getElem?_cons_succ, List.set_cons_zero, List.set_cons_succ, Bool.and_true, Bool.true_and, if_true, if_false, Bool.false_eq_true, Option.map_some, Option.bind_some, decide_true, decide_false, dLen_it, dLen_il, mComp, mComp2, wipeD, g_tight_row, ho, h']
/-! the longest call -/
theorem dMaxL_of {ns : List Int} {m : Int} (hm : m ∈ ns) (h : ∀ y ∈ ns, y ≤ m) : dMaxL [.list (ns.map .int)] = some (.int m) := by
  have e : maxI ns = some m := by
    cases ns with
    | nil => simp at hm
    | cons n r =>
      obtain ⟨k, hk⟩ : ∃ k, maxI (n :: r) = some k := ⟨_, rfl⟩
      obtain ⟨q1, q2⟩ := maxI_spec hk
      have a1 := h k q1
      have a2 := q2 m hm
      rw [hk]
      congr 1
      omega
  simp [dMaxL, dInts, intsOf_map, e]
theorem longest_call_ev {row : List (List Int)} {m : Nat} (hl : row.length ≤ 1000) (hm : ∃ c ∈ row, c.length = m) (h : ∀ c ∈ row, c.length ≤ m) : m_longest_call [Itt row] = some (.int m) := by
  have hc : compGo (.nm 2) (mPure true) (mOpL dLen (mCons (mVar 2) mNil)) [some (Itt row), none, none] (row.map It) noSrc = some ((row.map fun c => (c.length : Int)).map .int, noSrc) := by
    rw [List.map_map]
    refine comp_all (q := fun c : List Int => .int (c.length : Int)) fun c _ => ⟨[(2, It c)], rfl, ?_⟩
    simp only [setD, List.foldl_cons, List.foldl_nil]
    simp only [mPure_ev, mBind_ev, mLift_ev, mVar_ev, mOp2_ev, mOp1_ev, mOpL_ev, mBool_ev, mNil_ev, mCons_ev, mStar_ev, mTup_ev, mLst_ev, mOfN_ev, mListOf_ev, mItems_ev, mTrue_ev, seqOf_list, seqOf_tuple, bOf_bool, iOf_int, see_dat, see_no, see_src, see_ownT, see_ownF, okD_F, okA_F, okD_int, okD_bool, okA_nil, okA_ints, okD_ints, okSet_ev, okLen_nil, mIf_ev, mAnd_ev, mOr_ev, mNot_ev, mNoPart_ev, mPart_ev, mSlice_ev, mRange1_ev, mRange2_ev, mRg1_ev, mRg2_ev, mTupRg_ev, mLstRg_ev, mSkip_ev, mRet_ev, mSet_ev, mSetN_ev, mApp_ev, mExt_ev, mSetIx_ev, okY_no, okY_dat, okY_own, mIfS_ev, mVNil_ev, mVDat_ev, mVOwn_ev, mPar_ev, mFor_ev, mAsgT_ev, dAdd_ii, dSub_ii, dLt_ii, dLe_ii, dGt_ii, dGe_ii, dMin2_ii, dMax2_ii, dEqA_ii, dNeA_ii, dNeA_ss, enter_1, enter_2, enter_3, view_nil, view_cons, List.replicate_succ, List.replicate_zero, List.getElem?_cons_zero, List.getElem?_cons_succ, List.set_cons_zero, List.set_cons_succ, Bool.and_true, Bool.true_and, if_true, if_false, Bool.false_eq_true, Option.map_some, Option.bind_some, decide_true, decide_false, dLen_it, dLen_il, mComp, mComp2, wipeD]
  have ho : okLen (PyData.int 0 :: ((row.map fun c => (c.length : Int)).map .int ++ [])) = some (((0 : Int) :: row.map fun c => (c.length : Int)).map .int) := by
    rw [List.append_nil]
    exact okLen_of (by simp; omega)
  have hx : dMaxL [.list (((0 : Int) :: row.map fun c => (c.length : Int)).map .int)] = some (.int (m : Int)) := by
    obtain ⟨c, hc1, hc2⟩ := hm
    refine dMaxL_of ?_ fun y hy => ?_
    · exact List.mem_cons_of_mem _ (List.mem_map.mpr ⟨c, hc1, by rw [hc2]⟩)
    · rcases List.mem_cons.mp hy with rfl | hy
      · omega
      · obtain ⟨d, hd, rfl⟩ := List.mem_map.mp hy
        have := h d hd
        omega
  simp only [mOp2_ev, mOp1_ev, mOpL_ev, mBool_ev, mNil_ev, mCons_ev, mStar_ev, mTup_ev, mLst_ev, mOfN_ev, mListOf_ev, mItems_ev, mTrue_ev, mIf_ev, mAnd_ev, mOr_ev, mNot_ev, mNoPart_ev, mPart_ev, mSlice_ev, mRange1_ev, mRange2_ev, mRg1_ev, mRg2_ev, mTupRg_ev, mLstRg_ev, mVNil_ev, mVDat_ev, mVOwn_ev, mComp, mComp2, wipeD] at hc
  have hN : wipeD [some (Itt row), none, none] [2] = [some (Itt row), none, none] := rfl
  refine runP_rt rfl (ρ := [.dat (Itt row), .no, .no]) (τ := noSrc) ?_
  simp only [mPure_ev, mBind_ev, mLift_ev, mVar_ev, mOp2_ev, mOp1_ev, mOpL_ev, mBool_ev, mNil_ev, mCons_ev, mStar_ev, mTup_ev, mLst_ev, mOfN_ev, mListOf_ev, mItems_ev, mTrue_ev, seqOf_list, seqOf_tuple, bOf_bool, iOf_int, see_dat, see_no, see_src, see_ownT, see_ownF, okD_F, okA_F, okD_int, okD_bool, okA_nil, okA_ints, okD_ints, okSet_ev, okLen_nil, mIf_ev, mAnd_ev, mOr_ev, mNot_ev, mNoPart_ev, mPart_ev, mSlice_ev, mRange1_ev, mRange2_ev, mRg1_ev, mRg2_ev, mTupRg_ev, mLstRg_ev, mSkip_ev, mRet_ev, mSet_ev, mSetN_ev, mApp_ev, mExt_ev, mSetIx_ev, okY_no, okY_dat, okY_own, mIfS_ev, mVNil_ev, mVDat_ev, mVOwn_ev, mPar_ev, mFor_ev, mAsgT_ev, dAdd_ii, dSub_ii, dLt_ii, dLe_ii, dGt_ii, dGe_ii, dMin2_ii, dMax2_ii, dEqA_ii, dNeA_ii, dNeA_ss, enter_1, enter_2, enter_3, view_nil, view_cons, List.replicate_succ, List.replicate_zero, List.getElem?_cons_zero, List.getElem?_cons_succ, List.set_cons_zero, List.set_cons_succ, Bool.and_true, Bool.true_and, if_true, if_false, Bool.false_eq_true, Option.map_some, Option.bind_some, decide_true, decide_false, dLen_it, dLen_il, mComp, mComp2, wipeD, g_longest_call, hc, ho, hx]
/-! renting -/
theorem rent_row_ev (b : Int) (d : Nat) (hd : d ≤ 100) : m_rent_row [.int b, .int d] = some (.tuple [It (b :: List.replicate d 1), Itt ((rg 1 (d + 1)).map fun x => [0, x])]) := by
  have hr0 := rangeD_rg 0 d (by omega) (by omega)
  have hr1 := rangeD_rg 1 (d + 1) (by omega) (by omega)
  have hc0 : compGo (.nm 2) (mPure true) (mPure (.int 1)) [some (.int b), some (.int d), none] ((rg 0 d).map .int) noSrc = some ((List.replicate d (1 : Int)).map .int, noSrc) := by
    have := comp_all (b := .nm 2) (te := mPure (.int 1)) (η := [some (.int b), some (.int d), none]) (τ := noSrc) (enc := fun x : Int => .int x) (q := fun _ => .int 1) (xs := rg 0 d) fun x _ => ⟨[(2, .int x)], rfl, rfl⟩
    rw [List.map_const', rg_len, Nat.sub_zero] at this
    rw [List.map_replicate]
    exact this
  have hc1 : compGo (.nm 2) (mPure true) (mTup (mCons (mPure (.int 0)) (mCons (mVar 2) mNil))) [some (.int b), some (.int d), none] ((rg 1 (d + 1)).map .int) noSrc = some (((rg 1 (d + 1)).map fun x => [0, x]).map It, noSrc) := by
    rw [List.map_map]
    refine comp_all (q := fun x => It [0, x]) fun x _ => ⟨[(2, .int x)], rfl, ?_⟩
    have ho : okLen [PyData.int 0, .int x] = some [.int 0, .int x] := okLen_of (by simp)
    simp only [setD, List.foldl_cons, List.foldl_nil]
    simp only [mPure_ev, mBind_ev, mLift_ev, mVar_ev, mOp2_ev, mOp1_ev, mOpL_ev, mBool_ev, mNil_ev, mCons_ev, mStar_ev, mTup_ev, mLst_ev, mOfN_ev, mListOf_ev, mItems_ev, mTrue_ev, seqOf_list, seqOf_tuple, bOf_bool, iOf_int, see_dat, see_no, see_src, see_ownT, see_ownF, okD_F, okA_F, okD_int, okD_bool, okA_nil, okA_ints, okD_ints, okSet_ev, okLen_nil, mIf_ev, mAnd_ev, mOr_ev, mNot_ev, mNoPart_ev, mPart_ev, mSlice_ev, mRange1_ev, mRange2_ev, mRg1_ev, mRg2_ev, mTupRg_ev, mLstRg_ev, mSkip_ev, mRet_ev, mSet_ev, mSetN_ev, mApp_ev, mExt_ev, mSetIx_ev, okY_no, okY_dat, okY_own, mIfS_ev, mVNil_ev, mVDat_ev, mVOwn_ev, mPar_ev, mFor_ev, mAsgT_ev, dAdd_ii, dSub_ii, dLt_ii, dLe_ii, dGt_ii, dGe_ii, dMin2_ii, dMax2_ii, dEqA_ii, dNeA_ii, dNeA_ss, enter_1, enter_2, enter_3, view_nil, view_cons, List.replicate_succ, List.replicate_zero, List.getElem?_cons_zero, List.getElem?_cons_succ, List.set_cons_zero, List.set_cons_succ, Bool.and_true, Bool.true_and, if_true, if_false, Bool.false_eq_true, Option.map_some, Option.bind_some, decide_true, decide_false, dLen_it, dLen_il, mComp, mComp2, wipeD, ho]
    rfl
  have o1 : okLen (PyData.int b :: ((List.replicate d (1 : Int)).map .int ++ [])) = some ((b :: List.replicate d 1).map .int) := by
    rw [List.append_nil]
    exact okLen_of (by simp; omega)
  have o2 : okLen [It (b :: List.replicate d 1), Itt ((rg 1 (d + 1)).map fun x => [0, x])] = some [It (b :: List.replicate d 1), Itt ((rg 1 (d + 1)).map fun x => [0, x])] := okLen_of (by simp)
  have e0 : ((0 : Nat) : Int) = 0 := rfl
  have e1 : ((1 : Nat) : Int) = 1 := rfl
  have e2 : ((d + 1 : Nat) : Int) = (d : Int) + 1 := by omega
  rw [e0] at hr0
  rw [e1, e2] at hr1
  simp only [mOp2_ev, mOp1_ev, mOpL_ev, mBool_ev, mNil_ev, mCons_ev, mStar_ev, mTup_ev, mLst_ev, mOfN_ev, mListOf_ev, mItems_ev, mTrue_ev, mIf_ev, mAnd_ev, mOr_ev, mNot_ev, mNoPart_ev, mPart_ev, mSlice_ev, mRange1_ev, mRange2_ev, mRg1_ev, mRg2_ev, mTupRg_ev, mLstRg_ev, mVNil_ev, mVDat_ev, mVOwn_ev, mComp, mComp2, wipeD] at hc0 hc1
  refine runP_rt rfl (ρ := [.dat (.int b), .dat (.int d), .no]) (τ := noSrc) ?_
  simp only [mPure_ev, mBind_ev, mLift_ev, mVar_ev, mOp2_ev, mOp1_ev, mOpL_ev, mBool_ev, mNil_ev, mCons_ev, mStar_ev, mTup_ev, mLst_ev, mOfN_ev, mListOf_ev, mItems_ev, mTrue_ev, seqOf_list, seqOf_tuple, bOf_bool, iOf_int, see_dat, see_no, see_src, see_ownT, see_ownF, okD_F, okA_F, okD_int, okD_bool, okA_nil, okA_ints, okD_ints, okSet_ev, okLen_nil, mIf_ev, mAnd_ev, mOr_ev, mNot_ev, mNoPart_ev, mPart_ev, mSlice_ev, mRange1_ev, mRange2_ev, mRg1_ev, mRg2_ev, mTupRg_ev, mLstRg_ev, mSkip_ev, mRet_ev, mSet_ev, mSetN_ev, mApp_ev, mExt_ev, mSetIx_ev, okY_no, okY_dat, okY_own, mIfS_ev, mVNil_ev, mVDat_ev, mVOwn_ev, mPar_ev, mFor_ev, mAsgT_ev, dAdd_ii, dSub_ii, dLt_ii, dLe_ii, dGt_ii, dGe_ii, dMin2_ii, dMax2_ii, dEqA_ii, dNeA_ii, dNeA_ss, enter_1, enter_2, enter_3, view_nil, view_cons, List.replicate_succ, List.replicate_zero, List.getElem?_cons_zero, List.getElem?_cons_succ, List.set_cons_zero, List.set_cons_succ, Bool.and_true, Bool.true_and, if_true, if_false, Bool.false_eq_true, Option.map_some, Option.bind_some, decide_true, decide_false, dLen_it, dLen_il, mComp, mComp2, wipeD, g_rent_row, hr0, hr1, hc0, hc1, o1, dTuple_list, o2]
end W93

namespace W93
open PySem DL
/-! ### what is asked of nested rows -/
theorem rows_mem (ts : List Int) (f : Nat) : ∀ (k a n : Nat) (c : List Int), c ∈ rows ts f k a n → ∃ b, a ≤ b ∧ b < f ∧ c = rg b f
  | 0, a, n, c, h => by simp [rows] at h
  | k + 1, a, n, c, h => by
    simp only [rows] at h
    split at h
    · rcases List.mem_cons.mp h with e | h
      · exact ⟨a, Nat.le_refl _, by assumption, e⟩
      · obtain ⟨b, h1, h2, h3⟩ := rows_mem ts f k _ _ c h
        exact ⟨b, by omega, h2, h3⟩
    · simp at h
theorem rows_len {ts : List Int} (h : OkT ts) (f : Nat) : ∀ k a n : Nat, (rows ts f k a n).length ≤ f - a
  | 0, a, n => by simp [rows]
  | k + 1, a, n => by
    have := rows_len h f k (a + (tk ts n).toNat) (n + 1)
    have p := (h.pos n).1
    simp only [rows]
    split
    · simp only [List.length_cons]; omega
    · simp
theorem mem_rg {a f : Nat} {x : Int} : x ∈ rg a f ↔ ∃ k : Nat, x = (k : Int) ∧ a ≤ k ∧ k < f := by
  unfold rg
  rw [List.mem_map]
  constructor
  · rintro ⟨i, hi, rfl⟩
    rw [List.mem_range] at hi
    exact ⟨a + i, rfl, by omega, by omega⟩
  · rintro ⟨k, rfl, h1, h2⟩
    exact ⟨k - a, by rw [List.mem_range]; omega, by omega⟩
theorem gt_rep (n : Nat) {l : Int} (h : 0 ≤ l ∧ l < n) : gt (List.replicate n 1) l = 1 := by
  have hi : l.toNat < (List.replicate n (1 : Int)).length := by rw [List.length_replicate]; omega
  unfold gt
  rw [List.getD_eq_getElem?_getD, List.getElem?_eq_getElem hi, List.getElem_replicate]
  rfl
theorem cost_ones (n : Nat) : ∀ s : List Int, Okl n s → costL (List.replicate n 1) s = s.length
  | [], _ => rfl
  | l :: s, h => by
    have ih := cost_ones n s fun x hx => h x (List.mem_cons_of_mem _ hx)
    have e := gt_rep n (h l List.mem_cons_self)
    unfold costL at ih ⊢
    rw [List.map_cons, List.sum_cons, ih, e, List.length_cons]
    omega
theorem least_nested {ts : List Int} (h : OkT ts) (f : Nat) (h1 : 1 ≤ f) (h2 : f ≤ 20) : m_least_answer [It (List.replicate f 1), Itt (rows ts f f 0 0)] = some (.int 1) := by
  have hl : (List.replicate f (1 : Int)).length = f := List.length_replicate
  have ht : [((f - 1 : Nat) : Int)] ∈ subs (List.replicate f (1 : Int)).length := by rw [hl]; exact subs_one f (f - 1) (by omega)
  have ha : ansR [((f - 1 : Nat) : Int)] (rows ts f f 0 0) = true := by
    unfold ansR
    rw [List.all_eq_true]
    intro c hc
    obtain ⟨b, _, hb, rfl⟩ := rows_mem ts f f 0 0 c hc
    unfold ansC
    rw [List.any_eq_true]
    exact ⟨((f - 1 : Nat) : Int), mem_rg.mpr ⟨f - 1, rfl, by omega, by omega⟩, by simp⟩
  obtain ⟨s, e, L⟩ := least_answer_ev (by rw [hl]; exact h2) ht ha
  rw [e]
  have hm := L.mem
  rw [hl] at hm
  have c1 := cost_ones f s (subs_ok f s hm)
  have c2 : costL (List.replicate f 1) s ≤ costL (List.replicate f 1) [((f - 1 : Nat) : Int)] := L.low _ ht ha
  rw [cost_ones f [((f - 1 : Nat) : Int)] (fun l hl => by simp at hl; omega), c1] at c2
  have hne : s ≠ [] := by
    rintro rfl
    have := L.ans
    obtain ⟨k, rfl⟩ : ∃ k, f = k + 1 := ⟨f - 1, by omega⟩
    simp [ansR, ansC, rows, rg] at this
  have : 0 < s.length := List.length_pos_iff.mpr hne
  rw [c1]
  simp at c2
  congr 2
  omega
theorem longest_nested {ts : List Int} (h : OkT ts) (f : Nat) (h1 : 1 ≤ f) (h2 : f ≤ 100) : m_longest_call [Itt (rows ts f f 0 0)] = some (.int f) := by
  have hl := rows_len h f f 0 0
  refine longest_call_ev (by omega) ⟨rg 0 f, ?_, by rw [rg_len]; omega⟩ fun c hc => ?_
  · obtain ⟨k, rfl⟩ : ∃ k, f = k + 1 := ⟨f - 1, by omega⟩
    simp only [rows]
    rw [if_pos (by omega)]
    exact List.mem_cons_self
  · obtain ⟨b, _, _, rfl⟩ := rows_mem ts f f 0 0 c hc
    rw [rg_len]
    omega
/-! .. and of the tight way: by looking -/
def oneB (f : Nat) : Bool := ((tight (List.replicate f 1) [rg 0 f]).steps == [rg 0 f])
theorem one_all : ∀ f : Nat, f < 13 → oneB f = true := by decide +kernel
def calls (d : Nat) : List (List Int) := (rg 1 (d + 1)).map fun x => [0, x]
def takenAt (b : Nat) (j : Nat) : List Int := if j < b then [(j : Int)] else if j = b then [0, (j : Int)] else []
def rentB (b d : Nat) : Bool := ((tight ((b : Int) :: List.replicate d 1) (calls d)).steps == (List.range d).map fun j => takenAt b (j + 1))
theorem rent_all : ∀ b : Nat, b < 13 → ∀ d : Nat, d < 10 → 0 < b → rentB b d = true := by decide +kernel
def rentC (b d : Nat) : Bool := (costL ((b : Int) :: List.replicate d 1) ((List.range d).map fun j => takenAt b (j + 1)).flatten == if d < b then (d : Int) else 2 * (b : Int))
theorem rentC_all : ∀ b : Nat, b < 13 → ∀ d : Nat, d < 10 → 0 < b → rentC b d = true := by decide +kernel
end W93

namespace W93
open PySem DL
theorem tight_one (f : Nat) (h1 : 1 ≤ f) (h2 : f ≤ 12) : m_tight_cost [It (List.replicate f 1), Itt [rg 0 f]] = some (.int f) := by
  have hl : (List.replicate f (1 : Int)).length = f := List.length_replicate
  have hs : (tight (List.replicate f 1) [rg 0 f]).steps = [rg 0 f] := by
    have := one_all f (by omega)
    unfold oneB at this
    exact eq_of_beq this
  have okc : Okl f (rg 0 f) := fun l hm => by obtain ⟨k, rfl, _, _⟩ := mem_rg.mp hm; omega
  have hfl : (tight (List.replicate f 1) [rg 0 f]).steps.flatten = rg 0 f := by rw [hs]; simp
  have := tight_cost_ev (cs := List.replicate f 1) (row := [rg 0 f]) (by simp) (fun c hc => by
    simp at hc
    subst hc
    refine ⟨fun z => ?_, by rw [hl]; exact okc, by rw [rg_len]; omega⟩
    have := rg_len 0 f
    rw [z] at this
    simp at this
    omega) (by rw [hfl, rg_len]; omega) (by rw [hfl, hl]; exact okc)
  rw [hfl, cost_ones f _ okc, rg_len] at this
  rw [this]
  congr 2
theorem cs_len (b : Int) (d : Nat) : (b :: List.replicate d 1).length = d + 1 := by simp
theorem calls_ok (b : Int) (d : Nat) (hd : d ≤ 100) : ∀ c ∈ calls d, OkCall (b :: List.replicate d 1).length c := fun c hc => by
  rw [cs_len]
  unfold calls at hc
  obtain ⟨x, hx, rfl⟩ := List.mem_map.mp hc
  obtain ⟨k, rfl, h1, h2⟩ := mem_rg.mp hx
  refine ⟨by simp, fun l hl => ?_, by simp⟩
  simp at hl
  omega
theorem calls_len (d : Nat) : (calls d).length = d := by unfold calls; rw [List.length_map, rg_len]; omega
theorem rent_steps (b d : Nat) (h0 : 0 < b) (hb : b < 13) (hd : d < 10) : (tight ((b : Int) :: List.replicate d 1) (calls d)).steps = (List.range d).map fun j => takenAt b (j + 1) := by
  have := rent_all b hb d hd h0
  unfold rentB at this
  exact eq_of_beq this
theorem taken_ok (b d : Nat) : Okl (d + 1) ((List.range d).map fun j => takenAt b (j + 1)).flatten := fun l hl => by
  obtain ⟨s, hs, hl⟩ := List.mem_flatten.mp hl
  obtain ⟨j, hj, rfl⟩ := List.mem_map.mp hs
  rw [List.mem_range] at hj
  unfold takenAt at hl
  split at hl
  · simp at hl; omega
  · split at hl
    · simp at hl; omega
    · simp at hl
theorem taken_len (b : Nat) : ∀ d : Nat, ((List.range d).map fun j => takenAt b (j + 1)).flatten.length ≤ 2 * d
  | 0 => by simp
  | d + 1 => by
    have ih := taken_len b d
    have h1 : (takenAt b (d + 1)).length ≤ 2 := by
      unfold takenAt
      split
      · simp
      · split <;> simp
    rw [List.range_succ, List.map_append, List.flatten_append, List.length_append]
    simp only [List.map_cons, List.map_nil, List.flatten_cons, List.flatten_nil, List.append_nil]
    omega
theorem rent_cost (b d : Nat) (h0 : 0 < b) (hb : b < 13) (hd : d < 10) : m_tight_cost [It ((b : Int) :: List.replicate d 1), Itt (calls d)] = some (.int (if d < b then (d : Int) else 2 * (b : Int))) := by
  have hs := rent_steps b d h0 hb hd
  have hl := taken_len b d
  have := tight_cost_ev (cs := (b : Int) :: List.replicate d 1) (row := calls d) (by rw [calls_len]; omega) (calls_ok b d (by omega)) (by rw [hs]; omega) (by rw [hs, cs_len]; exact taken_ok b d)
  rw [this, hs]
  have hc := rentC_all b hb d hd h0
  unfold rentC at hc
  rw [eq_of_beq hc]
theorem rent_steps_ev (b d : Nat) (h0 : 0 < b) (hb : b < 13) (hd : d < 10) : m_tight_steps [It ((b : Int) :: List.replicate d 1), Itt (calls d)] = some (Itt ((List.range d).map fun j => takenAt b (j + 1))) := by
  rw [tight_steps_ev (by rw [calls_len]; omega) (calls_ok b d (by omega)), rent_steps b d h0 hb hd]
theorem gt_zero (b : Int) (cs : List Int) : gt (b :: cs) 0 = b := rfl
theorem gt_succ (b : Int) (d k : Nat) (h1 : 1 ≤ k) (h2 : k ≤ d) : gt (b :: List.replicate d 1) (k : Int) = 1 := by
  obtain ⟨j, rfl⟩ : ∃ j, k = j + 1 := ⟨k - 1, by omega⟩
  have := gt_rep d (l := (j : Int)) (by omega)
  unfold gt at this ⊢
  rw [Int.toNat_natCast] at this ⊢
  simpa using this
theorem cost_days (b : Int) (d : Nat) : costL (b :: List.replicate d 1) (rg 1 (d + 1)) = d := by
  have h : ∀ l : List Int, (∀ x ∈ l, gt (b :: List.replicate d 1) x = 1) → costL (b :: List.replicate d 1) l = l.length := fun l => by
    induction l with
    | nil => intro _; rfl
    | cons x l ih =>
      intro h
      have e1 := ih fun y hy => h y (List.mem_cons_of_mem _ hy)
      have e2 := h x List.mem_cons_self
      unfold costL at e1 ⊢
      rw [List.map_cons, List.sum_cons, e1, e2, List.length_cons]
      omega
  rw [h _ fun x hx => by obtain ⟨k, rfl, h1, h2⟩ := mem_rg.mp hx; exact gt_succ b d k h1 (by omega), rg_len]
  omega
theorem rg_nodup (a f : Nat) : (rg a f).Nodup := by
  unfold rg
  refine List.Pairwise.map _ (fun i j h => ?_) (List.nodup_range (n := f - a))
  intro z
  omega
theorem rent_least (b d : Nat) (h0 : 0 < b) (hd : d ≤ 19) : m_least_answer [It ((b : Int) :: List.replicate d 1), Itt (calls d)] = some (.int (if (b : Int) < (d : Int) then (b : Int) else (d : Int))) := by
  have hl := cs_len (b : Int) d
  have t0 : [((0 : Nat) : Int)] ∈ subs ((b : Int) :: List.replicate d 1).length := by rw [hl]; exact subs_one (d + 1) 0 (by omega)
  have t1 : rg 1 (d + 1) ∈ subs ((b : Int) :: List.replicate d 1).length := by rw [hl]; exact subs_from 1 (d + 1) (by omega)
  have mc : ∀ c, c ∈ calls d ↔ ∃ k : Nat, 1 ≤ k ∧ k ≤ d ∧ c = [0, (k : Int)] := fun c => by
    unfold calls
    rw [List.mem_map]
    constructor
    · rintro ⟨x, hx, rfl⟩
      obtain ⟨k, rfl, h1, h2⟩ := mem_rg.mp hx
      exact ⟨k, h1, by omega, rfl⟩
    · rintro ⟨k, h1, h2, rfl⟩
      exact ⟨_, mem_rg.mpr ⟨k, rfl, h1, by omega⟩, rfl⟩
  have a0 : ansR [((0 : Nat) : Int)] (calls d) = true := by
    unfold ansR
    rw [List.all_eq_true]
    intro c hc
    obtain ⟨k, _, _, rfl⟩ := (mc c).mp hc
    simp [ansC]
  have a1 : ansR (rg 1 (d + 1)) (calls d) = true := by
    unfold ansR
    rw [List.all_eq_true]
    intro c hc
    obtain ⟨k, h1, h2, rfl⟩ := (mc c).mp hc
    unfold ansC
    rw [List.any_eq_true]
    exact ⟨(k : Int), by simp, decide_eq_true (mem_rg.mpr ⟨k, rfl, h1, by omega⟩)⟩
  obtain ⟨s, e, L⟩ := least_answer_ev (by rw [hl]; omega) t0 a0
  rw [e]
  have l0 := L.low _ t0 a0
  have l1 := L.low _ t1 a1
  rw [cost_days] at l1
  have e0 : costL ((b : Int) :: List.replicate d 1) [((0 : Nat) : Int)] = b := by simp [costL, gt]
  rw [e0] at l0
  have hm := L.mem
  rw [hl] at hm
  have nn : ∀ x ∈ s, 0 ≤ gt ((b : Int) :: List.replicate d 1) x := fun x hx => by
    have hx := subs_ok _ s hm x hx
    obtain ⟨k, rfl⟩ : ∃ k : Nat, x = k := ⟨x.toNat, by omega⟩
    by_cases hk : k = 0
    · subst hk
      show 0 ≤ gt _ 0
      rw [gt_zero]; omega
    · rw [gt_succ (b : Int) d k (by omega) (by omega)]; decide
  have low : (b : Int) ≤ costL ((b : Int) :: List.replicate d 1) s ∨ (d : Int) ≤ costL ((b : Int) :: List.replicate d 1) s := by
    by_cases hz : (0 : Int) ∈ s
    · left
      have := cost_sub (gt ((b : Int) :: List.replicate d 1)) [0] s (by simp) (fun x hx => by simp at hx; rw [hx]; exact hz) nn
      simp only [List.map_cons, List.map_nil, List.sum_cons, List.sum_nil, gt_zero] at this
      unfold costL
      omega
    · right
      have := cost_sub (gt ((b : Int) :: List.replicate d 1)) (rg 1 (d + 1)) s (rg_nodup _ _) (fun x hx => by
        obtain ⟨k, rfl, h1, h2⟩ := mem_rg.mp hx
        have := L.ans
        unfold ansR at this
        rw [List.all_eq_true] at this
        have := this [0, (k : Int)] ((mc _).mpr ⟨k, h1, by omega, rfl⟩)
        unfold ansC at this
        simp [hz] at this
        exact this) nn
      have e2 := cost_days (b : Int) d
      unfold costL at e2 ⊢
      omega
  congr 2
  split <;> omega
end W93

namespace W93
open PySem DL
abbrev F18 (y2 y3 y4 y5 y6 y7 y8 y9 y10 y11 y12 y13 y14 y15 y16 y17 : Sl) : EnvS := [.no, .src, y2, y3, y4, y5, y6, y7, y8, y9, y10, y11, y12, y13, y14, y15, y16, y17]
/-! ### the law's own loop over what is left -/
noncomputable def gW : Stm := mSeq (mApp false 5 (mOpL dTuple (mCons (mVar 6) mNil)))
    (mSeq (mSet false 9 (mOpL dMin2 (mCons (mOpL dLen (mCons (mVar 6) mNil)) (mCons (mOp2 dIx (mVar 4) (mOpL dMin2 (mCons (mVar 8) (mCons (mOp2 dSub (mOpL dLen (mCons (mVar 4) mNil)) (mPure (.int 1))) mNil)))) mNil))))
    (mPar false [6, 7, 8] (mVDat (mSlice (mVar 6) (mPart (mVar 9)) mNoPart) (mVDat (mOp2 dAdd (mVar 7) (mVar 9)) (mVDat (mOp2 dAdd (mVar 8) (mPure (.int 1))) mVNil)))))
theorem rg_drop (a f m : Nat) : (rg a f).drop m = rg (a + m) f := by
  apply List.ext_getElem
  · rw [List.length_drop, rg_len, rg_len]
    omega
  · intro i h1 h2
    simp [rg]
    omega
theorem rg_nil {a f : Nat} : rg a f = [] ↔ f ≤ a := by
  rw [← List.length_eq_zero_iff, rg_len]
  omega
theorem okSlots_3 (i j k : Nat) (ρ : EnvS) : okSlots ρ [i, j, k] = (okSet ρ i && (okSet ρ j && okSet ρ k)) := by simp [okSlots]
theorem left_ev {ts : List Int} (h : OkT ts) (f : Nat) (hf : f ≤ 100) (τ : Src) (y2 y9 y10 y11 y12 y13 y14 y15 y16 y17 : Sl) (h9 : okY y9 = true) :
    ∃ t z9, okY z9 = true ∧ mWhile (mBool (mOp2 dNeA (mVar 6) (mOfN (mLst mNil)))) gW (F18 y2 (.dat (.int f)) (.dat (It ts)) (.own (.list [])) (.dat (Il (rg 0 f))) (.dat (.int 0)) (.dat (.int 0)) y9 y10 y11 y12 y13 y14 y15 y16 y17) τ =
      some (.nx, F18 y2 (.dat (.int f)) (.dat (It ts)) (.own (.list ((rows ts f f 0 0).map It))) (.dat (Il [])) (.dat (.int f)) (.dat (.int t)) z9 y10 y11 y12 y13 y14 y15 y16 y17, τ) := by
  obtain ⟨ρ', τ', e1, done, t, z9, hz, e2, e3, e4⟩ := while_inv (c := mBool (mOp2 dNeA (mVar 6) (mOfN (mLst mNil)))) (g := gW)
    (fun m ρ σ => ∃ (done : List (List Int)) (a k : Nat) (z9 : Sl), m = f - a ∧ done ++ rows ts f k a done.length = rows ts f f 0 0 ∧ f - a ≤ k ∧ done.length ≤ a ∧ okY z9 = true ∧ σ = τ ∧
      ρ = F18 y2 (.dat (.int f)) (.dat (It ts)) (.own (.list (done.map It))) (.dat (Il (rg a f))) (.dat (.int ((min a f : Nat) : Int))) (.dat (.int (done.length : Nat))) z9 y10 y11 y12 y13 y14 y15 y16 y17)
    (fun ρ σ => ∃ (done : List (List Int)) (t : Int) (z9 : Sl), okY z9 = true ∧ done = rows ts f f 0 0 ∧ σ = τ ∧ ρ = F18 y2 (.dat (.int f)) (.dat (It ts)) (.own (.list (done.map It))) (.dat (Il [])) (.dat (.int f)) (.dat (.int t)) z9 y10 y11 y12 y13 y14 y15 y16 y17) (by
      rintro m ρ σ ⟨done, a, k, z9, rfl, hd, hk, hn, hz, rfl, rfl⟩
      refine ⟨σ, ?_⟩
      have hne : dNeA (Il (rg a f)) (.list []) = some (.bool (!decide (rg a f = []))) := dNeA_il _ []
      by_cases hlt : a < f
      · right
        have hb : decide (rg a f = []) = false := decide_eq_false fun z => absurd (rg_nil.mp z) (by omega)
        rw [hb] at hne
        refine ⟨by simp only [mPure_ev, mBind_ev, mLift_ev, mVar_ev, mOp2_ev, mOp1_ev, mOpL_ev, mBool_ev, mNil_ev, mCons_ev, mStar_ev, mTup_ev, mLst_ev, mOfN_ev, mListOf_ev, mItems_ev, mTrue_ev, seqOf_list, seqOf_tuple, bOf_bool, iOf_int, see_dat, see_no, see_src, see_ownT, see_ownF, okD_F, okA_F, okD_int, okD_bool, okA_nil, okA_ints, okD_ints, okSet_ev, okLen_nil, mIf_ev, mAnd_ev, mOr_ev, mNot_ev, mNoPart_ev, mPart_ev, mSlice_ev, mRange1_ev, mRange2_ev, mRg1_ev, mRg2_ev, mTupRg_ev, mLstRg_ev, mSkip_ev, mRet_ev, mSet_ev, mSetN_ev, mApp_ev, mExt_ev, mSetIx_ev, okY_no, okY_dat, okY_own, mIfS_ev, mVNil_ev, mVDat_ev, mVOwn_ev, mPar_ev, mFor_ev, mAsgT_ev, dAdd_ii, dSub_ii, dLt_ii, dLe_ii, dGt_ii, dGe_ii, dMin2_ii, dMax2_ii, dEqA_ii, dNeA_ii, dNeA_ss, enter_1, enter_2, enter_3, view_nil, view_cons, List.replicate_succ, List.replicate_zero, List.getElem?_cons_zero, List.getElem?_cons_succ, List.set_cons_zero, List.set_cons_succ, Bool.and_true, Bool.true_and, if_true, if_false, Bool.false_eq_true, Option.map_some, Option.bind_some, decide_true, decide_false, dLen_it, dLen_il, mComp, mComp2, wipeD, hne, Bool.not_false], ?_⟩
        obtain ⟨k, rfl⟩ : ∃ k', k = k' + 1 := ⟨k - 1, by omega⟩
        obtain ⟨p1, p2⟩ := h.pos done.length
        have l1 : decide ((done.map It).length < sizeLine) = true := decide_eq_true (by rw [line24, List.length_map]; omega)
        have et := turn_min ts h.ne done.length
        have hx := ix_tk ts h.ne done.length
        have em : (if tk ts done.length < ((rg a f).length : Int) then tk ts done.length else ((rg a f).length : Int)) = ((min (f - a) (tk ts done.length).toNat : Nat) : Int) := by
          rw [rg_len]
          split <;> omega
        have hcut : dCut (Il (rg a f)) (some ((min (f - a) (tk ts done.length).toNat : Nat) : Int)) none = some (Il (rg (a + (tk ts done.length).toNat) f)) := by
          rw [cut_from _ _ (by rw [rg_len]; omega), rg_drop]
          congr 2
          by_cases hc : (tk ts done.length).toNat ≤ f - a
          · rw [Nat.min_eq_right hc]
          · rw [rg_nil.mpr (by omega), rg_nil.mpr (by omega)]
        have e5 : ((min a f : Nat) : Int) + ((min (f - a) (tk ts done.length).toNat : Nat) : Int) = ((min (a + (tk ts done.length).toNat) f : Nat) : Int) := by omega
        have e6 : ((done.length : Nat) : Int) + 1 = ((done ++ [rg a f]).length : Nat) := by simp
        refine ⟨_, σ, .inl ?_, f - (a + (tk ts done.length).toNat), by omega, done ++ [rg a f], a + (tk ts done.length).toNat, k, .dat (.int ((min (f - a) (tk ts done.length).toNat : Nat) : Int)), rfl, ?_, by omega, by rw [List.length_append]; simp; omega, rfl, rfl, rfl⟩
        · unfold gW
          refine Eq.trans (seq_nx (ρ1 := F18 y2 (.dat (.int f)) (.dat (It ts)) (.own (.list ((done ++ [rg a f]).map It))) (.dat (Il (rg a f))) (.dat (.int ((min a f : Nat) : Int))) (.dat (.int (done.length : Nat))) z9 y10 y11 y12 y13 y14 y15 y16 y17) (τ1 := σ) ?_) ?_
          · simp only [mPure_ev, mBind_ev, mLift_ev, mVar_ev, mOp2_ev, mOp1_ev, mOpL_ev, mBool_ev, mNil_ev, mCons_ev, mStar_ev, mTup_ev, mLst_ev, mOfN_ev, mListOf_ev, mItems_ev, mTrue_ev, seqOf_list, seqOf_tuple, bOf_bool, iOf_int, see_dat, see_no, see_src, see_ownT, see_ownF, okD_F, okA_F, okD_int, okD_bool, okA_nil, okA_ints, okD_ints, okSet_ev, okLen_nil, mIf_ev, mAnd_ev, mOr_ev, mNot_ev, mNoPart_ev, mPart_ev, mSlice_ev, mRange1_ev, mRange2_ev, mRg1_ev, mRg2_ev, mTupRg_ev, mLstRg_ev, mSkip_ev, mRet_ev, mSet_ev, mSetN_ev, mApp_ev, mExt_ev, mSetIx_ev, okY_no, okY_dat, okY_own, mIfS_ev, mVNil_ev, mVDat_ev, mVOwn_ev, mPar_ev, mFor_ev, mAsgT_ev, dAdd_ii, dSub_ii, dLt_ii, dLe_ii, dGt_ii, dGe_ii, dMin2_ii, dMax2_ii, dEqA_ii, dNeA_ii, dNeA_ss, enter_1, enter_2, enter_3, view_nil, view_cons, List.replicate_succ, List.replicate_zero, List.getElem?_cons_zero, List.getElem?_cons_succ, List.set_cons_zero, List.set_cons_succ, Bool.and_true, Bool.true_and, if_true, if_false, Bool.false_eq_true, Option.map_some, Option.bind_some, decide_true, decide_false, dLen_it, dLen_il, mComp, mComp2, wipeD, dTuple_list, l1]
            simp only [F18, List.map_append, List.map_cons, List.map_nil]
          · refine Eq.trans (seq_nx (ρ1 := F18 y2 (.dat (.int f)) (.dat (It ts)) (.own (.list ((done ++ [rg a f]).map It))) (.dat (Il (rg a f))) (.dat (.int ((min a f : Nat) : Int))) (.dat (.int (done.length : Nat))) (.dat (.int ((min (f - a) (tk ts done.length).toNat : Nat) : Int))) y10 y11 y12 y13 y14 y15 y16 y17) (τ1 := σ) ?_) ?_
            · simp only [mPure_ev, mBind_ev, mLift_ev, mVar_ev, mOp2_ev, mOp1_ev, mOpL_ev, mBool_ev, mNil_ev, mCons_ev, mStar_ev, mTup_ev, mLst_ev, mOfN_ev, mListOf_ev, mItems_ev, mTrue_ev, seqOf_list, seqOf_tuple, bOf_bool, iOf_int, see_dat, see_no, see_src, see_ownT, see_ownF, okD_F, okA_F, okD_int, okD_bool, okA_nil, okA_ints, okD_ints, okSet_ev, okLen_nil, mIf_ev, mAnd_ev, mOr_ev, mNot_ev, mNoPart_ev, mPart_ev, mSlice_ev, mRange1_ev, mRange2_ev, mRg1_ev, mRg2_ev, mTupRg_ev, mLstRg_ev, mSkip_ev, mRet_ev, mSet_ev, mSetN_ev, mApp_ev, mExt_ev, mSetIx_ev, okY_no, okY_dat, okY_own, mIfS_ev, mVNil_ev, mVDat_ev, mVOwn_ev, mPar_ev, mFor_ev, mAsgT_ev, dAdd_ii, dSub_ii, dLt_ii, dLe_ii, dGt_ii, dGe_ii, dMin2_ii, dMax2_ii, dEqA_ii, dNeA_ii, dNeA_ss, enter_1, enter_2, enter_3, view_nil, view_cons, List.replicate_succ, List.replicate_zero, List.getElem?_cons_zero, List.getElem?_cons_succ, List.set_cons_zero, List.set_cons_succ, Bool.and_true, Bool.true_and, if_true, if_false, Bool.false_eq_true, Option.map_some, Option.bind_some, decide_true, decide_false, dLen_it, dLen_il, mComp, mComp2, wipeD, et, hx, em, hz]
            · simp only [mPure_ev, mBind_ev, mLift_ev, mVar_ev, mOp2_ev, mOp1_ev, mOpL_ev, mBool_ev, mNil_ev, mCons_ev, mStar_ev, mTup_ev, mLst_ev, mOfN_ev, mListOf_ev, mItems_ev, mTrue_ev, seqOf_list, seqOf_tuple, bOf_bool, iOf_int, see_dat, see_no, see_src, see_ownT, see_ownF, okD_F, okA_F, okD_int, okD_bool, okA_nil, okA_ints, okD_ints, okSet_ev, okLen_nil, mIf_ev, mAnd_ev, mOr_ev, mNot_ev, mNoPart_ev, mPart_ev, mSlice_ev, mRange1_ev, mRange2_ev, mRg1_ev, mRg2_ev, mTupRg_ev, mLstRg_ev, mSkip_ev, mRet_ev, mSet_ev, mSetN_ev, mApp_ev, mExt_ev, mSetIx_ev, okY_no, okY_dat, okY_own, mIfS_ev, mVNil_ev, mVDat_ev, mVOwn_ev, mPar_ev, mFor_ev, mAsgT_ev, dAdd_ii, dSub_ii, dLt_ii, dLe_ii, dGt_ii, dGe_ii, dMin2_ii, dMax2_ii, dEqA_ii, dNeA_ii, dNeA_ss, enter_1, enter_2, enter_3, view_nil, view_cons, List.replicate_succ, List.replicate_zero, List.getElem?_cons_zero, List.getElem?_cons_succ, List.set_cons_zero, List.set_cons_succ, Bool.and_true, Bool.true_and, if_true, if_false, Bool.false_eq_true, Option.map_some, Option.bind_some, decide_true, decide_false, dLen_it, dLen_il, mComp, mComp2, wipeD, hcut, e5, e6, okSlots_3, okV, putS, List.length_cons, List.length_nil]
        · rw [← hd, rows, if_pos hlt, List.append_assoc]
          simp
      · left
        have hb : decide (rg a f = []) = true := decide_eq_true (rg_nil.mpr (by omega))
        rw [hb] at hne
        have e7 : ((min a f : Nat) : Int) = (f : Int) := by omega
        refine ⟨by simp only [mPure_ev, mBind_ev, mLift_ev, mVar_ev, mOp2_ev, mOp1_ev, mOpL_ev, mBool_ev, mNil_ev, mCons_ev, mStar_ev, mTup_ev, mLst_ev, mOfN_ev, mListOf_ev, mItems_ev, mTrue_ev, seqOf_list, seqOf_tuple, bOf_bool, iOf_int, see_dat, see_no, see_src, see_ownT, see_ownF, okD_F, okA_F, okD_int, okD_bool, okA_nil, okA_ints, okD_ints, okSet_ev, okLen_nil, mIf_ev, mAnd_ev, mOr_ev, mNot_ev, mNoPart_ev, mPart_ev, mSlice_ev, mRange1_ev, mRange2_ev, mRg1_ev, mRg2_ev, mTupRg_ev, mLstRg_ev, mSkip_ev, mRet_ev, mSet_ev, mSetN_ev, mApp_ev, mExt_ev, mSetIx_ev, okY_no, okY_dat, okY_own, mIfS_ev, mVNil_ev, mVDat_ev, mVOwn_ev, mPar_ev, mFor_ev, mAsgT_ev, dAdd_ii, dSub_ii, dLt_ii, dLe_ii, dGt_ii, dGe_ii, dMin2_ii, dMax2_ii, dEqA_ii, dNeA_ii, dNeA_ss, enter_1, enter_2, enter_3, view_nil, view_cons, List.replicate_succ, List.replicate_zero, List.getElem?_cons_zero, List.getElem?_cons_succ, List.set_cons_zero, List.set_cons_succ, Bool.and_true, Bool.true_and, if_true, if_false, Bool.false_eq_true, Option.map_some, Option.bind_some, decide_true, decide_false, dLen_it, dLen_il, mComp, mComp2, wipeD, hne, Bool.not_true], done, (done.length : Nat), z9, hz, ?_, rfl, ?_⟩
        · rw [rows_end ts f k a _ (by omega), List.append_nil] at hd
          exact hd
        · rw [rg_nil.mpr (show f ≤ a by omega), e7])
    (n := fuel) (m := f - 0) (ρ := F18 y2 (.dat (.int f)) (.dat (It ts)) (.own (.list [])) (.dat (Il (rg 0 f))) (.dat (.int 0)) (.dat (.int 0)) y9 y10 y11 y12 y13 y14 y15 y16 y17) (τ := τ) (by unfold fuel; omega) ⟨[], 0, f, y9, rfl, rfl, by omega, Nat.le_refl _, h9, rfl, by rw [Nat.zero_min]; rfl⟩
  subst e2 e3 e4
  exact ⟨t, z9, hz, e1⟩
end W93

namespace W93
open PySem DL
theorem shw_it {xs : List Int} (h : ∀ x ∈ xs, x.natAbs < 2 ^ 64) (hl : xs.length ≤ 100) : Shw 1 7300 (It xs) := Shw.tup (n := 70) (m := 100) (Shw.map fun x hx => Shw.int (h x hx) (by decide)) (by rw [List.length_map]; exact hl) (by decide)
theorem shw_itt {xs : List (List Int)} (h : ∀ c ∈ xs, c.length ≤ 100 ∧ ∀ x ∈ c, x.natAbs < 2 ^ 64) (hl : xs.length ≤ 100) : Shw 2 731000 (Itt xs) := Shw.tup (n := 7300) (m := 100) (Shw.map fun c hc => shw_it (h c hc).2 (h c hc).1) (by rw [List.length_map]; exact hl) (by decide)
theorem Shw.up {k n j m : Nat} {d : D} (h : Shw k n d) (h1 : k ≤ j) (h2 : n ≤ m) : Shw j m d := ⟨h.1.mono h1, h.2.1, Nat.le_trans h.2.2 h2⟩
theorem rg_small {a f : Nat} (hf : f ≤ 100) : (rg a f).length ≤ 100 ∧ ∀ x ∈ rg a f, x.natAbs < 2 ^ 64 := ⟨by rw [rg_len]; omega, fun x hx => by obtain ⟨k, rfl, _, _⟩ := mem_rg.mp hx; omega⟩
section
variable {ts : List Int} {f : Nat} {τ : Src} {y2 y8 y9 y10 y11 y12 y13 y14 y15 y16 y17 : Sl}
theorem s5_ev (h : OkT ts) (h1 : 1 ≤ f) (hf : f ≤ 20) (t : Int) :
    mIfS (mBool (mOp2 dNeA (mOpL dRepr (mCons (mOfN (mLst (mCons (mOpL m_nested_row (mCons (mVar 3) (mCons (mVar 4) mNil))) (mCons (mOpL m_nested_cost (mCons (mVar 3) (mCons (mVar 4) mNil))) mNil)))) mNil)) (mOpL dRepr (mCons (mOfN (mLst (mCons (mOpL dTuple (mCons (mVar 5) mNil)) (mCons (mVar 7) mNil)))) mNil)))) (mRet (mPure (.bool false))) mSkip
      (F18 y2 (.dat (.int f)) (.dat (It ts)) (.own (.list ((rows ts f f 0 0).map It))) (.dat (Il [])) (.dat (.int f)) (.dat (.int t)) y9 y10 y11 y12 y13 y14 y15 y16 y17) τ = some (.nx, (F18 y2 (.dat (.int f)) (.dat (It ts)) (.own (.list ((rows ts f f 0 0).map It))) (.dat (Il [])) (.dat (.int f)) (.dat (.int t)) y9 y10 y11 y12 y13 y14 y15 y16 y17), τ) := by
  have a1 := nested_row_ev h f (by omega)
  have a2 := nested_cost_ev h f (by omega)
  have o1 : okLen [Itt (rows ts f f 0 0), PyData.int f] = some [Itt (rows ts f f 0 0), .int f] := okLen_of (by simp)
  have hl := rows_len h f f 0 0
  have sh : Shw 3 1500000 (.list [Itt (rows ts f f 0 0), PyData.int f]) := Shw.lst (n := 731000) (m := 2) (fun d hd => by
    simp at hd
    rcases hd with rfl | rfl
    · refine shw_itt (fun c hc => ?_) (by omega)
      obtain ⟨b, _, _, rfl⟩ := rows_mem ts f f 0 0 c hc
      exact rg_small (by omega)
    · exact Shw.int (by omega) (by decide)) (by simp) (by decide)
  have a3 := dRepr_of sh (by decide) (by decide)
  simp only [mPure_ev, mBind_ev, mLift_ev, mVar_ev, mOp2_ev, mOp1_ev, mOpL_ev, mBool_ev, mNil_ev, mCons_ev, mStar_ev, mTup_ev, mLst_ev, mOfN_ev, mListOf_ev, mItems_ev, mTrue_ev, seqOf_list, seqOf_tuple, bOf_bool, iOf_int, see_dat, see_no, see_src, see_ownT, see_ownF, okD_F, okA_F, okD_int, okD_bool, okA_nil, okA_ints, okD_ints, okSet_ev, okLen_nil, mIf_ev, mAnd_ev, mOr_ev, mNot_ev, mNoPart_ev, mPart_ev, mSlice_ev, mRange1_ev, mRange2_ev, mRg1_ev, mRg2_ev, mTupRg_ev, mLstRg_ev, mSkip_ev, mRet_ev, mSet_ev, mSetN_ev, mApp_ev, mExt_ev, mSetIx_ev, okY_no, okY_dat, okY_own, mIfS_ev, mVNil_ev, mVDat_ev, mVOwn_ev, mPar_ev, mFor_ev, mAsgT_ev, dAdd_ii, dSub_ii, dLt_ii, dLe_ii, dGt_ii, dGe_ii, dMin2_ii, dMax2_ii, dEqA_ii, dNeA_ii, dNeA_ss, enter_1, enter_2, enter_3, view_nil, view_cons, List.replicate_succ, List.replicate_zero, List.getElem?_cons_zero, List.getElem?_cons_succ, List.set_cons_zero, List.set_cons_succ, Bool.and_true, Bool.true_and, if_true, if_false, Bool.false_eq_true, Option.map_some, Option.bind_some, decide_true, decide_false, dLen_it, dLen_il, mComp, mComp2, wipeD, a1, a2, o1, a3, dTuple_list, eq_self, Bool.not_true]
theorem s6_ev (h : OkT ts) (h1 : 1 ≤ f) (hf : f ≤ 20) (t : Int) :
    mIfS (mOr (mBool (mOp2 dNeA (mVar 7) (mVar 3))) (mOr (mBool (mOp2 dGt (mOpL dLen (mCons (mVar 5) mNil)) (mVar 3))) (mOr (mBool (mOp2 dNeA (mOpL m_longest_call (mCons (mOpL dTuple (mCons (mVar 5) mNil)) mNil)) (mVar 3))) (mBool (mOp2 dNeA (mOpL m_least_answer (mCons (mOp2 dMul (mTup (mCons (mPure (.int 1)) mNil)) (mVar 3)) (mCons (mOpL dTuple (mCons (mVar 5) mNil)) mNil))) (mPure (.int 1))))))) (mRet (mPure (.bool false))) mSkip
      (F18 y2 (.dat (.int f)) (.dat (It ts)) (.own (.list ((rows ts f f 0 0).map It))) (.dat (Il [])) (.dat (.int f)) (.dat (.int t)) y9 y10 y11 y12 y13 y14 y15 y16 y17) τ = some (.nx, (F18 y2 (.dat (.int f)) (.dat (It ts)) (.own (.list ((rows ts f f 0 0).map It))) (.dat (Il [])) (.dat (.int f)) (.dat (.int t)) y9 y10 y11 y12 y13 y14 y15 y16 y17), τ) := by
  have a1 := longest_nested h f h1 (by omega)
  have a2 := least_nested h f h1 hf
  have a3 := dMul_one (n := f) (by omega) 1
  have o1 : okLen [PyData.int 1] = some [.int 1] := okLen_of (by simp)
  have hl := rows_len h f f 0 0
  have a4 : decide ((f : Int) < (((rows ts f f 0 0).map It).length : Int)) = false := decide_eq_false (by rw [List.length_map]; omega)
  simp only [mPure_ev, mBind_ev, mLift_ev, mVar_ev, mOp2_ev, mOp1_ev, mOpL_ev, mBool_ev, mNil_ev, mCons_ev, mStar_ev, mTup_ev, mLst_ev, mOfN_ev, mListOf_ev, mItems_ev, mTrue_ev, seqOf_list, seqOf_tuple, bOf_bool, iOf_int, see_dat, see_no, see_src, see_ownT, see_ownF, okD_F, okA_F, okD_int, okD_bool, okA_nil, okA_ints, okD_ints, okSet_ev, okLen_nil, mIf_ev, mAnd_ev, mOr_ev, mNot_ev, mNoPart_ev, mPart_ev, mSlice_ev, mRange1_ev, mRange2_ev, mRg1_ev, mRg2_ev, mTupRg_ev, mLstRg_ev, mSkip_ev, mRet_ev, mSet_ev, mSetN_ev, mApp_ev, mExt_ev, mSetIx_ev, okY_no, okY_dat, okY_own, mIfS_ev, mVNil_ev, mVDat_ev, mVOwn_ev, mPar_ev, mFor_ev, mAsgT_ev, dAdd_ii, dSub_ii, dLt_ii, dLe_ii, dGt_ii, dGe_ii, dMin2_ii, dMax2_ii, dEqA_ii, dNeA_ii, dNeA_ss, enter_1, enter_2, enter_3, view_nil, view_cons, List.replicate_succ, List.replicate_zero, List.getElem?_cons_zero, List.getElem?_cons_succ, List.set_cons_zero, List.set_cons_succ, Bool.and_true, Bool.true_and, if_true, if_false, Bool.false_eq_true, Option.map_some, Option.bind_some, decide_true, decide_false, dLen_it, dLen_il, mComp, mComp2, wipeD, a1, a2, a3, o1, a4, dLen_lst, dTuple_list, beq_self_eq_true, Bool.not_true]
theorem s7_ev (h1 : 1 ≤ f) (hf : f ≤ 12) {y4 y5 y6 y7 : Sl} :
    mIfS (mOr (mBool (mOp2 dNeA (mOpL dRepr (mCons (mOpL m_tight_row (mCons (mVar 3) mNil)) mNil)) (mOpL dRepr (mCons (mTup (mCons (mTupRg (mRg1 (mVar 3))) mNil)) mNil)))) (mBool (mOp2 dNeA (mOpL m_tight_cost (mCons (mOp2 dMul (mTup (mCons (mPure (.int 1)) mNil)) (mVar 3)) (mCons (mOpL m_tight_row (mCons (mVar 3) mNil)) mNil))) (mVar 3)))) (mRet (mPure (.bool false))) mSkip
      (F18 y2 (.dat (.int f)) y4 y5 y6 y7 y8 y9 y10 y11 y12 y13 y14 y15 y16 y17) τ = some (.nx, (F18 y2 (.dat (.int f)) y4 y5 y6 y7 y8 y9 y10 y11 y12 y13 y14 y15 y16 y17), τ) := by
  have a1 := tight_row_ev f h1 (by omega)
  have a2 := tight_one f h1 hf
  have a3 := dMul_one (n := f) (by omega) 1
  have o1 : okLen [PyData.int 1] = some [.int 1] := okLen_of (by simp)
  have o2 : okLen [It (rg 0 f)] = some [It (rg 0 f)] := okLen_of (by simp)
  have hr := rangeD_rg 0 f (by omega) (by omega)
  have e0 : ((0 : Nat) : Int) = 0 := rfl
  rw [e0] at hr
  have sh : Shw 2 731000 (Itt [rg 0 f]) := shw_itt (fun c hc => by simp at hc; subst hc; exact rg_small (by omega)) (by simp)
  have a4 : dRepr [.tuple [It (rg 0 f)]] = some (.str (Itt [rg 0 f]).shown) := dRepr_of sh (by decide) (by decide)
  have a5 : m_tight_row [.int f] = some (.tuple [It (rg 0 f)]) := a1
  have a6 : m_tight_cost [It (List.replicate f 1), .tuple [It (rg 0 f)]] = some (.int f) := a2
  simp only [mPure_ev, mBind_ev, mLift_ev, mVar_ev, mOp2_ev, mOp1_ev, mOpL_ev, mBool_ev, mNil_ev, mCons_ev, mStar_ev, mTup_ev, mLst_ev, mOfN_ev, mListOf_ev, mItems_ev, mTrue_ev, seqOf_list, seqOf_tuple, bOf_bool, iOf_int, see_dat, see_no, see_src, see_ownT, see_ownF, okD_F, okA_F, okD_int, okD_bool, okA_nil, okA_ints, okD_ints, okSet_ev, okLen_nil, mIf_ev, mAnd_ev, mOr_ev, mNot_ev, mNoPart_ev, mPart_ev, mSlice_ev, mRange1_ev, mRange2_ev, mRg1_ev, mRg2_ev, mTupRg_ev, mLstRg_ev, mSkip_ev, mRet_ev, mSet_ev, mSetN_ev, mApp_ev, mExt_ev, mSetIx_ev, okY_no, okY_dat, okY_own, mIfS_ev, mVNil_ev, mVDat_ev, mVOwn_ev, mPar_ev, mFor_ev, mAsgT_ev, dAdd_ii, dSub_ii, dLt_ii, dLe_ii, dGt_ii, dGe_ii, dMin2_ii, dMax2_ii, dEqA_ii, dNeA_ii, dNeA_ss, enter_1, enter_2, enter_3, view_nil, view_cons, List.replicate_succ, List.replicate_zero, List.getElem?_cons_zero, List.getElem?_cons_succ, List.set_cons_zero, List.set_cons_succ, Bool.and_true, Bool.true_and, if_true, if_false, Bool.false_eq_true, Option.map_some, Option.bind_some, decide_true, decide_false, dLen_it, dLen_il, mComp, mComp2, wipeD, a5, a6, a3, o1, o2, hr, a4, eq_self, beq_self_eq_true, Bool.not_true]
end
end W93

namespace W93
open PySem DL
section
variable {b d : Nat} {τ : Src} {y2 y3 y4 y5 y6 y7 y8 y9 y10 y11 y12 y13 y14 y15 y16 y17 : Sl}
/-- behind the renting -/
abbrev R18 (b d : Nat) (y2 y3 y4 y5 y6 y7 y8 y9 y14 y15 y16 y17 : Sl) : EnvS := F18 y2 y3 y4 y5 y6 y7 y8 y9 (.dat (.int (b : Nat))) (.dat (.int (d : Nat))) (.dat (It ((b : Int) :: List.replicate d 1))) (.dat (Itt (calls d))) y14 y15 y16 y17
theorem s9_ev (hd : d < 10) (h12 : okY y12 = true) (h13 : okY y13 = true) :
    mAsgT false (.tp [(.nm 12), (.nm 13)]) (mOpL m_rent_row (mCons (mVar 10) (mCons (mVar 11) mNil))) (F18 y2 y3 y4 y5 y6 y7 y8 y9 (.dat (.int (b : Nat))) (.dat (.int (d : Nat))) y12 y13 y14 y15 y16 y17) τ = some (.nx, R18 b d y2 y3 y4 y5 y6 y7 y8 y9 y14 y15 y16 y17, τ) := by
  have a1 := rent_row_ev (b : Int) d (by omega)
  have a2 : bindT (.tp [(.nm 12), (.nm 13)]) (.tuple [It ((b : Int) :: List.replicate d 1), Itt ((rg 1 (d + 1)).map fun x => [0, x])]) = some [(12, It ((b : Int) :: List.replicate d 1)), (13, Itt (calls d))] := rfl
  have a3 : okSets (F18 y2 y3 y4 y5 y6 y7 y8 y9 (.dat (.int (b : Nat))) (.dat (.int (d : Nat))) y12 y13 y14 y15 y16 y17) [(12, It ((b : Int) :: List.replicate d 1)), (13, Itt (calls d))] = true := by
    unfold okSets
    simp only [List.all_cons, List.all_nil, Bool.and_true]
    simp only [mPure_ev, mBind_ev, mLift_ev, mVar_ev, mOp2_ev, mOp1_ev, mOpL_ev, mBool_ev, mNil_ev, mCons_ev, mStar_ev, mTup_ev, mLst_ev, mOfN_ev, mListOf_ev, mItems_ev, mTrue_ev, seqOf_list, seqOf_tuple, bOf_bool, iOf_int, see_dat, see_no, see_src, see_ownT, see_ownF, okD_F, okA_F, okD_int, okD_bool, okA_nil, okA_ints, okD_ints, okSet_ev, okLen_nil, mIf_ev, mAnd_ev, mOr_ev, mNot_ev, mNoPart_ev, mPart_ev, mSlice_ev, mRange1_ev, mRange2_ev, mRg1_ev, mRg2_ev, mTupRg_ev, mLstRg_ev, mSkip_ev, mRet_ev, mSet_ev, mSetN_ev, mApp_ev, mExt_ev, mSetIx_ev, okY_no, okY_dat, okY_own, mIfS_ev, mVNil_ev, mVDat_ev, mVOwn_ev, mPar_ev, mFor_ev, mAsgT_ev, dAdd_ii, dSub_ii, dLt_ii, dLe_ii, dGt_ii, dGe_ii, dMin2_ii, dMax2_ii, dEqA_ii, dNeA_ii, dNeA_ss, enter_1, enter_2, enter_3, view_nil, view_cons, List.replicate_succ, List.replicate_zero, List.getElem?_cons_zero, List.getElem?_cons_succ, List.set_cons_zero, List.set_cons_succ, Bool.and_true, Bool.true_and, if_true, if_false, Bool.false_eq_true, Option.map_some, Option.bind_some, decide_true, decide_false, dLen_it, dLen_il, mComp, mComp2, wipeD, h12, h13]
  simp only [mAsgT_ev]
  simp only [mPure_ev, mBind_ev, mLift_ev, mVar_ev, mOp2_ev, mOp1_ev, mOpL_ev, mBool_ev, mNil_ev, mCons_ev, mStar_ev, mTup_ev, mLst_ev, mOfN_ev, mListOf_ev, mItems_ev, mTrue_ev, seqOf_list, seqOf_tuple, bOf_bool, iOf_int, see_dat, see_no, see_src, see_ownT, see_ownF, okD_F, okA_F, okD_int, okD_bool, okA_nil, okA_ints, okD_ints, okSet_ev, okLen_nil, mIf_ev, mAnd_ev, mOr_ev, mNot_ev, mNoPart_ev, mPart_ev, mSlice_ev, mRange1_ev, mRange2_ev, mRg1_ev, mRg2_ev, mTupRg_ev, mLstRg_ev, mSkip_ev, mRet_ev, mSet_ev, mSetN_ev, mApp_ev, mExt_ev, mSetIx_ev, okY_no, okY_dat, okY_own, mIfS_ev, mVNil_ev, mVDat_ev, mVOwn_ev, mPar_ev, mFor_ev, mAsgT_ev, dAdd_ii, dSub_ii, dLt_ii, dLe_ii, dGt_ii, dGe_ii, dMin2_ii, dMax2_ii, dEqA_ii, dNeA_ii, dNeA_ss, enter_1, enter_2, enter_3, view_nil, view_cons, List.replicate_succ, List.replicate_zero, List.getElem?_cons_zero, List.getElem?_cons_succ, List.set_cons_zero, List.set_cons_succ, Bool.and_true, Bool.true_and, if_true, if_false, Bool.false_eq_true, Option.map_some, Option.bind_some, decide_true, decide_false, dLen_it, dLen_il, mComp, mComp2, wipeD, a1]
  rw [a2]
  simp only [a3, okD_F, Bool.and_true, if_true]
  rfl
theorem shw_rent (hb : b < 13) (hd : d < 10) : Shw 3 1500000 (.tuple [It ((b : Int) :: List.replicate d 1), Itt (calls d)]) := Shw.tup (n := 731000) (m := 2) (fun x hx => by
  simp at hx
  rcases hx with rfl | rfl
  · refine Shw.up (shw_it (xs := (b : Int) :: List.replicate d 1) (fun x hx => ?_) (by simp; omega)) (by decide) (by decide)
    rcases List.mem_cons.mp hx with rfl | hx
    · omega
    · rw [List.eq_of_mem_replicate hx]; decide
  · refine shw_itt (fun c hc => ?_) (by rw [calls_len]; omega)
    unfold calls at hc
    obtain ⟨x, hx, rfl⟩ := List.mem_map.mp hc
    obtain ⟨k, rfl, _, _⟩ := mem_rg.mp hx
    refine ⟨by simp, fun z hz => ?_⟩
    simp at hz
    omega) (by simp) (by decide)
theorem s10_ev (hb : b < 13) (hd : d < 10) :
    mIfS (mBool (mOp2 dNeA (mOpL dRepr (mCons (mTup (mCons (mVar 12) (mCons (mVar 13) mNil))) mNil)) (mOpL dRepr (mCons (mTup (mCons (mOp2 dAdd (mTup (mCons (mVar 10) mNil)) (mOp2 dMul (mTup (mCons (mPure (.int 1)) mNil)) (mVar 11))) (mCons (mOpL dTuple (mCons (mOfN (mComp (mRange2 (mPure (.int 1)) (mOp2 dAdd (mVar 11) (mPure (.int 1)))) [16] (.nm 16) mTrue (mTup (mCons (mPure (.int 0)) (mCons (mVar 16) mNil))))) mNil)) mNil))) mNil)))) (mRet (mPure (.bool false))) mSkip
      (R18 b d y2 y3 y4 y5 y6 y7 y8 y9 y14 y15 y16 y17) τ = some (.nx, R18 b d y2 y3 y4 y5 y6 y7 y8 y9 y14 y15 y16 y17, τ) := by
  have o1 : okLen [It ((b : Int) :: List.replicate d 1), Itt (calls d)] = some [It ((b : Int) :: List.replicate d 1), Itt (calls d)] := okLen_of (by simp)
  have o2 : okLen [PyData.int (b : Nat)] = some [.int (b : Nat)] := okLen_of (by simp)
  have o3 : okLen [PyData.int 1] = some [.int 1] := okLen_of (by simp)
  have a3 := dMul_one (n := d) (by omega) 1
  have a4 : dAdd (.tuple [.int (b : Nat)]) (It (List.replicate d 1)) = some (It ((b : Int) :: List.replicate d 1)) := dAdd_tup (by simp; omega)
  have hr1 := rangeD_rg 1 (d + 1) (by omega) (by omega)
  have e1 : ((1 : Nat) : Int) = 1 := rfl
  have e2 : ((d + 1 : Nat) : Int) = (d : Int) + 1 := by omega
  rw [e1, e2] at hr1
  have hc : compGo (.nm 16) (mPure true) (mTup (mCons (mPure (.int 0)) (mCons (mVar 16) mNil))) [none, none, see true y2, see true y3, see true y4, see true y5, see true y6, see true y7, see true y8, see true y9, some (.int (b : Nat)), some (.int (d : Nat)), some (It ((b : Int) :: List.replicate d 1)), some (Itt (calls d)), see true y14, see true y15, none, see true y17] ((rg 1 (d + 1)).map .int) τ = some ((calls d).map It, τ) := by
    unfold calls
    rw [List.map_map]
    refine comp_all (q := fun x => It [0, x]) fun x _ => ⟨[(16, .int x)], rfl, ?_⟩
    have ho : okLen [PyData.int 0, .int x] = some [.int 0, .int x] := okLen_of (by simp)
    simp only [setD, List.foldl_cons, List.foldl_nil]
    simp only [mPure_ev, mBind_ev, mLift_ev, mVar_ev, mOp2_ev, mOp1_ev, mOpL_ev, mBool_ev, mNil_ev, mCons_ev, mStar_ev, mTup_ev, mLst_ev, mOfN_ev, mListOf_ev, mItems_ev, mTrue_ev, seqOf_list, seqOf_tuple, bOf_bool, iOf_int, see_dat, see_no, see_src, see_ownT, see_ownF, okD_F, okA_F, okD_int, okD_bool, okA_nil, okA_ints, okD_ints, okSet_ev, okLen_nil, mIf_ev, mAnd_ev, mOr_ev, mNot_ev, mNoPart_ev, mPart_ev, mSlice_ev, mRange1_ev, mRange2_ev, mRg1_ev, mRg2_ev, mTupRg_ev, mLstRg_ev, mSkip_ev, mRet_ev, mSet_ev, mSetN_ev, mApp_ev, mExt_ev, mSetIx_ev, okY_no, okY_dat, okY_own, mIfS_ev, mVNil_ev, mVDat_ev, mVOwn_ev, mPar_ev, mFor_ev, mAsgT_ev, dAdd_ii, dSub_ii, dLt_ii, dLe_ii, dGt_ii, dGe_ii, dMin2_ii, dMax2_ii, dEqA_ii, dNeA_ii, dNeA_ss, enter_1, enter_2, enter_3, view_nil, view_cons, List.replicate_succ, List.replicate_zero, List.getElem?_cons_zero, List.getElem?_cons_succ, List.set_cons_zero, List.set_cons_succ, Bool.and_true, Bool.true_and, if_true, if_false, Bool.false_eq_true, Option.map_some, Option.bind_some, decide_true, decide_false, dLen_it, dLen_il, mComp, mComp2, wipeD, ho]
    rfl
  have a5 := dRepr_of (shw_rent hb hd) (by decide) (by decide)
  simp only [mOp2_ev, mOp1_ev, mOpL_ev, mBool_ev, mNil_ev, mCons_ev, mStar_ev, mTup_ev, mLst_ev, mOfN_ev, mListOf_ev, mItems_ev, mTrue_ev, mIf_ev, mAnd_ev, mOr_ev, mNot_ev, mNoPart_ev, mPart_ev, mSlice_ev, mRange1_ev, mRange2_ev, mRg1_ev, mRg2_ev, mTupRg_ev, mLstRg_ev, mVNil_ev, mVDat_ev, mVOwn_ev, mComp, mComp2, wipeD] at hc
  simp only [mPure_ev, mBind_ev, mLift_ev, mVar_ev, mOp2_ev, mOp1_ev, mOpL_ev, mBool_ev, mNil_ev, mCons_ev, mStar_ev, mTup_ev, mLst_ev, mOfN_ev, mListOf_ev, mItems_ev, mTrue_ev, seqOf_list, seqOf_tuple, bOf_bool, iOf_int, see_dat, see_no, see_src, see_ownT, see_ownF, okD_F, okA_F, okD_int, okD_bool, okA_nil, okA_ints, okD_ints, okSet_ev, okLen_nil, mIf_ev, mAnd_ev, mOr_ev, mNot_ev, mNoPart_ev, mPart_ev, mSlice_ev, mRange1_ev, mRange2_ev, mRg1_ev, mRg2_ev, mTupRg_ev, mLstRg_ev, mSkip_ev, mRet_ev, mSet_ev, mSetN_ev, mApp_ev, mExt_ev, mSetIx_ev, okY_no, okY_dat, okY_own, mIfS_ev, mVNil_ev, mVDat_ev, mVOwn_ev, mPar_ev, mFor_ev, mAsgT_ev, dAdd_ii, dSub_ii, dLt_ii, dLe_ii, dGt_ii, dGe_ii, dMin2_ii, dMax2_ii, dEqA_ii, dNeA_ii, dNeA_ss, enter_1, enter_2, enter_3, view_nil, view_cons, List.replicate_succ, List.replicate_zero, List.getElem?_cons_zero, List.getElem?_cons_succ, List.set_cons_zero, List.set_cons_succ, Bool.and_true, Bool.true_and, if_true, if_false, Bool.false_eq_true, Option.map_some, Option.bind_some, decide_true, decide_false, dLen_it, dLen_il, mComp, mComp2, wipeD, o1, o2, o3, a3, a4, hr1, hc, dTuple_list, a5, eq_self, Bool.not_true]
theorem s11_ev (h14 : okY y14 = true) (hb : b < 13) :
    mSet false 14 (mIf (mBool (mOp2 dLt (mVar 11) (mVar 10))) (mVar 11) (mOp2 dMul (mPure (.int 2)) (mVar 10))) (R18 b d y2 y3 y4 y5 y6 y7 y8 y9 y14 y15 y16 y17) τ = some (.nx, R18 b d y2 y3 y4 y5 y6 y7 y8 y9 (.dat (.int (if d < b then (d : Int) else 2 * (b : Int)))) y15 y16 y17, τ) := by
  have a1 : dMul (.int 2) (.int (b : Nat)) = some (.int (2 * (b : Int))) := dMul_ii _ _ (okMul_small (by decide) (by omega))
  by_cases h : d < b
  · have e : decide ((d : Int) < (b : Int)) = true := decide_eq_true (by omega)
    rw [if_pos h]
    simp only [mPure_ev, mBind_ev, mLift_ev, mVar_ev, mOp2_ev, mOp1_ev, mOpL_ev, mBool_ev, mNil_ev, mCons_ev, mStar_ev, mTup_ev, mLst_ev, mOfN_ev, mListOf_ev, mItems_ev, mTrue_ev, seqOf_list, seqOf_tuple, bOf_bool, iOf_int, see_dat, see_no, see_src, see_ownT, see_ownF, okD_F, okA_F, okD_int, okD_bool, okA_nil, okA_ints, okD_ints, okSet_ev, okLen_nil, mIf_ev, mAnd_ev, mOr_ev, mNot_ev, mNoPart_ev, mPart_ev, mSlice_ev, mRange1_ev, mRange2_ev, mRg1_ev, mRg2_ev, mTupRg_ev, mLstRg_ev, mSkip_ev, mRet_ev, mSet_ev, mSetN_ev, mApp_ev, mExt_ev, mSetIx_ev, okY_no, okY_dat, okY_own, mIfS_ev, mVNil_ev, mVDat_ev, mVOwn_ev, mPar_ev, mFor_ev, mAsgT_ev, dAdd_ii, dSub_ii, dLt_ii, dLe_ii, dGt_ii, dGe_ii, dMin2_ii, dMax2_ii, dEqA_ii, dNeA_ii, dNeA_ss, enter_1, enter_2, enter_3, view_nil, view_cons, List.replicate_succ, List.replicate_zero, List.getElem?_cons_zero, List.getElem?_cons_succ, List.set_cons_zero, List.set_cons_succ, Bool.and_true, Bool.true_and, if_true, if_false, Bool.false_eq_true, Option.map_some, Option.bind_some, decide_true, decide_false, dLen_it, dLen_il, mComp, mComp2, wipeD, e, h14]
  · have e : decide ((d : Int) < (b : Int)) = false := decide_eq_false (by omega)
    rw [if_neg h]
    simp only [mPure_ev, mBind_ev, mLift_ev, mVar_ev, mOp2_ev, mOp1_ev, mOpL_ev, mBool_ev, mNil_ev, mCons_ev, mStar_ev, mTup_ev, mLst_ev, mOfN_ev, mListOf_ev, mItems_ev, mTrue_ev, seqOf_list, seqOf_tuple, bOf_bool, iOf_int, see_dat, see_no, see_src, see_ownT, see_ownF, okD_F, okA_F, okD_int, okD_bool, okA_nil, okA_ints, okD_ints, okSet_ev, okLen_nil, mIf_ev, mAnd_ev, mOr_ev, mNot_ev, mNoPart_ev, mPart_ev, mSlice_ev, mRange1_ev, mRange2_ev, mRg1_ev, mRg2_ev, mTupRg_ev, mLstRg_ev, mSkip_ev, mRet_ev, mSet_ev, mSetN_ev, mApp_ev, mExt_ev, mSetIx_ev, okY_no, okY_dat, okY_own, mIfS_ev, mVNil_ev, mVDat_ev, mVOwn_ev, mPar_ev, mFor_ev, mAsgT_ev, dAdd_ii, dSub_ii, dLt_ii, dLe_ii, dGt_ii, dGe_ii, dMin2_ii, dMax2_ii, dEqA_ii, dNeA_ii, dNeA_ss, enter_1, enter_2, enter_3, view_nil, view_cons, List.replicate_succ, List.replicate_zero, List.getElem?_cons_zero, List.getElem?_cons_succ, List.set_cons_zero, List.set_cons_succ, Bool.and_true, Bool.true_and, if_true, if_false, Bool.false_eq_true, Option.map_some, Option.bind_some, decide_true, decide_false, dLen_it, dLen_il, mComp, mComp2, wipeD, e, a1, h14]
theorem s12_ev (h0 : 0 < b) (hb : b < 13) (hd : d < 10) :
    mIfS (mOr (mBool (mOp2 dNeA (mOpL m_tight_cost (mCons (mVar 12) (mCons (mVar 13) mNil))) (mVar 14))) (mBool (mOp2 dNeA (mOpL m_least_answer (mCons (mVar 12) (mCons (mVar 13) mNil))) (mOpL dMin2 (mCons (mVar 11) (mCons (mVar 10) mNil)))))) (mRet (mPure (.bool false))) mSkip
      (R18 b d y2 y3 y4 y5 y6 y7 y8 y9 (.dat (.int (if d < b then (d : Int) else 2 * (b : Int)))) y15 y16 y17) τ = some (.nx, R18 b d y2 y3 y4 y5 y6 y7 y8 y9 (.dat (.int (if d < b then (d : Int) else 2 * (b : Int)))) y15 y16 y17, τ) := by
  have a1 := rent_cost b d h0 hb hd
  have a2 := rent_least b d h0 (by omega)
  simp only [mPure_ev, mBind_ev, mLift_ev, mVar_ev, mOp2_ev, mOp1_ev, mOpL_ev, mBool_ev, mNil_ev, mCons_ev, mStar_ev, mTup_ev, mLst_ev, mOfN_ev, mListOf_ev, mItems_ev, mTrue_ev, seqOf_list, seqOf_tuple, bOf_bool, iOf_int, see_dat, see_no, see_src, see_ownT, see_ownF, okD_F, okA_F, okD_int, okD_bool, okA_nil, okA_ints, okD_ints, okSet_ev, okLen_nil, mIf_ev, mAnd_ev, mOr_ev, mNot_ev, mNoPart_ev, mPart_ev, mSlice_ev, mRange1_ev, mRange2_ev, mRg1_ev, mRg2_ev, mTupRg_ev, mLstRg_ev, mSkip_ev, mRet_ev, mSet_ev, mSetN_ev, mApp_ev, mExt_ev, mSetIx_ev, okY_no, okY_dat, okY_own, mIfS_ev, mVNil_ev, mVDat_ev, mVOwn_ev, mPar_ev, mFor_ev, mAsgT_ev, dAdd_ii, dSub_ii, dLt_ii, dLe_ii, dGt_ii, dGe_ii, dMin2_ii, dMax2_ii, dEqA_ii, dNeA_ii, dNeA_ss, enter_1, enter_2, enter_3, view_nil, view_cons, List.replicate_succ, List.replicate_zero, List.getElem?_cons_zero, List.getElem?_cons_succ, List.set_cons_zero, List.set_cons_succ, Bool.and_true, Bool.true_and, if_true, if_false, Bool.false_eq_true, Option.map_some, Option.bind_some, decide_true, decide_false, dLen_it, dLen_il, mComp, mComp2, wipeD, a1, a2, beq_self_eq_true, Bool.not_true]
theorem s13_ev (h0 : 0 < b) (hb : b < 13) (hd : d < 10) (h15 : okY y15 = true) :
    mSet false 15 (mOpL m_tight_steps (mCons (mVar 12) (mCons (mVar 13) mNil))) (R18 b d y2 y3 y4 y5 y6 y7 y8 y9 y14 y15 y16 y17) τ = some (.nx, R18 b d y2 y3 y4 y5 y6 y7 y8 y9 y14 (.dat (Itt ((List.range d).map fun j => takenAt b (j + 1)))) y16 y17, τ) := by
  have a1 := rent_steps_ev b d h0 hb hd
  simp only [mPure_ev, mBind_ev, mLift_ev, mVar_ev, mOp2_ev, mOp1_ev, mOpL_ev, mBool_ev, mNil_ev, mCons_ev, mStar_ev, mTup_ev, mLst_ev, mOfN_ev, mListOf_ev, mItems_ev, mTrue_ev, seqOf_list, seqOf_tuple, bOf_bool, iOf_int, see_dat, see_no, see_src, see_ownT, see_ownF, okD_F, okA_F, okD_int, okD_bool, okA_nil, okA_ints, okD_ints, okSet_ev, okLen_nil, mIf_ev, mAnd_ev, mOr_ev, mNot_ev, mNoPart_ev, mPart_ev, mSlice_ev, mRange1_ev, mRange2_ev, mRg1_ev, mRg2_ev, mTupRg_ev, mLstRg_ev, mSkip_ev, mRet_ev, mSet_ev, mSetN_ev, mApp_ev, mExt_ev, mSetIx_ev, okY_no, okY_dat, okY_own, mIfS_ev, mVNil_ev, mVDat_ev, mVOwn_ev, mPar_ev, mFor_ev, mAsgT_ev, dAdd_ii, dSub_ii, dLt_ii, dLe_ii, dGt_ii, dGe_ii, dMin2_ii, dMax2_ii, dEqA_ii, dNeA_ii, dNeA_ss, enter_1, enter_2, enter_3, view_nil, view_cons, List.replicate_succ, List.replicate_zero, List.getElem?_cons_zero, List.getElem?_cons_succ, List.set_cons_zero, List.set_cons_succ, Bool.and_true, Bool.true_and, if_true, if_false, Bool.false_eq_true, Option.map_some, Option.bind_some, decide_true, decide_false, dLen_it, dLen_il, mComp, mComp2, wipeD, a1, h15]
noncomputable def gDay : Stm := mSeq (mSet false 17 (mIf (mBool (mOp2 dLt (mVar 16) (mVar 10))) (mTup (mCons (mVar 16) mNil)) (mIf (mBool (mOp2 dEqA (mVar 16) (mVar 10))) (mTup (mCons (mPure (.int 0)) (mCons (mVar 16) mNil))) (mTup mNil))))
    (mIfS (mBool (mOp2 dNeA (mOp2 dIx (mVar 15) (mOp2 dSub (mVar 16) (mPure (.int 1)))) (mVar 17))) (mRet (mPure (.bool false))) mSkip)
theorem s14_ev (hd : d < 10) (h16 : okY y16 = true) (h17 : okY y17 = true) :
    ∃ z16 z17, okY z16 = true ∧ okY z17 = true ∧ mFor (mRange2 (mPure (.int 1)) (mOp2 dAdd (mVar 11) (mPure (.int 1)))) (.nm 16) gDay (R18 b d y2 y3 y4 y5 y6 y7 y8 y9 y14 (.dat (Itt ((List.range d).map fun j => takenAt b (j + 1)))) y16 y17) τ =
      some (.nx, R18 b d y2 y3 y4 y5 y6 y7 y8 y9 y14 (.dat (Itt ((List.range d).map fun j => takenAt b (j + 1)))) z16 z17, τ) := by
  obtain ⟨ρ', τ', e1, z16, z17, g1, g2, rfl, rfl⟩ := for_rg (b := .nm 16) (g := gDay) (enc := fun i : Nat => .int ((1 + i : Nat) : Int)) (n := d)
    (fun i ρ σ => ∃ z16 z17, okY z16 = true ∧ okY z17 = true ∧ ρ = R18 b d y2 y3 y4 y5 y6 y7 y8 y9 y14 (.dat (Itt ((List.range d).map fun j => takenAt b (j + 1)))) z16 z17 ∧ σ = τ)
    (ρ := R18 b d y2 y3 y4 y5 y6 y7 y8 y9 y14 (.dat (Itt ((List.range d).map fun j => takenAt b (j + 1)))) y16 y17) (τ := τ) ⟨y16, y17, h16, h17, rfl, rfl⟩ (by
      rintro i ρ σ hi ⟨z16, z17, g1, g2, rfl, rfl⟩
      have hx : dIx (Itt ((List.range d).map fun j => takenAt b (j + 1))) (.int (((1 + i : Nat) : Int) - 1)) = some (It (takenAt b (i + 1))) := by
        have e : (((1 + i : Nat) : Int) - 1) = (i : Int) := by omega
        rw [e]
        simp only [dIx, seqOf]
        refine atI_nat ?_
        rw [List.getElem?_map, List.getElem?_map, List.getElem?_range hi]
        rfl
      have hn := dNeA_it (takenAt b (i + 1)) (takenAt b (i + 1))
      have hset : mSet false 17 (mIf (mBool (mOp2 dLt (mVar 16) (mVar 10))) (mTup (mCons (mVar 16) mNil)) (mIf (mBool (mOp2 dEqA (mVar 16) (mVar 10))) (mTup (mCons (mPure (.int 0)) (mCons (mVar 16) mNil))) (mTup mNil))) (R18 b d y2 y3 y4 y5 y6 y7 y8 y9 y14 (.dat (Itt ((List.range d).map fun j => takenAt b (j + 1)))) (.dat (.int ((1 + i : Nat) : Int))) z17) σ =
          some (.nx, R18 b d y2 y3 y4 y5 y6 y7 y8 y9 y14 (.dat (Itt ((List.range d).map fun j => takenAt b (j + 1)))) (.dat (.int ((1 + i : Nat) : Int))) (.dat (It (takenAt b (i + 1)))), σ) := by
        have o1 : okLen [PyData.int ((1 + i : Nat) : Int)] = some [.int ((1 + i : Nat) : Int)] := okLen_of (by simp)
        have o2 : okLen [PyData.int 0, .int ((1 + i : Nat) : Int)] = some [.int 0, .int ((1 + i : Nat) : Int)] := okLen_of (by simp)
        have ei : ((i + 1 : Nat) : Int) = ((1 + i : Nat) : Int) := by omega
        unfold takenAt
        by_cases h : i + 1 < b
        · have e : decide (((1 + i : Nat) : Int) < (b : Int)) = true := decide_eq_true (by omega)
          rw [if_pos h, ei]
          simp only [mPure_ev, mBind_ev, mLift_ev, mVar_ev, mOp2_ev, mOp1_ev, mOpL_ev, mBool_ev, mNil_ev, mCons_ev, mStar_ev, mTup_ev, mLst_ev, mOfN_ev, mListOf_ev, mItems_ev, mTrue_ev, seqOf_list, seqOf_tuple, bOf_bool, iOf_int, see_dat, see_no, see_src, see_ownT, see_ownF, okD_F, okA_F, okD_int, okD_bool, okA_nil, okA_ints, okD_ints, okSet_ev, okLen_nil, mIf_ev, mAnd_ev, mOr_ev, mNot_ev, mNoPart_ev, mPart_ev, mSlice_ev, mRange1_ev, mRange2_ev, mRg1_ev, mRg2_ev, mTupRg_ev, mLstRg_ev, mSkip_ev, mRet_ev, mSet_ev, mSetN_ev, mApp_ev, mExt_ev, mSetIx_ev, okY_no, okY_dat, okY_own, mIfS_ev, mVNil_ev, mVDat_ev, mVOwn_ev, mPar_ev, mFor_ev, mAsgT_ev, dAdd_ii, dSub_ii, dLt_ii, dLe_ii, dGt_ii, dGe_ii, dMin2_ii, dMax2_ii, dEqA_ii, dNeA_ii, dNeA_ss, enter_1, enter_2, enter_3, view_nil, view_cons, List.replicate_succ, List.replicate_zero, List.getElem?_cons_zero, List.getElem?_cons_succ, List.set_cons_zero, List.set_cons_succ, Bool.and_true, Bool.true_and, if_true, if_false, Bool.false_eq_true, Option.map_some, Option.bind_some, decide_true, decide_false, dLen_it, dLen_il, mComp, mComp2, wipeD, e, o1, g2]
          rfl
        · have e : decide (((1 + i : Nat) : Int) < (b : Int)) = false := decide_eq_false (by omega)
          rw [if_neg h]
          by_cases h2 : i + 1 = b
          · have e2 : (((1 + i : Nat) : Int) == (b : Int)) = true := beq_iff_eq.mpr (by omega)
            rw [if_pos h2, ei]
            simp only [mPure_ev, mBind_ev, mLift_ev, mVar_ev, mOp2_ev, mOp1_ev, mOpL_ev, mBool_ev, mNil_ev, mCons_ev, mStar_ev, mTup_ev, mLst_ev, mOfN_ev, mListOf_ev, mItems_ev, mTrue_ev, seqOf_list, seqOf_tuple, bOf_bool, iOf_int, see_dat, see_no, see_src, see_ownT, see_ownF, okD_F, okA_F, okD_int, okD_bool, okA_nil, okA_ints, okD_ints, okSet_ev, okLen_nil, mIf_ev, mAnd_ev, mOr_ev, mNot_ev, mNoPart_ev, mPart_ev, mSlice_ev, mRange1_ev, mRange2_ev, mRg1_ev, mRg2_ev, mTupRg_ev, mLstRg_ev, mSkip_ev, mRet_ev, mSet_ev, mSetN_ev, mApp_ev, mExt_ev, mSetIx_ev, okY_no, okY_dat, okY_own, mIfS_ev, mVNil_ev, mVDat_ev, mVOwn_ev, mPar_ev, mFor_ev, mAsgT_ev, dAdd_ii, dSub_ii, dLt_ii, dLe_ii, dGt_ii, dGe_ii, dMin2_ii, dMax2_ii, dEqA_ii, dNeA_ii, dNeA_ss, enter_1, enter_2, enter_3, view_nil, view_cons, List.replicate_succ, List.replicate_zero, List.getElem?_cons_zero, List.getElem?_cons_succ, List.set_cons_zero, List.set_cons_succ, Bool.and_true, Bool.true_and, if_true, if_false, Bool.false_eq_true, Option.map_some, Option.bind_some, decide_true, decide_false, dLen_it, dLen_il, mComp, mComp2, wipeD, e, e2, o2, g2]
            rfl
          · have e2 : (((1 + i : Nat) : Int) == (b : Int)) = false := by
              rw [beq_eq_false_iff_ne]
              omega
            rw [if_neg h2]
            simp only [mPure_ev, mBind_ev, mLift_ev, mVar_ev, mOp2_ev, mOp1_ev, mOpL_ev, mBool_ev, mNil_ev, mCons_ev, mStar_ev, mTup_ev, mLst_ev, mOfN_ev, mListOf_ev, mItems_ev, mTrue_ev, seqOf_list, seqOf_tuple, bOf_bool, iOf_int, see_dat, see_no, see_src, see_ownT, see_ownF, okD_F, okA_F, okD_int, okD_bool, okA_nil, okA_ints, okD_ints, okSet_ev, okLen_nil, mIf_ev, mAnd_ev, mOr_ev, mNot_ev, mNoPart_ev, mPart_ev, mSlice_ev, mRange1_ev, mRange2_ev, mRg1_ev, mRg2_ev, mTupRg_ev, mLstRg_ev, mSkip_ev, mRet_ev, mSet_ev, mSetN_ev, mApp_ev, mExt_ev, mSetIx_ev, okY_no, okY_dat, okY_own, mIfS_ev, mVNil_ev, mVDat_ev, mVOwn_ev, mPar_ev, mFor_ev, mAsgT_ev, dAdd_ii, dSub_ii, dLt_ii, dLe_ii, dGt_ii, dGe_ii, dMin2_ii, dMax2_ii, dEqA_ii, dNeA_ii, dNeA_ss, enter_1, enter_2, enter_3, view_nil, view_cons, List.replicate_succ, List.replicate_zero, List.getElem?_cons_zero, List.getElem?_cons_succ, List.set_cons_zero, List.set_cons_succ, Bool.and_true, Bool.true_and, if_true, if_false, Bool.false_eq_true, Option.map_some, Option.bind_some, decide_true, decide_false, dLen_it, dLen_il, mComp, mComp2, wipeD, e, e2, g2]
            rfl
      refine ⟨[(16, .int ((1 + i : Nat) : Int))], rfl, ?_, R18 b d y2 y3 y4 y5 y6 y7 y8 y9 y14 (.dat (Itt ((List.range d).map fun j => takenAt b (j + 1)))) (.dat (.int ((1 + i : Nat) : Int))) (.dat (It (takenAt b (i + 1)))), σ, .inl ?_, _, _, rfl, rfl, rfl, rfl⟩
      · unfold okSets
        simp only [List.all_cons, List.all_nil, Bool.and_true]
        simp only [mPure_ev, mBind_ev, mLift_ev, mVar_ev, mOp2_ev, mOp1_ev, mOpL_ev, mBool_ev, mNil_ev, mCons_ev, mStar_ev, mTup_ev, mLst_ev, mOfN_ev, mListOf_ev, mItems_ev, mTrue_ev, seqOf_list, seqOf_tuple, bOf_bool, iOf_int, see_dat, see_no, see_src, see_ownT, see_ownF, okD_F, okA_F, okD_int, okD_bool, okA_nil, okA_ints, okD_ints, okSet_ev, okLen_nil, mIf_ev, mAnd_ev, mOr_ev, mNot_ev, mNoPart_ev, mPart_ev, mSlice_ev, mRange1_ev, mRange2_ev, mRg1_ev, mRg2_ev, mTupRg_ev, mLstRg_ev, mSkip_ev, mRet_ev, mSet_ev, mSetN_ev, mApp_ev, mExt_ev, mSetIx_ev, okY_no, okY_dat, okY_own, mIfS_ev, mVNil_ev, mVDat_ev, mVOwn_ev, mPar_ev, mFor_ev, mAsgT_ev, dAdd_ii, dSub_ii, dLt_ii, dLe_ii, dGt_ii, dGe_ii, dMin2_ii, dMax2_ii, dEqA_ii, dNeA_ii, dNeA_ss, enter_1, enter_2, enter_3, view_nil, view_cons, List.replicate_succ, List.replicate_zero, List.getElem?_cons_zero, List.getElem?_cons_succ, List.set_cons_zero, List.set_cons_succ, Bool.and_true, Bool.true_and, if_true, if_false, Bool.false_eq_true, Option.map_some, Option.bind_some, decide_true, decide_false, dLen_it, dLen_il, mComp, mComp2, wipeD, g1]
      · unfold gDay
        refine Eq.trans (seq_nx hset) ?_
        simp only [mPure_ev, mBind_ev, mLift_ev, mVar_ev, mOp2_ev, mOp1_ev, mOpL_ev, mBool_ev, mNil_ev, mCons_ev, mStar_ev, mTup_ev, mLst_ev, mOfN_ev, mListOf_ev, mItems_ev, mTrue_ev, seqOf_list, seqOf_tuple, bOf_bool, iOf_int, see_dat, see_no, see_src, see_ownT, see_ownF, okD_F, okA_F, okD_int, okD_bool, okA_nil, okA_ints, okD_ints, okSet_ev, okLen_nil, mIf_ev, mAnd_ev, mOr_ev, mNot_ev, mNoPart_ev, mPart_ev, mSlice_ev, mRange1_ev, mRange2_ev, mRg1_ev, mRg2_ev, mTupRg_ev, mLstRg_ev, mSkip_ev, mRet_ev, mSet_ev, mSetN_ev, mApp_ev, mExt_ev, mSetIx_ev, okY_no, okY_dat, okY_own, mIfS_ev, mVNil_ev, mVDat_ev, mVOwn_ev, mPar_ev, mFor_ev, mAsgT_ev, dAdd_ii, dSub_ii, dLt_ii, dLe_ii, dGt_ii, dGe_ii, dMin2_ii, dMax2_ii, dEqA_ii, dNeA_ii, dNeA_ss, enter_1, enter_2, enter_3, view_nil, view_cons, List.replicate_succ, List.replicate_zero, List.getElem?_cons_zero, List.getElem?_cons_succ, List.set_cons_zero, List.set_cons_succ, Bool.and_true, Bool.true_and, if_true, if_false, Bool.false_eq_true, Option.map_some, Option.bind_some, decide_true, decide_false, dLen_it, dLen_il, mComp, mComp2, wipeD, hx, hn, eq_self, Bool.not_true])
  have hr1 := rangeD_rg 1 (d + 1) (by omega) (by omega)
  have k1 : ((1 : Nat) : Int) = 1 := rfl
  have k2 : ((d + 1 : Nat) : Int) = (d : Int) + 1 := by omega
  have k3 : (rg 1 (d + 1)).map PyData.int = (List.range d).map fun i : Nat => .int ((1 + i : Nat) : Int) := by
    unfold rg
    rw [List.map_map]
    rfl
  rw [k1, k2, k3] at hr1
  exact ⟨z16, z17, g1, g2, for_nx (τ1 := τ') (by simp only [mPure_ev, mBind_ev, mLift_ev, mVar_ev, mOp2_ev, mOp1_ev, mOpL_ev, mBool_ev, mNil_ev, mCons_ev, mStar_ev, mTup_ev, mLst_ev, mOfN_ev, mListOf_ev, mItems_ev, mTrue_ev, seqOf_list, seqOf_tuple, bOf_bool, iOf_int, see_dat, see_no, see_src, see_ownT, see_ownF, okD_F, okA_F, okD_int, okD_bool, okA_nil, okA_ints, okD_ints, okSet_ev, okLen_nil, mIf_ev, mAnd_ev, mOr_ev, mNot_ev, mNoPart_ev, mPart_ev, mSlice_ev, mRange1_ev, mRange2_ev, mRg1_ev, mRg2_ev, mTupRg_ev, mLstRg_ev, mSkip_ev, mRet_ev, mSet_ev, mSetN_ev, mApp_ev, mExt_ev, mSetIx_ev, okY_no, okY_dat, okY_own, mIfS_ev, mVNil_ev, mVDat_ev, mVOwn_ev, mPar_ev, mFor_ev, mAsgT_ev, dAdd_ii, dSub_ii, dLt_ii, dLe_ii, dGt_ii, dGe_ii, dMin2_ii, dMax2_ii, dEqA_ii, dNeA_ii, dNeA_ss, enter_1, enter_2, enter_3, view_nil, view_cons, List.replicate_succ, List.replicate_zero, List.getElem?_cons_zero, List.getElem?_cons_succ, List.set_cons_zero, List.set_cons_succ, Bool.and_true, Bool.true_and, if_true, if_false, Bool.false_eq_true, Option.map_some, Option.bind_some, decide_true, decide_false, dLen_it, dLen_il, mComp, mComp2, wipeD, hr1]) e1⟩
end
end W93

namespace W93
open PySem DL
noncomputable def gLap : Stm := (mSeq (mSet false 3 (mOp2 dAdd (mPure (.int 1)) (mCallS 1 mPick (mCons (mPure (.int 9)) mNil))))
    (mSeq (mSet false 4 (mOpL dTuple (mCons (mOfN (mComp (mRange1 (mOp2 dAdd (mPure (.int 1)) (mCallS 1 mPick (mCons (mPure (.int 6)) mNil)))) [8] (.nm 8) mTrue (mOp2 dAdd (mPure (.int 1)) (mCallS 1 mPick (mCons (mPure (.int 3)) mNil))))) mNil)))
    (mSeq (mPar false [5, 6, 7, 8] (mVOwn (mLst mNil) (mVDat (mOfN (mLstRg (mRg1 (mVar 3)))) (mVDat (mPure (.int 0)) (mVDat (mPure (.int 0)) mVNil)))))
    (mSeq (mWhile (mBool (mOp2 dNeA (mVar 6) (mOfN (mLst mNil)))) (mSeq (mApp false 5 (mOpL dTuple (mCons (mVar 6) mNil)))
    (mSeq (mSet false 9 (mOpL dMin2 (mCons (mOpL dLen (mCons (mVar 6) mNil)) (mCons (mOp2 dIx (mVar 4) (mOpL dMin2 (mCons (mVar 8) (mCons (mOp2 dSub (mOpL dLen (mCons (mVar 4) mNil)) (mPure (.int 1))) mNil)))) mNil))))
    (mPar false [6, 7, 8] (mVDat (mSlice (mVar 6) (mPart (mVar 9)) mNoPart) (mVDat (mOp2 dAdd (mVar 7) (mVar 9)) (mVDat (mOp2 dAdd (mVar 8) (mPure (.int 1))) mVNil)))))))
    (mSeq (mIfS (mBool (mOp2 dNeA (mOpL dRepr (mCons (mOfN (mLst (mCons (mOpL m_nested_row (mCons (mVar 3) (mCons (mVar 4) mNil))) (mCons (mOpL m_nested_cost (mCons (mVar 3) (mCons (mVar 4) mNil))) mNil)))) mNil)) (mOpL dRepr (mCons (mOfN (mLst (mCons (mOpL dTuple (mCons (mVar 5) mNil)) (mCons (mVar 7) mNil)))) mNil)))) (mRet (mPure (.bool false))) mSkip)
    (mSeq (mIfS (mOr (mBool (mOp2 dNeA (mVar 7) (mVar 3))) (mOr (mBool (mOp2 dGt (mOpL dLen (mCons (mVar 5) mNil)) (mVar 3))) (mOr (mBool (mOp2 dNeA (mOpL m_longest_call (mCons (mOpL dTuple (mCons (mVar 5) mNil)) mNil)) (mVar 3))) (mBool (mOp2 dNeA (mOpL m_least_answer (mCons (mOp2 dMul (mTup (mCons (mPure (.int 1)) mNil)) (mVar 3)) (mCons (mOpL dTuple (mCons (mVar 5) mNil)) mNil))) (mPure (.int 1))))))) (mRet (mPure (.bool false))) mSkip)
    (mSeq (mIfS (mOr (mBool (mOp2 dNeA (mOpL dRepr (mCons (mOpL m_tight_row (mCons (mVar 3) mNil)) mNil)) (mOpL dRepr (mCons (mTup (mCons (mTupRg (mRg1 (mVar 3))) mNil)) mNil)))) (mBool (mOp2 dNeA (mOpL m_tight_cost (mCons (mOp2 dMul (mTup (mCons (mPure (.int 1)) mNil)) (mVar 3)) (mCons (mOpL m_tight_row (mCons (mVar 3) mNil)) mNil))) (mVar 3)))) (mRet (mPure (.bool false))) mSkip)
    (mSeq (mPar false [10, 11] (mVDat (mOp2 dAdd (mPure (.int 1)) (mCallS 1 mPick (mCons (mPure (.int 12)) mNil))) (mVDat (mCallS 1 mPick (mCons (mPure (.int 10)) mNil)) mVNil)))
    (mSeq (mAsgT false (.tp [(.nm 12), (.nm 13)]) (mOpL m_rent_row (mCons (mVar 10) (mCons (mVar 11) mNil))))
    (mSeq (mIfS (mBool (mOp2 dNeA (mOpL dRepr (mCons (mTup (mCons (mVar 12) (mCons (mVar 13) mNil))) mNil)) (mOpL dRepr (mCons (mTup (mCons (mOp2 dAdd (mTup (mCons (mVar 10) mNil)) (mOp2 dMul (mTup (mCons (mPure (.int 1)) mNil)) (mVar 11))) (mCons (mOpL dTuple (mCons (mOfN (mComp (mRange2 (mPure (.int 1)) (mOp2 dAdd (mVar 11) (mPure (.int 1)))) [16] (.nm 16) mTrue (mTup (mCons (mPure (.int 0)) (mCons (mVar 16) mNil))))) mNil)) mNil))) mNil)))) (mRet (mPure (.bool false))) mSkip)
    (mSeq (mSet false 14 (mIf (mBool (mOp2 dLt (mVar 11) (mVar 10))) (mVar 11) (mOp2 dMul (mPure (.int 2)) (mVar 10))))
    (mSeq (mIfS (mOr (mBool (mOp2 dNeA (mOpL m_tight_cost (mCons (mVar 12) (mCons (mVar 13) mNil))) (mVar 14))) (mBool (mOp2 dNeA (mOpL m_least_answer (mCons (mVar 12) (mCons (mVar 13) mNil))) (mOpL dMin2 (mCons (mVar 11) (mCons (mVar 10) mNil)))))) (mRet (mPure (.bool false))) mSkip)
    (mSeq (mSet false 15 (mOpL m_tight_steps (mCons (mVar 12) (mCons (mVar 13) mNil))))
    (mFor (mRange2 (mPure (.int 1)) (mOp2 dAdd (mVar 11) (mPure (.int 1)))) (.nm 16) (mSeq (mSet false 17 (mIf (mBool (mOp2 dLt (mVar 16) (mVar 10))) (mTup (mCons (mVar 16) mNil)) (mIf (mBool (mOp2 dEqA (mVar 16) (mVar 10))) (mTup (mCons (mPure (.int 0)) (mCons (mVar 16) mNil))) (mTup mNil))))
    (mIfS (mBool (mOp2 dNeA (mOp2 dIx (mVar 15) (mOp2 dSub (mVar 16) (mPure (.int 1)))) (mVar 17))) (mRet (mPure (.bool false))) mSkip))))))))))))))))
def Ok18 (ρ : EnvS) : Prop := ∃ y2 y3 y4 y5 y6 y7 y8 y9 y10 y11 y12 y13 y14 y15 y16 y17, ρ = F18 y2 y3 y4 y5 y6 y7 y8 y9 y10 y11 y12 y13 y14 y15 y16 y17 ∧ okY y2 = true ∧ okY y3 = true ∧ okY y4 = true ∧ okY y5 = true ∧ okY y6 = true ∧ okY y7 = true ∧ okY y8 = true ∧ okY y9 = true ∧ okY y10 = true ∧ okY y11 = true ∧ okY y12 = true ∧ okY y13 = true ∧ okY y14 = true ∧ okY y15 = true ∧ okY y16 = true ∧ okY y17 = true
theorem okSlots_4 (i j k l : Nat) (ρ : EnvS) : okSlots ρ [i, j, k, l] = (okSet ρ i && (okSet ρ j && (okSet ρ k && okSet ρ l))) := by simp [okSlots]
theorem okSlots_2 (i j : Nat) (ρ : EnvS) : okSlots ρ [i, j] = (okSet ρ i && okSet ρ j) := by simp [okSlots]
theorem lap_ev {t : Nat} {τ : Src} {ρ : EnvS} (w : Wf (t + 12) τ) (h : Ok18 ρ) : ∃ ρ' τ', gLap ρ τ = some (.nx, ρ', τ') ∧ Ok18 ρ' ∧ Wf t τ' := by
  obtain ⟨y2, y3, y4, y5, y6, y7, y8, y9, y10, y11, y12, y13, y14, y15, y16, y17, rfl, h2, h3, h4, h5, h6, h7, h8, h9, h10, h11, h12, h13, h14, h15, h16, h17⟩ := h
  -- f
  obtain ⟨r, τ1, e1, q0, q1, w1⟩ := pick_law (t := t + 11) w 9 (by decide) (by decide)
  obtain ⟨f, ef⟩ : ∃ f : Nat, 1 + r = (f : Int) := ⟨(1 + r).toNat, by omega⟩
  have f1 : 1 ≤ f := by omega
  have f2 : f ≤ 9 := by omega
  -- takes
  obtain ⟨r6, τ2, e2, q2, q3, w2⟩ := pick_law (t := t + 10) w1 6 (by decide) (by decide)
  obtain ⟨n, en⟩ : ∃ n : Nat, 1 + r6 = (n : Int) := ⟨(1 + r6).toNat, by omega⟩
  have hrn := rangeD_rg 0 n (by omega) (by omega)
  have hrf := rangeD_rg 0 f (by omega) (by omega)
  have z0 : ((0 : Nat) : Int) = 0 := rfl
  rw [z0] at hrn hrf
  obtain ⟨ts, τ3, e3, k1, k2, w3⟩ := comp_picks (b := .nm 8) (te := mOp2 dAdd (mPure (.int 1)) (mCallS 1 mPick (mCons (mPure (.int 3)) mNil))) (η := [none, none, see false y2, some (.int f), see false y4, see false y5, see false y6, see false y7, none, see false y9, see false y10, see false y11, see false y12, see false y13, see false y14, see false y15, see false y16, see false y17])
    (fun x => 1 ≤ x ∧ x ≤ 3) (fun d => ⟨_, rfl⟩) (fun t τ η w => by
      obtain ⟨x, τ', e, p1, p2, w'⟩ := pick_law w 3 (by decide) (by decide)
      refine ⟨1 + x, τ', ?_, by omega, w'⟩
      simp only [mOp2_ev, mOp1_ev, mOpL_ev, mBool_ev, mNil_ev, mCons_ev, mStar_ev, mTup_ev, mLst_ev, mOfN_ev, mListOf_ev, mItems_ev, mTrue_ev, mIf_ev, mAnd_ev, mOr_ev, mNot_ev, mNoPart_ev, mPart_ev, mSlice_ev, mRange1_ev, mRange2_ev, mRg1_ev, mRg2_ev, mTupRg_ev, mLstRg_ev, mVNil_ev, mVDat_ev, mVOwn_ev, mComp, mComp2, wipeD] at e
      simp only [mPure_ev, mBind_ev, mLift_ev, mVar_ev, mOp2_ev, mOp1_ev, mOpL_ev, mBool_ev, mNil_ev, mCons_ev, mStar_ev, mTup_ev, mLst_ev, mOfN_ev, mListOf_ev, mItems_ev, mTrue_ev, seqOf_list, seqOf_tuple, bOf_bool, iOf_int, see_dat, see_no, see_src, see_ownT, see_ownF, okD_F, okA_F, okD_int, okD_bool, okA_nil, okA_ints, okD_ints, okSet_ev, okLen_nil, mIf_ev, mAnd_ev, mOr_ev, mNot_ev, mNoPart_ev, mPart_ev, mSlice_ev, mRange1_ev, mRange2_ev, mRg1_ev, mRg2_ev, mTupRg_ev, mLstRg_ev, mSkip_ev, mRet_ev, mSet_ev, mSetN_ev, mApp_ev, mExt_ev, mSetIx_ev, okY_no, okY_dat, okY_own, mIfS_ev, mVNil_ev, mVDat_ev, mVOwn_ev, mPar_ev, mFor_ev, mAsgT_ev, dAdd_ii, dSub_ii, dLt_ii, dLe_ii, dGt_ii, dGe_ii, dMin2_ii, dMax2_ii, dEqA_ii, dNeA_ii, dNeA_ss, enter_1, enter_2, enter_3, view_nil, view_cons, List.replicate_succ, List.replicate_zero, List.getElem?_cons_zero, List.getElem?_cons_succ, List.set_cons_zero, List.set_cons_succ, Bool.and_true, Bool.true_and, if_true, if_false, Bool.false_eq_true, Option.map_some, Option.bind_some, decide_true, decide_false, dLen_it, dLen_il, mComp, mComp2, wipeD, e]) ((rg 0 n).map .int) (t + 4) τ2 (w2.mono (by rw [List.length_map, rg_len]; omega))
  rw [List.length_map, rg_len] at k1
  have okt : OkT ts := ⟨fun z => by rw [z] at k1; simp at k1; omega, by omega, fun x hx => by have := k2 x hx; omega⟩
  -- b, days
  obtain ⟨rb, τ4, e4, q4, q5, w4⟩ := pick_law (t := t + 3) w3 12 (by decide) (by decide)
  obtain ⟨b, eb⟩ : ∃ b : Nat, 1 + rb = (b : Int) := ⟨(1 + rb).toNat, by omega⟩
  obtain ⟨rd, τ5, e5, q6, q7, w5⟩ := pick_law (t := t + 2) w4 10 (by decide) (by decide)
  obtain ⟨d, ed⟩ : ∃ d : Nat, rd = (d : Int) := ⟨rd.toNat, by omega⟩
  subst ed
  obtain ⟨tt, z9, g9, hleft⟩ := left_ev okt f (by omega) τ3 y2 y9 y10 y11 y12 y13 y14 y15 y16 y17 h9
  obtain ⟨z16, z17, g16, g17, hday⟩ := s14_ev (b := b) (d := d) (τ := τ5) (y2 := y2) (y3 := .dat (.int f)) (y4 := .dat (It ts)) (y5 := .own (.list ((rows ts f f 0 0).map It))) (y6 := .dat (Il [])) (y7 := .dat (.int f)) (y8 := .dat (.int tt)) (y9 := z9) (y14 := .dat (.int (if d < b then (d : Int) else 2 * (b : Int)))) (y16 := y16) (y17 := y17) (by omega) h16 h17
  refine ⟨R18 b d y2 (.dat (.int f)) (.dat (It ts)) (.own (.list ((rows ts f f 0 0).map It))) (.dat (Il [])) (.dat (.int f)) (.dat (.int tt)) z9 (.dat (.int (if d < b then (d : Int) else 2 * (b : Int)))) (.dat (Itt ((List.range d).map fun j => takenAt b (j + 1)))) z16 z17, τ5, ?_, ⟨_, _, _, _, _, _, _, _, _, _, _, _, _, _, _, _, rfl, h2, rfl, rfl, rfl, rfl, rfl, rfl, g9, rfl, rfl, rfl, rfl, rfl, rfl, g16, g17⟩, w5.mono (by omega)⟩
  simp only [mOp2_ev, mOp1_ev, mOpL_ev, mBool_ev, mNil_ev, mCons_ev, mStar_ev, mTup_ev, mLst_ev, mOfN_ev, mListOf_ev, mItems_ev, mTrue_ev, mIf_ev, mAnd_ev, mOr_ev, mNot_ev, mNoPart_ev, mPart_ev, mSlice_ev, mRange1_ev, mRange2_ev, mRg1_ev, mRg2_ev, mTupRg_ev, mLstRg_ev, mVNil_ev, mVDat_ev, mVOwn_ev, mComp, mComp2, wipeD] at e1 e2 e3 e4 e5
  unfold gLap
  refine Eq.trans (seq_nx (ρ1 := F18 y2 (.dat (.int f)) y4 y5 y6 y7 y8 y9 y10 y11 y12 y13 y14 y15 y16 y17) (τ1 := τ1) ?_) ?_
  · simp only [mPure_ev, mBind_ev, mLift_ev, mVar_ev, mOp2_ev, mOp1_ev, mOpL_ev, mBool_ev, mNil_ev, mCons_ev, mStar_ev, mTup_ev, mLst_ev, mOfN_ev, mListOf_ev, mItems_ev, mTrue_ev, seqOf_list, seqOf_tuple, bOf_bool, iOf_int, see_dat, see_no, see_src, see_ownT, see_ownF, okD_F, okA_F, okD_int, okD_bool, okA_nil, okA_ints, okD_ints, okSet_ev, okLen_nil, mIf_ev, mAnd_ev, mOr_ev, mNot_ev, mNoPart_ev, mPart_ev, mSlice_ev, mRange1_ev, mRange2_ev, mRg1_ev, mRg2_ev, mTupRg_ev, mLstRg_ev, mSkip_ev, mRet_ev, mSet_ev, mSetN_ev, mApp_ev, mExt_ev, mSetIx_ev, okY_no, okY_dat, okY_own, mIfS_ev, mVNil_ev, mVDat_ev, mVOwn_ev, mPar_ev, mFor_ev, mAsgT_ev, dAdd_ii, dSub_ii, dLt_ii, dLe_ii, dGt_ii, dGe_ii, dMin2_ii, dMax2_ii, dEqA_ii, dNeA_ii, dNeA_ss, enter_1, enter_2, enter_3, view_nil, view_cons, List.replicate_succ, List.replicate_zero, List.getElem?_cons_zero, List.getElem?_cons_succ, List.set_cons_zero, List.set_cons_succ, Bool.and_true, Bool.true_and, if_true, if_false, Bool.false_eq_true, Option.map_some, Option.bind_some, decide_true, decide_false, dLen_it, dLen_il, mComp, mComp2, wipeD, e1, ef, h3]
  refine Eq.trans (seq_nx (ρ1 := F18 y2 (.dat (.int f)) (.dat (It ts)) y5 y6 y7 y8 y9 y10 y11 y12 y13 y14 y15 y16 y17) (τ1 := τ3) ?_) ?_
  · simp only [mPure_ev, mBind_ev, mLift_ev, mVar_ev, mOp2_ev, mOp1_ev, mOpL_ev, mBool_ev, mNil_ev, mCons_ev, mStar_ev, mTup_ev, mLst_ev, mOfN_ev, mListOf_ev, mItems_ev, mTrue_ev, seqOf_list, seqOf_tuple, bOf_bool, iOf_int, see_dat, see_no, see_src, see_ownT, see_ownF, okD_F, okA_F, okD_int, okD_bool, okA_nil, okA_ints, okD_ints, okSet_ev, okLen_nil, mIf_ev, mAnd_ev, mOr_ev, mNot_ev, mNoPart_ev, mPart_ev, mSlice_ev, mRange1_ev, mRange2_ev, mRg1_ev, mRg2_ev, mTupRg_ev, mLstRg_ev, mSkip_ev, mRet_ev, mSet_ev, mSetN_ev, mApp_ev, mExt_ev, mSetIx_ev, okY_no, okY_dat, okY_own, mIfS_ev, mVNil_ev, mVDat_ev, mVOwn_ev, mPar_ev, mFor_ev, mAsgT_ev, dAdd_ii, dSub_ii, dLt_ii, dLe_ii, dGt_ii, dGe_ii, dMin2_ii, dMax2_ii, dEqA_ii, dNeA_ii, dNeA_ss, enter_1, enter_2, enter_3, view_nil, view_cons, List.replicate_succ, List.replicate_zero, List.getElem?_cons_zero, List.getElem?_cons_succ, List.set_cons_zero, List.set_cons_succ, Bool.and_true, Bool.true_and, if_true, if_false, Bool.false_eq_true, Option.map_some, Option.bind_some, decide_true, decide_false, dLen_it, dLen_il, mComp, mComp2, wipeD, e2, en, hrn, e3, dTuple_list, h4]
  refine Eq.trans (seq_nx (ρ1 := F18 y2 (.dat (.int f)) (.dat (It ts)) (.own (.list [])) (.dat (Il (rg 0 f))) (.dat (.int 0)) (.dat (.int 0)) y9 y10 y11 y12 y13 y14 y15 y16 y17) (τ1 := τ3) ?_) ?_
  · simp only [mPure_ev, mBind_ev, mLift_ev, mVar_ev, mOp2_ev, mOp1_ev, mOpL_ev, mBool_ev, mNil_ev, mCons_ev, mStar_ev, mTup_ev, mLst_ev, mOfN_ev, mListOf_ev, mItems_ev, mTrue_ev, seqOf_list, seqOf_tuple, bOf_bool, iOf_int, see_dat, see_no, see_src, see_ownT, see_ownF, okD_F, okA_F, okD_int, okD_bool, okA_nil, okA_ints, okD_ints, okSet_ev, okLen_nil, mIf_ev, mAnd_ev, mOr_ev, mNot_ev, mNoPart_ev, mPart_ev, mSlice_ev, mRange1_ev, mRange2_ev, mRg1_ev, mRg2_ev, mTupRg_ev, mLstRg_ev, mSkip_ev, mRet_ev, mSet_ev, mSetN_ev, mApp_ev, mExt_ev, mSetIx_ev, okY_no, okY_dat, okY_own, mIfS_ev, mVNil_ev, mVDat_ev, mVOwn_ev, mPar_ev, mFor_ev, mAsgT_ev, dAdd_ii, dSub_ii, dLt_ii, dLe_ii, dGt_ii, dGe_ii, dMin2_ii, dMax2_ii, dEqA_ii, dNeA_ii, dNeA_ss, enter_1, enter_2, enter_3, view_nil, view_cons, List.replicate_succ, List.replicate_zero, List.getElem?_cons_zero, List.getElem?_cons_succ, List.set_cons_zero, List.set_cons_succ, Bool.and_true, Bool.true_and, if_true, if_false, Bool.false_eq_true, Option.map_some, Option.bind_some, decide_true, decide_false, dLen_it, dLen_il, mComp, mComp2, wipeD, hrf, okSlots_4, h5, h6, h7, h8, okV, putS, List.length_cons, List.length_nil]
  refine Eq.trans (seq_nx hleft) ?_
  refine Eq.trans (seq_nx (s5_ev okt f1 (by omega) tt)) ?_
  refine Eq.trans (seq_nx (s6_ev okt f1 (by omega) tt)) ?_
  refine Eq.trans (seq_nx (s7_ev f1 (by omega))) ?_
  refine Eq.trans (seq_nx (ρ1 := F18 y2 (.dat (.int f)) (.dat (It ts)) (.own (.list ((rows ts f f 0 0).map It))) (.dat (Il [])) (.dat (.int f)) (.dat (.int tt)) z9 (.dat (.int (b : Nat))) (.dat (.int (d : Nat))) y12 y13 y14 y15 y16 y17) (τ1 := τ5) ?_) ?_
  · simp only [mPure_ev, mBind_ev, mLift_ev, mVar_ev, mOp2_ev, mOp1_ev, mOpL_ev, mBool_ev, mNil_ev, mCons_ev, mStar_ev, mTup_ev, mLst_ev, mOfN_ev, mListOf_ev, mItems_ev, mTrue_ev, seqOf_list, seqOf_tuple, bOf_bool, iOf_int, see_dat, see_no, see_src, see_ownT, see_ownF, okD_F, okA_F, okD_int, okD_bool, okA_nil, okA_ints, okD_ints, okSet_ev, okLen_nil, mIf_ev, mAnd_ev, mOr_ev, mNot_ev, mNoPart_ev, mPart_ev, mSlice_ev, mRange1_ev, mRange2_ev, mRg1_ev, mRg2_ev, mTupRg_ev, mLstRg_ev, mSkip_ev, mRet_ev, mSet_ev, mSetN_ev, mApp_ev, mExt_ev, mSetIx_ev, okY_no, okY_dat, okY_own, mIfS_ev, mVNil_ev, mVDat_ev, mVOwn_ev, mPar_ev, mFor_ev, mAsgT_ev, dAdd_ii, dSub_ii, dLt_ii, dLe_ii, dGt_ii, dGe_ii, dMin2_ii, dMax2_ii, dEqA_ii, dNeA_ii, dNeA_ss, enter_1, enter_2, enter_3, view_nil, view_cons, List.replicate_succ, List.replicate_zero, List.getElem?_cons_zero, List.getElem?_cons_succ, List.set_cons_zero, List.set_cons_succ, Bool.and_true, Bool.true_and, if_true, if_false, Bool.false_eq_true, Option.map_some, Option.bind_some, decide_true, decide_false, dLen_it, dLen_il, mComp, mComp2, wipeD, e4, e5, eb, okSlots_2, h10, h11, okV, putS, List.length_cons, List.length_nil]
  refine Eq.trans (seq_nx (s9_ev (by omega) h12 h13)) ?_
  refine Eq.trans (seq_nx (s10_ev (by omega) (by omega))) ?_
  refine Eq.trans (seq_nx (s11_ev h14 (by omega))) ?_
  refine Eq.trans (seq_nx (s12_ev (by omega) (by omega) (by omega))) ?_
  refine Eq.trans (seq_nx (s13_ev (by omega) (by omega) (by omega) h15)) ?_
  exact hday
/-! ### the law -/
theorem last_ev (ρ : EnvS) (τ : Src) : mRet (mOp2 dEqA (mOpL m_nested_row (mCons (mPure (.int 3)) (mCons (mTup (mCons (mPure (.int 1)) mNil)) mNil))) (mTup (mCons (mTup (mCons (mPure (.int 0)) (mCons (mPure (.int 1)) (mCons (mPure (.int 2)) mNil)))) (mCons (mTup (mCons (mPure (.int 1)) (mCons (mPure (.int 2)) mNil))) (mCons (mTup (mCons (mPure (.int 2)) mNil)) mNil))))) ρ τ = some (.rt (.bool true), ρ, τ) := by
  have ok1 : OkT [1] := ⟨by simp, by simp, fun t ht => by simp at ht; omega⟩
  have a1 := nested_row_ev ok1 3 (by omega)
  have er : rows [1] 3 3 0 0 = [[0, 1, 2], [1, 2], [2]] := by decide
  rw [er] at a1
  have a2 : m_nested_row [.int 3, .tuple [.int 1]] = some (Itt [[0, 1, 2], [1, 2], [2]]) := a1
  have o1 : okLen [PyData.int 1] = some [.int 1] := okLen_of (by simp)
  have o2 : okLen [PyData.int 0, .int 1, .int 2] = some [.int 0, .int 1, .int 2] := okLen_of (by simp)
  have o3 : okLen [PyData.int 1, .int 2] = some [.int 1, .int 2] := okLen_of (by simp)
  have o4 : okLen [PyData.int 2] = some [.int 2] := okLen_of (by simp)
  have o5 : okLen [PyData.tuple [.int 0, .int 1, .int 2], .tuple [.int 1, .int 2], .tuple [.int 2]] = some [.tuple [.int 0, .int 1, .int 2], .tuple [.int 1, .int 2], .tuple [.int 2]] := okLen_of (by simp)
  have sh : SeqAt.shaped (Itt [[0, 1, 2], [1, 2], [2]]) = true := (lay_itt (k := 0) _).shaped (by decide)
  have eq : PyData.eqv (Itt [[0, 1, 2], [1, 2], [2]]) (Itt [[0, 1, 2], [1, 2], [2]]) = true := eqv_self _ (lay_itt (k := 0) _).1
  have a3 : dEqA (Itt [[0, 1, 2], [1, 2], [2]]) (.tuple [.tuple [.int 0, .int 1, .int 2], .tuple [.int 1, .int 2], .tuple [.int 2]]) = some (.bool true) := by
    show dEqA (Itt [[0, 1, 2], [1, 2], [2]]) (Itt [[0, 1, 2], [1, 2], [2]]) = _
    simp only [dEqA, dOr, dStrs, dEq, okEq, sh, eq, Bool.and_true, if_true]
  simp only [mPure_ev, mBind_ev, mLift_ev, mVar_ev, mOp2_ev, mOp1_ev, mOpL_ev, mBool_ev, mNil_ev, mCons_ev, mStar_ev, mTup_ev, mLst_ev, mOfN_ev, mListOf_ev, mItems_ev, mTrue_ev, seqOf_list, seqOf_tuple, bOf_bool, iOf_int, see_dat, see_no, see_src, see_ownT, see_ownF, okD_F, okA_F, okD_int, okD_bool, okA_nil, okA_ints, okD_ints, okSet_ev, okLen_nil, mIf_ev, mAnd_ev, mOr_ev, mNot_ev, mNoPart_ev, mPart_ev, mSlice_ev, mRange1_ev, mRange2_ev, mRg1_ev, mRg2_ev, mTupRg_ev, mLstRg_ev, mSkip_ev, mRet_ev, mSet_ev, mSetN_ev, mApp_ev, mExt_ev, mSetIx_ev, okY_no, okY_dat, okY_own, mIfS_ev, mVNil_ev, mVDat_ev, mVOwn_ev, mPar_ev, mFor_ev, mAsgT_ev, dAdd_ii, dSub_ii, dLt_ii, dLe_ii, dGt_ii, dGe_ii, dMin2_ii, dMax2_ii, dEqA_ii, dNeA_ii, dNeA_ss, enter_1, enter_2, enter_3, view_nil, view_cons, List.replicate_succ, List.replicate_zero, List.getElem?_cons_zero, List.getElem?_cons_succ, List.set_cons_zero, List.set_cons_succ, Bool.and_true, Bool.true_and, if_true, if_false, Bool.false_eq_true, Option.map_some, Option.bind_some, decide_true, decide_false, dLen_it, dLen_il, mComp, mComp2, wipeD, a2, o1, o2, o3, o4, o5, a3]
theorem plain93 : ∀ ns : List Int, ns.length ≤ 63 → DL.OkNs ns → DL.lawGo 18 W93.g_law ns := by
  intro ns _ _
  obtain ⟨ρ', τ', e1, h1, w1⟩ := for_rg (b := .nm 2) (g := gLap) (enc := fun i : Nat => .int (0 + (i : Nat))) (n := 4) (ρ := F18 .no .no .no .no .no .no .no .no .no .no .no .no .no .no .no .no) (τ := srcOf ns)
    (fun i ρ τ => Ok18 ρ ∧ Wf ((4 - i) * 12) τ) ⟨⟨_, _, _, _, _, _, _, _, _, _, _, _, _, _, _, _, rfl, rfl, rfl, rfl, rfl, rfl, rfl, rfl, rfl, rfl, rfl, rfl, rfl, rfl, rfl, rfl, rfl⟩, (wf_src ns).mono (by decide)⟩ (by
      rintro i ρ τ hi ⟨hρ, hw⟩
      obtain ⟨y2, y3, y4, y5, y6, y7, y8, y9, y10, y11, y12, y13, y14, y15, y16, y17, rfl, h2, h3, h4, h5, h6, h7, h8, h9, h10, h11, h12, h13, h14, h15, h16, h17⟩ := hρ
      obtain ⟨ρ', τ', e, k1, k2⟩ := lap_ev (t := (4 - (i + 1)) * 12) (ρ := F18 (.dat (.int (0 + (i : Nat)))) y3 y4 y5 y6 y7 y8 y9 y10 y11 y12 y13 y14 y15 y16 y17) (hw.mono (by omega)) ⟨_, _, _, _, _, _, _, _, _, _, _, _, _, _, _, _, rfl, rfl, h3, h4, h5, h6, h7, h8, h9, h10, h11, h12, h13, h14, h15, h16, h17⟩
      refine ⟨[(2, .int (0 + (i : Nat)))], rfl, ?_, ρ', τ', .inl e, k1, k2⟩
      unfold okSets
      simp only [List.all_cons, List.all_nil, Bool.and_true]
      simp only [mPure_ev, mBind_ev, mLift_ev, mVar_ev, mOp2_ev, mOp1_ev, mOpL_ev, mBool_ev, mNil_ev, mCons_ev, mStar_ev, mTup_ev, mLst_ev, mOfN_ev, mListOf_ev, mItems_ev, mTrue_ev, seqOf_list, seqOf_tuple, bOf_bool, iOf_int, see_dat, see_no, see_src, see_ownT, see_ownF, okD_F, okA_F, okD_int, okD_bool, okA_nil, okA_ints, okD_ints, okSet_ev, okLen_nil, mIf_ev, mAnd_ev, mOr_ev, mNot_ev, mNoPart_ev, mPart_ev, mSlice_ev, mRange1_ev, mRange2_ev, mRg1_ev, mRg2_ev, mTupRg_ev, mLstRg_ev, mSkip_ev, mRet_ev, mSet_ev, mSetN_ev, mApp_ev, mExt_ev, mSetIx_ev, okY_no, okY_dat, okY_own, mIfS_ev, mVNil_ev, mVDat_ev, mVOwn_ev, mPar_ev, mFor_ev, mAsgT_ev, dAdd_ii, dSub_ii, dLt_ii, dLe_ii, dGt_ii, dGe_ii, dMin2_ii, dMax2_ii, dEqA_ii, dNeA_ii, dNeA_ss, enter_1, enter_2, enter_3, view_nil, view_cons, List.replicate_succ, List.replicate_zero, List.getElem?_cons_zero, List.getElem?_cons_succ, List.set_cons_zero, List.set_cons_succ, Bool.and_true, Bool.true_and, if_true, if_false, Bool.false_eq_true, Option.map_some, Option.bind_some, decide_true, decide_false, dLen_it, dLen_il, mComp, mComp2, wipeD, h2])
  refine ⟨ρ', τ', ?_⟩
  have hr : rangeD 0 4 = some ((List.range 4).map fun i : Nat => .int (0 + (i : Nat))) := rangeD_of (by decide) (by decide) (by decide) (by decide)
  show g_law (F18 .no .no .no .no .no .no .no .no .no .no .no .no .no .no .no .no) (srcOf ns) = _
  unfold g_law
  refine Eq.trans (seq_nx (for_nx (τ1 := srcOf ns) ?_ e1)) (last_ev ρ' τ')
  simp only [mPure_ev, mBind_ev, mLift_ev, mVar_ev, mOp2_ev, mOp1_ev, mOpL_ev, mBool_ev, mNil_ev, mCons_ev, mStar_ev, mTup_ev, mLst_ev, mOfN_ev, mListOf_ev, mItems_ev, mTrue_ev, seqOf_list, seqOf_tuple, bOf_bool, iOf_int, see_dat, see_no, see_src, see_ownT, see_ownF, okD_F, okA_F, okD_int, okD_bool, okA_nil, okA_ints, okD_ints, okSet_ev, okLen_nil, mIf_ev, mAnd_ev, mOr_ev, mNot_ev, mNoPart_ev, mPart_ev, mSlice_ev, mRange1_ev, mRange2_ev, mRg1_ev, mRg2_ev, mTupRg_ev, mLstRg_ev, mSkip_ev, mRet_ev, mSet_ev, mSetN_ev, mApp_ev, mExt_ev, mSetIx_ev, okY_no, okY_dat, okY_own, mIfS_ev, mVNil_ev, mVDat_ev, mVOwn_ev, mPar_ev, mFor_ev, mAsgT_ev, dAdd_ii, dSub_ii, dLt_ii, dLe_ii, dGt_ii, dGe_ii, dMin2_ii, dMax2_ii, dEqA_ii, dNeA_ii, dNeA_ss, enter_1, enter_2, enter_3, view_nil, view_cons, List.replicate_succ, List.replicate_zero, List.getElem?_cons_zero, List.getElem?_cons_succ, List.set_cons_zero, List.set_cons_succ, Bool.and_true, Bool.true_and, if_true, if_false, Bool.false_eq_true, Option.map_some, Option.bind_some, decide_true, decide_false, dLen_it, dLen_il, mComp, mComp2, wipeD, hr]
end W93

open PySem PySem.W PyProof.Rows
set_option maxHeartbeats 0 in
theorem PySem.Challenge.cw_beforeitcomes_k93_whole_nothing_below_f_holds : PySem.Challenge.rw_beforeitcomes_k93_whole_nothing_below_f.Holds := by
  w_on; o_law; k_head; (case hw => w_witness2)
  k_fill
  refine DL.row_walk (l := PySem.Challenge.rw_beforeitcomes_k93_whole_nothing_below_f) (k := 5) rfl rfl ⟨rfl, by decide, by decide⟩ (fun w h Y => PySem.W.kIn_of Y) ?G W93.plain93
  case G =>
    intro w mg fa h KX G hmg
    refine' W93.all_here KX G hmg ?a0 ?l0 ?c0 ?k0 ?a1 ?l1 ?c1 ?k1 ?a2 ?l2 ?c2 ?k2 ?a3 ?l3 ?c3 ?k3 ?a4 ?l4 ?c4 ?k4 ?a5 ?l5 ?c5 ?k5 ?a6 ?l6 ?c6 ?k6 ?a7 ?l7 ?c7 ?k7 ?a8 ?l8 ?c8 ?k8 ?a9 ?l9 ?c9 ?k9 ?a10 ?l10 ?c10 ?k10 ?a11 ?l11 ?c11 ?k11 ?a12 ?l12 ?c12 ?k12 ?a13 ?l13 ?c13 ?k13 ?a14 ?l14 ?c14 ?k14 ?a15 ?l15 ?c15 ?k15 ?a16 ?l16 ?c16 ?k16 ?a17 ?l17 ?c17 ?k17 ?a18 ?l18 ?c18 ?k18 ?y_abs ?y_all ?y_any ?y_enumerate ?y_int ?y_len ?y_list ?y_max ?y_min ?y_range ?y_repr ?y_sorted ?y_sum ?y_tuple
    (case a0 => k_is); (case l0 => k_is); (case c0 => k_is); (case k0 => k_is); (case a1 => k_is); (case l1 => k_is); (case c1 => k_is); (case k1 => k_is); (case a2 => k_is); (case l2 => k_is); (case c2 => k_is); (case k2 => k_is); (case a3 => k_is); (case l3 => k_is); (case c3 => k_is); (case k3 => k_is); (case a4 => k_is); (case l4 => k_is); (case c4 => k_is); (case k4 => k_is); (case a5 => k_is); (case l5 => k_is); (case c5 => k_is); (case k5 => k_is); (case a6 => k_is); (case l6 => k_is); (case c6 => k_is); (case k6 => k_is); (case a7 => k_is); (case l7 => k_is); (case c7 => k_is); (case k7 => k_is); (case a8 => k_is); (case l8 => k_is); (case c8 => k_is); (case k8 => k_is); (case a9 => k_is); (case l9 => k_is); (case c9 => k_is); (case k9 => k_is); (case a10 => k_is); (case l10 => k_is); (case c10 => k_is); (case k10 => k_is); (case a11 => k_is); (case l11 => k_is); (case c11 => k_is); (case k11 => k_is); (case a12 => k_is); (case l12 => k_is); (case c12 => k_is); (case k12 => k_is); (case a13 => k_is); (case l13 => k_is); (case c13 => k_is); (case k13 => k_is); (case a14 => k_is); (case l14 => k_is); (case c14 => k_is); (case k14 => k_is); (case a15 => k_is); (case l15 => k_is); (case c15 => k_is); (case k15 => k_is); (case a16 => k_is); (case l16 => k_is); (case c16 => k_is); (case k16 => k_is); (case a17 => k_is); (case l17 => k_is); (case c17 => k_is); (case k17 => k_is); (case a18 => k_is); (case l18 => k_is); (case c18 => k_is); (case k18 => k_is); (case y_abs => k_is); (case y_all => k_is); (case y_any => k_is); (case y_enumerate => k_is); (case y_int => k_is); (case y_len => k_is); (case y_list => k_is); (case y_max => k_is); (case y_min => k_is); (case y_range => k_is); (case y_repr => k_is); (case y_sorted => k_is); (case y_sum => k_is); (case y_tuple => k_is)

