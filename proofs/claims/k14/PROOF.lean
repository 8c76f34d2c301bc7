import PyProof.Rows.All
import Wide.All
import OpenK.AllK
import Wide.FinOn
import HandS.ForMost
import HandS.Wide
import HandS.IsInst
import HandS.SortInts
import HandS.Deep
import HandS.Exc
import HandS.TryOnly
import HandS.ExcOwn
import HandS.WordsExc
import HandS.Lambda
import HandS.EndTab
import HandS.Evl
import KE.DataCmp
import HandS.More
import KE.SortKeyHeap
import KE.KSortKey
import HandS.Keys
import HandS.SortKw
import HandS.ExcIs
import HandS.Comp
import KE.GoesComp
import KE.GoesRaise
import HandS.ReplaceLit
import PySem.Challenge.RW_sumtimes_k14_read
set_option Elab.async false
set_option linter.all false
set_option maxRecDepth 100000
set_option maxHeartbeats 4000000
/-! SmA: the frame: extension of heaps, evaluation, statements. -/
namespace Sm
open PySem PySem.Spec PyProof.Rows L2

abbrev vz (ns : List Int) : List V := ns.map V.int
abbrev Tb := List (Addr × Str)
/-- later heaps: what was tracked stands (tables of code objects grow), what is new was free -/
structure Ex (T : Tb) (H H' : Hp) : Prop where
  k : ∀ a o, H a = some o → (∀ ps, o ≠ .tbl ps) → H' a = some o
  t : LamX.Tabs T H → LamX.Tabs T H'
  n : ∀ a, H' a = none → H a = none
section
variable {T : Tb} {K : PySem.W.Frag} {H H1 H2 : Hp} {a p l : Addr} {o : HO} {xs ys : List V}
theorem Ex.refl : Ex T H H := ⟨fun _ _ h _ => h, fun h => h, fun _ h => h⟩
theorem Ex.trans (e : Ex T H H1) (f : Ex T H1 H2) : Ex T H H2 := ⟨fun b u h q => f.k b u (e.k b u h q) q, fun h => f.t (e.t h), fun b h => e.n b (f.n b h)⟩
theorem Ex.of (h : ∀ b u, H b = some u → H1 b = some u) : Ex T H H1 := ⟨fun b u e _ => h b u e, fun t => t.ext h, fun b e => by
  cases q : H b with
  | none => rfl
  | some u => rw [h b u q] at e; cases e⟩
theorem Ex.new (h : H p = none) : Ex T H (upd H p o) := .of fun b u e => by rw [upd_ne (ne_of_none e h)]; exact e
theorem Ex.lst (e : Ex T H H1) (h : H a = some (.lst xs)) : H1 a = some (.lst xs) := e.k _ _ h fun _ z => nomatch z
theorem Ex.tup (e : Ex T H H1) (h : H a = some (.tup xs)) : H1 a = some (.tup xs) := e.k _ _ h fun _ z => nomatch z
theorem Ex.dT {kv} (e : Ex T H H1) (h : H a = some (.dT kv)) : H1 a = some (.dT kv) := e.k _ _ h fun _ z => nomatch z
theorem Ex.sq (e : Ex T H H1) (h : SqL K H a xs) : SqL K H1 a xs := by
  rcases h with (h | ⟨w, h⟩) | h
  · exact .inl (.inl (e.lst h))
  · exact .inl (.inr ⟨w, e.k _ _ h fun _ z => nomatch z⟩)
  · exact .inr h
theorem Ex.sqt (e : Ex T H H1) (h : SqT K H a xs) : SqT K H1 a xs := by
  rcases h with (h | ⟨w, h⟩) | h
  · exact .inl (.inl (e.tup h))
  · exact .inl (.inr ⟨w, e.k _ _ h fun _ z => nomatch z⟩)
  · exact .inr h
/-- a list of one's own is changed -/
theorem Ex.mut (e : Ex T H H1) (h0 : H l = none) (h1 : H1 l = some (.lst xs)) : Ex T H (upd H1 l (.lst ys)) := by
  refine ⟨fun b u h q => ?_, fun t => ?_, fun b h => ?_⟩
  · rw [upd_ne (ne_of_none h h0)]
    exact e.k b u h q
  · intro x hx
    obtain ⟨ps, t1, t2, t3⟩ := e.t t x hx
    refine ⟨ps, ?_, t2, fun pos cv hc => ?_⟩
    · rw [upd_ne (ne_of t1 h1 (by intro z; cases z))]
      exact t1
    · obtain ⟨c, c1, c2⟩ := t3 pos cv hc
      refine ⟨c, c1, ?_⟩
      rw [upd_ne (ne_of c2 h1 (by intro z; unfold LamX.CodeO at z; cases z))]
      exact c2
  · by_cases hb : b = l
    · rw [hb]; exact h0
    · rw [upd_ne hb] at h
      exact e.n b h
theorem Ex.mutT {kv kv'} (e : Ex T H H1) (h0 : H l = none) (h1 : H1 l = some (.dT kv)) : Ex T H (upd H1 l (.dT kv')) := by
  refine ⟨fun b u h q => ?_, fun t => ?_, fun b h => ?_⟩
  · rw [upd_ne (ne_of_none h h0)]
    exact e.k b u h q
  · intro x hx
    obtain ⟨ps, t1, t2, t3⟩ := e.t t x hx
    refine ⟨ps, ?_, t2, fun pos cv hc => ?_⟩
    · rw [upd_ne (ne_of t1 h1 (by intro z; cases z))]
      exact t1
    · obtain ⟨c, c1, c2⟩ := t3 pos cv hc
      refine ⟨c, c1, ?_⟩
      rw [upd_ne (ne_of c2 h1 (by intro z; unfold LamX.CodeO at z; cases z))]
      exact c2
  · by_cases hb : b = l
    · rw [hb]; exact h0
    · rw [upd_ne hb] at h
      exact e.n b h
/-- the heap without one object: what is known there does not hang on it -/
def rm (H : Hp) (D : Addr) : Hp := fun b => if b = D then none else H b
theorem rm_at {D : Addr} : rm H D D = none := if_pos rfl
theorem rm_ne {D b : Addr} (h : b ≠ D) : rm H D b = H b := if_neg h
theorem rm_upd {D : Addr} {u : HO} : rm (upd H D u) D = rm H D := by
  funext b
  by_cases h : b = D
  · rw [h, rm_at, rm_at]
  · rw [rm_ne h, rm_ne h, upd_ne h]
end

/-! ### what evaluates to what -/
def Ev (T : Tb) (te : TE) (σ : L2.St) (H : Hp) (v : V) : Prop := ∀ H1, Ex T H H1 → ∀ Q : VK, (∀ H2, Ex T H1 H2 → Q v H2) → te σ H1 Q
def EvL (T : Tb) (te : TE) (σ : L2.St) (H : Hp) (xs : List V) : Prop := ∀ H1, Ex T H H1 → ∀ Q : VK, (∀ p H2, H1 p = none → Ex T H1 H2 → H2 p = some (.lst xs) → Q (.ref p) H2) → te σ H1 Q
def EvU (T : Tb) (te : TE) (σ : L2.St) (H : Hp) (xs : List V) : Prop := ∀ H1, Ex T H H1 → ∀ Q : VK, (∀ p H2, H1 p = none → Ex T H1 H2 → H2 p = some (.tup xs) → Q (.ref p) H2) → te σ H1 Q
def EvR (T : Tb) (te : TE) (σ : L2.St) (H : Hp) (R : Hp → V → Hp → Prop) : Prop := ∀ H1, Ex T H H1 → ∀ Q : VK, (∀ v H2, Ex T H1 H2 → R H1 v H2 → Q v H2) → te σ H1 Q
def EvT (T : Tb) (tt : TT) (σ : L2.St) (H : Hp) (b : Bool) : Prop := ∀ H1, Ex T H H1 → ∀ Q : Bool → Hp → Prop, (∀ H2, Ex T H1 H2 → Q b H2) → tt σ H1 Q
def EvA (T : Tb) (ta : TA) (σ : L2.St) (H : Hp) (vs : List V) : Prop := ∀ H1, Ex T H H1 → ∀ Q : List V → Hp → Prop, (∀ H2, Ex T H1 H2 → Q vs H2) → ta σ H1 Q
def EvO (T : Tb) (to : TO) (σ : L2.St) (H : Hp) (o : Option Int) : Prop := ∀ H1, Ex T H H1 → ∀ Q : Option Int → Hp → Prop, (∀ H2, Ex T H1 H2 → Q o H2) → to σ H1 Q
section
variable {T : Tb} {K : PySem.W.Frag} {σ : L2.St} {H H' : Hp} {ta tb te tc : TE} {t u : TT} {x y z v : V} {xs ys : List V} {a p l : Addr} {i j : Int}
theorem Ev.mono (h : Ev T te σ H v) (e : Ex T H H') : Ev T te σ H' v := fun H1 f Q q => h H1 (e.trans f) Q q
theorem EvT.mono {b : Bool} (h : EvT T t σ H b) (e : Ex T H H') : EvT T t σ H' b := fun H1 f Q q => h H1 (e.trans f) Q q
theorem Ev.is {w : V} (h : Ev T te σ H v) (e : v = w) : Ev T te σ H w := e ▸ h
theorem EvT.is {b c : Bool} (h : EvT T t σ H b) (e : b = c) : EvT T t σ H c := e ▸ h
theorem EvL.is (h : EvL T te σ H xs) (e : xs = ys) : EvL T te σ H ys := e ▸ h
theorem Ev.as {w : V} (e : v = w) (h : Ev T te σ H v) : Ev T te σ H w := e ▸ h
theorem EvL.as (e : xs = ys) (h : EvL T te σ H xs) : EvL T te σ H ys := e ▸ h
theorem EvT.as {b c : Bool} (e : b = c) (h : EvT T t σ H b) : EvT T t σ H c := e ▸ h
theorem ev_var {n : Nat} (h : σ[n]? = some (some v)) : Ev T (tVar n) σ H v := fun H1 _ _ q => ⟨v, h, q H1 .refl⟩
theorem ev_c : Ev T (tC v) σ H v := fun H1 _ _ q => q H1 .refl
theorem ev_I0 {g : Int → Int → V} (ha : Ev T ta σ H (.int i)) (hb : Ev T tb σ H (.int j)) : Ev T (tOp (rI0 g) ta tb) σ H (g i j) := fun H1 e Q q =>
  ha H1 e _ fun H2 e2 => hb H2 (e.trans e2) _ fun H3 e3 => ⟨i, j, rfl, rfl, q H3 (e2.trans e3)⟩
theorem ev_I {C : Int → Int → Prop} {g : Int → Int → V} (ha : Ev T ta σ H (.int i)) (hb : Ev T tb σ H (.int j)) (hc : C i j) : Ev T (tOp (rI C g) ta tb) σ H (g i j) := fun H1 e Q q =>
  ha H1 e _ fun H2 e2 => hb H2 (e.trans e2) _ fun H3 e3 => ⟨i, j, rfl, rfl, hc, q H3 (e2.trans e3)⟩
theorem ev_eq (ha : Ev T ta σ H x) (hb : Ev T tb σ H y) (hs : scal x y = true) : Ev T (tOp rEq ta tb) σ H (.bl (decide (x = y))) := fun H1 e Q q =>
  ha H1 e _ fun H2 e2 => hb H2 (e.trans e2) _ fun H3 e3 => ⟨hs, q H3 (e2.trans e3)⟩
theorem ev_ne (ha : Ev T ta σ H x) (hb : Ev T tb σ H y) (hs : scal x y = true) : Ev T (tOp rNe ta tb) σ H (.bl (!decide (x = y))) := fun H1 e Q q =>
  ha H1 e _ fun H2 e2 => hb H2 (e.trans e2) _ fun H3 e3 => ⟨hs, q H3 (e2.trans e3)⟩
theorem ev_un {g : Int → V} (ha : Ev T ta σ H (.int i)) : Ev T (tUn (rU g) ta) σ H (g i) := fun H1 e Q q => ha H1 e _ fun H2 e2 => ⟨i, rfl, q H2 e2⟩
theorem ev_ixL (ha : Ev T ta σ H (.ref p)) (hb : Ev T tb σ H (.int i)) (h : SqL K H p xs) (hv : atI xs i = some v) : Ev T (tOp (rIxL K) ta tb) σ H v := fun H1 e Q q =>
  ha H1 e _ fun H2 e2 => hb H2 (e.trans e2) _ fun H3 e3 => ⟨p, xs, i, v, rfl, rfl, ((e.trans e2).trans e3).sq h, hv, q H3 (e2.trans e3)⟩
theorem ev_ixT (ha : Ev T ta σ H (.ref p)) (hb : Ev T tb σ H (.int i)) (h : SqT K H p xs) (hv : atI xs i = some v) : Ev T (tOp (rIxT K) ta tb) σ H v := fun H1 e Q q =>
  ha H1 e _ fun H2 e2 => hb H2 (e.trans e2) _ fun H3 e3 => ⟨p, xs, i, v, rfl, rfl, ((e.trans e2).trans e3).sqt h, hv, q H3 (e2.trans e3)⟩
/-- len of a list, a tuple -/
def rLenS (K : PySem.W.Frag) : List V → Hp → VK → Prop := fun vs H Q => ∃ p ys, vs = [.ref p] ∧ (SqL K H p ys ∨ SqT K H p ys) ∧ Q (.int ys.length) H
def rListS (K : PySem.W.Frag) : List V → Hp → VK → Prop := fun vs H Q => ∃ p ys, vs = [.ref p] ∧ (SqL K H p ys ∨ SqT K H p ys) ∧ ∀ l, H l = none → Q (.ref l) (upd H l (.lst ys))
theorem ev_len (ha : Ev T ta σ H (.ref p)) (h : SqL K H p xs) : Ev T (tCB (rLenS K) (tCons ta tNil)) σ H (.int (xs.length : Int)) := fun H1 e Q q =>
  ha H1 e _ fun H2 e2 => ⟨p, xs, rfl, .inl ((e.trans e2).sq h), q H2 e2⟩
theorem ev_lenT (ha : Ev T ta σ H (.ref p)) (h : SqT K H p xs) : Ev T (tCB (rLenS K) (tCons ta tNil)) σ H (.int (xs.length : Int)) := fun H1 e Q q =>
  ha H1 e _ fun H2 e2 => ⟨p, xs, rfl, .inr ((e.trans e2).sqt h), q H2 e2⟩
theorem ev_sum {ns : List Int} (ha : Ev T ta σ H (.ref p)) (h : SqL K H p (vz ns)) : Ev T (tCB (rSum K) (tCons ta tNil)) σ H (.int ns.sum) := fun H1 e Q q =>
  ha H1 e _ fun H2 e2 => ⟨p, ns, rfl, (e.trans e2).sq h, q H2 e2⟩
theorem ev_sumN {ns : List Int} (ha : EvL T ta σ H (vz ns)) : Ev T (tCB (rSum K) (tCons ta tNil)) σ H (.int ns.sum) := fun H1 e Q q =>
  ha H1 e _ fun p H2 _ e2 hp => ⟨p, ns, rfl, SqL.of hp, q H2 e2⟩
theorem el_list (ha : Ev T ta σ H (.ref p)) (h : SqL K H p xs) : EvL T (tCB (rListS K) (tCons ta tNil)) σ H xs := fun H1 e Q q =>
  ha H1 e _ fun H2 e2 => ⟨p, xs, rfl, .inl ((e.trans e2).sq h), fun l hl => q l _ (e2.n l hl) (e2.trans (.new hl)) upd_same⟩
theorem el_listN (ha : EvL T ta σ H xs) : EvL T (tCB (rListS K) (tCons ta tNil)) σ H xs := fun H1 e Q q =>
  ha H1 e _ fun p H2 _ e2 hp => ⟨p, xs, rfl, .inl (SqL.of hp), fun l hl => q l _ (e2.n l hl) (e2.trans (.new hl)) upd_same⟩
theorem et_test {b : Bool} (h : Ev T te σ H (.bl b)) : EvT T (tTest te) σ H b := fun H1 e _ q => h H1 e _ fun H2 e2 => ⟨b, rfl, q H2 e2⟩
theorem et_B {b : Bool} (h : Ev T te σ H (.bl b)) : EvT T (tB te) σ H b := fun H1 e _ q => h H1 e _ fun H2 e2 => ⟨b, rfl, q H2 e2⟩
theorem et_and {b c : Bool} (h1 : EvT T t σ H b) (h2 : b = true → EvT T u σ H c) : EvT T (tAnd t u) σ H (b && c) := fun H1 e Q q => h1 H1 e _ fun H2 e2 => by
  cases b with
  | true => exact iteT (h2 rfl H2 (e.trans e2) Q fun H3 e3 => q H3 (e2.trans e3))
  | false => exact iteF (q H2 e2)
theorem et_or {b c : Bool} (h1 : EvT T t σ H b) (h2 : b = false → EvT T u σ H c) : EvT T (tOr t u) σ H (b || c) := fun H1 e Q q => h1 H1 e _ fun H2 e2 => by
  cases b with
  | true => exact iteT (q H2 e2)
  | false => exact iteF (h2 rfl H2 (e.trans e2) Q fun H3 e3 => q H3 (e2.trans e3))
theorem et_not {b : Bool} (h1 : EvT T t σ H b) : EvT T (tNot t) σ H (!b) := fun H1 e _ q => h1 H1 e _ fun H2 e2 => q H2 e2
theorem ev_andV {b c : Bool} (h1 : Ev T ta σ H (.bl b)) (h2 : b = true → Ev T tb σ H (.bl c)) : Ev T (tAndV ta tb) σ H (.bl (b && c)) := fun H1 e Q q => h1 H1 e _ fun H2 e2 => ⟨b, rfl, by
  cases b with
  | true => exact iteT (h2 rfl H2 (e.trans e2) Q fun H3 e3 => q H3 (e2.trans e3))
  | false => exact iteF (q H2 e2)⟩
theorem ev_orV {b c : Bool} (h1 : Ev T ta σ H (.bl b)) (h2 : b = false → Ev T tb σ H (.bl c)) : Ev T (tOrV ta tb) σ H (.bl (b || c)) := fun H1 e Q q => h1 H1 e _ fun H2 e2 => ⟨b, rfl, by
  cases b with
  | true => exact iteT (q H2 e2)
  | false => exact iteF (h2 rfl H2 (e.trans e2) Q fun H3 e3 => q H3 (e2.trans e3))⟩
theorem ev_notV {b : Bool} (h1 : Ev T ta σ H (.bl b)) : Ev T (tNotV ta) σ H (.bl (!b)) := fun H1 e _ q => h1 H1 e _ fun H2 e2 => ⟨b, rfl, q H2 e2⟩
theorem ea_nil : EvA T tNil σ H [] := fun H1 _ _ q => q H1 .refl
theorem ea_cons {tr : TA} {vs : List V} (h : Ev T ta σ H x) (hr : EvA T tr σ H vs) : EvA T (tCons ta tr) σ H (x :: vs) := fun H1 e _ q =>
  h H1 e _ fun H2 e2 => hr H2 (e.trans e2) _ fun H3 e3 => q H3 (e2.trans e3)
theorem eu_tup {tr : TA} {vs : List V} (h : EvA T tr σ H vs) (hl : vs.length ≤ 1000) : EvU T (tTup tr) σ H vs := fun H1 e _ q =>
  h H1 e _ fun H2 e2 => ⟨Nat.le_of_lt (small1000 hl), fun p hp => q p _ (e2.n p hp) (e2.trans (.new hp)) upd_same⟩
theorem el_lst {tr : TA} {vs : List V} (h : EvA T tr σ H vs) (hl : vs.length ≤ 1000) : EvL T (tLst tr) σ H vs := fun H1 e _ q =>
  h H1 e _ fun H2 e2 => ⟨Nat.le_of_lt (small1000 hl), fun p hp => q p _ (e2.n p hp) (e2.trans (.new hp)) upd_same⟩
theorem eo_none : EvO T tNoPart σ H none := fun H1 _ _ q => q H1 .refl
theorem eo_some (h : Ev T te σ H (.int i)) : EvO T (tPart te) σ H (some i) := fun H1 e _ q => h H1 e _ fun H2 e2 => ⟨i, rfl, q H2 e2⟩
theorem el_sl {tl th : TO} {lo hi : Option Int} (h : Ev T te σ H (.ref a)) (h1 : EvO T tl σ H lo) (h2 : EvO T th σ H hi) (hs : SqL K H a xs) : EvL T (tSl (rSlL K) te tl th) σ H (cutV xs lo hi) := fun H1 e _ q =>
  h H1 e _ fun H2 e2 => h1 H2 (e.trans e2) _ fun H3 e3 => h2 H3 ((e.trans e2).trans e3) _ fun H4 e4 =>
    ⟨a, xs, rfl, (((e.trans e2).trans e3).trans e4).sq hs, fun p hp => q p _ (((e2.trans e3).trans e4).n p hp) (((e2.trans e3).trans e4).trans (.new hp)) upd_same⟩
/-- xs + ys: both tracked; the second one new, or both -/
theorem el_catN (ha : Ev T ta σ H (.ref a)) (h : H a = some (.lst xs)) (hb : EvL T tb σ H ys) (hl : xs.length + ys.length ≤ 1000) : EvL T (tOp rCat ta tb) σ H (xs ++ ys) := fun H1 e _ q =>
  ha H1 e _ fun H2 e2 => hb H2 (e.trans e2) _ fun b H3 _ e3 hb3 => ⟨a, b, xs, ys, rfl, rfl, ((e.trans e2).trans e3).lst h, hb3, Nat.le_of_lt (small1000 hl), fun p hp => q p _ ((e2.trans e3).n p hp) ((e2.trans e3).trans (.new hp)) upd_same⟩
theorem el_catNN (ha : EvL T ta σ H xs) (hb : EvL T tb σ H ys) (hl : xs.length + ys.length ≤ 1000) : EvL T (tOp rCat ta tb) σ H (xs ++ ys) := fun H1 e _ q =>
  ha H1 e _ fun a H2 _ e2 h2 => hb H2 (e.trans e2) _ fun b H3 _ e3 hb3 => ⟨a, b, xs, ys, rfl, rfl, e3.lst h2, hb3, Nat.le_of_lt (small1000 hl), fun p hp => q p _ ((e2.trans e3).n p hp) ((e2.trans e3).trans (.new hp)) upd_same⟩
theorem el_catNL (ha : EvL T ta σ H xs) (hb : Ev T tb σ H (.ref a)) (h : H a = some (.lst ys)) (hl : xs.length + ys.length ≤ 1000) : EvL T (tOp rCat ta tb) σ H (xs ++ ys) := fun H1 e _ q =>
  ha H1 e _ fun b H2 _ e2 h2 => hb H2 (e.trans e2) _ fun H3 e3 => ⟨b, a, xs, ys, rfl, rfl, e3.lst h2, ((e.trans e2).trans e3).lst h, Nat.le_of_lt (small1000 hl), fun p hp => q p _ ((e2.trans e3).n p hp) ((e2.trans e3).trans (.new hp)) upd_same⟩
/-- calls of a def: by its promise -/
theorem ev_call {sp : Sp} {E : XK} {tr : TA} {vs : List V} (h : EvA T tr σ H vs) (hs : ∀ H1, Ex T H H1 → ∀ Q : VK, (∀ H2, Ex T H1 H2 → Q z H2) → sp vs H1 Q E) : Ev T (tCall sp [] E tr) σ H z := fun H1 e Q q =>
  h H1 e _ fun H2 e2 => by
    show sp (vs ++ []) H2 Q E
    rw [List.append_nil]
    exact hs H2 (e.trans e2) Q fun H3 e3 => q H3 (e2.trans e3)
theorem el_call {sp : Sp} {E : XK} {tr : TA} {vs : List V} (h : EvA T tr σ H vs) (hs : ∀ H1, Ex T H H1 → ∀ Q : VK, (∀ p H2, H1 p = none → Ex T H1 H2 → H2 p = some (.lst xs) → Q (.ref p) H2) → sp vs H1 Q E) : EvL T (tCall sp [] E tr) σ H xs := fun H1 e Q q =>
  h H1 e _ fun H2 e2 => by
    show sp (vs ++ []) H2 Q E
    rw [List.append_nil]
    exact hs H2 (e.trans e2) Q fun p H3 hp e3 h3 => q p H3 (e2.n p hp) (e2.trans e3) h3
theorem er_call {sp : Sp} {E : XK} {tr : TA} {vs : List V} {R : Hp → V → Hp → Prop} (h : EvA T tr σ H vs) (hs : ∀ H1, Ex T H H1 → ∀ Q : VK, (∀ v H2, Ex T H1 H2 → R H1 v H2 → Q v H2) → sp vs H1 Q E)
    (hR : ∀ H1 H2 v H3, Ex T H1 H2 → R H2 v H3 → R H1 v H3) : EvR T (tCall sp [] E tr) σ H R := fun H1 e Q q =>
  h H1 e _ fun H2 e2 => by
    show sp (vs ++ []) H2 Q E
    rw [List.append_nil]
    exact hs H2 (e.trans e2) Q fun v H3 e3 r => q v H3 (e2.trans e3) (hR H1 H2 v H3 e2 r)

/-! ### statements -/
variable {D : Ends} {tu tw tz : TS} {g : TG}
theorem s_asg {n : Nat} (h : Ev T te σ H v) (k : ∀ H1, Ex T H H1 → D.nx (σ.set n (some v)) H1) : tAsg te (gName n) D σ H := h H .refl _ fun H1 e => k H1 e
theorem s_asgL {n : Nat} (h : EvL T te σ H xs) (k : ∀ p H1, H p = none → Ex T H H1 → H1 p = some (.lst xs) → D.nx (σ.set n (some (.ref p))) H1) : tAsg te (gName n) D σ H := h H .refl _ fun p H1 hp e h1 => k p H1 hp e h1
theorem s_asgU {n : Nat} (h : EvU T te σ H xs) (k : ∀ p H1, H p = none → Ex T H H1 → H1 p = some (.tup xs) → D.nx (σ.set n (some (.ref p))) H1) : tAsg te (gName n) D σ H := h H .refl _ fun p H1 hp e h1 => k p H1 hp e h1
theorem s_asgR {n : Nat} {R : Hp → V → Hp → Prop} (h : EvR T te σ H R) (k : ∀ v H1, Ex T H H1 → R H v H1 → D.nx (σ.set n (some v)) H1) : tAsg te (gName n) D σ H := h H .refl _ fun v H1 e r => k v H1 e r
theorem s_ret (h : Ev T te σ H v) (k : ∀ H1, Ex T H H1 → D.rt v H1) : tRet te D σ H := h H .refl _ k
theorem s_retL (h : EvL T te σ H xs) (k : ∀ p H1, H p = none → Ex T H H1 → H1 p = some (.lst xs) → D.rt (.ref p) H1) : tRet te D σ H := h H .refl _ k
theorem s_retU (h : EvU T te σ H xs) (k : ∀ p H1, H p = none → Ex T H H1 → H1 p = some (.tup xs) → D.rt (.ref p) H1) : tRet te D σ H := h H .refl _ k
theorem s_retR {R : Hp → V → Hp → Prop} (h : EvR T te σ H R) (k : ∀ v H1, Ex T H H1 → R H v H1 → D.rt v H1) : tRet te D σ H := h H .refl _ k
theorem s_drop (h : Ev T te σ H v) (k : ∀ H1, Ex T H H1 → D.nx σ H1) : tDrop te D σ H := h H .refl _ k
theorem s_if {b : Bool} (h : EvT T t σ H b) (h1 : b = true → ∀ H1, Ex T H H1 → tu D σ H1) (h2 : b = false → ∀ H1, Ex T H H1 → tw D σ H1) : tIfS t tu tw D σ H := h H .refl _ fun H1 e => by
  cases b with
  | true => exact iteT (h1 rfl H1 e)
  | false => exact iteF (h2 rfl H1 e)
/-- xs.append(e) -/
theorem s_app (hl : H l = some (.lst xs)) (ha : Ev T ta σ H (.ref l)) (h : Ev T te σ H v) (hz : xs.length < 100000) (k : ∀ H1, Ex T H H1 → H1 l = some (.lst xs) → D.nx σ (upd H1 l (.lst (xs ++ [v])))) :
    tDrop (tBM K "list" rAppend ta (tCons te tNil)) D σ H := ha H .refl _ fun H1 e1 =>
  ⟨.inl ⟨rfl, xs, SqL.of (e1.lst hl)⟩, h H1 e1 _ fun H2 e2 => ⟨l, xs, v, rfl, rfl, (e1.trans e2).lst hl, Nat.lt_of_lt_of_le hz (by decide), k H2 (e1.trans e2) ((e1.trans e2).lst hl)⟩⟩
theorem s_appL (hl : H l = some (.lst xs)) (ha : Ev T ta σ H (.ref l)) (h : EvL T te σ H ys) (hz : xs.length < 100000) (k : ∀ p H1, H p = none → Ex T H H1 → H1 p = some (.lst ys) → H1 l = some (.lst xs) → D.nx σ (upd H1 l (.lst (xs ++ [.ref p])))) :
    tDrop (tBM K "list" rAppend ta (tCons te tNil)) D σ H := ha H .refl _ fun H1 e1 =>
  ⟨.inl ⟨rfl, xs, SqL.of (e1.lst hl)⟩, h H1 e1 _ fun p H2 hp e2 h2 => ⟨l, xs, .ref p, rfl, rfl, (e1.trans e2).lst hl, Nat.lt_of_lt_of_le hz (by decide), k p H2 (e1.n p hp) (e1.trans e2) h2 ((e1.trans e2).lst hl)⟩⟩
theorem s_appR {R : Hp → V → Hp → Prop} (hl : H l = some (.lst xs)) (ha : Ev T ta σ H (.ref l)) (h : EvR T te σ H R) (hz : xs.length < 100000) (k : ∀ v H1, Ex T H H1 → R H v H1 → H1 l = some (.lst xs) → D.nx σ (upd H1 l (.lst (xs ++ [v]))))
    (hR : ∀ H1 H2 v H3, Ex T H1 H2 → R H2 v H3 → R H1 v H3) :
    tDrop (tBM K "list" rAppend ta (tCons te tNil)) D σ H := ha H .refl _ fun H1 e1 =>
  ⟨.inl ⟨rfl, xs, SqL.of (e1.lst hl)⟩, h H1 e1 _ fun v H2 e2 r => ⟨l, xs, v, rfl, rfl, (e1.trans e2).lst hl, Nat.lt_of_lt_of_le hz (by decide), k v H2 (e1.trans e2) (hR _ _ _ _ e1 r) ((e1.trans e2).lst hl)⟩⟩
/-- loops: Pv of the turn, the slots, the heap -/
theorem s_forR1 {tr : TA} {n : Nat} {m : Int} (h : EvA T tr σ H [.int m]) (hm : m ≤ 1000000) (h2 : -1000000 ≤ m) (Pv : Nat → L2.St → Hp → Prop) (h0 : ∀ H1, Ex T H H1 → Pv 0 σ H1)
    (hs : ∀ (i : Nat) σ' H', (i : Int) < m → Pv i σ' H' → tu { D with nx := Pv (i + 1), ct := Pv (i + 1), bk := D.nx } (σ'.set n (some (.int (i : Int)))) H') (hd : ∀ σ' H', Pv m.toNat σ' H' → D.nx σ' H') : tFor (iRng1 tr) (gName n) tu D σ H :=
  h H .refl _ fun H1 e => ⟨m, rfl, by omega, by omega, for_range (lo := 0) (n := m.toNat) Pv (h0 H1 e) (fun i σ' H' hi q => by
    have e0 : (0 : Int) + (i : Int) = (i : Int) := Int.zero_add _
    show tu { D with nx := Pv (i + 1), ct := Pv (i + 1), bk := D.nx } (σ'.set n (some (.int ((0 : Int) + (i : Int))))) H'
    rw [e0]
    exact hs i σ' H' (by omega) q) hd⟩
theorem s_forR2 {tr : TA} {n : Nat} {lo m : Int} (h : EvA T tr σ H [.int lo, .int m]) (hm : -1000000 ≤ lo ∧ lo ≤ 1000000 ∧ -1000000 ≤ m ∧ m ≤ 1000000) (Pv : Nat → L2.St → Hp → Prop) (h0 : ∀ H1, Ex T H H1 → Pv 0 σ H1)
    (hs : ∀ (i : Nat) σ' H', lo + (i : Int) < m → Pv i σ' H' → tu { D with nx := Pv (i + 1), ct := Pv (i + 1), bk := D.nx } (σ'.set n (some (.int (lo + (i : Int))))) H') (hd : ∀ σ' H', Pv (m - lo).toNat σ' H' → D.nx σ' H') : tFor (iRng2 tr) (gName n) tu D σ H :=
  h H .refl _ fun H1 e => ⟨lo, m, rfl, ⟨by omega, by omega, by omega, by omega⟩, for_range (lo := lo) (n := (m - lo).toNat) Pv (h0 H1 e) (fun i σ' H' hi q => hs i σ' H' (by omega) q) hd⟩
theorem s_forL {n : Nat} {tl : TE} (h : Ev T tl σ H (.ref a)) (hx : SqL K H a xs) (Pv : Nat → L2.St → Hp → Prop) (h0 : ∀ H1, Ex T H H1 → Pv 0 σ H1) (hl : ∀ i σ' H', i ≤ xs.length → Pv i σ' H' → SqL K H' a xs)
    (hs : ∀ i x σ' H', xs[i]? = some x → Pv i σ' H' → tu { D with nx := Pv (i + 1), ct := Pv (i + 1), bk := D.nx } (σ'.set n (some x)) H') (hd : ∀ σ' H', Pv xs.length σ' H' → D.nx σ' H') : tFor (iList K tl) (gName n) tu D σ H :=
  h H .refl _ fun H1 e => ⟨a, rfl, ⟨xs, e.sq hx⟩, for_list Pv (h0 H1 e) hl hs hd⟩
/-- over a new list -/
theorem s_forNL {n : Nat} {tl : TE} {R : Hp → V → Hp → Prop} (h : EvR T tl σ H R) (hR : ∀ v H1, Ex T H H1 → R H v H1 → ∃ a xs, v = .ref a ∧ SqL K H1 a xs ∧ ∃ Pv : Nat → L2.St → Hp → Prop, Pv 0 σ H1 ∧ (∀ i σ' H', i ≤ xs.length → Pv i σ' H' → SqL K H' a xs) ∧
    (∀ i x σ' H', xs[i]? = some x → Pv i σ' H' → tu { D with nx := Pv (i + 1), ct := Pv (i + 1), bk := D.nx } (σ'.set n (some x)) H') ∧ (∀ σ' H', Pv xs.length σ' H' → D.nx σ' H')) : tFor (iList K tl) (gName n) tu D σ H :=
  h H .refl _ fun v H1 e r => by
    obtain ⟨a, xs, rfl, hx, Pv, h0, hl, hs, hd⟩ := hR v H1 e r
    exact ⟨a, rfl, ⟨xs, hx⟩, for_list Pv h0 hl hs hd⟩
theorem s_while (W : Nat → L2.St → Hp → Prop) (m0 : Nat) (h0 : W m0 σ H)
    (hs : ∀ m σ' H', W m σ' H' → ∃ b, EvT T t σ' H' b ∧ (b = true → ∀ H1, Ex T H' H1 → ∃ N : L2.St → Hp → Prop, (∀ σ2 H2, N σ2 H2 → ∃ m', m' < m ∧ W m' σ2 H2) ∧ tu { D with nx := N, ct := N, bk := D.nx } σ' H1) ∧ (b = false → ∀ H1, Ex T H' H1 → D.nx σ' H1)) : tWhile t tu D σ H :=
  ⟨W, ⟨m0, h0⟩, fun m σ' H' hw => by
    obtain ⟨b, hb, h1, h2⟩ := hs m σ' H' hw
    refine hb H' .refl _ fun H1 e => ?_
    cases b with
    | true => exact iteT (h1 rfl H1 e)
    | false => exact iteF (h2 rfl H1 e)⟩
theorem q_forR1 {tr : TA} {n : Nat} {m : Int} (h : EvA T tr σ H [.int m]) (hm : m ≤ 1000000) (h2 : -1000000 ≤ m) (Pv : Nat → L2.St → Hp → Prop) (h0 : ∀ H1, Ex T H H1 → Pv 0 σ H1)
    (hs : ∀ (i : Nat) σ' H', (i : Int) < m → Pv i σ' H' → tu { D with nx := Pv (i + 1), ct := Pv (i + 1), bk := tz D } (σ'.set n (some (.int (i : Int)))) H') (hd : ∀ σ' H', Pv m.toNat σ' H' → tz D σ' H') : tSeq (tFor (iRng1 tr) (gName n) tu) tz D σ H :=
  s_forR1 (D := { D with nx := tz D }) h hm h2 Pv h0 hs hd
theorem q_forR2 {tr : TA} {n : Nat} {lo m : Int} (h : EvA T tr σ H [.int lo, .int m]) (hm : -1000000 ≤ lo ∧ lo ≤ 1000000 ∧ -1000000 ≤ m ∧ m ≤ 1000000) (Pv : Nat → L2.St → Hp → Prop) (h0 : ∀ H1, Ex T H H1 → Pv 0 σ H1)
    (hs : ∀ (i : Nat) σ' H', lo + (i : Int) < m → Pv i σ' H' → tu { D with nx := Pv (i + 1), ct := Pv (i + 1), bk := tz D } (σ'.set n (some (.int (lo + (i : Int))))) H') (hd : ∀ σ' H', Pv (m - lo).toNat σ' H' → tz D σ' H') : tSeq (tFor (iRng2 tr) (gName n) tu) tz D σ H :=
  s_forR2 (D := { D with nx := tz D }) h hm Pv h0 hs hd
theorem q_forL {n : Nat} {tl : TE} (h : Ev T tl σ H (.ref a)) (hx : SqL K H a xs) (Pv : Nat → L2.St → Hp → Prop) (h0 : ∀ H1, Ex T H H1 → Pv 0 σ H1) (hl : ∀ i σ' H', i ≤ xs.length → Pv i σ' H' → SqL K H' a xs)
    (hs : ∀ i x σ' H', xs[i]? = some x → Pv i σ' H' → tu { D with nx := Pv (i + 1), ct := Pv (i + 1), bk := tz D } (σ'.set n (some x)) H') (hd : ∀ σ' H', Pv xs.length σ' H' → tz D σ' H') : tSeq (tFor (iList K tl) (gName n) tu) tz D σ H :=
  s_forL (D := { D with nx := tz D }) h hx Pv h0 hl hs hd
theorem q_forNL {n : Nat} {tl : TE} {R : Hp → V → Hp → Prop} (h : EvR T tl σ H R) (hR : ∀ v H1, Ex T H H1 → R H v H1 → ∃ a xs, v = .ref a ∧ SqL K H1 a xs ∧ ∃ Pv : Nat → L2.St → Hp → Prop, Pv 0 σ H1 ∧ (∀ i σ' H', i ≤ xs.length → Pv i σ' H' → SqL K H' a xs) ∧
    (∀ i x σ' H', xs[i]? = some x → Pv i σ' H' → tu { D with nx := Pv (i + 1), ct := Pv (i + 1), bk := tz D } (σ'.set n (some x)) H') ∧ (∀ σ' H', Pv xs.length σ' H' → tz D σ' H')) : tSeq (tFor (iList K tl) (gName n) tu) tz D σ H :=
  s_forNL (D := { D with nx := tz D }) h hR
theorem q_while (W : Nat → L2.St → Hp → Prop) (m0 : Nat) (h0 : W m0 σ H)
    (hs : ∀ m σ' H', W m σ' H' → ∃ b, EvT T t σ' H' b ∧ (b = true → ∀ H1, Ex T H' H1 → ∃ N : L2.St → Hp → Prop, (∀ σ2 H2, N σ2 H2 → ∃ m', m' < m ∧ W m' σ2 H2) ∧ tu { D with nx := N, ct := N, bk := tz D } σ' H1) ∧ (b = false → ∀ H1, Ex T H' H1 → tz D σ' H1)) : tSeq (tWhile t tu) tz D σ H :=
  s_while (D := { D with nx := tz D }) W m0 h0 hs
theorem q_asg {n : Nat} (h : Ev T te σ H v) (k : ∀ H1, Ex T H H1 → tz D (σ.set n (some v)) H1) : tSeq (tAsg te (gName n)) tz D σ H := h H .refl _ fun H1 e => k H1 e
theorem q_asgL {n : Nat} (h : EvL T te σ H xs) (k : ∀ p H1, H p = none → Ex T H H1 → H1 p = some (.lst xs) → tz D (σ.set n (some (.ref p))) H1) : tSeq (tAsg te (gName n)) tz D σ H := h H .refl _ fun p H1 hp e h1 => k p H1 hp e h1
theorem q_asgU {n : Nat} (h : EvU T te σ H xs) (k : ∀ p H1, H p = none → Ex T H H1 → H1 p = some (.tup xs) → tz D (σ.set n (some (.ref p))) H1) : tSeq (tAsg te (gName n)) tz D σ H := h H .refl _ fun p H1 hp e h1 => k p H1 hp e h1
theorem q_asgR {n : Nat} {R : Hp → V → Hp → Prop} (h : EvR T te σ H R) (k : ∀ v H1, Ex T H H1 → R H v H1 → tz D (σ.set n (some v)) H1) : tSeq (tAsg te (gName n)) tz D σ H := h H .refl _ fun v H1 e r => k v H1 e r
theorem q_drop (h : Ev T te σ H v) (k : ∀ H1, Ex T H H1 → tz D σ H1) : tSeq (tDrop te) tz D σ H := h H .refl _ k
theorem q_if {b : Bool} (h : EvT T t σ H b) (h1 : b = true → ∀ H1, Ex T H H1 → tu { D with nx := tz D } σ H1) (h2 : b = false → ∀ H1, Ex T H H1 → tw { D with nx := tz D } σ H1) : tSeq (tIfS t tu tw) tz D σ H := s_if (D := { D with nx := tz D }) h h1 h2
theorem q_cut {M : L2.St → Hp → Prop} (h : tu { D with nx := M } σ H) (k : ∀ σ' H', M σ' H' → tz D σ' H') : Evl.tCut tu tz D σ H := ⟨M, h, k⟩
theorem t_next (h : D.nx σ H) : tNext D σ H := h
theorem s_when {b : Bool} (h : EvT T t σ H b) (h1 : b = true → ∀ H1, Ex T H H1 → tu D σ H1) (h2 : b = false → ∀ H1, Ex T H H1 → D.nx σ H1) : tIfS t tu tNext D σ H := s_if h h1 h2
theorem q_when {b : Bool} (h : EvT T t σ H b) (h1 : b = true → ∀ H1, Ex T H H1 → tu { D with nx := tz D } σ H1) (h2 : b = false → ∀ H1, Ex T H H1 → tz D σ H1) : tSeq (tIfS t tu tNext) tz D σ H := s_if (D := { D with nx := tz D }) h h1 h2
theorem q_seq (h : tu { D with nx := tz D } σ H) : tSeq tu tz D σ H := h

/-! ### comprehensions over lists -/
theorem el_map {vs : List Nat} {n : Nat} {tl : TE} (h : Ev T tl σ H (.ref a)) (hx : SqL K H a xs) (hz : xs.length ≤ 40000) (hy : ys.length = xs.length) (hw : ∀ x, wipe ((wipe σ vs).set n (some x)) vs = wipe σ vs)
    (he : ∀ (i : Nat) (x y : V) H1, Ex T H H1 → xs[i]? = some x → ys[i]? = some y → Ev T te ((wipe σ vs).set n (some x)) H1 y) :
    EvL T (tLc (iList K tl) (gName n) tYes te vs) σ H ys := fun H0 e Q q => h H0 e _ fun H1 e1 => ⟨a, rfl, ⟨xs, (e.trans e1).sq hx⟩, fun D hD =>
  lc_list (xs := xs) (fun i H' => Ex T H1 H' ∧ H' D = some (.lst (ys.take i))) ⟨.new hD, upd_same⟩ (fun i H' _ p => ((e.trans e1).trans p.1).sq hx) (fun i x H' hi p => by
    have hi' := (List.getElem?_eq_some_iff.mp hi).1
    have hy' : i < ys.length := by omega
    refine ⟨hw x, ?_⟩
    dsimp only [tYes]
    rw [if_pos rfl]
    refine he i x ys[i] H' ((e.trans e1).trans p.1) hi (List.getElem?_eq_getElem hy') H' .refl _ fun H2 e2 => ⟨ys.take i, e2.lst p.2, ?_, (p.1.trans e2).mut hD (e2.lst p.2), ?_⟩
    · have : (ys.take i).length ≤ ys.length := by rw [List.length_take]; omega
      exact Nat.lt_of_lt_of_le (show (ys.take i).length < 100000 by omega) (by decide)
    · rw [upd_same, List.take_add_one, List.getElem?_eq_getElem hy']
      rfl) (fun H' p => q D H' (e1.n D hD) (e1.trans p.1) (by rw [p.2, ← hy, List.take_length]))⟩
end

/-! ### defs: what stands in the text, and what is promised -/
structure Df (K : PySem.W.Frag) (mg : Str → Option Value) (x : Str) (st : Stmt) (ps : List Str) : Prop where
  ex : ∃ (f : Addr) (fd : FuncData), Fun K x x st f fd ∧ Binds K fd ps [] ∧ mg x = some (.ref f)
structure Ca (CX : CXT) (P : Program) (w : World) (K : PySem.W.Frag) (mg : Str → Option Value) (base : Heap) (k : Nat) (x : Str) (sp : Sp) : Prop where
  ex : ∃ (f : Addr) (fd : FuncData) (ps : List Str), FnOk P w K mg base CX k f fd ps sp ∧ mg x = some (.ref f) ∧ PySem.W.keepIn K (.ref f) = true ∧ Binds K fd ps []
section
variable {P : Program} {w : World} {K : PySem.W.Frag} {mg : Str → Option Value} {base : Heap} {CX : CXT}
theorem Ca.imp {k : Nat} {x : Str} {sp sp' : Sp} (c : Ca CX P w K mg base k x sp) (h : ∀ vs H Q E, sp' vs H Q E → sp vs H Q E) : Ca CX P w K mg base k x sp' := by
  obtain ⟨f, fd, ps, F, h1, h2, h3⟩ := c.ex
  exact ⟨f, fd, ps, F.imp h, h1, h2, h3⟩
theorem Df.ca0 {x : Str} {st : Stmt} {N ps : List Str} {k : Nat} {sp : Sp} (D : Df K mg x st ps) (S : FnScope N ps (defScope st)) (len : ∀ vs H Q E, sp vs H Q E → vs.length = ps.length)
    (hbody : ∀ (cdv : Value) (A : Around) (outer : List Env) (s : Shared) (H : Hp) (vs : List V) (Q : VK) (E : XK) (f : Addr), Room k (A.deeper (envOfC x (defScope st) s.heap.objs.size f cdv)) → sp vs H Q E →
      ∃ t, PSs (cxOf CX0 P w K mg base N x (defScope st) f cdv A outer s H E).nox (defBody st) t ∧ t { nx := fun _ H' => Q .non H', rt := Q } (start N vs) H) : Ca CX0 P w K mg base (k + 1) x sp := by
  obtain ⟨f, fd, F, b, g⟩ := D.ex
  exact ⟨f, fd, ps, F.ok S len fun cdv A outer s H vs Q E hr h => hbody cdv A outer s H vs Q E f hr h, g, F.kp, b⟩
theorem Df.caX {x : Str} {st : Stmt} {N ps : List Str} {k : Nat} {sp : Sp} (D : Df K mg x st ps) (S : FnScope N ps (defScope st)) (len : ∀ vs H Q E, sp vs H Q E → vs.length = ps.length)
    (hbody : ∀ (cdv : Value) (A : Around) (outer : List Env) (s : Shared) (H : Hp) (vs : List V) (Q : VK) (E : XK) (f : Addr), Room k (A.deeper (envOfC x (defScope st) s.heap.objs.size f cdv)) → sp vs H Q E →
      ∃ t, PSs (cxOf (L2.CX P w) P w K mg base N x (defScope st) f cdv A outer s H E) (defBody st) t ∧ t { nx := fun _ H' => Q .non H', rt := Q } (start N vs) H) : Ca (L2.CX P w) P w K mg base (k + 1) x sp := by
  obtain ⟨f, fd, F, b, g⟩ := D.ex
  exact ⟨f, fd, ps, F.okX S len fun cdv A outer s H vs Q E hr h => hbody cdv A outer s H vs Q E f hr h, g, F.kp, b⟩
end
section
variable {X : Cx} {CX : CXT} {k j : Nat} {x : Str} {sp : Sp} {p pos : Pos} {e : Expr} {es : List Expr} {t : TA} {E : XK}
theorem pe_k (c : Ca CX X.prog X.w X.K X.mg X.base k x sp) (hr : Room j X.A) (hk : k ≤ j) (hx : Passes CX X E) (hg : Gl X x) (ha : PA X (e :: es) t)
    (hd : (x == ("__debug__" : Str)) = false := by decide) (he : starEach (e :: es) X.env = (false, eval e X.env) :: starEach es X.env := by rfl) (hpl : (backTo pos (starEach es X.env)).any (·.1) = false := by rfl) :
    PE X (.Call (.Name x p) (e :: es) [] pos) (tCall sp [] E t) := by
  obtain ⟨f, fd, ps, F, hm, kp, b⟩ := c.ex
  exact pe_call F (hr.mono hk) hg hm kp b .nil hx ha hd he hpl
/-- a call that raises nothing -/
theorem pe_k0 (c : Ca CX0 X.prog X.w X.K X.mg X.base k x sp) (hr : Room j X.A) (hk : k ≤ j) (hg : Gl X x) (ha : PA X (e :: es) t)
    (hd : (x == ("__debug__" : Str)) = false := by decide) (he : starEach (e :: es) X.env = (false, eval e X.env) :: starEach es X.env := by rfl) (hpl : (backTo pos (starEach es X.env)).any (·.1) = false := by rfl) :
    PE X (.Call (.Name x p) (e :: es) [] pos) (tCall sp [] E0 t) := pe_k c hr hk pass0 hg ha hd he hpl
theorem call_lenS : CallR X (.builtin "len") (rLenS X.K) := call_len_seq
theorem call_listS : CallR X (.type "list") (rListS X.K) := call_list_of
end
section
variable {X : Cx} {K : PySem.W.Frag}
theorem cr_sumK (h : X.K = K) (hc : X.calm = true) : CallR X (.builtin "sum") (rSum K) := h ▸ cr_sum hc
theorem call_lenK (h : X.K = K) : CallR X (.builtin "len") (rLenS K) := h ▸ call_lenS
theorem call_listK (h : X.K = K) : CallR X (.type "list") (rListS K) := h ▸ call_listS
theorem ix_listK (h : X.K = K) : IxR X (rIxL K) := h ▸ ix_list
theorem ix_tupK (h : X.K = K) : IxR X (rIxT K) := h ▸ ix_tup
theorem op_eqDK (h : X.K = K) (hu : X.A.units + 64 < cLine) : OpR X (compareOp .Eq) (rEqD K) := h ▸ op_eqD hu
theorem op_neDK (h : X.K = K) (hu : X.A.units + 64 < cLine) : OpR X (compareOp .NotEq) (rNeD K) := h ▸ op_neD hu
theorem cr_sortedIK (h : X.K = K) : CallR X (.builtin "sorted") (rSortedI K) := h ▸ cr_sortedI
theorem call_isiK' (h : X.K = K) : CallR X (.builtin "isinstance") (rIsi K) := h ▸ call_isi
end
/-- a promise by its arguments -/
abbrev spM {α : Type} (args : α → List V) (R : α → Hp → VK → XK → Prop) : Sp := fun vs H Q E => ∃ q, vs = args q ∧ R q H Q E
/-- what the built-in names stand for -/
structure Bi (mg : Str → Option Value) : Prop where
  len : mg "len" = none
  range : mg "range" = none
  sum : mg "sum" = none
  sorted : mg "sorted" = none
  min : mg "min" = none
  max : mg "max" = none
  isinstance : mg "isinstance" = none
  int : mg "int" = none
  bool : mg "bool" = none
  list : mg "list" = none
  tuple : mg "tuple" = none
  str : mg "str" = none
  set : mg "set" = none
  ValueError : mg "ValueError" = none
end Sm

/-! SmB: rules of its own, and what evaluates by itself. -/
namespace Sm
open PySem PySem.Spec PyProof.Rows L2
section
variable {T : Tb} {K : PySem.W.Frag} {σ : L2.St} {H H' : Hp} {ta tb te tc : TE} {t u : TT} {x y z v : V} {xs ys : List V} {a p l : Addr} {i j k : Int}
theorem decI {i j : Int} : decide (V.int i = V.int j) = decide (i = j) := by
  by_cases h : i = j
  · rw [h, decide_eq_true rfl, decide_eq_true rfl]
  · rw [decide_eq_false h, decide_eq_false fun z => h (V.int.inj z)]
theorem decB {i j : Bool} : decide (V.bl i = V.bl j) = (i == j) := by cases i <;> cases j <;> rfl
theorem ev_eqI (ha : Ev T ta σ H (.int i)) (hb : Ev T tb σ H (.int j)) : Ev T (tOp rEq ta tb) σ H (.bl (decide (i = j))) := (ev_eq ha hb rfl).is (by rw [decI])
theorem ev_neI (ha : Ev T ta σ H (.int i)) (hb : Ev T tb σ H (.int j)) : Ev T (tOp rNe ta tb) σ H (.bl (!decide (i = j))) := (ev_ne ha hb rfl).is (by rw [decI])
theorem ev_neB {b c : Bool} (ha : Ev T ta σ H (.bl b)) (hb : Ev T tb σ H (.bl c)) : Ev T (tOp rNe ta tb) σ H (.bl (!(b == c))) := (ev_ne ha hb rfl).is (by rw [decB])
theorem ev_isN (ha : Ev T ta σ H x) (hb : Ev T tb σ H .non) : Ev T (tOp (fun x y H Q => y = V.non ∧ Q (.bl (decide (x = V.non))) H) ta tb) σ H (.bl (decide (x = .non))) := fun H1 e Q q =>
  ha H1 e _ fun H2 e2 => hb H2 (e.trans e2) _ fun H3 e3 => ⟨rfl, q H3 (e2.trans e3)⟩
theorem ev_notN (ha : Ev T ta σ H x) (hb : Ev T tb σ H .non) : Ev T (tOp (fun x y H Q => y = V.non ∧ Q (.bl (!decide (x = V.non))) H) ta tb) σ H (.bl (!decide (x = .non))) := fun H1 e Q q =>
  ha H1 e _ fun H2 e2 => hb H2 (e.trans e2) _ fun H3 e3 => ⟨rfl, q H3 (e2.trans e3)⟩
/-- xs[i], the list of ints -/
theorem ev_ixI {ns : List Int} {m : Nat} {n : Int} (ha : Ev T ta σ H (.ref p)) (hb : Ev T tb σ H (.int i)) (h : SqL K H p (vz ns)) (hm : i = (m : Int)) (hn : ns[m]? = some n) : Ev T (tOp (rIxL K) ta tb) σ H (.int n) :=
  ev_ixL ha hb h (by rw [hm]; exact atI_nat (by rw [List.getElem?_map, hn]; rfl))
/-- ints at data -/
def dI (ns : List Int) : PyData := .list (ns.map .int)
theorem dp_ints {ns : List Int} : DpAll K H (vz ns) (ns.map .int) := by
  induction ns with
  | nil => exact .nil
  | cons n r ih => exact .cons (.int n) ih
theorem dp_I {ns : List Int} (h : SqL K H a (vz ns)) : Dp K H (.ref a) (dI ns) := .lst h dp_ints
theorem lay_ints : ∀ ns : List Int, PyData.canLayAll0 (ns.map .int) = true
  | [] => by simp [PyData.canLayAll0]
  | n :: r => by simp [PyData.canLayAll0, PyData.canLay0, lay_ints r]
theorem dep_ints : ∀ ns : List Int, PyData.depthAll (ns.map .int) = 0
  | [] => by simp [PyData.depthAll]
  | n :: r => by simp [PyData.depthAll, PyData.depth, dep_ints r]
theorem lay_I (ns : List Int) : PyData.canLay0 (dI ns) = true := by
  show PyData.canLay0 (.list (ns.map .int)) = true
  simp only [PyData.canLay0]
  exact lay_ints ns
theorem dep_I (ns : List Int) : PyData.depth (dI ns) = 1 := by
  show PyData.depth (.list (ns.map .int)) = 1
  simp only [PyData.depth, dep_ints ns]
theorem sh_I (ns : List Int) : SeqAt.shaped (dI ns) = true := by
  show (PyData.canLay0 (dI ns) && decide (PyData.depth (dI ns) ≤ 64)) = true
  rw [lay_I, dep_I]
  rfl
theorem eqvA_I : ∀ ns ms : List Int, PyData.eqvAll (ns.map .int) (ms.map .int) = decide (ns = ms)
  | [], [] => by simp [PyData.eqvAll]
  | [], _ :: _ => by simp [PyData.eqvAll]
  | _ :: _, [] => by simp [PyData.eqvAll]
  | n :: r, m :: s => by
    show PyData.eqvAll (.int n :: r.map .int) (.int m :: s.map .int) = decide (n :: r = m :: s)
    simp only [PyData.eqvAll, PyData.eqv, eqvA_I r s]
    by_cases h : n = m
    · by_cases h2 : r = s
      · simp [h, h2]
      · simp [h, h2]
    · simp [h]
theorem eqv_I (ns ms : List Int) : PyData.eqv (dI ns) (dI ms) = decide (ns = ms) := by
  show PyData.eqv (.list (ns.map .int)) (.list (ms.map .int)) = decide (ns = ms)
  simp only [PyData.eqv]
  exact eqvA_I ns ms
theorem ev_eqL {ns ms : List Int} {q : Addr} (ha : Ev T ta σ H (.ref p)) (hb : Ev T tb σ H (.ref q)) (h : SqL K H p (vz ns)) (h2 : SqL K H q (vz ms)) : Ev T (tOp (rEqD K) ta tb) σ H (.bl (decide (ns = ms))) := fun H1 e Q f =>
  ha H1 e _ fun H2 e2 => hb H2 (e.trans e2) _ fun H3 e3 => ⟨_, _, dp_I (((e.trans e2).trans e3).sq h), dp_I (((e.trans e2).trans e3).sq h2), sh_I _, sh_I _, by rw [eqv_I]; exact f H3 (e2.trans e3)⟩
theorem ev_neL {ns ms : List Int} {q : Addr} (ha : Ev T ta σ H (.ref p)) (hb : Ev T tb σ H (.ref q)) (h : SqL K H p (vz ns)) (h2 : SqL K H q (vz ms)) : Ev T (tOp (rNeD K) ta tb) σ H (.bl (!decide (ns = ms))) := fun H1 e Q f =>
  ha H1 e _ fun H2 e2 => hb H2 (e.trans e2) _ fun H3 e3 => ⟨_, _, dp_I (((e.trans e2).trans e3).sq h), dp_I (((e.trans e2).trans e3).sq h2), sh_I _, sh_I _, by rw [eqv_I]; exact f H3 (e2.trans e3)⟩
theorem ev_neNL {ns ms : List Int} {q : Addr} (ha : EvL T ta σ H (vz ns)) (hb : Ev T tb σ H (.ref q)) (h2 : SqL K H q (vz ms)) : Ev T (tOp (rNeD K) ta tb) σ H (.bl (!decide (ns = ms))) := fun H1 e Q f =>
  ha H1 e _ fun r H2 _ e2 hr => hb H2 (e.trans e2) _ fun H3 e3 => ⟨_, _, dp_I (e3.sq (SqL.of hr)), dp_I (((e.trans e2).trans e3).sq h2), sh_I _, sh_I _, by rw [eqv_I]; exact f H3 (e2.trans e3)⟩

/-! ### sorted of ints -/
def ins (n : Int) : List Int → List Int
  | [] => [n]
  | m :: r => if n ≤ m then n :: m :: r else m :: ins n r
def isort : List Int → List Int
  | [] => []
  | n :: r => ins n (isort r)
theorem ins_perm (n : Int) : ∀ l : List Int, (ins n l).Perm (n :: l)
  | [] => .refl _
  | m :: r => by
    unfold ins
    split
    · exact .refl _
    · exact ((ins_perm n r).cons m).trans (.swap n m r)
theorem isort_perm : ∀ l : List Int, (isort l).Perm l
  | [] => .refl _
  | n :: r => (ins_perm n _).trans ((isort_perm r).cons n)
theorem ins_sorted (n : Int) : ∀ l : List Int, l.Pairwise (· ≤ ·) → (ins n l).Pairwise (· ≤ ·)
  | [], _ => List.pairwise_singleton _ _
  | m :: r, h => by
    unfold ins
    obtain ⟨h1, h2⟩ := List.pairwise_cons.mp h
    split
    · rename_i hm
      refine List.pairwise_cons.mpr ⟨fun z hz => ?_, h⟩
      rcases List.mem_cons.mp hz with e | e
      · rw [e]; exact hm
      · exact Int.le_trans hm (h1 z e)
    · rename_i hm
      refine List.pairwise_cons.mpr ⟨fun z hz => ?_, ins_sorted n r h2⟩
      rcases List.mem_cons.mp ((ins_perm n r).subset hz) with e | e
      · rw [e]; omega
      · exact h1 z e
theorem isort_sorted : ∀ l : List Int, (isort l).Pairwise (· ≤ ·)
  | [] => .nil
  | n :: r => ins_sorted n _ (isort_sorted r)
theorem sort_one : ∀ {l m : List Int}, l.Perm m → l.Pairwise (· ≤ ·) → m.Pairwise (· ≤ ·) → l = m
  | [], m, h, _, _ => (List.nil_perm.mp h).symm
  | n :: r, m, h, hl, hm => by
    cases m with
    | nil => exact absurd (List.perm_nil.mp h) (by simp)
    | cons k s =>
      obtain ⟨l1, l2⟩ := List.pairwise_cons.mp hl
      obtain ⟨m1, m2⟩ := List.pairwise_cons.mp hm
      have e : n = k := by
        have a1 : n ∈ k :: s := h.subset List.mem_cons_self
        have a2 : k ∈ n :: r := h.symm.subset List.mem_cons_self
        rcases List.mem_cons.mp a1 with e | e
        · exact e
        · rcases List.mem_cons.mp a2 with e2 | e2
          · exact e2.symm
          · exact Int.le_antisymm (l1 k e2) (m1 n e)
      subst e
      rw [sort_one (List.perm_cons n |>.mp h) l2 m2]
theorem isort_of {l m : List Int} (h : l.Perm m) (hl : l.Pairwise (· ≤ ·)) : l = isort m := sort_one (h.trans (isort_perm m).symm) hl (isort_sorted m)
theorem isort_id {l : List Int} (hl : l.Pairwise (· ≤ ·)) : isort l = l := (isort_of (.refl l) hl).symm
theorem isort_len (l : List Int) : (isort l).length = l.length := (isort_perm l).length_eq
theorem el_sorted {ns : List Int} (ha : Ev T ta σ H (.ref p)) (h : SqL K H p (vz ns)) : EvL T (tCB (rSortedI K) (tCons ta tNil)) σ H (vz (isort ns)) := fun H1 e Q q =>
  ha H1 e _ fun H2 e2 => ⟨p, ns, rfl, (e.trans e2).sq h, fun ns' l h1 h2 hl => q l _ (e2.n l hl) (e2.trans (.new hl)) (by rw [← isort_of h1 h2]; exact upd_same)⟩
theorem el_sortedN {ns : List Int} (ha : EvL T ta σ H (vz ns)) : EvL T (tCB (rSortedI K) (tCons ta tNil)) σ H (vz (isort ns)) := fun H1 e Q q =>
  ha H1 e _ fun p H2 _ e2 hp => ⟨p, ns, rfl, SqL.of hp, fun ns' l h1 h2 hl => q l _ (e2.n l hl) (e2.trans (.new hl)) (by rw [← isort_of h1 h2]; exact upd_same)⟩
theorem ev_min {ns : List Int} {m : Int} (ha : Ev T ta σ H (.ref p)) (h : SqL K H p (vz ns)) (hm : m ∈ ns) (hl : ∀ n ∈ ns, m ≤ n) : Ev T (tCB (rMin K) (tCons ta tNil)) σ H (.int m) := fun H1 e Q q =>
  ha H1 e _ fun H2 e2 => ⟨p, ns, rfl, (e.trans e2).sq h, List.length_pos_of_mem hm, fun m' h1 h2 => by
    have : m' = m := Int.le_antisymm (h2 m hm) (hl m' h1)
    rw [this]
    exact q H2 e2⟩
theorem vz_app (a b : List Int) : vz (a ++ b) = vz a ++ vz b := List.map_append
theorem at_vz {ns : List Int} {i : Nat} {x : V} (h : (vz ns)[i]? = some x) : ∃ n, ns[i]? = some n ∧ x = .int n := by
  rw [List.getElem?_map] at h
  cases e : ns[i]? with
  | none => rw [e] at h; cases h
  | some n => rw [e] at h; exact ⟨n, rfl, (Option.some.inj h).symm⟩
theorem getD_at {ns : List Int} {i : Nat} (h : i < ns.length) : ns[i]? = some (ns.getD i 0) := by
  rw [List.getD_eq_getElem?_getD, List.getElem?_eq_getElem h]
  rfl
/-! ### isinstance -/
theorem ev_isi {c : V} {tv cv : Value} {b : Bool} (ha : Ev T ta σ H x) (hb : Ev T tb σ H c) (hc : ClsV c cv) (ht : ∀ H', Ex T H H' → TyX K H' x tv) (hk : PySem.W.kitOne K tv cv = some b) : Ev T (tCB (rIsi K) (tCons ta (tCons tb tNil))) σ H (.bl b) := fun H1 e Q q =>
  ha H1 e _ fun H2 e2 => hb H2 (e.trans e2) _ fun H3 e3 => ⟨x, c, tv, cv, b, rfl, hc, ht H3 ((e.trans e2).trans e3), hk, q H3 (e2.trans e3)⟩
theorem ev_isInt {n : Int} (ha : Ev T ta σ H (.int n)) (hb : Ev T tb σ H (.ty "int")) : Ev T (tCB (rIsi K) (tCons ta (tCons tb tNil))) σ H (.bl true) := ev_isi ha hb (.ty "int") (fun _ _ => .base (.int n)) (kit_ty (by decide +kernel))
theorem ev_isIntB {n : Int} (ha : Ev T ta σ H (.int n)) (hb : Ev T tb σ H (.ty "bool")) : Ev T (tCB (rIsi K) (tCons ta (tCons tb tNil))) σ H (.bl false) := ev_isi ha hb (.ty "bool") (fun _ _ => .base (.int n)) (kit_ty (by decide +kernel))
theorem ev_isBl {b : Bool} (ha : Ev T ta σ H (.bl b)) (hb : Ev T tb σ H (.ty "bool")) : Ev T (tCB (rIsi K) (tCons ta (tCons tb tNil))) σ H (.bl true) := ev_isi ha hb (.ty "bool") (fun _ _ => .base (.bl b)) (kit_ty (by decide +kernel))
theorem ev_isLst (ha : Ev T ta σ H (.ref p)) (hb : Ev T tb σ H (.ty "list")) (h : H p = some (.lst xs)) : Ev T (tCB (rIsi K) (tCons ta (tCons tb tNil))) σ H (.bl true) := ev_isi ha hb (.ty "list") (fun _ e => .base (.lst (e.lst h))) (kit_ty (by decide +kernel))
theorem ev_isTup (ha : Ev T ta σ H (.ref p)) (hb : Ev T tb σ H (.ty "tuple")) (h : H p = some (.tup xs)) : Ev T (tCB (rIsi K) (tCons ta (tCons tb tNil))) σ H (.bl true) := ev_isi ha hb (.ty "tuple") (fun _ e => .base (.tup (e.tup h))) (kit_ty (by decide +kernel))
theorem ev_isStr {z : Str} (ha : Ev T ta σ H (.str z)) (hb : Ev T tb σ H (.ty "str")) : Ev T (tCB (rIsi K) (tCons ta (tCons tb tNil))) σ H (.bl true) := ev_isi ha hb (.ty "str") (fun _ _ => .base (.str z)) (kit_ty (by decide +kernel))
/-! ### slices of lists of ints -/
theorem cut_take {ns : List Int} {m : Nat} (h : m ≤ ns.length) : cutV (vz ns) none (some (m : Int)) = vz (ns.take m) := by
  unfold cutV
  rw [HT.sIx_nat, HT.sIx_none, List.drop_zero, List.length_map, Nat.min_eq_left h, Nat.sub_zero]
  exact List.map_take.symm
theorem cut_drop {ns : List Int} {m : Nat} (h : m ≤ ns.length) : cutV (vz ns) (some (m : Int)) none = vz (ns.drop m) := by
  unfold cutV
  rw [HT.sIx_nat, HT.sIx_none, List.length_map, Nat.min_eq_left h]
  have e : (vz ns).drop m = vz (ns.drop m) := List.map_drop.symm
  rw [e, List.take_of_length_le (by rw [List.length_map, List.length_drop]; exact Nat.le_refl _)]
theorem el_to {ns : List Int} {m : Nat} {i : Int} (ha : Ev T ta σ H (.ref p)) (hb : Ev T tb σ H (.int i)) (h : SqL K H p (vz ns)) (hi : i = (m : Int)) (hm : m ≤ ns.length) : EvL T (tSl (rSlL K) ta tNoPart (tPart tb)) σ H (vz (ns.take m)) :=
  (el_sl ha eo_none (eo_some hb) h).is (by rw [hi, cut_take hm])
theorem el_from {ns : List Int} {m : Nat} {i : Int} (ha : Ev T ta σ H (.ref p)) (hb : Ev T tb σ H (.int i)) (h : SqL K H p (vz ns)) (hi : i = (m : Int)) (hm : m ≤ ns.length) : EvL T (tSl (rSlL K) ta (tPart tb) tNoPart) σ H (vz (ns.drop m)) :=
  (el_sl ha (eo_some hb) eo_none h).is (by rw [hi, cut_drop hm])
/-! ### several values, told by what holds of them -/
def EvP (T : Tb) (ta : TA) (σ : L2.St) (H : Hp) (R : Hp → List V → Hp → Prop) : Prop := ∀ H1, Ex T H H1 → ∀ Q : List V → Hp → Prop, (∀ vs H2, Ex T H1 H2 → R H1 vs H2 → Q vs H2) → ta σ H1 Q
/-- a pair (number, list of numbers) -/
def PairAt (H : Hp) (v : V) (q : Int × List Int) : Prop := ∃ p r, v = .ref p ∧ H p = some (.tup [.int q.1, .ref r]) ∧ H r = some (.lst (vz q.2))
theorem PairAt.ex {q : Int × List Int} (h : PairAt H v q) (e : Ex T H H') : PairAt H' v q := by
  obtain ⟨p, r, rfl, h1, h2⟩ := h
  exact ⟨p, r, rfl, e.tup h1, e.lst h2⟩
def PairsAt (H : Hp) : List V → List (Int × List Int) → Prop
  | [], [] => True
  | v :: vs, q :: qs => PairAt H v q ∧ PairsAt H vs qs
  | _, _ => False
theorem PairsAt.ex (e : Ex T H H') : ∀ {vs : List V} {qs : List (Int × List Int)}, PairsAt H vs qs → PairsAt H' vs qs
  | [], [], _ => trivial
  | _ :: _, _ :: _, h => ⟨h.1.ex e, PairsAt.ex e h.2⟩
  | [], _ :: _, h => h.elim
  | _ :: _, [], h => h.elim
theorem PairsAt.app : ∀ {vs ws : List V} {qs rs : List (Int × List Int)}, PairsAt H vs qs → PairsAt H ws rs → PairsAt H (vs ++ ws) (qs ++ rs)
  | [], _, [], _, _, h => h
  | _ :: _, _, _ :: _, _, h, h2 => ⟨h.1, PairsAt.app h.2 h2⟩
  | [], _, _ :: _, _, h, _ => h.elim
  | _ :: _, _, [], _, h, _ => h.elim
theorem PairsAt.len : ∀ {vs : List V} {qs : List (Int × List Int)}, PairsAt H vs qs → vs.length = qs.length
  | [], [], _ => rfl
  | _ :: _, _ :: _, h => congrArg (· + 1) (PairsAt.len h.2)
  | [], _ :: _, h => h.elim
  | _ :: _, [], h => h.elim
theorem PairsAt.at_ : ∀ {vs : List V} {qs : List (Int × List Int)} {i : Nat} {q : Int × List Int}, PairsAt H vs qs → qs[i]? = some q → ∃ v, vs[i]? = some v ∧ PairAt H v q
  | v :: _, _ :: _, 0, _, h, e => ⟨v, rfl, by cases e; exact h.1⟩
  | _ :: _, _ :: _, i + 1, _, h, e => PairsAt.at_ (i := i) h.2 e
  | [], _ :: _, _, _, h, _ => h.elim
  | _ :: _, [], _, _, h, _ => h.elim
  | [], [], _, _, _, e => by simp at e
theorem er_pair {tl : TA} {n : Int} {ns : List Int} (hl : EvL T (tLst tl) σ H (vz ns)) : EvR T (tTup (tCons (tC (.int n)) (tCons (tLst tl) tNil))) σ H (fun _ v H' => PairAt H' v (n, ns)) := fun H1 e Q q => by
  simp only [tTup, tCons, tC, tNil]
  refine hl H1 e _ fun r H2 hr e2 h2 => ⟨(by decide : 2 ≤ sizeLine), fun p hp => q (.ref p) _ (e2.trans (.new hp)) ⟨p, r, rfl, upd_same, ?_⟩⟩
  rw [upd_ne (ne_of_none h2 hp)]
  exact h2
theorem ep_nil : EvP T tNil σ H (fun _ vs H' => PairsAt H' vs []) := fun H1 _ _ q => q [] H1 .refl trivial
theorem ep_cons {tr : TA} {q : Int × List Int} {qs : List (Int × List Int)} (h : EvR T te σ H (fun _ v H' => PairAt H' v q)) (hr : EvP T tr σ H (fun _ vs H' => PairsAt H' vs qs)) : EvP T (tCons te tr) σ H (fun _ vs H' => PairsAt H' vs (q :: qs)) := fun H1 e Q k =>
  h H1 e _ fun v H2 e2 r => hr H2 (e.trans e2) _ fun vs H3 e3 rs => k (v :: vs) H3 (e2.trans e3) ⟨r.ex e3, rs⟩
def NewPairs (qs : List (Int × List Int)) : Hp → V → Hp → Prop := fun H v H' => ∃ p vs, v = .ref p ∧ H p = none ∧ H' p = some (.lst vs) ∧ PairsAt H' vs qs
theorem er_pairs {tr : TA} {qs : List (Int × List Int)} (h : EvP T tr σ H (fun _ vs H' => PairsAt H' vs qs)) (hl : qs.length ≤ 1000) : EvR T (tLst tr) σ H (NewPairs qs) := fun H1 e Q k =>
  h H1 e _ fun vs H2 e2 rs => ⟨Nat.le_of_lt (small1000 (by rw [rs.len]; exact hl)), fun p hp => k (.ref p) _ (e2.trans (.new hp)) ⟨p, vs, rfl, e2.n p hp, upd_same, rs.ex (T := T) (.new hp)⟩⟩
theorem er_catP {qs rs : List (Int × List Int)} (ha : Ev T ta σ H (.ref a)) (h : H a = some (.lst xs)) (hp : PairsAt H xs qs) (hb : EvR T tb σ H (NewPairs rs)) (hl : qs.length + rs.length ≤ 1000) : EvR T (tOp rCat ta tb) σ H (NewPairs (qs ++ rs)) := fun H1 e Q k =>
  ha H1 e _ fun H2 e2 => hb H2 (e.trans e2) _ fun v H3 e3 r => by
    obtain ⟨b, ys, rfl, hb0, hb3, rs'⟩ := r
    exact ⟨a, b, xs, ys, rfl, rfl, ((e.trans e2).trans e3).lst h, hb3, Nat.le_of_lt (small1000 (by rw [hp.len, rs'.len]; exact hl)), fun p hp' =>
      k (.ref p) _ ((e2.trans e3).trans (.new hp')) ⟨p, _, rfl, (e2.trans e3).n p hp', upd_same, ((hp.ex ((e.trans e2).trans e3)).app rs').ex (T := T) (.new hp')⟩⟩
/-! ### xs[i] = e on a list of one's own -/
theorem s_setL {D : Ends} {j : Nat} (hl : H l = some (.lst xs)) (h : Ev T te σ H v) (ho : Ev T ta σ H (.ref l)) (hi : Ev T tb σ H (.int i)) (hj : ixN xs.length i = some j) (k : ∀ H1, Ex T H H1 → H1 l = some (.lst xs) → D.nx σ (upd H1 l (.lst (xs.set j v)))) :
    tAsg te (gSub ta tb rSetL) D σ H := h H .refl _ fun H1 e1 => ho H1 e1 _ fun H2 e2 => hi H2 (e1.trans e2) _ fun H3 e3 =>
  ⟨l, xs, i, j, rfl, rfl, ((e1.trans e2).trans e3).lst hl, hj, k H3 ((e1.trans e2).trans e3) (((e1.trans e2).trans e3).lst hl)⟩
theorem ixN_at {n j : Nat} {i : Int} (h : i = (j : Int)) (hj : j < n) : ixN n i = some j := by
  unfold ixN
  rw [h, if_pos (by omega), if_pos (by omega)]
  simp
theorem ixN_last {n : Nat} (h : 0 < n) : ixN n (-1) = some (n - 1) := by
  unfold ixN
  rw [if_neg (by decide), if_pos (by omega)]
  congr 1
  omega
/-! ### lists of lists of ints -/
def LLs (H : Hp) : List Addr → List (List Int) → Prop
  | [], [] => True
  | a :: as, r :: rs => H a = some (.lst (vz r)) ∧ LLs H as rs
  | _, _ => False
theorem LLs.ex (e : Ex T H H') : ∀ {as : List Addr} {rs : List (List Int)}, LLs H as rs → LLs H' as rs
  | [], [], _ => trivial
  | _ :: _, _ :: _, h => ⟨e.lst h.1, LLs.ex e h.2⟩
  | [], _ :: _, h => h.elim
  | _ :: _, [], h => h.elim
theorem LLs.len : ∀ {as : List Addr} {rs : List (List Int)}, LLs H as rs → as.length = rs.length
  | [], [], _ => rfl
  | _ :: _, _ :: _, h => congrArg (· + 1) (LLs.len h.2)
  | [], _ :: _, h => h.elim
  | _ :: _, [], h => h.elim
theorem LLs.app : ∀ {as bs : List Addr} {rs ss : List (List Int)}, LLs H as rs → LLs H bs ss → LLs H (as ++ bs) (rs ++ ss)
  | [], _, [], _, _, h => h
  | _ :: _, _, _ :: _, _, h, h2 => ⟨h.1, LLs.app h.2 h2⟩
  | [], _, _ :: _, _, h, _ => h.elim
  | _ :: _, _, [], _, h, _ => h.elim
theorem LLs.at_ : ∀ {as : List Addr} {rs : List (List Int)} {i : Nat} {r : List Int}, LLs H as rs → rs[i]? = some r → ∃ a, as[i]? = some a ∧ H a = some (.lst (vz r))
  | a :: _, _ :: _, 0, _, h, e => ⟨a, rfl, by cases e; exact h.1⟩
  | _ :: _, _ :: _, i + 1, _, h, e => LLs.at_ (i := i) h.2 e
  | [], _ :: _, _, _, h, _ => h.elim
  | _ :: _, [], _, _, h, _ => h.elim
  | [], [], _, _, _, e => by simp at e
theorem LLs.at' : ∀ {as : List Addr} {rs : List (List Int)} {i : Nat} {a : Addr}, LLs H as rs → as[i]? = some a → ∃ r, rs[i]? = some r ∧ H a = some (.lst (vz r))
  | _ :: _, r :: _, 0, _, h, e => ⟨r, rfl, by cases e; exact h.1⟩
  | _ :: _, _ :: _, i + 1, _, h, e => LLs.at' (i := i) h.2 e
  | [], _ :: _, _, _, h, _ => h.elim
  | _ :: _, [], _, _, h, _ => h.elim
  | [], [], _, _, _, e => by simp at e
theorem LLs.but {D : Addr} {o : HO} : ∀ {as : List Addr} {rs : List (List Int)}, LLs H as rs → D ∉ as → LLs (upd H D o) as rs
  | [], [], _, _ => trivial
  | a :: _, _ :: _, h, hd => ⟨by rw [upd_ne (show a ≠ D from fun e => hd (by rw [e]; exact List.mem_cons_self))]; exact h.1, LLs.but h.2 fun z => hd (List.mem_cons_of_mem _ z)⟩
  | [], _ :: _, h, _ => h.elim
  | _ :: _, [], h, _ => h.elim
theorem LLs.one {r : List Int} (h : H a = some (.lst (vz r))) : LLs H [a] [r] := ⟨h, trivial⟩
/-- a new list of new lists -/
structure NewLLs (rs : List (List Int)) (H : Hp) (p : Addr) (as : List Addr) (H' : Hp) : Prop where
  p0 : H p = none
  p1 : H' p = some (.lst (as.map V.ref))
  ll : LLs H' as rs
  nw : ∀ a ∈ as, H a = none ∧ a ≠ p
  nd : as.Nodup
def NewLL (rs : List (List Int)) : Hp → V → Hp → Prop := fun H v H' => ∃ p as, v = .ref p ∧ NewLLs rs H p as H'
theorem NewLL.back {rs : List (List Int)} : ∀ H1 H2 v H3, Ex T H1 H2 → NewLL rs H2 v H3 → NewLL rs H1 v H3 := fun _ _ _ _ e ⟨p, as, ev, h⟩ => ⟨p, as, ev, e.n p h.p0, h.p1, h.ll, fun a ha => ⟨e.n a (h.nw a ha).1, (h.nw a ha).2⟩, h.nd⟩
def NewI (r : List Int) : Hp → V → Hp → Prop := fun H v H' => ∃ p, v = .ref p ∧ H p = none ∧ H' p = some (.lst (vz r))
theorem Ev.r (h : Ev T te σ H v) : EvR T te σ H (fun _ x _ => x = v) := fun H1 e _ q => h H1 e _ fun H2 e2 => q v H2 e2 rfl
theorem EvL.r {r : List Int} (h : EvL T te σ H (vz r)) : EvR T te σ H (NewI r) := fun H1 e _ q => h H1 e _ fun p H2 hp e2 h2 => q (.ref p) H2 e2 ⟨p, rfl, hp, h2⟩
theorem EvR.imp {R R' : Hp → V → Hp → Prop} (h : EvR T te σ H R) (hi : ∀ H1 v H2, Ex T H H1 → Ex T H1 H2 → R H1 v H2 → R' H1 v H2) : EvR T te σ H R' := fun H1 e _ q => h H1 e _ fun v H2 e2 r => q v H2 e2 (hi H1 v H2 e e2 r)
/-- a call of two arguments of which something is told -/
theorem ev_call2 {sp : Sp} {E : XK} {t1 t2 : TE} {R1 R2 : Hp → V → Hp → Prop} (h1 : EvR T t1 σ H R1) (h2 : EvR T t2 σ H R2)
    (hs : ∀ x y Ha Hb H1, Ex T H Ha → Ex T Ha Hb → Ex T Hb H1 → R1 Ha x Hb → R2 Hb y H1 → ∀ Q : VK, (∀ H2, Ex T H1 H2 → Q z H2) → sp [x, y] H1 Q E) : Ev T (tCall sp [] E (tCons t1 (tCons t2 tNil))) σ H z := fun H1 e Q q =>
  h1 H1 e _ fun x H2 e2 r1 => h2 H2 (e.trans e2) _ fun y H3 e3 r2 => hs x y H1 H2 H3 e e2 e3 r1 r2 Q fun H4 e4 => q H4 ((e2.trans e3).trans e4)
/-- xs[i] of what is made on the way -/
theorem er_ixLL {rs : List (List Int)} {r : List Int} {m : Nat} (ha : EvR T ta σ H (NewLL rs)) (hb : Ev T tb σ H (.int i)) (hi : i = (m : Int)) (hr : rs[m]? = some r) : EvR T (tOp (rIxL K) ta tb) σ H (NewI r) := fun H1 e Q q =>
  ha H1 e _ fun v H2 e2 ⟨p, as, ev, h⟩ => by
    subst ev
    refine hb H2 (e.trans e2) _ fun H3 e3 => ?_
    obtain ⟨a, h1, h2⟩ := h.ll.at_ hr
    exact ⟨p, as.map V.ref, i, .ref a, rfl, rfl, SqL.of (e3.lst h.p1), by rw [hi]; exact atI_nat (by rw [List.getElem?_map, h1]; rfl), q (.ref a) H3 (e2.trans e3) ⟨a, rfl, (h.nw a (List.mem_of_getElem? h1)).1, e3.lst h2⟩⟩
/-- [new list for k in range(m)] -/
theorem er_lcR1 {tr : TA} {vs : List Nat} {n : Nat} {m : Int} (h : EvA T tr σ H [.int m]) (hm : m ≤ 40000) (h0 : 0 ≤ m) (hw : ∀ x, wipe ((wipe σ vs).set n (some x)) vs = wipe σ vs) (rows : Nat → List Int)
    (he : ∀ (i : Nat) H1, Ex T H H1 → (i : Int) < m → EvL T te ((wipe σ vs).set n (some (.int (i : Int)))) H1 (vz (rows i))) :
    EvR T (tLc (iRng1 tr) (gName n) tYes te vs) σ H (NewLL ((List.range m.toNat).map rows)) := fun H0 e Q q => h H0 e _ fun H1 e1 => ⟨m, rfl, by omega, by omega, fun D hD =>
  lc_range (lo := 0) (n := m.toNat) (fun i H' => ∃ as : List Addr, Ex T H1 H' ∧ H' D = some (.lst (as.map V.ref)) ∧ LLs H' as ((List.range i).map rows) ∧ (∀ a ∈ as, H1 a = none ∧ a ≠ D) ∧ as.Nodup)
    ⟨[], .new hD, upd_same, trivial, fun _ h => (nomatch h), .nil⟩ (fun i H' hi ⟨as, p1, p2, p3, p4, p5⟩ => by
    have e0 : (0 : Int) + (i : Int) = (i : Int) := Int.zero_add _
    refine ⟨by rw [e0]; exact hw _, ?_⟩
    rw [e0]
    dsimp only [tYes]
    rw [if_pos rfl]
    refine he i H' ((e.trans e1).trans p1) (by omega) H' .refl _ fun p H2 hp e2 h2 => ⟨as.map V.ref, e2.lst p2, ?_, as ++ [p], ?_, ?_, ?_, ?_, ?_⟩
    · have hl := p3.len
      rw [List.length_map, List.length_range] at hl
      rw [List.length_map]
      exact Nat.lt_of_lt_of_le (show as.length < 100000 by omega) (by decide)
    · exact (p1.trans e2).mut hD (e2.lst p2)
    · rw [upd_same, List.map_append]
      rfl
    · have hDp : D ≠ p := ne_of_none p2 hp
      rw [List.range_succ, List.map_append]
      refine LLs.but ((p3.ex e2).app (LLs.one h2)) fun z => ?_
      rcases List.mem_append.mp z with z | z
      · exact (p4 D z).2 rfl
      · exact hDp (List.mem_singleton.mp z)
    · intro a ha
      rcases List.mem_append.mp ha with z | z
      · exact p4 a z
      · rw [List.mem_singleton.mp z]
        exact ⟨p1.n p hp, fun q => ne_of_none p2 hp q.symm⟩
    · refine List.nodup_append.mpr ⟨p5, List.nodup_cons.mpr ⟨List.not_mem_nil, .nil⟩, fun a ha b hb => ?_⟩
      rw [List.mem_singleton.mp hb]
      obtain ⟨j, hj⟩ := List.getElem?_of_mem ha
      obtain ⟨r, _, hr⟩ := p3.at' hj
      exact ne_of_none hr hp) (fun H' ⟨as, p1, p2, p3, p4, p5⟩ => q (.ref D) H' (e1.trans p1) ⟨D, as, rfl, e1.n D hD, p2, p3, fun a ha => ⟨e1.n a (p4 a ha).1, (p4 a ha).2⟩, p5⟩)⟩
/-- xs.index(n) of ints -/
theorem ev_index {ns : List Int} {n : Int} {m : Nat} (ha : Ev T ta σ H (.ref p)) (hb : Ev T tb σ H (.int n)) (h : SqL K H p (vz ns)) (hm : ns[m]? = some n) (hf : ∀ j, j < m → ns[j]? ≠ some n) :
    Ev T (tBM K "list" (rIndex K) ta (tCons tb tNil)) σ H (.int (m : Int)) := fun H1 e Q q =>
  ha H1 e _ fun H2 e2 => ⟨.inl ⟨rfl, _, (e.trans e2).sq h⟩, hb H2 (e.trans e2) _ fun H3 e3 => ⟨p, vz ns, .int n, m, .int n, rfl, rfl, ((e.trans e2).trans e3).sq h, rfl, by
    rw [List.all_eq_true]
    intro x hx
    obtain ⟨k, _, rfl⟩ := List.mem_map.mp hx
    rfl, by rw [List.getElem?_map, hm]; rfl, by show (n == n) = true; exact beq_self_eq_true n, fun j z hj hz => by
      obtain ⟨k, hk, rfl⟩ := at_vz hz
      show (k == n) = false
      exact beq_eq_false_iff_ne.mpr fun q => hf j hj (by rw [hk, q]), q H3 (e2.trans e3)⟩⟩
theorem first_at {n : Int} : ∀ {ns : List Int}, n ∈ ns → ∃ m : Nat, ns[m]? = some n ∧ ∀ j, j < m → ns[j]? ≠ some n
  | k :: r, h => by
    by_cases hk : k = n
    · exact ⟨0, by rw [hk]; rfl, fun j hj => absurd hj (Nat.not_lt_zero j)⟩
    · have hr : n ∈ r := (List.mem_cons.mp h).resolve_left fun e => hk e.symm
      obtain ⟨m, h1, h2⟩ := first_at hr
      refine ⟨m + 1, h1, fun j hj => ?_⟩
      cases j with
      | zero => intro e; exact hk (Option.some.inj e)
      | succ j => exact h2 j (by omega)
/-- a <= b < c -/
theorem ev_chain {g1 g2 : Int → Int → V} {b c : Bool} {i j k : Int} (ha : Ev T ta σ H (.int i)) (hb : Ev T tb σ H (.int j)) (hc : Ev T tc σ H (.int k)) (h1 : g1 i j = .bl b) (h2 : g2 j k = .bl c) :
    Ev T (tChain (rI0 g1) (rI0 g2) ta tb tc) σ H (.bl (b && c)) := fun H1 e Q q =>
  ha H1 e _ fun H2 e2 => hb H2 (e.trans e2) _ fun H3 e3 => ⟨i, j, rfl, rfl, b, h1, by
    cases b with
    | true => exact iteT (hc H3 ((e.trans e2).trans e3) _ fun H4 e4 => ⟨j, k, rfl, rfl, by rw [h2]; exact q H4 ((e2.trans e3).trans e4)⟩)
    | false => exact iteF (q H3 (e2.trans e3))⟩
/-- [k for k in range(m) if test] -/
theorem el_lcR1F {tr : TA} {vs : List Nat} {n : Nat} {m : Int} (f : Nat → Bool) (g : Nat → V) (h : EvA T tr σ H [.int m]) (hm : m ≤ 40000) (h0 : 0 ≤ m) (hw : ∀ x, wipe ((wipe σ vs).set n (some x)) vs = wipe σ vs)
    (ht : ∀ (i : Nat) H1, Ex T H H1 → (i : Int) < m → EvT T t ((wipe σ vs).set n (some (.int (i : Int)))) H1 (f i))
    (he : ∀ (i : Nat) H1, Ex T H H1 → (i : Int) < m → f i = true → Ev T te ((wipe σ vs).set n (some (.int (i : Int)))) H1 (g i)) :
    EvL T (tLc (iRng1 tr) (gName n) t te vs) σ H (((List.range m.toNat).filter f).map g) := fun H0 e Q q => h H0 e _ fun H1 e1 => ⟨m, rfl, by omega, by omega, fun D hD =>
  lc_range (lo := 0) (n := m.toNat) (fun i H' => Ex T H1 H' ∧ H' D = some (.lst (((List.range i).filter f).map g))) ⟨.new hD, upd_same⟩ (fun i H' hi ⟨p1, p2⟩ => by
    have e0 : (0 : Int) + (i : Int) = (i : Int) := Int.zero_add _
    refine ⟨by rw [e0]; exact hw _, ?_⟩
    rw [e0]
    refine ht i H' ((e.trans e1).trans p1) (by omega) H' .refl _ fun H2 e2 => ?_
    cases hf : f i with
    | true =>
      refine iteT (he i H2 (((e.trans e1).trans p1).trans e2) (by omega) hf H2 .refl _ fun H3 e3 => ⟨_, (e2.trans e3).lst p2, ?_, (p1.trans (e2.trans e3)).mut hD ((e2.trans e3).lst p2), ?_⟩)
      · have h1 := List.length_filter_le f (List.range i)
        rw [List.length_range] at h1
        rw [List.length_map]
        exact Nat.lt_of_lt_of_le (show ((List.range i).filter f).length < 100000 by omega) (by decide)
      · rw [upd_same, List.range_succ, List.filter_append, List.map_append]
        simp [hf]
    | false =>
      refine iteF ⟨p1.trans e2, ?_⟩
      rw [e2.lst p2, List.range_succ, List.filter_append, List.map_append]
      simp [hf]) (fun H' ⟨p1, p2⟩ => q D H' (e1.n D hD) (e1.trans p1) p2)⟩
theorem ev_eqLN {ns ms : List Int} (ha : Ev T ta σ H (.ref p)) (hb : EvL T tb σ H (vz ms)) (h : SqL K H p (vz ns)) : Ev T (tOp (rEqD K) ta tb) σ H (.bl (decide (ns = ms))) := fun H1 e Q f =>
  ha H1 e _ fun H2 e2 => hb H2 (e.trans e2) _ fun r H3 _ e3 hr => ⟨_, _, dp_I (((e.trans e2).trans e3).sq h), dp_I (SqL.of hr), sh_I _, sh_I _, by rw [eqv_I]; exact f H3 (e2.trans e3)⟩
theorem ev_neLN {ns ms : List Int} (ha : Ev T ta σ H (.ref p)) (hb : EvL T tb σ H (vz ms)) (h : SqL K H p (vz ns)) : Ev T (tOp (rNeD K) ta tb) σ H (.bl (!decide (ns = ms))) := fun H1 e Q f =>
  ha H1 e _ fun H2 e2 => hb H2 (e.trans e2) _ fun r H3 _ e3 hr => ⟨_, _, dp_I (((e.trans e2).trans e3).sq h), dp_I (SqL.of hr), sh_I _, sh_I _, by rw [eqv_I]; exact f H3 (e2.trans e3)⟩
theorem ev_eqNL {ns ms : List Int} {q : Addr} (ha : EvL T ta σ H (vz ns)) (hb : Ev T tb σ H (.ref q)) (h2 : SqL K H q (vz ms)) : Ev T (tOp (rEqD K) ta tb) σ H (.bl (decide (ns = ms))) := fun H1 e Q f =>
  ha H1 e _ fun r H2 _ e2 hr => hb H2 (e.trans e2) _ fun H3 e3 => ⟨_, _, dp_I (e3.sq (SqL.of hr)), dp_I (((e.trans e2).trans e3).sq h2), sh_I _, sh_I _, by rw [eqv_I]; exact f H3 (e2.trans e3)⟩
theorem ev_neRL {ns ms : List Int} {q : Addr} {R : Hp → V → Hp → Prop} (ha : EvR T ta σ H R) (hR : ∀ H1 v H2, Ex T H H1 → Ex T H1 H2 → R H1 v H2 → ∃ r, v = .ref r ∧ H2 r = some (.lst (vz ns))) (hb : Ev T tb σ H (.ref q)) (h2 : SqL K H q (vz ms)) : Ev T (tOp (rNeD K) ta tb) σ H (.bl (!decide (ns = ms))) := fun H1 e Q f =>
  ha H1 e _ fun v H2 e2 hv => by
    obtain ⟨r, rfl, hr⟩ := hR H1 v H2 e e2 hv
    exact hb H2 (e.trans e2) _ fun H3 e3 => ⟨_, _, dp_I (e3.sq (SqL.of hr)), dp_I (((e.trans e2).trans e3).sq h2), sh_I _, sh_I _, by rw [eqv_I]; exact f H3 (e2.trans e3)⟩
/-! ### pairs of lists of ints -/
def dP (q : List Int × List Int) : PyData := .tuple [dI q.1, dI q.2]
def Pr (H : Hp) (p : Addr) (q : List Int × List Int) : Prop := ∃ a b, H p = some (.tup [.ref a, .ref b]) ∧ H a = some (.lst (vz q.1)) ∧ H b = some (.lst (vz q.2))
theorem Pr.ex {q : List Int × List Int} (h : Pr H p q) (e : Ex T H H') : Pr H' p q := by
  obtain ⟨a, b, h1, h2, h3⟩ := h
  exact ⟨a, b, e.tup h1, e.lst h2, e.lst h3⟩
theorem Pr.dp {q : List Int × List Int} (h : Pr H p q) : Dp K H (.ref p) (dP q) := by
  obtain ⟨a, b, h1, h2, h3⟩ := h
  exact .tup (.inl (.inl h1)) (.cons (dp_I (SqL.of h2)) (.cons (dp_I (SqL.of h3)) .nil))
theorem sh_P (q : List Int × List Int) : SeqAt.shaped (dP q) = true := by
  show (PyData.canLay0 (dP q) && decide (PyData.depth (dP q) ≤ 64)) = true
  have h1 : PyData.canLay0 (dP q) = true := by
    show PyData.canLay0 (.tuple [dI q.1, dI q.2]) = true
    simp only [PyData.canLay0, PyData.canLayAll0, lay_I, Bool.and_self]
  have h2 : PyData.depth (dP q) ≤ 64 := by
    show PyData.depth (.tuple [dI q.1, dI q.2]) ≤ 64
    simp only [PyData.depth, PyData.depthAll, dep_I]
    decide
  rw [h1, decide_eq_true h2]
  rfl
theorem eqv_P (q r : List Int × List Int) : PyData.eqv (dP q) (dP r) = decide (q = r) := by
  show PyData.eqv (.tuple [dI q.1, dI q.2]) (.tuple [dI r.1, dI r.2]) = decide (q = r)
  simp only [PyData.eqv, PyData.eqvAll, eqv_I, Bool.and_true]
  obtain ⟨a, b⟩ := q
  obtain ⟨c, d⟩ := r
  by_cases h1 : a = c
  · by_cases h2 : b = d
    · simp [h1, h2]
    · simp [h1, h2]
  · simp [h1]
/-- a new pair == one that stands -/
theorem ev_eqNP {q r : List Int × List Int} {b : Addr} {R : Hp → V → Hp → Prop} (ha : EvR T ta σ H R) (hR : ∀ H1 v H2, Ex T H H1 → Ex T H1 H2 → R H1 v H2 → ∃ p, v = .ref p ∧ Pr H2 p q) (hb : Ev T tb σ H (.ref b)) (h2 : Pr H b r) : Ev T (tOp (rEqD K) ta tb) σ H (.bl (decide (q = r))) := fun H1 e Q f =>
  ha H1 e _ fun v H2 e2 hv => by
    obtain ⟨p, rfl, hp⟩ := hR H1 v H2 e e2 hv
    exact hb H2 (e.trans e2) _ fun H3 e3 => ⟨_, _, (hp.ex e3).dp, (h2.ex ((e.trans e2).trans e3)).dp, sh_P _, sh_P _, by rw [eqv_P]; exact f H3 (e2.trans e3)⟩
/-- (new list, new list) -/
def NewPr (q : List Int × List Int) : Hp → V → Hp → Prop := fun H v H' => ∃ p a b, v = .ref p ∧ H p = none ∧ H a = none ∧ H b = none ∧ H' p = some (.tup [.ref a, .ref b]) ∧ H' a = some (.lst (vz q.1)) ∧ H' b = some (.lst (vz q.2))
theorem er_tup2 {ns ms : List Int} (ha : EvL T ta σ H (vz ns)) (hb : EvL T tb σ H (vz ms)) : EvR T (tTup (tCons ta (tCons tb tNil))) σ H (NewPr (ns, ms)) := fun H1 e Q f => by
  simp only [tTup, tCons, tNil]
  refine ha H1 e _ fun a H2 ha0 e2 h2 => hb H2 (e.trans e2) _ fun b H3 hb0 e3 h3 => ⟨(by decide : 2 ≤ sizeLine), fun p hp => f (.ref p) _ ((e2.trans e3).trans (.new hp)) ⟨p, a, b, rfl, (e2.trans e3).n p hp, ha0, e2.n b hb0, upd_same, ?_, ?_⟩⟩
  · rw [upd_ne (ne_of_none (e3.lst h2) hp)]
    exact e3.lst h2
  · rw [upd_ne (ne_of_none h3 hp)]
    exact h3
/-- xs.reverse() -/
theorem s_rev {D : Ends} (hl : H l = some (.lst xs)) (ha : Ev T ta σ H (.ref l)) (k : ∀ H1, Ex T H H1 → H1 l = some (.lst xs) → D.nx σ (upd H1 l (.lst xs.reverse))) : tDrop (tBM0 K "list" rReverse ta) D σ H := ha H .refl _ fun H1 e1 =>
  ⟨.inl ⟨rfl, xs, SqL.of (e1.lst hl)⟩, l, xs, rfl, rfl, e1.lst hl, k H1 e1 (e1.lst hl)⟩
end
end Sm

/-! SmM: the numbers: rows, neighbours. -/
namespace Sm
def prd : List Int → Int
  | [] => 1
  | n :: r => n * prd r
def sqs : List Int → Int
  | [] => 0
  | n :: r => n * n + sqs r
theorem prd_app : ∀ a b : List Int, prd (a ++ b) = prd a * prd b
  | [], b => by show prd b = 1 * prd b; rw [Int.one_mul]
  | n :: r, b => by
    show n * prd (r ++ b) = n * prd r * prd b
    rw [prd_app r b, Int.mul_assoc]
theorem sqs_app : ∀ a b : List Int, sqs (a ++ b) = sqs a + sqs b
  | [], b => by show sqs b = 0 + sqs b; omega
  | n :: r, b => by
    show n * n + sqs (r ++ b) = n * n + sqs r + sqs b
    rw [sqs_app r b]; omega
theorem sum_app' (a b : List Int) : (a ++ b).sum = a.sum + b.sum := by
  induction a with
  | nil => simp
  | cons n r ih => rw [List.cons_append, List.sum_cons, List.sum_cons, ih]; omega
theorem prd_perm {a b : List Int} (h : a.Perm b) : prd a = prd b := by
  induction h with
  | nil => rfl
  | cons x _ ih => show x * _ = x * _; rw [ih]
  | swap x y l => show y * (x * prd l) = x * (y * prd l); rw [← Int.mul_assoc, ← Int.mul_assoc, Int.mul_comm y x]
  | trans _ _ i1 i2 => exact i1.trans i2
theorem sqs_perm {a b : List Int} (h : a.Perm b) : sqs a = sqs b := by
  induction h with
  | nil => rfl
  | cons x _ ih => show x * x + _ = x * x + _; rw [ih]
  | swap x y l => show y * y + (x * x + sqs l) = x * x + (y * y + sqs l); omega
  | trans _ _ i1 i2 => exact i1.trans i2
theorem sum_perm' {a b : List Int} (h : a.Perm b) : a.sum = b.sum := by
  induction h with
  | nil => rfl
  | cons x _ ih => rw [List.sum_cons, List.sum_cons, ih]
  | swap x y l => rw [List.sum_cons, List.sum_cons, List.sum_cons, List.sum_cons]; omega
  | trans _ _ i1 i2 => exact i1.trans i2
theorem sqs_map (ns : List Int) : (ns.map fun n => n * n).sum = sqs ns := by
  induction ns with
  | nil => rfl
  | cons n r ih => rw [List.map_cons, List.sum_cons, ih]; rfl
theorem sqs_nn : ∀ ns : List Int, 0 ≤ sqs ns
  | [] => Int.le_refl 0
  | n :: r => by
    have h1 := sqs_nn r
    have h2 : 0 ≤ n * n := by
      rcases Int.le_total 0 n with h | h
      · exact Int.mul_nonneg h h
      · exact Int.mul_nonneg_of_nonpos_of_nonpos h h
    show 0 ≤ n * n + sqs r
    omega
theorem sqs_ge {n : Int} : ∀ {ns : List Int}, n ∈ ns → n * n ≤ sqs ns
  | m :: r, h => by
    show n * n ≤ m * m + sqs r
    rcases List.mem_cons.mp h with e | e
    · rw [e]; have := sqs_nn r; omega
    · have h1 := sqs_ge e
      have h2 : 0 ≤ m * m := by
        rcases Int.le_total 0 m with h | h
        · exact Int.mul_nonneg h h
        · exact Int.mul_nonneg_of_nonpos_of_nonpos h h
      omega
theorem prd_pos : ∀ {ns : List Int}, (∀ n ∈ ns, 1 ≤ n) → 1 ≤ prd ns
  | [], _ => Int.le_refl 1
  | n :: r, h => by
    have h1 : 1 ≤ n := h n List.mem_cons_self
    have h2 := prd_pos (ns := r) fun m hm => h m (List.mem_cons_of_mem _ hm)
    have h3 : 1 * 1 ≤ n * prd r := Int.mul_le_mul h1 h2 (by omega) (by omega)
    exact h3
theorem sum_ge {ns : List Int} (h : ∀ n ∈ ns, 1 ≤ n) : (ns.length : Int) ≤ ns.sum := by
  induction ns with
  | nil => simp
  | cons n r ih =>
    have h1 : 1 ≤ n := h n List.mem_cons_self
    have h2 := ih fun m hm => h m (List.mem_cons_of_mem _ hm)
    rw [List.sum_cons, List.length_cons]
    omega
theorem mem_sum {ns : List Int} (h : ∀ n ∈ ns, 1 ≤ n) {n : Int} (hn : n ∈ ns) : n ≤ ns.sum := by
  induction ns with
  | nil => cases hn
  | cons m r ih =>
    have h1 : 1 ≤ m := h m List.mem_cons_self
    have h3 : ∀ m ∈ r, 1 ≤ m := fun m hm => h m (List.mem_cons_of_mem _ hm)
    have h2 := sum_ge h3
    rw [List.sum_cons]
    rcases List.mem_cons.mp hn with e | e
    · omega
    · have := ih h3 e; omega
/-- the squares' sum is at most the sum's square -/
theorem sqs_le {ns : List Int} (h : ∀ n ∈ ns, 1 ≤ n) : sqs ns ≤ ns.sum * ns.sum := by
  induction ns with
  | nil => exact Int.le_refl 0
  | cons n r ih =>
    have h1 : 1 ≤ n := h n List.mem_cons_self
    have h3 : ∀ m ∈ r, 1 ≤ m := fun m hm => h m (List.mem_cons_of_mem _ hm)
    have h2 := ih h3
    have h4 : 0 ≤ r.sum := Int.le_trans (Int.natCast_nonneg _) (sum_ge h3)
    have h5 : 0 ≤ n * r.sum := Int.mul_nonneg (by omega) h4
    rw [List.sum_cons]
    show n * n + sqs r ≤ (n + r.sum) * (n + r.sum)
    have e : (n + r.sum) * (n + r.sum) = n * n + n * r.sum + (n * r.sum + r.sum * r.sum) := by
      rw [Int.add_mul, Int.mul_add, Int.mul_add, Int.mul_comm r.sum n]
    omega

/-! ### rows -/
structure IsRow (t : Int) (ns : List Int) : Prop where
  pos : ∀ n ∈ ns, 1 ≤ n
  ord : ns.Pairwise (· ≤ ·)
  eq : sqs ns = t * prd ns
instance (t : Int) (ns : List Int) : Decidable (IsRow t ns) := decidable_of_iff ((∀ n ∈ ns, 1 ≤ n) ∧ ns.Pairwise (· ≤ ·) ∧ sqs ns = t * prd ns) ⟨fun h => ⟨h.1, h.2.1, h.2.2⟩, fun h => ⟨h.pos, h.ord, h.eq⟩⟩
/-- what the walk along a row looks at -/
def okAt (ns : List Int) (k : Nat) : Prop := 1 ≤ ns.getD k 0 ∧ (0 < k → ns.getD (k - 1) 0 ≤ ns.getD k 0)
theorem okAt_all {ns : List Int} (h : ∀ k, k < ns.length → okAt ns k) : (∀ n ∈ ns, 1 ≤ n) ∧ ns.Pairwise (· ≤ ·) := by
  constructor
  · intro n hn
    obtain ⟨k, hk, e⟩ := List.getElem_of_mem hn
    have := (h k hk).1
    rw [List.getD_eq_getElem?_getD, List.getElem?_eq_getElem hk] at this
    rw [← e]; exact this
  · rw [List.pairwise_iff_getElem]
    intro i j hi hj hij
    have g : ∀ k (hk : k < ns.length), ns.getD k 0 = ns[k] := fun k hk => by rw [List.getD_eq_getElem?_getD, List.getElem?_eq_getElem hk]; rfl
    have step : ∀ d, ∀ (hd : i + d < ns.length), ns[i] ≤ ns[i + d] := by
      intro d
      induction d with
      | zero => intro _; exact Int.le_refl _
      | succ d ih =>
        intro hd
        have h1 := ih (by omega)
        have h2 := (h (i + (d + 1)) hd).2 (by omega)
        rw [g _ hd, show i + (d + 1) - 1 = i + d by omega, g _ (by omega)] at h2
        exact Int.le_trans h1 h2
    have := step (j - i) (by omega)
    have e : i + (j - i) = j := by omega
    simp only [e] at this
    exact this
theorem IsRow.okAt {t : Int} {ns : List Int} (h : IsRow t ns) {k : Nat} (hk : k < ns.length) : okAt ns k := by
  have g : ∀ k (hk : k < ns.length), ns.getD k 0 = ns[k] := fun k hk => by rw [List.getD_eq_getElem?_getD, List.getElem?_eq_getElem hk]; rfl
  refine ⟨?_, fun h0 => ?_⟩
  · rw [g k hk]; exact h.pos _ (List.getElem_mem hk)
  · rw [g k hk, g (k - 1) (by omega)]
    exact (List.pairwise_iff_getElem.mp h.ord) (k - 1) k (by omega) hk (by omega)

/-! ### neighbours -/
def oth (ns : List Int) (p : Nat) : List Int := ns.take p ++ ns.drop (p + 1)
def new (t : Int) (ns : List Int) (p : Nat) : Int := t * prd (oth ns p) - ns.getD p 0
def near (t : Int) (ns : List Int) (p : Nat) : List Int := isort (oth ns p ++ [new t ns p])
section
variable {t : Int} {ns : List Int} {p : Nat}
theorem oth_perm (hp : p < ns.length) : ns.Perm (ns.getD p 0 :: oth ns p) := by
  have e : ns = ns.take p ++ ns.getD p 0 :: ns.drop (p + 1) := by
    rw [List.getD_eq_getElem?_getD, List.getElem?_eq_getElem hp]
    show ns = ns.take p ++ ns[p] :: ns.drop (p + 1)
    rw [← List.drop_eq_getElem_cons hp, List.take_append_drop]
  have h : (ns.take p ++ ns.getD p 0 :: ns.drop (p + 1)).Perm (ns.getD p 0 :: (ns.take p ++ ns.drop (p + 1))) := List.perm_middle
  exact (List.Perm.of_eq e).trans h
theorem near_perm : (near t ns p).Perm (new t ns p :: oth ns p) := (isort_perm _).trans (List.perm_append_comm (l₁ := oth ns p) (l₂ := [new t ns p]))
theorem near_ord : (near t ns p).Pairwise (· ≤ ·) := isort_sorted _
theorem oth_len (hp : p < ns.length) : (oth ns p).length + 1 = ns.length := by
  have := (oth_perm hp).length_eq
  rw [List.length_cons] at this
  omega
theorem near_len (hp : p < ns.length) : (near t ns p).length = ns.length := by
  rw [near_perm.length_eq, List.length_cons, oth_len hp]
theorem getD_mem {ns : List Int} {p : Nat} (hp : p < ns.length) : ns.getD p 0 ∈ ns := by
  rw [List.getD_eq_getElem?_getD, List.getElem?_eq_getElem hp]
  exact List.getElem_mem hp
theorem oth_sub {n : Int} (hp : p < ns.length) (h : n ∈ oth ns p) : n ∈ ns := (oth_perm hp).symm.subset (List.mem_cons_of_mem _ h)
theorem near_sum (hp : p < ns.length) : (near t ns p).sum = ns.sum - ns.getD p 0 + new t ns p := by
  rw [sum_perm' near_perm, sum_perm' (oth_perm hp), List.sum_cons, List.sum_cons]
  omega
theorem new_mul (h : IsRow t ns) (hp : p < ns.length) : ns.getD p 0 * new t ns p = sqs (oth ns p) := by
  have e1 := sqs_perm (oth_perm hp)
  have e2 := prd_perm (oth_perm hp)
  have e3 := h.eq
  rw [e1, e2] at e3
  have e4 : ns.getD p 0 * ns.getD p 0 + sqs (oth ns p) = t * (ns.getD p 0 * prd (oth ns p)) := e3
  have e5 : ns.getD p 0 * new t ns p = t * (ns.getD p 0 * prd (oth ns p)) - ns.getD p 0 * ns.getD p 0 := by
    unfold new
    rw [Int.mul_sub, ← Int.mul_assoc, ← Int.mul_assoc, Int.mul_comm t]
  omega
theorem new_pos (h : IsRow t ns) (hp : p < ns.length) (h2 : 2 ≤ ns.length) : 1 ≤ new t ns p := by
  have e := new_mul h hp
  have h1 : 1 ≤ ns.getD p 0 := h.pos _ (getD_mem hp)
  have ho : 0 < (oth ns p).length := by have := oth_len hp; omega
  obtain ⟨m, hm⟩ := List.exists_mem_of_length_pos ho
  have hm1 : 1 ≤ m := h.pos _ (oth_sub hp hm)
  have h3 : m * m ≤ sqs (oth ns p) := sqs_ge hm
  have h4 : 1 * 1 ≤ m * m := Int.mul_le_mul hm1 hm1 (by omega) (by omega)
  rcases Int.lt_or_le (new t ns p) 1 with h5 | h5
  · have : ns.getD p 0 * new t ns p ≤ 0 := Int.mul_nonpos_of_nonneg_of_nonpos (by omega) (by omega)
    omega
  · exact h5
theorem near_row (h : IsRow t ns) (hp : p < ns.length) (h2 : 2 ≤ ns.length) : IsRow t (near t ns p) := by
  refine ⟨fun n hn => ?_, near_ord, ?_⟩
  · rcases List.mem_cons.mp (near_perm.subset hn) with e | e
    · rw [e]; exact new_pos h hp h2
    · exact h.pos _ (oth_sub hp e)
  · rw [sqs_perm near_perm, prd_perm near_perm]
    show new t ns p * new t ns p + sqs (oth ns p) = t * (new t ns p * prd (oth ns p))
    rw [← new_mul h hp]
    have e : t * (new t ns p * prd (oth ns p)) = new t ns p * (new t ns p + ns.getD p 0) := by
      have e1 : new t ns p + ns.getD p 0 = t * prd (oth ns p) := by unfold new; omega
      rw [e1, ← Int.mul_assoc, Int.mul_comm t, Int.mul_assoc]
    rw [e, Int.mul_add, Int.mul_comm (ns.getD p 0)]
/-- back by the new number's place -/
theorem near_back (hr : ns.Pairwise (· ≤ ·)) (hp : p < ns.length) {q : Nat} (hq : q < ns.length) (e : (near t ns p).getD q 0 = new t ns p) : near t (near t ns p) q = ns := by
  have hq' : q < (near t ns p).length := by rw [near_len hp]; exact hq
  have p1 := oth_perm hq'
  rw [e] at p1
  have p2 : (oth (near t ns p) q).Perm (oth ns p) := (p1.symm.trans near_perm).cons_inv
  have e2 : new t (near t ns p) q = ns.getD p 0 := by
    unfold new
    rw [prd_perm p2, e]
    unfold new
    omega
  have p3 : (near t (near t ns p) q).Perm ns := by
    refine near_perm.trans ?_
    rw [e2]
    exact (p2.cons _).trans (oth_perm hp).symm
  exact sort_one p3 near_ord hr
/-- the last one is the greatest -/
theorem le_last (hr : ns.Pairwise (· ≤ ·)) {n : Int} (h : n ∈ ns) : n ≤ ns.getD (ns.length - 1) 0 := by
  obtain ⟨k, hk, e⟩ := List.getElem_of_mem h
  have hl : ns.length - 1 < ns.length := by omega
  have g : ns.getD (ns.length - 1) 0 = ns[ns.length - 1] := by rw [List.getD_eq_getElem?_getD, List.getElem?_eq_getElem hl]; rfl
  rw [g, ← e]
  by_cases hkl : k = ns.length - 1
  · simp only [hkl]; exact Int.le_refl _
  · exact (List.pairwise_iff_getElem.mp hr) k (ns.length - 1) hk hl (by omega)
/-- at a place ahead of the last one the new number is the greatest of all -/
theorem new_great (h : IsRow t ns) (hp : p + 1 < ns.length) (h3 : 3 ≤ ns.length) : ns.getD (ns.length - 1) 0 < new t ns p := by
  have hp' : p < ns.length := by omega
  have e := new_mul h hp'
  have h1 : 1 ≤ ns.getD p 0 := h.pos _ (getD_mem hp')
  have hl : ns.length - 1 < ns.length := by omega
  -- the others hold the last one and one more
  have hd : ns.getD (ns.length - 1) 0 ∈ ns.drop (p + 1) := by
    rw [List.getD_eq_getElem?_getD, List.getElem?_eq_getElem hl]
    show ns[ns.length - 1] ∈ _
    have : (ns.drop (p + 1))[ns.length - 1 - (p + 1)]? = some ns[ns.length - 1] := by
      rw [List.getElem?_drop, show p + 1 + (ns.length - 1 - (p + 1)) = ns.length - 1 by omega, List.getElem?_eq_getElem hl]
    exact List.mem_of_getElem? this
  have ho : ns.getD (ns.length - 1) 0 ∈ oth ns p := List.mem_append_right _ hd
  have hq := List.perm_cons_erase ho
  have e2 := sqs_perm hq
  have hlen : (oth ns p).length = ns.length - 1 := by have := oth_len hp'; omega
  have hr2 : 0 < ((oth ns p).erase (ns.getD (ns.length - 1) 0)).length := by
    have := hq.length_eq
    rw [List.length_cons] at this
    omega
  obtain ⟨m, hm⟩ := List.exists_mem_of_length_pos hr2
  have hm1 : 1 ≤ m := h.pos _ (oth_sub hp' (List.mem_of_mem_erase hm))
  have h4 : m * m ≤ sqs ((oth ns p).erase (ns.getD (ns.length - 1) 0)) := sqs_ge hm
  have h5 : 1 * 1 ≤ m * m := Int.mul_le_mul hm1 hm1 (by omega) (by omega)
  have e3 : sqs (oth ns p) = ns.getD (ns.length - 1) 0 * ns.getD (ns.length - 1) 0 + sqs ((oth ns p).erase (ns.getD (ns.length - 1) 0)) := e2
  have hle : ns.getD p 0 ≤ ns.getD (ns.length - 1) 0 := le_last h.ord (getD_mem hp')
  have hl1 : 1 ≤ ns.getD (ns.length - 1) 0 := h.pos _ (getD_mem hl)
  rcases Int.lt_or_le (ns.getD (ns.length - 1) 0) (new t ns p) with hc | hc
  · exact hc
  · have h6 : ns.getD p 0 * new t ns p ≤ ns.getD (ns.length - 1) 0 * ns.getD (ns.length - 1) 0 := Int.mul_le_mul hle hc (by have := new_pos h hp' (by omega); omega) (by omega)
    omega
/-- the new number against the size -/
theorem new_le (h : IsRow t ns) (hp : p < ns.length) (h2 : 2 ≤ ns.length) : new t ns p ≤ ns.sum * ns.sum := by
  have e := new_mul h hp
  have h1 : 1 ≤ ns.getD p 0 := h.pos _ (getD_mem hp)
  have hn := new_pos h hp h2
  have h3 : 1 * new t ns p ≤ ns.getD p 0 * new t ns p := Int.mul_le_mul_of_nonneg_right h1 (by omega)
  have e2 := sqs_perm (oth_perm hp)
  have e3 : sqs ns = ns.getD p 0 * ns.getD p 0 + sqs (oth ns p) := e2
  have h4 : 0 ≤ ns.getD p 0 * ns.getD p 0 := Int.mul_nonneg (by omega) (by omega)
  have h5 := sqs_le h.pos
  omega
theorem near_size (h : IsRow t ns) (hp : p < ns.length) (h2 : 2 ≤ ns.length) : (near t ns p).sum ≤ 2 * (ns.sum * ns.sum) := by
  have h1 : 1 ≤ ns.getD p 0 := h.pos _ (getD_mem hp)
  have h3 := new_le h hp h2
  have h4 := sum_ge h.pos
  have h5 : 1 * ns.sum ≤ ns.sum * ns.sum := Int.mul_le_mul_of_nonneg_right (by omega) (by omega)
  rw [near_sum hp]
  omega
end
/-! ### bits -/
def Bd (b : Nat) (ns : List Int) : Prop := ∀ n ∈ ns, n.natAbs < 2 ^ b
theorem Bd.app {b : Nat} {xs ys : List Int} (h : Bd b xs) (h2 : Bd b ys) : Bd b (xs ++ ys) := fun n hn => (List.mem_append.mp hn).elim (h n) (h2 n)
theorem Bd.mono {b c : Nat} {xs : List Int} (h : Bd b xs) (hc : b ≤ c) : Bd c xs := fun n hn => Nat.lt_of_lt_of_le (h n hn) (Nat.pow_le_pow_right (by decide) hc)
theorem Bd.sub {b : Nat} {xs ys : List Int} (h : Bd b ys) (hs : ∀ n ∈ xs, n ∈ ys) : Bd b xs := fun n hn => h n (hs n hn)
theorem Bd.prod {b : Nat} : ∀ {ns : List Int}, Bd b ns → (prd ns).natAbs < 2 ^ (b * ns.length + 1)
  | [], _ => by show (1 : Nat) < 2 ^ (b * 0 + 1); simp
  | n :: r, h => by
    have h1 : n.natAbs < 2 ^ b := h n List.mem_cons_self
    have h2 := Bd.prod (ns := r) fun m hm => h m (List.mem_cons_of_mem _ hm)
    show (n * Sm.prd r).natAbs < _
    rw [Int.natAbs_mul, List.length_cons, show b * (r.length + 1) + 1 = b + (b * r.length + 1) by rw [Nat.mul_add]; omega, Nat.pow_add]
    exact Nat.mul_lt_mul'' h1 h2
theorem Bd.of_sum {b : Nat} {ns : List Int} (h : ∀ n ∈ ns, 1 ≤ n) (hs : ns.sum < 2 ^ b) : Bd b ns := fun n hn => by
  have h1 := h n hn
  have h2 := mem_sum h hn
  have h3 : (n.natAbs : Int) < ((2 ^ b : Nat) : Int) := by
    rw [Int.natCast_pow]
    show (n.natAbs : Int) < 2 ^ b
    omega
  exact Int.ofNat_lt.mp h3
theorem natAbs_sub_lt {x y : Int} {a : Nat} (h1 : x.natAbs < 2 ^ a) (h2 : y.natAbs < 2 ^ a) : (x - y).natAbs < 2 ^ (a + 1) := by
  rw [Nat.pow_succ]
  omega
/-- a neighbour by a bound alone -/
theorem Bd.near {b c : Nat} {t : Int} {ns : List Int} {p : Nat} (h : Bd b ns) (ht : t.natAbs < 2 ^ c) (hp : p < ns.length) (hl : ns.length ≤ 6) : Bd (c + 5 * b + 2) (near t ns p) := by
  have ho : Bd b (oth ns p) := h.sub fun n hn => oth_sub hp hn
  intro n hn
  rcases List.mem_cons.mp (near_perm.subset hn) with e | e
  · rw [e]
    have h1 := ho.prod
    have h2 : (prd (oth ns p)).natAbs < 2 ^ (5 * b + 1) := Nat.lt_of_lt_of_le h1 (Nat.pow_le_pow_right (by decide) (by
      have := oth_len hp
      have h3 : b * (oth ns p).length ≤ b * 5 := Nat.mul_le_mul_left _ (by omega)
      omega))
    have h3 : (t * prd (oth ns p)).natAbs < 2 ^ (c + 5 * b + 1) := by
      rw [Int.natAbs_mul, show c + 5 * b + 1 = c + (5 * b + 1) by omega, Nat.pow_add]
      exact Nat.mul_lt_mul'' ht h2
    exact natAbs_sub_lt h3 (Nat.lt_of_lt_of_le (h _ (getD_mem hp)) (Nat.pow_le_pow_right (by decide) (by omega)))
  · exact Nat.lt_of_lt_of_le (ho n e) (Nat.pow_le_pow_right (by decide) (by omega))
/-- what the reckonings along a row ask -/
structure Wd (t : Int) (ns : List Int) : Prop where
  ht : t.natAbs < 2 ^ 10
  len : ns.length ≤ 6
  b : ∃ b, 1 ≤ b ∧ b ≤ 100000 ∧ Bd b ns
/-! ### what the law draws -/
/-- the greatest size after so many steps -/
def bb : Nat → Nat
  | 0 => 4
  | k + 1 => 2 * bb k + 1
structure Dr (k : Nat) (t : Int) (ns : List Int) : Prop where
  ht : 1 ≤ t ∧ t ≤ 6
  row : IsRow t ns
  len : 3 ≤ ns.length ∧ ns.length ≤ 6
  sz : ns.sum < 2 ^ bb k
theorem pow_cast (b : Nat) : ((2 ^ b : Nat) : Int) = (2 : Int) ^ b := Int.natCast_pow 2 b
theorem sq_pow {s : Int} {b : Nat} (h0 : 0 ≤ s) (h : s < 2 ^ b) : 2 * (s * s) < 2 ^ (2 * b + 1) := by
  have h1 : s * s < 2 ^ b * 2 ^ b := by
    rcases Int.lt_or_eq_of_le h0 with h2 | h2
    · exact Int.lt_of_le_of_lt (Int.mul_le_mul_of_nonneg_right (Int.le_of_lt h) h0) (Int.mul_lt_mul_of_pos_left h (by omega))
    · rw [← h2]
      have : (0 : Int) < 2 ^ b := by omega
      exact Int.lt_of_le_of_lt (by decide) (Int.mul_pos this this)
  have e : (2 : Int) ^ (2 * b + 1) = 2 * (2 ^ b * 2 ^ b) := by
    rw [Int.pow_succ, Nat.two_mul, Int.pow_add]
    omega
  rw [e]; omega
theorem Dr.near {k : Nat} {t : Int} {ns : List Int} {p : Nat} (h : Dr k t ns) (hp : p < ns.length) : Dr (k + 1) t (near t ns p) :=
  ⟨h.ht, near_row h.row hp (by have := h.len; omega), by rw [near_len hp]; exact h.len, Int.lt_of_le_of_lt (near_size h.row hp (by have := h.len; omega)) (sq_pow (Int.le_trans (Int.natCast_nonneg _) (sum_ge h.row.pos)) h.sz)⟩
theorem bb_le (k : Nat) : bb k ≤ bb (k + 1) := by
  show bb k ≤ 2 * bb k + 1
  omega
theorem bb_mono {j k : Nat} (h : j ≤ k) : bb j ≤ bb k := by
  induction h with
  | refl => exact Nat.le_refl _
  | step _ ih => exact Nat.le_trans ih (bb_le _)
theorem pow_mono {a b : Nat} (h : a ≤ b) : (2 : Int) ^ a ≤ 2 ^ b := by
  rw [← pow_cast, ← pow_cast]
  exact Int.ofNat_le.mpr (Nat.pow_le_pow_right (by decide) h)
theorem Dr.mono {j k : Nat} {t : Int} {ns : List Int} (h : Dr j t ns) (hk : j ≤ k) : Dr k t ns := ⟨h.ht, h.row, h.len, Int.lt_of_lt_of_le h.sz (pow_mono (bb_mono hk))⟩
theorem Dr.wd {k : Nat} {t : Int} {ns : List Int} (h : Dr k t ns) (hk : bb k ≤ 100000) : Wd t ns := by
  refine ⟨?_, h.len.2, bb k, ?_, hk, .of_sum h.row.pos h.sz⟩
  · have := h.ht
    have : t.natAbs ≤ 6 := by omega
    exact Nat.lt_of_le_of_lt this (by decide)
  · exact Nat.le_trans (by decide : 1 ≤ bb 0) (bb_mono (Nat.zero_le k))
def roots9 : List (Int × List Int) := [(3, [1, 1, 1]), (1, [3, 3, 3]), (4, [1, 1, 1, 1]), (1, [2, 2, 2, 2]), (5, [1, 1, 1, 1, 1]), (4, [1, 1, 1, 1, 2]), (1, [1, 1, 3, 3, 4]), (6, [1, 1, 1, 1, 1, 1]), (3, [1, 1, 1, 1, 2, 2])]
theorem roots9_dr : ∀ r ∈ roots9, Dr 0 r.1 r.2 := by
  have h : ∀ r ∈ roots9, (1 ≤ r.1 ∧ r.1 ≤ 6) ∧ IsRow r.1 r.2 ∧ (3 ≤ r.2.length ∧ r.2.length ≤ 6) ∧ r.2.sum < 2 ^ bb 0 := by decide +kernel
  exact fun r hr => ⟨(h r hr).1, (h r hr).2.1, (h r hr).2.2.1, (h r hr).2.2.2⟩
/-! ### roots -/
def rootB (t : Int) (ns : List Int) : Bool := decide (ns.sum ≤ (near t ns (ns.length - 1)).sum)
section
variable {t : Int} {ns : List Int} {p : Nat}
/-- ahead of the last place the neighbour is greater, and its last number is the new one -/
theorem near_up (h : IsRow t ns) (hp : p + 1 < ns.length) (h3 : 3 ≤ ns.length) : ns.sum < (near t ns p).sum := by
  have h1 := new_great h hp h3
  have h2 := le_last h.ord (getD_mem (show p < ns.length by omega))
  rw [near_sum (by omega)]
  omega
/-- the places with a lesser neighbour -/
theorem lesser_eq (h : IsRow t ns) (h3 : 3 ≤ ns.length) : (List.range ns.length).filter (fun i => decide ((near t ns i).sum < ns.sum)) = if rootB t ns = true then [] else [ns.length - 1] := by
  obtain ⟨m, hm⟩ : ∃ m, ns.length = m + 1 := ⟨ns.length - 1, by omega⟩
  rw [hm, List.range_succ, List.filter_append, Nat.add_sub_cancel]
  have e1 : (List.range m).filter (fun i => decide ((near t ns i).sum < ns.sum)) = [] := by
    rw [List.filter_eq_nil_iff]
    intro i hi
    have := near_up h (p := i) (by rw [List.mem_range] at hi; omega) h3
    simp
    omega
  rw [e1, List.nil_append]
  unfold rootB
  rw [hm, Nat.add_sub_cancel]
  by_cases hb : ns.sum ≤ (near t ns m).sum
  · rw [decide_eq_true hb, if_pos rfl, List.filter_cons, if_neg (by simp; omega)]
    rfl
  · rw [decide_eq_false hb, if_neg Bool.false_ne_true, List.filter_cons, if_pos (by simp; omega)]
    rfl
end
/-! ### ways -/
def walkR (t : Int) (ns : List Int) (ps : List Nat) : List Int := ps.foldl (fun r p => near t r p) ns
def leastP (t : Int) (b far : List Int) : Nat := (List.range b.length).findIdx fun p => decide (near t b p = far)
inductive Way (t : Int) : List Int → List Int → List Nat → Prop
  | root {ns : List Int} (h : rootB t ns = true) : Way t ns ns []
  | step {ns r : List Int} {ps : List Nat} (h : rootB t ns = false) (w : Way t (near t ns (ns.length - 1)) r ps) : Way t ns r (ps ++ [leastP t (near t ns (ns.length - 1)) ns])
section
variable {t : Int} {ns r : List Int} {ps : List Nat}
theorem walkR_snoc (p : Nat) : walkR t ns (ps ++ [p]) = near t (walkR t ns ps) p := by
  unfold walkR
  rw [List.foldl_append]
  rfl
theorem leastP_le (b far : List Int) : leastP t b far ≤ b.length := by
  unfold leastP
  have := List.findIdx_le_length (xs := List.range b.length) (p := fun p => decide (near t b p = far))
  rw [List.length_range] at this
  exact this
theorem leastP_of {b far : List Int} {p : Nat} (hp : p < b.length) (h : near t b p = far) : leastP t b far < b.length ∧ near t b (leastP t b far) = far := by
  unfold leastP
  have h1 : (List.range b.length).findIdx (fun p => decide (near t b p = far)) < (List.range b.length).length :=
    List.findIdx_lt_length_of_exists ⟨p, List.mem_range.mpr hp, decide_eq_true h⟩
  have h2 := List.findIdx_getElem (w := h1)
  rw [List.getElem_range] at h2
  rw [List.length_range] at h1
  exact ⟨h1, of_decide_eq_true h2⟩
theorem leastP_not {b far : List Int} {q : Nat} (h : q < leastP t b far) : near t b q ≠ far := by
  unfold leastP at h
  have h2 := List.not_of_lt_findIdx h
  rw [List.getElem_range] at h2
  exact of_decide_eq_false h2
/-- at a root's other: the neighbour at the last place is lesser, and leads back -/
theorem back_lt (h : rootB t ns = false) : (near t ns (ns.length - 1)).sum < ns.sum := by
  unfold rootB at h
  have := of_decide_eq_false h
  omega
theorem back_least (h : IsRow t ns) (h0 : 0 < ns.length) : leastP t (near t ns (ns.length - 1)) ns < ns.length ∧ near t (near t ns (ns.length - 1)) (leastP t (near t ns (ns.length - 1)) ns) = ns := by
  have hp : ns.length - 1 < ns.length := by omega
  obtain ⟨q, h1, _⟩ := first_at (near_perm.symm.subset (List.mem_cons_self (a := new t ns (ns.length - 1)) (l := oth ns (ns.length - 1))))
  have hq : q < (near t ns (ns.length - 1)).length := (List.getElem?_eq_some_iff.mp h1).1
  have hb := near_back h.ord hp (q := q) (by rw [near_len hp] at hq; exact hq) (by rw [List.getD_eq_getElem?_getD, h1]; rfl)
  have := leastP_of hq hb
  rw [near_len hp] at this
  exact this
theorem Way.some : ∀ (m : Nat) (ns : List Int), ns.sum.toNat ≤ m → IsRow t ns → 2 ≤ ns.length → ∃ r ps, Way t ns r ps
  | m, ns, hm, h, h2 => by
    cases hr : rootB t ns with
    | true => exact ⟨ns, [], .root hr⟩
    | false =>
      have hp : ns.length - 1 < ns.length := by omega
      have h1 := back_lt hr
      have hrow := near_row h hp h2
      have h3 := sum_ge hrow.pos
      rw [near_len hp] at h3
      cases m with
      | zero => omega
      | succ m =>
        obtain ⟨r, ps, w⟩ := Way.some m (near t ns (ns.length - 1)) (by omega) hrow (by rw [near_len hp]; exact h2)
        exact ⟨r, _, .step hr w⟩
theorem Way.one (w : Way t ns r ps) : ∀ {r' : List Int} {ps' : List Nat}, Way t ns r' ps' → r = r' ∧ ps = ps' := by
  induction w with
  | root h =>
    intro r' ps' w'
    cases w' with
    | root _ => exact ⟨rfl, rfl⟩
    | step h' _ => rw [h] at h'; cases h'
  | step h w ih =>
    intro r' ps' w'
    cases w' with
    | root h' => rw [h] at h'; cases h'
    | step _ w' =>
      obtain ⟨e1, e2⟩ := ih w'
      exact ⟨e1, by rw [e2]⟩
/-- what a way is worth -/
structure Good (t : Int) (ns r : List Int) (ps : List Nat) : Prop where
  root : rootB t r = true
  row : IsRow t r
  len : r.length = ns.length
  to : walkR t r ps = ns
  at_ : ∀ i, i ≤ ps.length → IsRow t (walkR t r (ps.take i)) ∧ (walkR t r (ps.take i)).length = ns.length ∧ (walkR t r (ps.take i)).sum ≤ ns.sum ∧ Way t (walkR t r (ps.take i)) r (ps.take i)
  st : ∀ i p, ps[i]? = some p → p < ns.length ∧ (walkR t r (ps.take i)).sum < (near t (walkR t r (ps.take i)) p).sum ∧ ∀ q, q < p → near t (walkR t r (ps.take i)) q ≠ near t (walkR t r (ps.take i)) p
theorem Way.good (w : Way t ns r ps) : IsRow t ns → 2 ≤ ns.length → Good t ns r ps := by
  induction w with
  | @root ns h =>
    intro hr h2
    exact ⟨h, hr, rfl, rfl, fun i hi => by
      have : i = 0 := Nat.le_zero.mp hi
      subst this
      exact ⟨hr, rfl, Int.le_refl _, .root h⟩, fun i p hp => by simp at hp⟩
  | @step ns r ps h w ih =>
    intro hr h2
    have hp : ns.length - 1 < ns.length := by omega
    have g := ih (near_row hr hp h2) (by rw [near_len hp]; exact h2)
    have h1 := back_lt h
    have h3 := back_least hr (by omega)
    have hto : walkR t r (ps ++ [leastP t (near t ns (ns.length - 1)) ns]) = ns := by rw [walkR_snoc, g.to, h3.2]
    refine ⟨g.root, g.row, by rw [g.len, near_len hp], hto, fun i hi => ?_, fun i p hi => ?_⟩
    · by_cases hil : i ≤ ps.length
      · rw [List.take_append_of_le_length hil]
        obtain ⟨a1, a2, a3, a4⟩ := g.at_ i hil
        exact ⟨a1, by rw [a2, near_len hp], by omega, a4⟩
      · rw [List.take_of_length_le (by rw [List.length_append, List.length_singleton]; omega), hto]
        exact ⟨hr, rfl, Int.le_refl _, .step h w⟩
    · have hlt := (List.getElem?_eq_some_iff.mp hi).1
      rw [List.length_append, List.length_singleton] at hlt
      by_cases hil : i < ps.length
      · rw [List.take_append_of_le_length (Nat.le_of_lt hil)]
        rw [List.getElem?_append_left hil] at hi
        have := g.st i p hi
        rw [near_len hp] at this
        exact this
      · have e : i = ps.length := by omega
        subst e
        rw [List.getElem?_append_right (Nat.le_refl _), Nat.sub_self] at hi
        cases hi
        rw [List.take_append_of_le_length (Nat.le_refl _), List.take_length, g.to]
        refine ⟨h3.1, by rw [h3.2]; exact h1, fun q hq => ?_⟩
        rw [h3.2]
        exact leastP_not hq
end
theorem leastP_sp {t : Int} {b far : List Int} (h : leastP t b far < b.length) : near t b (leastP t b far) = far := by
  unfold leastP at h ⊢
  have h1 : (List.range b.length).findIdx (fun p => decide (near t b p = far)) < (List.range b.length).length := by rw [List.length_range]; exact h
  have h2 := List.findIdx_getElem (w := h1)
  rw [List.getElem_range] at h2
  exact of_decide_eq_true h2
theorem leastP_eq {t : Int} {b far : List Int} {p : Nat} (hp : p < b.length) (h : near t b p = far) (hn : ∀ q, q < p → near t b q ≠ far) : leastP t b far = p := by
  rcases Nat.lt_trichotomy (leastP t b far) p with h1 | h1 | h1
  · exact absurd (leastP_of hp h).2 (hn _ h1)
  · exact h1
  · exact absurd h (leastP_not h1)
theorem leastP_none {t : Int} {b far : List Int} (hn : ∀ q, q < b.length → near t b q ≠ far) : leastP t b far = b.length := by
  have h1 := leastP_le (t := t) b far
  rcases Nat.lt_or_ge (leastP t b far) b.length with h2 | h2
  · exact absurd (leastP_sp h2) (hn _ h2)
  · omega
/-- a row by a row's bound -/
theorem wd_of {t : Int} {ns : List Int} {b : Nat} (ht : 1 ≤ t ∧ t ≤ 1000) (h : IsRow t ns) (hl : ns.length ≤ 6) (hs : ns.sum < 2 ^ b) (h1 : 1 ≤ b) (hb : b ≤ 100000) : Wd t ns :=
  ⟨Nat.lt_of_le_of_lt (show t.natAbs ≤ 1000 by omega) (by decide), hl, b, h1, hb, .of_sum h.pos hs⟩
/-! ### the two greatest -/
theorem two_last {ns : List Int} (h2 : 2 ≤ ns.length) : ns = ns.take (ns.length - 2) ++ [ns.getD (ns.length - 2) 0, ns.getD (ns.length - 1) 0] := by
  have h : ns.drop (ns.length - 2) = [ns.getD (ns.length - 2) 0, ns.getD (ns.length - 1) 0] := by
    have g : ∀ k (hk : k < ns.length), ns.getD k 0 = ns[k] := fun k hk => by rw [List.getD_eq_getElem?_getD, List.getElem?_eq_getElem hk]; rfl
    rw [List.drop_eq_getElem_cons (by omega), List.drop_eq_getElem_cons (by omega), List.drop_of_length_le (by omega), g _ (by omega), g _ (by omega)]
    have e : ns.length - 2 + 1 = ns.length - 1 := by omega
    simp only [e]
  exact (List.take_append_drop (ns.length - 2) ns).symm.trans (by rw [h])
section
variable {t : Int} {ns : List Int}
/-- the times times the product of all but the two greatest are three or more -/
theorem three_le (h : IsRow t ns) (h3 : 3 ≤ ns.length) : 3 ≤ t * prd (ns.take (ns.length - 2)) := by
  have e := two_last (ns := ns) (by omega)
  have e1 : sqs ns = sqs (ns.take (ns.length - 2)) + (ns.getD (ns.length - 2) 0 * ns.getD (ns.length - 2) 0 + (ns.getD (ns.length - 1) 0 * ns.getD (ns.length - 1) 0 + 0)) := by
    conv => lhs; rw [e]
    exact sqs_app _ _
  have e2 : prd ns = prd (ns.take (ns.length - 2)) * (ns.getD (ns.length - 2) 0 * (ns.getD (ns.length - 1) 0 * 1)) := by
    conv => lhs; rw [e]
    exact prd_app _ _
  have hy : 1 ≤ ns.getD (ns.length - 2) 0 := h.pos _ (getD_mem (by omega))
  have hx : 1 ≤ ns.getD (ns.length - 1) 0 := h.pos _ (getD_mem (by omega))
  have hf : 1 ≤ sqs (ns.take (ns.length - 2)) := by
    have h0 : 0 < (ns.take (ns.length - 2)).length := by rw [List.length_take]; omega
    obtain ⟨m, hm⟩ := List.exists_mem_of_length_pos h0
    have hm1 : 1 ≤ m := h.pos _ (List.mem_of_mem_take hm)
    have h4 := sqs_ge hm
    have h5 : 1 * 1 ≤ m * m := Int.mul_le_mul hm1 hm1 (by omega) (by omega)
    omega
  have e3 := h.eq
  generalize ns.getD (ns.length - 2) 0 = y at *
  generalize ns.getD (ns.length - 1) 0 = x at *
  generalize prd (ns.take (ns.length - 2)) = f at *
  rw [e1, e2] at e3
  have hxy : 1 * 1 ≤ y * x := Int.mul_le_mul hy hx (by omega) (by omega)
  have hsq : 2 * (y * x) ≤ y * y + x * x := by
    have h0 : 0 ≤ (y - x) * (y - x) := by
      rcases Int.le_total 0 (y - x) with h | h
      · exact Int.mul_nonneg h h
      · exact Int.mul_nonneg_of_nonpos_of_nonpos h h
    have e : (y - x) * (y - x) = y * y - y * x - (y * x - x * x) := by rw [Int.sub_mul, Int.mul_sub, Int.mul_sub, Int.mul_comm x y]
    omega
  have e4 : t * (f * (y * (x * 1))) = (t * f) * (y * x) := by rw [Int.mul_one, Int.mul_assoc]
  rw [e4] at e3
  rcases Int.lt_or_le (t * f) 3 with h6 | h6
  · have h7 : (t * f) * (y * x) ≤ 2 * (y * x) := Int.mul_le_mul_of_nonneg_right (by omega) (by omega)
    omega
  · exact h6
/-- the new number at the last place -/
theorem new_last (h2 : 2 ≤ ns.length) : new t ns (ns.length - 1) = t * prd (ns.take (ns.length - 2)) * ns.getD (ns.length - 2) 0 - ns.getD (ns.length - 1) 0 := by
  have e : oth ns (ns.length - 1) = ns.take (ns.length - 2) ++ [ns.getD (ns.length - 2) 0] := by
    unfold oth
    rw [List.drop_of_length_le (by omega), List.append_nil]
    have e1 : ns.take (ns.length - 1) = ns.take (ns.length - 2 + 1) := by rw [show ns.length - 2 + 1 = ns.length - 1 by omega]
    rw [e1, List.take_add_one, getD_at (by omega)]
    rfl
  unfold new
  rw [e, prd_app]
  show t * (prd (ns.take (ns.length - 2)) * (ns.getD (ns.length - 2) 0 * 1)) - _ = _
  rw [Int.mul_one, Int.mul_assoc]
theorem oth_last (h2 : 2 ≤ ns.length) : oth ns (ns.length - 1) = ns.take (ns.length - 2) ++ [ns.getD (ns.length - 2) 0] := by
  unfold oth
  rw [List.drop_of_length_le (by omega), List.append_nil]
  have e1 : ns.take (ns.length - 1) = ns.take (ns.length - 2 + 1) := by rw [show ns.length - 2 + 1 = ns.length - 1 by omega]
  rw [e1, List.take_add_one, getD_at (by omega)]
  rfl
theorem near_last_le {p : Nat} (hp : p < ns.length) {z : Int} (h1 : new t ns p ≤ z) (h2 : ∀ n ∈ oth ns p, n ≤ z) : (near t ns p).getD (ns.length - 1) 0 ≤ z := by
  have hm : (near t ns p).getD (ns.length - 1) 0 ∈ near t ns p := getD_mem (by rw [near_len hp]; omega)
  rcases List.mem_cons.mp (near_perm.subset hm) with e | e
  · rw [e]; exact h1
  · exact h2 _ e
theorem last_half (h : IsRow t ns) (h3 : 3 ≤ ns.length) (hr : rootB t ns = false) (hb : rootB t (near t ns (ns.length - 1)) = false) : 2 * (near t ns (ns.length - 1)).getD (ns.length - 1) 0 ≤ ns.getD (ns.length - 1) 0 := by
  have hp : ns.length - 1 < ns.length := by omega
  have hlen := near_len (t := t) hp
  have hy : ∀ n ∈ oth ns (ns.length - 1), n ≤ ns.getD (ns.length - 2) 0 := by
    intro n hn
    rw [oth_last (by omega)] at hn
    rcases List.mem_append.mp hn with hn | hn
    · obtain ⟨k, hk, e⟩ := List.getElem_of_mem hn
      rw [List.length_take] at hk
      rw [List.getElem_take] at e
      rw [← e]
      have h4 : ns.length - 2 < ns.length := by omega
      have g : ns.getD (ns.length - 2) 0 = ns[ns.length - 2] := by rw [List.getD_eq_getElem?_getD, List.getElem?_eq_getElem h4]; rfl
      rw [g]
      exact (List.pairwise_iff_getElem.mp h.ord) k (ns.length - 2) (by omega) h4 (by omega)
    · rw [List.mem_singleton.mp hn]
      exact Int.le_refl _
  have hnew : new t ns (ns.length - 1) ≤ ns.getD (ns.length - 2) 0 := by
    rcases Int.lt_or_le (ns.getD (ns.length - 2) 0) (new t ns (ns.length - 1)) with hc | hc
    · -- the new one is the last one there, and leads back: it is a root
      have hlast : (near t ns (ns.length - 1)).getD (ns.length - 1) 0 = new t ns (ns.length - 1) := by
        have hm : new t ns (ns.length - 1) ∈ near t ns (ns.length - 1) := near_perm.symm.subset List.mem_cons_self
        have h4 := le_last near_ord hm
        rw [hlen] at h4
        have h5 := near_last_le (t := t) hp (z := new t ns (ns.length - 1)) (Int.le_refl _) fun n hn => Int.le_trans (hy n hn) (Int.le_of_lt hc)
        omega
      have hback := near_back h.ord hp hp hlast
      unfold rootB at hb
      rw [hlen, hback] at hb
      have h6 := of_decide_eq_false hb
      have h7 := back_lt hr
      omega
    · exact hc
  have h4 := near_last_le (t := t) hp hnew hy
  have h5 := three_le h h3
  have h6 := new_last (t := t) (ns := ns) (by omega)
  have h7 : 1 ≤ ns.getD (ns.length - 2) 0 := h.pos _ (getD_mem (by omega))
  have h8 : 3 * ns.getD (ns.length - 2) 0 ≤ t * prd (ns.take (ns.length - 2)) * ns.getD (ns.length - 2) 0 := Int.mul_le_mul_of_nonneg_right h5 (by omega)
  omega
theorem Way.short {r : List Int} {ps : List Nat} (w : Way t ns r ps) : IsRow t ns → 3 ≤ ns.length → ∀ j, ns.getD (ns.length - 1) 0 < 2 ^ j → ps.length ≤ j + 1 := by
  induction w with
  | root h => intro _ _ j _; exact Nat.zero_le _
  | @step ns r ps h w ih =>
    intro hr h3 j hj
    have hp : ns.length - 1 < ns.length := by omega
    have hrow := near_row hr hp (by omega)
    have hlen := near_len (t := t) hp
    rw [List.length_append, List.length_singleton]
    cases hb : rootB t (near t ns (ns.length - 1)) with
    | true =>
      cases w with
      | root _ => simp
      | step h' _ => rw [hb] at h'; cases h'
    | false =>
      have h4 := last_half hr h3 h hb
      have h5 : 1 ≤ (near t ns (ns.length - 1)).getD (ns.length - 1) 0 := hrow.pos _ (getD_mem (by rw [hlen]; exact hp))
      cases j with
      | zero => rw [Int.pow_zero] at hj; omega
      | succ j =>
        have h6 := ih hrow (by rw [hlen]; exact h3) j (by
          rw [hlen]
          rw [Int.pow_succ] at hj
          omega)
        omega
end
theorem walkR_ok {t : Int} : ∀ {ps : List Nat} {ns : List Int}, IsRow t ns → 2 ≤ ns.length → (∀ p ∈ ps, p < ns.length) → IsRow t (walkR t ns ps) ∧ (walkR t ns ps).length = ns.length
  | [], _, h, _, _ => ⟨h, rfl⟩
  | p :: ps, ns, h, h2, hp => by
    have hp0 : p < ns.length := hp p List.mem_cons_self
    have hl := near_len (t := t) hp0
    have := walkR_ok (ps := ps) (near_row h hp0 h2) (by rw [hl]; exact h2) fun q hq => by rw [hl]; exact hp q (List.mem_cons_of_mem _ hq)
    rw [hl] at this
    exact this
theorem walkR_take {t : Int} {ns : List Int} {ps : List Nat} {i p : Nat} (h : ps[i]? = some p) : walkR t ns (ps.take (i + 1)) = near t (walkR t ns (ps.take i)) p := by
  rw [List.take_add_one, h]
  exact walkR_snoc p
theorem root_near {t : Int} {ns : List Int} (h : IsRow t ns) (h3 : 3 ≤ ns.length) (hr : rootB t ns = true) {p : Nat} (hp : p < ns.length) : ns.sum ≤ (near t ns p).sum := by
  by_cases hl : p + 1 < ns.length
  · have := near_up h hl h3; omega
  · have e : p = ns.length - 1 := by omega
    subst e
    exact of_decide_eq_true hr
theorem emod_nat (c : Int) {n : Nat} (h : 0 < n) : ∃ m, m < n ∧ c % (n : Int) = (m : Int) := by
  have h1 := Int.emod_nonneg c (show (n : Int) ≠ 0 by omega)
  have h2 := Int.emod_lt_of_pos c (show (0 : Int) < (n : Int) by omega)
  exact ⟨(c % (n : Int)).toNat, by omega, by omega⟩
end Sm

/-! SmX: texts: numbers written, words, what evaluates to a text. -/
namespace Sm
open PySem PySem.Spec PyProof.Rows L2
abbrev numT (n : Int) : Str := Str.ofString (toString n)
abbrev vs (ws : List Str) : List V := ws.map V.str
/-! ### numbers as texts -/
theorem tl_numT {n : Int} (h : 0 ≤ n) : TL.tl (numT n) = TL.numL n.toNat := by
  obtain ⟨m, rfl⟩ := Int.eq_ofNat_of_zero_le h
  exact TL.tl_num m
theorem numT_len {n : Int} {k : Nat} (h0 : 0 ≤ n) (hk : 0 < k) (h : n < 10 ^ k) : (numT n).length ≤ k := by
  obtain ⟨m, rfl⟩ := Int.eq_ofNat_of_zero_le h0
  rw [TL.len_tl, TL.tl_num]
  refine TL.numL_len hk ?_
  have e : ((10 : Int) ^ k) = ((10 ^ k : Nat) : Int) := (Int.natCast_pow 10 k).symm
  rw [e] at h
  exact Int.ofNat_lt.mp h
theorem num_log {n : Int} (h : n.natAbs < 2 ^ 1919) : n.natAbs.log2 < 1920 := by
  by_cases h0 : n.natAbs = 0
  · rw [h0]; decide
  · exact (Nat.log2_lt h0).mpr (Nat.lt_of_lt_of_le h (Nat.pow_le_pow_right (by decide) (by decide)))
/-- the first figure of a number from one on is no nought -/
theorem numL_head : ∀ n : Nat, 1 ≤ n → ∃ c r, TL.numL n = c :: r ∧ 49 ≤ c := by
  intro n
  induction n using Nat.strongRecOn with
  | _ n ih =>
    intro h
    by_cases h9 : n < 10
    · exact ⟨48 + n, [], TL.numL_lt h9, by omega⟩
    · obtain ⟨c, r, e, hc⟩ := ih (n / 10) (by omega) (by omega)
      exact ⟨c, r ++ [48 + n % 10], by rw [TL.numL_step (by omega), e]; rfl, hc⟩
/-- a word that writes a number from one on -/
structure GoodW (w : Str) : Prop where
  ne : TL.tl w ≠ []
  len : w.length ≤ 400
  hd : (TL.tl w)[0]? ≠ some 48
  all : NumText.AllDigits (TL.tl w)
instance (w : Str) : Decidable (GoodW w) := decidable_of_iff (TL.tl w ≠ [] ∧ w.length ≤ 400 ∧ (TL.tl w)[0]? ≠ some 48 ∧ ∀ c ∈ TL.tl w, 48 ≤ c ∧ c ≤ 57) ⟨fun h => ⟨h.1, h.2.1, h.2.2.1, h.2.2.2⟩, fun h => ⟨h.ne, h.len, h.hd, h.all⟩⟩
def wval (w : Str) : Int := (NumText.digitsVal (TL.tl w) : Nat)
theorem foldl_ge : ∀ (cs : List Nat) (a : Nat), a ≤ cs.foldl (fun acc c => acc * 10 + (c - 48)) a
  | [], a => Nat.le_refl a
  | c :: cs, a => Nat.le_trans (by omega) (foldl_ge cs (a * 10 + (c - 48)))
theorem GoodW.pos {w : Str} (h : GoodW w) : 1 ≤ wval w := by
  have h1 := h.ne
  have h2 := h.hd
  have h3 := h.all
  unfold wval
  generalize TL.tl w = l at h1 h2 h3
  cases l with
  | nil => exact absurd rfl h1
  | cons c r =>
    have hc : c ≠ 48 := fun e => h2 (by rw [e]; rfl)
    have hr := h3 c List.mem_cons_self
    have := foldl_ge r (0 * 10 + (c - 48))
    have h4 : NumText.digitsVal (c :: r) = r.foldl (fun acc c => acc * 10 + (c - 48)) (0 * 10 + (c - 48)) := rfl
    rw [h4]
    omega
theorem foldl_lt : ∀ (cs : List Nat) (a : Nat), (∀ c ∈ cs, c ≤ 57) → cs.foldl (fun acc c => acc * 10 + (c - 48)) a < (a + 1) * 10 ^ cs.length
  | [], a, _ => by show a < (a + 1) * 10 ^ 0; omega
  | c :: cs, a, h => by
    have h1 := foldl_lt cs (a * 10 + (c - 48)) fun d hd => h d (List.mem_cons_of_mem _ hd)
    have h2 := h c List.mem_cons_self
    rw [List.foldl_cons, List.length_cons, Nat.pow_succ]
    have h3 : (a * 10 + (c - 48) + 1) * 10 ^ cs.length ≤ ((a + 1) * 10) * 10 ^ cs.length := Nat.mul_le_mul_right _ (by omega)
    have h4 : ((a + 1) * 10) * 10 ^ cs.length = (a + 1) * (10 ^ cs.length * 10) := by rw [Nat.mul_assoc, Nat.mul_comm 10]
    omega
theorem GoodW.lt {w : Str} (h : GoodW w) : wval w < 10 ^ 400 := by
  have h1 := foldl_lt (TL.tl w) 0 fun c hc => (h.all c hc).2
  have h2 : (10 : Nat) ^ (TL.tl w).length ≤ 10 ^ 400 := Nat.pow_le_pow_right (by decide) (by have := h.len; rw [TL.len_tl] at this; exact this)
  have h3 : NumText.digitsVal (TL.tl w) < 10 ^ 400 := by
    unfold NumText.digitsVal
    omega
  have h4 : ((NumText.digitsVal (TL.tl w) : Nat) : Int) < ((10 ^ 400 : Nat) : Int) := Int.ofNat_lt.mpr h3
  rw [Int.natCast_pow] at h4
  exact h4
theorem GoodW.int {w : Str} (h : GoodW w) : intText? w = some (wval w) := intText_digits h.all h.ne (Nat.le_trans h.len (by decide))
theorem goodW_num {n : Int} (h : 1 ≤ n) (hl : n < 10 ^ 400) : GoodW (numT n) := by
  have e := tl_numT (n := n) (by omega)
  obtain ⟨c, r, hc, h9⟩ := numL_head n.toNat (by omega)
  refine ⟨by rw [e]; exact TL.numL_ne _, numT_len (by omega) (by decide) hl, ?_, by rw [e]; exact TL.numL_digits _⟩
  rw [e, hc]
  intro z
  have z2 : c = 48 := Option.some.inj z
  omega
theorem wval_num {n : Int} (h : 0 ≤ n) : wval (numT n) = n := by
  unfold wval
  rw [tl_numT h, TL.numL_val]
  omega
def figs : List Nat := [48, 49, 50, 51, 52, 53, 54, 55, 56, 57]
theorem mem_figs {c : Nat} : c ∈ figs ↔ 48 ≤ c ∧ c ≤ 57 := by
  unfold figs
  simp only [List.mem_cons, List.not_mem_nil, or_false]
  omega
theorem tl_figs : (Str.ofString "0123456789").cps.toList = figs := by decide +kernel
/-! ### the row's text -/
def wordsOf (t : Int) (ns : List Int) : List Str := numT t :: Str.ofString "x" :: ns.map numT
def shownT (t : Int) (ns : List Int) : Str := Txt.join (Str.ofString " ") (wordsOf t ns)
theorem tl_blank : TL.tl (Str.ofString " ") = [32] := by decide +kernel
theorem blank_ok : (Str.ofString " ").cps.all (· < 256) = true := by decide +kernel
theorem tl_x : TL.tl (Str.ofString "x") = [120] := by decide +kernel
theorem split_words {ws : List Str} (h : ws ≠ []) (hf : ∀ w ∈ ws, 32 ∉ TL.tl w) : Txt.split (Txt.join (Str.ofString " ") ws) (Str.ofString " ") = ws := TL.split_join tl_blank blank_ok h hf
theorem num_free {n : Int} (h : 0 ≤ n) : 32 ∉ TL.tl (numT n) := by
  rw [tl_numT h]
  exact TL.numL_free (.inl (by decide))
theorem words_free {t : Int} {ns : List Int} (ht : 0 ≤ t) (hn : ∀ n ∈ ns, 0 ≤ n) : ∀ w ∈ wordsOf t ns, 32 ∉ TL.tl w := by
  intro w hw
  unfold wordsOf at hw
  rcases List.mem_cons.mp hw with e | hw
  · rw [e]; exact num_free ht
  · rcases List.mem_cons.mp hw with e | hw
    · rw [e, tl_x]; decide
    · obtain ⟨n, h1, rfl⟩ := List.mem_map.mp hw
      exact num_free (hn n h1)
theorem joinL_snoc (S p : List Nat) : ∀ {ps : List (List Nat)}, ps ≠ [] → TL.joinL S (ps ++ [p]) = TL.joinL S ps ++ S ++ p
  | [], h => absurd rfl h
  | [q], _ => by show q ++ (S ++ p) = q ++ S ++ p; rw [List.append_assoc]
  | q :: r :: s, _ => by
    have ih := joinL_snoc S p (ps := r :: s) (by simp)
    show q ++ (S ++ TL.joinL S (r :: s ++ [p])) = q ++ (S ++ TL.joinL S (r :: s)) ++ S ++ p
    rw [ih]
    simp only [List.append_assoc]
theorem tl_joinT (y : Str) (ws : List Str) : TL.tl (Txt.join y ws) = TL.joinL (TL.tl y) (ws.map TL.tl) := by rw [TL.join_eq, TL.tl_join]
theorem join_snoc (y w : Str) {ws : List Str} (h : ws ≠ []) : Txt.join y (ws ++ [w]) = Txt.join y ws ++ y ++ w := by
  refine TL.ext_tl ?_
  rw [TL.tl_append, TL.tl_append, tl_joinT, tl_joinT, List.map_append]
  exact joinL_snoc _ _ (by simp [h])
theorem len_app (x y : Str) : (x ++ y).length = x.length + y.length := by
  rw [TL.len_tl, TL.len_tl, TL.len_tl, TL.tl_append, List.length_append]
theorem len_join (y : Str) : ∀ ws : List Str, (Txt.join y ws).length ≤ (ws.map (·.length)).sum + ws.length * y.length := by
  intro ws
  rw [TL.len_tl, tl_joinT]
  induction ws with
  | nil => show ([] : List Nat).length ≤ _; simp
  | cons w r ih =>
    cases r with
    | nil => show (TL.tl w).length ≤ _; rw [← TL.len_tl]; simp
    | cons x s =>
      show (TL.tl w ++ (TL.tl y ++ TL.joinL (TL.tl y) ((x :: s).map TL.tl))).length ≤ _
      have e1 : ((w :: x :: s).map (·.length)).sum = w.length + ((x :: s).map (·.length)).sum := by rw [List.map_cons, List.sum_cons]
      have e2 : (w :: x :: s).length * y.length = (x :: s).length * y.length + y.length := by rw [List.length_cons (a := w), Nat.succ_mul]
      rw [List.length_append, List.length_append, ← TL.len_tl, ← TL.len_tl, e1, e2]
      omega
/-! ### what evaluates to a text -/
section
variable {T : Tb} {K : PySem.W.Frag} {σ : L2.St} {H H' : Hp} {ta tb te tc : TE} {t u : TT} {a b w z : Str} {p : Addr} {ws : List Str} {i : Int}
def rJoin (K : PySem.W.Frag) : V → List V → Hp → VK → Prop := fun x xs H Q =>
  ∃ a p, ∃ ys : List Str, x = .str a ∧ xs = [.ref p] ∧ (SqL K H p (ys.map V.str) ∨ SqT K H p (ys.map V.str)) ∧ (ys.map (·.length)).sum + ys.length * a.length ≤ 16777216 ∧ Q (.str (Txt.join a ys)) H
def rSplit : V → List V → Hp → VK → Prop := fun x xs H Q =>
  ∃ a b, x = .str a ∧ xs = [.str b] ∧ (b.length == 0) = false ∧ a.length + 2 ≤ sizeLine ∧ rNewStrs (Txt.split a b) H Q
theorem ev_join (ha : Ev T ta σ H (.str a)) (hb : EvL T tb σ H (vs ws)) (hz : (ws.map (·.length)).sum + ws.length * a.length ≤ 16777216) : Ev T (tM1 (rJoin K) ta tb) σ H (.str (Txt.join a ws)) := fun H1 e Q q =>
  ha H1 e _ fun H2 e2 => ⟨⟨a, rfl⟩, hb H2 (e.trans e2) _ fun p H3 _ e3 hp => ⟨a, p, ws, rfl, rfl, .inl (SqL.of hp), hz, q H3 (e2.trans e3)⟩⟩
theorem el_split (ha : Ev T ta σ H (.str a)) (hb : Ev T tb σ H (.str b)) (h0 : (b.length == 0) = false) (hz : a.length + 2 ≤ sizeLine) : EvL T (tM1 rSplit ta tb) σ H (vs (Txt.split a b)) := fun H1 e Q q =>
  ha H1 e _ fun H2 e2 => ⟨⟨a, rfl⟩, hb H2 (e.trans e2) _ fun H3 e3 => ⟨a, b, rfl, rfl, h0, hz, fun p hp => q p _ ((e2.trans e3).n p hp) ((e2.trans e3).trans (.new hp)) upd_same⟩⟩
def rStrI : List V → Hp → VK → Prop := fun xs H Q => ∃ i : Int, xs = [.int i] ∧ i.natAbs.log2 < 1920 ∧ Q (.str (numT i)) H
theorem ev_str (ha : Ev T ta σ H (.int i)) (h : i.natAbs < 2 ^ 1919) : Ev T (tCB rStrI (tCons ta tNil)) σ H (.str (numT i)) := fun H1 e Q q =>
  ha H1 e _ fun H2 e2 => ⟨i, rfl, num_log h, q H2 e2⟩
def rIntS : List V → Hp → VK → Prop := fun xs H Q => ∃ a n, xs = [.str a] ∧ PySem.intText? a = some n ∧ a.length ≤ 640 ∧ Q (.int n) H
theorem ev_int (ha : Ev T ta σ H (.str w)) (h : GoodW w) : Ev T (tCB rIntS (tCons ta tNil)) σ H (.int (wval w)) := fun H1 e Q q =>
  ha H1 e _ fun H2 e2 => ⟨w, _, rfl, h.int, Nat.le_trans h.len (by decide), q H2 e2⟩
def rLenStr : List V → Hp → VK → Prop := fun xs H Q => ∃ z, xs = [.str z] ∧ z.length ≤ sizeLine ∧ Q (.int z.length) H
theorem ev_lenStr (ha : Ev T ta σ H (.str w)) (h : w.length ≤ sizeLine) : Ev T (tCB rLenStr (tCons ta tNil)) σ H (.int (w.length : Int)) := fun H1 e Q q =>
  ha H1 e _ fun H2 e2 => ⟨w, rfl, h, q H2 e2⟩
theorem ev_ixS {c m : Nat} (ha : Ev T ta σ H (.str w)) (hb : Ev T tb σ H (.int i)) (h : w.length ≤ sizeLine) (hi : i = (m : Int)) (hc : (TL.tl w)[m]? = some c) : Ev T (tOp rIxS ta tb) σ H (.str ⟨#[c]⟩) := fun H1 e Q q =>
  ha H1 e _ fun H2 e2 => hb H2 (e.trans e2) _ fun H3 e3 => ⟨w, i, c, rfl, rfl, h, by rw [hi]; exact atI_nat hc, q H3 (e2.trans e3)⟩
def rAddS : V → V → Hp → VK → Prop := fun x y H Q => ∃ i j, x = .str i ∧ y = .str j ∧ i.length + j.length ≤ sizeLine ∧ Q (.str (i ++ j)) H
theorem ev_addS (ha : Ev T ta σ H (.str a)) (hb : Ev T tb σ H (.str b)) (h : a.length + b.length ≤ sizeLine) : Ev T (tOp rAddS ta tb) σ H (.str (a ++ b)) := fun H1 e Q q =>
  ha H1 e _ fun H2 e2 => hb H2 (e.trans e2) _ fun H3 e3 => ⟨a, b, rfl, rfl, h, q H3 (e2.trans e3)⟩
def rNotInS : V → V → Hp → VK → Prop := fun x y H Q => ∃ (c : Nat) (z : Str), x = .str ⟨#[c]⟩ ∧ y = .str z ∧ Q (.bl (!decide (c ∈ z.cps.toList))) H
theorem ev_notInS {c : Nat} (ha : Ev T ta σ H (.str ⟨#[c]⟩)) (hb : Ev T tb σ H (.str z)) : Ev T (tOp rNotInS ta tb) σ H (.bl (!decide (c ∈ z.cps.toList))) := fun H1 e Q q =>
  ha H1 e _ fun H2 e2 => hb H2 (e.trans e2) _ fun H3 e3 => ⟨c, z, rfl, rfl, q H3 (e2.trans e3)⟩
theorem decS {a b : Str} : decide (V.str a = V.str b) = decide (a = b) := by
  by_cases h : a = b
  · rw [h, decide_eq_true rfl, decide_eq_true rfl]
  · rw [decide_eq_false h, decide_eq_false fun z => h (V.str.inj z)]
theorem ev_eqS (ha : Ev T ta σ H (.str a)) (hb : Ev T tb σ H (.str b)) : Ev T (tOp rEq ta tb) σ H (.bl (decide (a = b))) := (ev_eq ha hb rfl).is (by rw [decS])
theorem ev_neS (ha : Ev T ta σ H (.str a)) (hb : Ev T tb σ H (.str b)) : Ev T (tOp rNe ta tb) σ H (.bl (!decide (a = b))) := (ev_ne ha hb rfl).is (by rw [decS])
/-- ws[i] -/
theorem ev_ixW {m : Nat} (ha : Ev T ta σ H (.ref p)) (hb : Ev T tb σ H (.int i)) (h : SqL K H p (vs ws)) (hm : i = (m : Int)) (hn : ws[m]? = some w) : Ev T (tOp (rIxL K) ta tb) σ H (.str w) :=
  ev_ixL ha hb h (by rw [hm]; exact atI_nat (by rw [List.getElem?_map, hn]; rfl))
theorem cutW_drop {m : Nat} (h : m ≤ ws.length) : cutV (vs ws) (some (m : Int)) none = vs (ws.drop m) := by
  unfold cutV
  rw [HT.sIx_nat, HT.sIx_none, List.length_map, Nat.min_eq_left h]
  have e : (vs ws).drop m = vs (ws.drop m) := List.map_drop.symm
  rw [e, List.take_of_length_le (by rw [List.length_map, List.length_drop]; exact Nat.le_refl _)]
theorem cutW_take {m : Nat} (h : m ≤ ws.length) : cutV (vs ws) none (some (m : Int)) = vs (ws.take m) := by
  unfold cutV
  rw [HT.sIx_nat, HT.sIx_none, List.drop_zero, List.length_map, Nat.min_eq_left h, Nat.sub_zero]
  exact List.map_take.symm
theorem el_fromW {m : Nat} (ha : Ev T ta σ H (.ref p)) (hb : Ev T tb σ H (.int i)) (h : SqL K H p (vs ws)) (hi : i = (m : Int)) (hm : m ≤ ws.length) : EvL T (tSl (rSlL K) ta (tPart tb) tNoPart) σ H (vs (ws.drop m)) :=
  (el_sl ha (eo_some hb) eo_none h).is (by rw [hi, cutW_drop hm])
theorem el_toW {m : Nat} (ha : Ev T ta σ H (.ref p)) (hb : Ev T tb σ H (.int i)) (h : SqL K H p (vs ws)) (hi : i = (m : Int)) (hm : m ≤ ws.length) : EvL T (tSl (rSlL K) ta tNoPart (tPart tb)) σ H (vs (ws.take m)) :=
  (el_sl ha eo_none (eo_some hb) h).is (by rw [hi, cutW_take hm])
/-- a list made from a new one -/
theorem el_mapN {xs ys : List V} {vs : List Nat} {n : Nat} {tl : TE} (h : EvL T tl σ H xs) (hz : xs.length ≤ 40000) (hy : ys.length = xs.length) (hw : ∀ x, wipe ((wipe σ vs).set n (some x)) vs = wipe σ vs)
    (he : ∀ (i : Nat) (x y : V) H1, Ex T H H1 → xs[i]? = some x → ys[i]? = some y → Ev T te ((wipe σ vs).set n (some x)) H1 y) : EvL T (tLc (iList K tl) (gName n) tYes te vs) σ H ys := fun H0 e Q q =>
  h H0 e _ fun a H1 ha e1 h1 => el_map (T := T) (K := K) (te := te) (σ := σ) (H := H1) (tl := fun _ H Q => Q (.ref a) H) (fun H2 _ Q q => q H2 .refl) (SqL.of h1) hz hy hw (fun i x y H2 e2 hx hyy => he i x y H2 ((e.trans e1).trans e2) hx hyy) H1 .refl Q fun p H2 hp e2 h2 => q p H2 (e1.n p hp) (e1.trans e2) h2
/-- a text, sign by sign -/
theorem s_forS {D : Ends} {tu : TS} {n : Nat} (h : Ev T te σ H (.str w)) (Pv : Nat → L2.St → Hp → Prop) (h0 : ∀ H1, Ex T H H1 → Pv 0 σ H1)
    (hs : ∀ i c σ' H', (TL.tl w)[i]? = some c → Pv i σ' H' → tu { D with nx := Pv (i + 1), ct := Pv (i + 1), bk := D.nx } (σ'.set n (some (.str ⟨#[c]⟩))) H') (hd : ∀ σ' H', Pv (TL.tl w).length σ' H' → D.nx σ' H') : tFor (iStr te) (gName n) tu D σ H :=
  h H .refl _ fun H1 e => ⟨w, rfl, by
    refine ⟨fun i m σ' H' => m = (TL.tl w).length - i ∧ i ≤ (TL.tl w).length ∧ Pv i σ' H', ⟨_, rfl, Nat.zero_le _, h0 H1 e⟩, ?_⟩
    rintro i m σ' H' ⟨rfl, hi, hp⟩
    have hsz : w.cps.size = (TL.tl w).length := Array.length_toList.symm
    rcases Nat.lt_or_eq_of_le hi with hlt | heq
    · refine .inr ⟨by show i < w.cps.size; omega, Pv (i + 1), fun σ2 H2 hp2 => ⟨_, by omega, rfl, hlt, hp2⟩, fun x H2 y => ?_⟩
      obtain ⟨rfl, c, hc, rfl⟩ := y
      refine hs i c σ' H2 ?_ hp
      rw [← hc]
      exact Array.getElem?_toList
    · subst heq
      exact .inl ⟨by show w.cps.size ≤ _; omega, hd σ' H' hp⟩⟩
theorem q_forS {D : Ends} {tu tz : TS} {n : Nat} (h : Ev T te σ H (.str w)) (Pv : Nat → L2.St → Hp → Prop) (h0 : ∀ H1, Ex T H H1 → Pv 0 σ H1)
    (hs : ∀ i c σ' H', (TL.tl w)[i]? = some c → Pv i σ' H' → tu { D with nx := Pv (i + 1), ct := Pv (i + 1), bk := tz D } (σ'.set n (some (.str ⟨#[c]⟩))) H') (hd : ∀ σ' H', Pv (TL.tl w).length σ' H' → tz D σ' H') : tSeq (tFor (iStr te) (gName n) tu) tz D σ H :=
  s_forS (D := { D with nx := tz D }) h Pv h0 hs hd
end
end Sm

/-! SmL: lists of lists of ints: compared, searched; ranges' lists; slices at any ends. -/
namespace Sm
open PySem PySem.Spec PyProof.Rows L2
section
variable {T : Tb} {K : PySem.W.Frag} {σ : L2.St} {H H' : Hp} {ta tb te tc : TE} {t u : TT} {x y z v : V} {xs ys : List V} {a b p q l : Addr} {as bs : List Addr} {rs ss : List (List Int)} {i j k : Int}
theorem hu65 {k : Nat} {A : Around} (hr : Room k A) : A.units + 65 < cLine := by
  have := hr.un
  omega
/-! ### data -/
def dLL (rs : List (List Int)) : PyData := .list (rs.map dI)
theorem dp_LLs : ∀ {as : List Addr} {rs : List (List Int)}, LLs H as rs → DpAll K H (as.map V.ref) (rs.map dI)
  | [], [], _ => .nil
  | _ :: _, _ :: _, h => .cons (dp_I (SqL.of h.1)) (dp_LLs h.2)
  | [], _ :: _, h => h.elim
  | _ :: _, [], h => h.elim
theorem dp_LL (h : SqL K H p (as.map V.ref)) (hl : LLs H as rs) : Dp K H (.ref p) (dLL rs) := .lst h (dp_LLs hl)
theorem lay_LL : ∀ rs : List (List Int), PyData.canLayAll0 (rs.map dI) = true
  | [] => by simp [PyData.canLayAll0]
  | r :: rs => by
    show PyData.canLayAll0 (dI r :: rs.map dI) = true
    simp only [PyData.canLayAll0, lay_I, lay_LL rs, Bool.and_self]
theorem dep_LL : ∀ rs : List (List Int), PyData.depthAll (rs.map dI) ≤ 1
  | [] => by simp [PyData.depthAll]
  | r :: rs => by
    have := dep_LL rs
    show PyData.depthAll (dI r :: rs.map dI) ≤ 1
    simp only [PyData.depthAll, dep_I]
    omega
theorem sh_LL (rs : List (List Int)) : SeqAt.shaped (dLL rs) = true := by
  show (PyData.canLay0 (dLL rs) && decide (PyData.depth (dLL rs) ≤ 64)) = true
  have h1 : PyData.canLay0 (dLL rs) = true := by
    show PyData.canLay0 (.list (rs.map dI)) = true
    simp only [PyData.canLay0]
    exact lay_LL rs
  have h2 : PyData.depth (dLL rs) ≤ 64 := by
    have := dep_LL rs
    show PyData.depth (.list (rs.map dI)) ≤ 64
    simp only [PyData.depth]
    omega
  rw [h1, decide_eq_true h2]
  rfl
theorem eqvA_LL : ∀ rs ss : List (List Int), PyData.eqvAll (rs.map dI) (ss.map dI) = decide (rs = ss)
  | [], [] => by simp [PyData.eqvAll]
  | [], _ :: _ => by simp [PyData.eqvAll]
  | _ :: _, [] => by simp [PyData.eqvAll]
  | r :: rs, s :: ss => by
    show PyData.eqvAll (dI r :: rs.map dI) (dI s :: ss.map dI) = decide (r :: rs = s :: ss)
    simp only [PyData.eqvAll, eqv_I, eqvA_LL rs ss]
    by_cases h : r = s
    · by_cases h2 : rs = ss
      · simp [h, h2]
      · simp [h, h2]
    · simp [h]
theorem eqv_LL (rs ss : List (List Int)) : PyData.eqv (dLL rs) (dLL ss) = decide (rs = ss) := by
  show PyData.eqv (.list (rs.map dI)) (.list (ss.map dI)) = decide (rs = ss)
  simp only [PyData.eqv]
  exact eqvA_LL rs ss
theorem any_LL (r : List Int) : ∀ rs : List (List Int), ((rs.map dI).any fun z => PyData.eqv z (dI r)) = decide (r ∈ rs)
  | [] => by simp
  | s :: rs => by
    rw [List.map_cons, List.any_cons, any_LL r rs, eqv_I]
    by_cases h : r = s
    · simp [h]
    · have h' : s ≠ r := fun e => h e.symm
      simp [h, h']
theorem ev_eqLL (ha : Ev T ta σ H (.ref p)) (hb : Ev T tb σ H (.ref q)) (hp : SqL K H p (as.map V.ref)) (hl : LLs H as rs) (hq : SqL K H q (bs.map V.ref)) (hm : LLs H bs ss) : Ev T (tOp (rEqD K) ta tb) σ H (.bl (decide (rs = ss))) := fun H1 e Q f =>
  ha H1 e _ fun H2 e2 => hb H2 (e.trans e2) _ fun H3 e3 => ⟨_, _, dp_LL (((e.trans e2).trans e3).sq hp) (hl.ex ((e.trans e2).trans e3)), dp_LL (((e.trans e2).trans e3).sq hq) (hm.ex ((e.trans e2).trans e3)), sh_LL _, sh_LL _, by rw [eqv_LL]; exact f H3 (e2.trans e3)⟩
/-- beside a display of lists that stand -/
theorem ev_neLLN (ha : Ev T ta σ H (.ref p)) (hb : EvL T tb σ H (bs.map V.ref)) (hp : SqL K H p (as.map V.ref)) (hl : LLs H as rs) (hm : LLs H bs ss) : Ev T (tOp (rNeD K) ta tb) σ H (.bl (!decide (rs = ss))) := fun H1 e Q f =>
  ha H1 e _ fun H2 e2 => hb H2 (e.trans e2) _ fun q H3 _ e3 hq => ⟨_, _, dp_LL (((e.trans e2).trans e3).sq hp) (hl.ex ((e.trans e2).trans e3)), dp_LL (SqL.of hq) (hm.ex ((e.trans e2).trans e3)), sh_LL _, sh_LL _, by rw [eqv_LL]; exact f H3 (e2.trans e3)⟩
theorem ev_eqLLN (ha : Ev T ta σ H (.ref p)) (hb : EvL T tb σ H (bs.map V.ref)) (hp : SqL K H p (as.map V.ref)) (hl : LLs H as rs) (hm : LLs H bs ss) : Ev T (tOp (rEqD K) ta tb) σ H (.bl (decide (rs = ss))) := fun H1 e Q f =>
  ha H1 e _ fun H2 e2 => hb H2 (e.trans e2) _ fun q H3 _ e3 hq => ⟨_, _, dp_LL (((e.trans e2).trans e3).sq hp) (hl.ex ((e.trans e2).trans e3)), dp_LL (SqL.of hq) (hm.ex ((e.trans e2).trans e3)), sh_LL _, sh_LL _, by rw [eqv_LL]; exact f H3 (e2.trans e3)⟩
/-- a new list of lists beside one that stands; beside a display of lists that stand -/
theorem ev_eqRLL {R : Hp → V → Hp → Prop} (ha : EvR T ta σ H R) (hR : ∀ H1 v H2, Ex T H H1 → Ex T H1 H2 → R H1 v H2 → ∃ p as, v = .ref p ∧ H2 p = some (.lst (as.map V.ref)) ∧ LLs H2 as rs) (hb : Ev T tb σ H (.ref q)) (hq : SqL K H q (bs.map V.ref)) (hm : LLs H bs ss) : Ev T (tOp (rEqD K) ta tb) σ H (.bl (decide (rs = ss))) := fun H1 e Q f =>
  ha H1 e _ fun v H2 e2 hv => by
    obtain ⟨p, as, rfl, hp, hl⟩ := hR H1 v H2 e e2 hv
    exact hb H2 (e.trans e2) _ fun H3 e3 => ⟨_, _, dp_LL (SqL.of (e3.lst hp)) (hl.ex e3), dp_LL (((e.trans e2).trans e3).sq hq) (hm.ex ((e.trans e2).trans e3)), sh_LL _, sh_LL _, by rw [eqv_LL]; exact f H3 (e2.trans e3)⟩
theorem ev_neRLLN {R : Hp → V → Hp → Prop} (ha : EvR T ta σ H R) (hR : ∀ H1 v H2, Ex T H H1 → Ex T H1 H2 → R H1 v H2 → ∃ p as, v = .ref p ∧ H2 p = some (.lst (as.map V.ref)) ∧ LLs H2 as rs) (hb : EvL T tb σ H (bs.map V.ref)) (hm : LLs H bs ss) : Ev T (tOp (rNeD K) ta tb) σ H (.bl (!decide (rs = ss))) := fun H1 e Q f =>
  ha H1 e _ fun v H2 e2 hv => by
    obtain ⟨p, as, rfl, hp, hl⟩ := hR H1 v H2 e e2 hv
    exact hb H2 (e.trans e2) _ fun q H3 _ e3 hq => ⟨_, _, dp_LL (SqL.of (e3.lst hp)) (hl.ex e3), dp_LL (SqL.of hq) (hm.ex ((e.trans e2).trans e3)), sh_LL _, sh_LL _, by rw [eqv_LL]; exact f H3 (e2.trans e3)⟩
/-! ### in, not in -/
theorem ev_inLL {r : List Int} (ha : Ev T ta σ H (.ref a)) (hb : Ev T tb σ H (.ref p)) (h : SqL K H a (vz r)) (hp : SqL K H p (as.map V.ref)) (hl : LLs H as rs) : Ev T (tOp (rInD K) ta tb) σ H (.bl (decide (r ∈ rs))) := fun H1 e Q f =>
  ha H1 e _ fun H2 e2 => hb H2 (e.trans e2) _ fun H3 e3 => ⟨dI r, rs.map dI, dp_I (((e.trans e2).trans e3).sq h), dp_LL (((e.trans e2).trans e3).sq hp) (hl.ex ((e.trans e2).trans e3)), sh_I _, sh_LL _, by rw [any_LL]; exact f H3 (e2.trans e3)⟩
theorem ev_notInLL {r : List Int} (ha : Ev T ta σ H (.ref a)) (hb : Ev T tb σ H (.ref p)) (h : SqL K H a (vz r)) (hp : SqL K H p (as.map V.ref)) (hl : LLs H as rs) : Ev T (tOp (rNotInD K) ta tb) σ H (.bl (!decide (r ∈ rs))) := fun H1 e Q f =>
  ha H1 e _ fun H2 e2 => hb H2 (e.trans e2) _ fun H3 e3 => ⟨dI r, rs.map dI, dp_I (((e.trans e2).trans e3).sq h), dp_LL (((e.trans e2).trans e3).sq hp) (hl.ex ((e.trans e2).trans e3)), sh_I _, sh_LL _, by rw [any_LL]; exact f H3 (e2.trans e3)⟩
/-! ### lists of what a range gives -/
theorem tYes_ev : EvT T tYes σ H true := fun H1 _ _ q => q H1 .refl
theorem el_lcR1 {tr : TA} {vs : List Nat} {n : Nat} {m : Int} (g : Nat → V) (h : EvA T tr σ H [.int m]) (hm : m ≤ 40000) (h0 : 0 ≤ m) (hw : ∀ x, wipe ((wipe σ vs).set n (some x)) vs = wipe σ vs)
    (he : ∀ (i : Nat) H1, Ex T H H1 → (i : Int) < m → Ev T te ((wipe σ vs).set n (some (.int (i : Int)))) H1 (g i)) : EvL T (tLc (iRng1 tr) (gName n) tYes te vs) σ H ((List.range m.toNat).map g) :=
  (el_lcR1F (fun _ => true) g h hm h0 hw (fun _ _ _ _ => tYes_ev) fun i H1 e hi _ => he i H1 e hi).is (by rw [List.filter_eq_self.mpr fun _ _ => rfl])
/-! ### slices at any ends -/
theorem cut_range {ns : List Int} {m n : Nat} : cutV (vz ns) (some (m : Int)) (some (n : Int)) = vz ((ns.drop m).take (n - m)) := by
  unfold cutV
  rw [HT.sIx_nat, HT.sIx_nat, List.length_map]
  have e : ∀ l : List V, l.length = ns.length → (l.drop (min m ns.length)).take (min n ns.length - min m ns.length) = (l.drop m).take (n - m) := by
    intro l hl
    by_cases hm : m ≤ ns.length
    · rw [Nat.min_eq_left hm]
      by_cases hn : n ≤ ns.length
      · rw [Nat.min_eq_left hn]
      · rw [Nat.min_eq_right (by omega), List.take_of_length_le (by rw [List.length_drop]; omega), List.take_of_length_le (by rw [List.length_drop]; omega)]
    · rw [List.drop_of_length_le (by omega), List.drop_of_length_le (by omega), List.take_nil, List.take_nil]
  rw [e _ (List.length_map ..), ← List.map_drop, ← List.map_take]
theorem cut_to {ns : List Int} {n : Nat} : cutV (vz ns) none (some (n : Int)) = vz (ns.take n) := by
  unfold cutV
  rw [HT.sIx_nat, HT.sIx_none, List.drop_zero, List.length_map, Nat.sub_zero]
  by_cases hn : n ≤ ns.length
  · rw [Nat.min_eq_left hn, ← List.map_take]
  · rw [Nat.min_eq_right (by omega), ← List.map_take, List.take_of_length_le (Nat.le_refl _), List.take_of_length_le (by omega)]
theorem el_range {ns : List Int} {m n : Nat} (ha : Ev T ta σ H (.ref p)) (hb : Ev T tb σ H (.int (m : Int))) (hc : Ev T tc σ H (.int (n : Int))) (h : SqL K H p (vz ns)) : EvL T (tSl (rSlL K) ta (tPart tb) (tPart tc)) σ H (vz ((ns.drop m).take (n - m))) :=
  (el_sl ha (eo_some hb) (eo_some hc) h).is cut_range
theorem el_upto {ns : List Int} {n : Nat} (ha : Ev T ta σ H (.ref p)) (hc : Ev T tc σ H (.int (n : Int))) (h : SqL K H p (vz ns)) : EvL T (tSl (rSlL K) ta tNoPart (tPart tc)) σ H (vz (ns.take n)) :=
  (el_sl ha eo_none (eo_some hc) h).is cut_to
/-- [new list, new list] -/
theorem er_lst2 {ns ms : List Int} (ha : EvL T ta σ H (vz ns)) (hb : EvL T tb σ H (vz ms)) : EvR T (tLst (tCons ta (tCons tb tNil))) σ H (NewLL [ns, ms]) := fun H1 e Q f => by
  simp only [tLst, tCons, tNil]
  refine ha H1 e _ fun a H2 ha0 e2 h2 => hb H2 (e.trans e2) _ fun b H3 hb0 e3 h3 => ⟨(by decide : 2 ≤ sizeLine), fun p hp => f (.ref p) _ ((e2.trans e3).trans (.new hp)) ⟨p, [a, b], rfl, (e2.trans e3).n p hp, upd_same, ⟨?_, ?_, trivial⟩, ?_, ?_⟩⟩
  · rw [upd_ne (ne_of_none (e3.lst h2) hp)]
    exact e3.lst h2
  · rw [upd_ne (ne_of_none h3 hp)]
    exact h3
  · intro c hc
    rcases List.mem_cons.mp hc with rfl | hc
    · exact ⟨ha0, ne_of_none (e3.lst h2) hp⟩
    · rw [List.mem_singleton.mp hc]
      exact ⟨e2.n b hb0, ne_of_none h3 hp⟩
  · refine List.nodup_cons.mpr ⟨fun hm => ?_, List.nodup_cons.mpr ⟨List.not_mem_nil, .nil⟩⟩
    rw [List.mem_singleton.mp hm] at h2
    rw [h2] at hb0
    cases hb0
end
end Sm

/-! SmS: sorted(xs, key=f): xs a list of lists of ints, f's answers lists of ints. -/
namespace Sm
open PySem PySem.Spec PyProof.Rows L2
/-- the object at k is let go -/
def gone (h : Heap) (k : Addr) : Heap := h.update k fun _ => { cls := .none, data := .freed }
theorem gone_at (h : Heap) (k : Addr) : (gone h k).get? k = none := by
  obtain ⟨objs, l⟩ := h
  show (match (objs.modify k fun _ => ({ cls := .none, data := .freed } : Obj))[k]? with | some ⟨_, _, .freed, _⟩ => none | o => o) = none
  rw [Array.getElem?_modify, if_pos rfl]
  cases objs[k]? <;> rfl
theorem gone_ne {h : Heap} {k b : Addr} (n : b ≠ k) : (gone h k).get? b = h.get? b := Heap.get?_update_ne _ _ _ _ n
theorem vals_refs : ∀ {as : List Addr} {us : List Value}, Vals (as.map V.ref) us → us = as.map Value.ref
  | [], _, .nil => rfl
  | a :: as, _, .cons r t => by
    cases r
    rw [vals_refs t]
    rfl
theorem LLs.zip {H : Hp} : ∀ {as : List Addr} {rs : List (List Int)}, LLs H as rs → ∀ b ∈ as.zip rs, H b.1 = some (.lst (vz b.2))
  | [], [], _, b, hb => by cases hb
  | a :: as, r :: rs, h, b, hb => by
    rcases List.mem_cons.mp hb with e | hb
    · rw [e]; exact h.1
    · exact LLs.zip h.2 b hb
  | [], _ :: _, h, _, _ => h.elim
  | _ :: _, [], h, _, _ => h.elim
theorem LLs.of_zip {H : Hp} : ∀ {ps : List (Addr × List Int)}, (∀ b ∈ ps, H b.1 = some (.lst (vz b.2))) → LLs H (ps.map (·.1)) (ps.map (·.2))
  | [], _ => trivial
  | p :: ps, h => ⟨h p List.mem_cons_self, LLs.of_zip fun b hb => h b (List.mem_cons_of_mem _ hb)⟩
theorem zip_fst {H : Hp} : ∀ {as : List Addr} {rs : List (List Int)}, LLs H as rs → (as.zip rs).map (·.1) = as ∧ (as.zip rs).map (·.2) = rs
  | [], [], _ => ⟨rfl, rfl⟩
  | a :: as, r :: rs, h => by
    obtain ⟨h1, h2⟩ := zip_fst h.2
    exact ⟨congrArg (List.cons a) h1, congrArg (List.cons r) h2⟩
  | [], _ :: _, h => h.elim
  | _ :: _, [], h => h.elim
theorem each_refs {β : Type} {f : β → Addr} : ∀ {us : List Value} {bs : List β}, PySem.W.EachIs (fun v b => v = .ref (f b)) us bs → us = bs.map fun b => Value.ref (f b)
  | _, _, .nil => rfl
  | _, _, .cons h t => by rw [each_refs t, h]; rfl
theorem each_of_refs : ∀ (ps : List (Addr × List Int)), PySem.W.EachIs (fun v (b : Addr × List Int) => v = Value.ref b.1) (ps.map fun b => Value.ref b.1) ps
  | [] => .nil
  | p :: ps => .cons rfl (each_of_refs ps)
theorem alike_I (x y : List Int) : PySem.W.alike (dI x) (dI y) = true := PySem.W.alike_ints x y
section
variable {X : Cx} {T : Tb} {pins : List (Addr × Obj)} {σ : L2.St} {H : Hp} {s : Shared} {l fq : Addr} {as : List Addr} {rs : List (List Int)}
abbrev kOrd (key : List Int → List Int) : List Int → List Int → Bool := fun x y => decide (key x ≤ key y)
/-- what a call of the key's def gives -/
def KeyEnds (X : Cx) (T : Tb) (pins : List (Addr × Obj)) (σ : L2.St) (H : Hp) (k : List Int) (u : Value) (s' : Shared) : Prop := ∃ p H', u = .ref p ∧ Inv X pins σ H' s' ∧ Ex T H H' ∧ H' p = some (.lst (vz k))
theorem sorted_keyed {Q : Value → Shared → Prop} {E : Value → Shared → Prop} (key : List Int → List Int) (I : Inv X pins σ H s) (hl : SqL X.K H l (as.map V.ref)) (hL : LLs H as rs) (hu : X.A.units + 16 < cLine)
    (turn : ∀ (more : List (Addr × Obj)) (H1 : Hp) (s1 : Shared) (a : Addr) (r : List Int), Inv X (more ++ pins) σ H1 s1 → Ex T H H1 → H1 a = some (.lst (vz r)) → r ∈ rs →
      wpAny (model X.prog X.w) X.A.in1.in1 (call (.ref fq) [.ref a]) (KeyEnds X T (more ++ pins) σ H1 (key r)) (fun _ _ => False) s1)
    (done : ∀ (q : Addr) (as' : List Addr) (H' : Hp) (s' : Shared), Inv X pins σ H' s' → Ex T H H' → H q = none → H' q = some (.lst (as'.map V.ref)) → as'.Perm as → LLs H' as' (rs.mergeSort (kOrd key)) → Q (.ref q) s') :
    wpAny (model X.prog X.w) X.A (call (.builtin "sorted") [.ref l] [(Str.ofString "key", .ref fq)]) Q E s := by
  obtain ⟨its, rv, pl, hz⟩ := I.list hl
  have hits := vals_refs rv
  have hlen : its.length = as.length := by rw [hits, List.length_map]
  have hll := hL.len
  have hZ : its.length ≤ sizeLine := by rw [← rv.length]; exact hz
  refine PySem.W.sorted_of_sort (vs := its) pl.isList hZ (ksk_s1 _ _) (fun x => ksk_l1 _ _) fun E' => ?_
  rw [ksk_t1]
  have hA : s.heap.objs.size ≤ s.heap.objs.size + 1 := Nat.le_succ _
  have ho := PySem.W.copyHeap_at s.heap its
  have old : ∀ b o, s.heap.get? b = some o → (PySem.W.copyHeap s.heap its).get? b = some o := fun b o e => PySem.W.copyHeap_old e
  have nA : H (s.heap.objs.size + 1) = none := I.hok.fresh hA
  have fA : FpOk X pins H (s.heap.objs.size + 1) := I.fpOk hA nA
  generalize s.heap.objs.size + 1 = A0 at ho nA fA ⊢
  have I0 : Inv X pins σ H { s with heap := PySem.W.copyHeap s.heap its } := I.kept (t' := s.toks) old
  have hlt := Heap.lt_size ho
  have hsz0 : s.heap.objs.size ≤ (PySem.W.copyHeap s.heap its).objs.size := by
    unfold PySem.W.copyHeap
    rw [size_push', Heap.size_update, size_push']
    omega
  generalize PySem.W.copyHeap s.heap its = g0 at ho I0 hlt hsz0 ⊢
  obtain ⟨e1, ho1⟩ : ∃ e1, (g0.update A0 (Obj.mapSeq fun _ => (#[] : Array Value))).get? A0 = some (seqObj "list" #[] e1) := ⟨_, get?_update_seq ho fun _ => #[]⟩
  unfold ksk_tree
  refine wpAny_bind (listItems_at ho rfl ?_)
  refine wpAny_bind (listUpdate_at ho rfl ?_ (by rw [List.size_toArray]; exact hZ) (Nat.zero_le _))
  refine wpAny_bind (seqEpoch_at ho1 rfl ?_)
  refine wpAny_bind (wpAny_newTuple ?_ (by show its.length ≤ _; exact hZ))
  refine wpAny_bind (wpAny_newList ?_ (Nat.zero_le _))
  refine wpAny_holding ?_
  -- the list being sorted is empty, the keys' list is new
  have hkS : ((g0.update A0 (Obj.mapSeq fun _ => (#[] : Array Value))).push (seqObj "tuple" its.toArray 0)).objs.size = g0.objs.size + 1 := by rw [size_push', Heap.size_update]
  have hk0 : (((g0.update A0 (Obj.mapSeq fun _ => (#[] : Array Value))).push (seqObj "tuple" its.toArray 0)).push (seqObj "list" #[] 0)).get? (g0.objs.size + 1) = some (seqObj "list" #[] 0) := by
    rw [← hkS]
    exact Heap.get?_push_size _ rfl
  have ha0 : (((g0.update A0 (Obj.mapSeq fun _ => (#[] : Array Value))).push (seqObj "tuple" its.toArray 0)).push (seqObj "list" #[] 0)).get? A0 = some (seqObj "list" #[] e1) := Heap.get?_push_of_some _ (Heap.get?_push_of_some _ ho1)
  have I1 : Inv X pins σ H { s with heap := ((g0.update A0 (Obj.mapSeq fun _ => (#[] : Array Value))).push (seqObj "tuple" its.toArray 0)).push (seqObj "list" #[] 0) } := by
    obtain ⟨f0, f1, _, f3, f4, f5⟩ := fA
    exact I0.turned (t' := s.toks) (fun b o hb e => Heap.get?_push_of_some _ (Heap.get?_push_of_some _ ((Heap.get?_update_ne _ _ _ _ hb).trans e))) f0 f1 f3 f4 f5
  rw [hkS]
  have hKne : A0 ≠ g0.objs.size + 1 := Nat.ne_of_lt (Nat.lt_succ_of_lt hlt)
  have nK : H (g0.objs.size + 1) = none := I.hok.fresh (by omega)
  have fK : FpOk X pins H (g0.objs.size + 1) := I.fpOk (by omega) nK
  generalize g0.objs.size + 1 = kS at hk0 hKne nK fK ⊢
  show wpAny _ _ _ _ _ { s with heap := ((g0.update A0 (Obj.mapSeq fun _ => (#[] : Array Value))).push (seqObj "tuple" its.toArray 0)).push (seqObj "list" #[] 0) }
  obtain ⟨s4, hs4⟩ : ∃ s4 : Shared, s4 = { s with heap := ((g0.update A0 (Obj.mapSeq fun _ => (#[] : Array Value))).push (seqObj "tuple" its.toArray 0)).push (seqObj "list" #[] 0) } := ⟨_, rfl⟩
  replace hk0 : s4.heap.get? kS = some (seqObj "list" #[] 0) := by rw [hs4]; exact hk0
  replace ha0 : s4.heap.get? A0 = some (seqObj "list" #[] e1) := by rw [hs4]; exact ha0
  rw [← hs4] at I1 ⊢
  have hdA : ∀ v, (seqObj "list" #[] e1).data ≠ .cell v := fun v z => by cases z
  have pinA : Inv X ((A0, seqObj "list" #[] e1) :: pins) σ H s4 := I1.pins_of fun p hp => by
    rcases List.mem_cons.mp hp with e | hp
    · rw [e]; exact ⟨ha0, nA, fA.2.1, fA.2.2.1, hdA⟩
    · exact I1.pin p (List.mem_append_right _ hp)
  unfold ksk_rest
  refine wpAny_bind (wpAny_rule ?_)
  first
    | rw [List.forIn_toArray]
    | (rw [← Array.forIn_toList]; simp only [List.toList_toArray])
  refine wpAny_bind (ksk_fold (fun i s' => ∃ (Hi : Hp) (kA : Array Value) (e : Nat), Inv X ((A0, seqObj "list" #[] e1) :: pins) σ Hi s' ∧ Hi kS = none ∧ s'.heap.get? kS = some (seqObj "list" kA e) ∧ Ex T H Hi ∧
    PySem.W.EachIs (fun v r => ∃ p, v = .ref p ∧ Hi p = some (.lst (vz (key r)))) kA.toList (rs.take i)) its 0 s4 ⟨H, #[], 0, pinA, nK, hk0, .refl, by rw [List.take_zero]; exact .nil⟩ ?step ?fin)
  case step =>
    rintro j x s' hx ⟨Hi, kA, e, I', hn, nk', eH, hK⟩
    simp only [Nat.zero_add] at hK ⊢
    rw [hits, List.getElem?_map] at hx
    obtain ⟨a, ha, rfl⟩ : ∃ a, as[j]? = some a ∧ x = .ref a := by
      cases q : as[j]? with
      | none => rw [q] at hx; cases hx
      | some a => rw [q] at hx; exact ⟨a, rfl, (Option.some.inj hx).symm⟩
    obtain ⟨r, hr, hra⟩ := hL.at' ha
    have hj : j < rs.length := (List.getElem?_eq_some_iff.mp hr).1
    have hkz : kA.size ≤ its.length := by
      have h1 := hK.length
      rw [Array.length_toList, List.length_take] at h1
      omega
    have pinK : Inv X ([(kS, seqObj "list" kA e), (A0, seqObj "list" #[] e1)] ++ pins) σ Hi s' := I'.pins_of fun p hp => by
      rcases List.mem_cons.mp hp with q | hp
      · rw [q]; exact ⟨nk', hn, fK.2.1, fK.2.2.1, fun v z => by cases z⟩
      · exact I'.pin p (List.mem_append_right _ hp)
    refine wpAny_bind (wpAny_attempt (wpAny_mono (turn _ Hi s' a r pinK eH (eH.lst hra) (List.mem_of_getElem? hr)) (fun u s2 hq => ?_) fun _ _ hF => hF.elim))
    obtain ⟨p, H2, rfl, I2, e2, hp⟩ := hq
    try dsimp only
    obtain ⟨nk2, hn2, _⟩ := I2.pin (kS, seqObj "list" kA e) (List.mem_append_right _ List.mem_cons_self)
    have I3 : Inv X ((A0, seqObj "list" #[] e1) :: pins) σ H2 s2 := I2.pins_of fun p hp => I2.pin p (List.mem_append_right _ (List.mem_cons_of_mem _ hp))
    have sb := Heap.SameBut.update s2.heap kS (Obj.mapSeq (·.push (Value.ref p)))
    obtain ⟨c2, hc2⟩ : ∃ c2, (s2.heap.update kS (Obj.mapSeq (·.push (Value.ref p)))).get? kS = some (seqObj "list" (kA.push (.ref p)) c2) := ⟨_, get?_update_seq nk2 (·.push (Value.ref p))⟩
    refine wpAny_bind (listUpdate_at nk2 rfl ?_ (Nat.le_trans hkz hZ) (Nat.le_trans (Nat.le_of_eq (Array.size_push ..)) (Nat.succ_le_succ (Nat.le_trans hkz hZ))))
    refine wpAny_pure ⟨rfl, H2, kA.push (.ref p), c2, ?_, hn2, hc2, eH.trans e2, ?_⟩
    · exact I3.turned (t' := s2.toks) (fun b o hb q => (sb.2 b hb).trans q) hn2 fK.2.1 fK.2.2.2.1 fK.2.2.2.2.1 fun q hq z => by
        have hq' : q ∈ X.pn ++ ((A0, seqObj "list" #[] e1) :: pins) := hq
        rcases List.mem_append.mp hq' with h1 | h1
        · exact fK.2.2.2.2.2 q (List.mem_append_left _ h1) z
        · rcases List.mem_cons.mp h1 with h1 | h1
          · rw [h1] at z; exact hKne z
          · exact fK.2.2.2.2.2 q (List.mem_append_right _ h1) z
    · have ek : rs.take (j + 1) = rs.take j ++ [r] := by rw [List.take_add_one, hr]; rfl
      have ea : (kA.push (Value.ref p)).toList = kA.toList ++ [.ref p] := by simp
      rw [ek, ea]
      exact PySem.W.each_snoc (R := fun v r => ∃ p, v = Value.ref p ∧ H2 p = some (.lst (vz (key r)))) ⟨p, rfl, hp⟩ (hK.mono fun v r ⟨p, q1, q2⟩ => ⟨p, q1, e2.lst q2⟩)
  case fin =>
    rintro s' ⟨Hi, kA, e, I', hn, nk', eH, hK⟩
    have e3 : rs.take (0 + its.length) = rs := List.take_of_length_le (by omega)
    rw [e3] at hK
    have hks : kA.size = its.length := by
      have h1 := hK.length
      rw [Array.length_toList] at h1
      omega
    obtain ⟨z1, z2⟩ := zip_fst hL
    have I5 : Inv X pins σ Hi s' := I'.pins_of fun p hp => I'.pin p (List.mem_append_right _ (List.mem_cons_of_mem _ hp))
    obtain ⟨na', hna, _⟩ := I'.pin (A0, seqObj "list" #[] e1) (List.mem_append_right _ List.mem_cons_self)
    try dsimp only
    refine wpAny_bind (listItems_at nk' rfl ?_)
    have hkz : (as.zip rs).map (fun b => dI (key b.2)) = rs.map fun r => dI (key r) := by
      conv => rhs; rw [← z2]
      rw [List.map_map]
      rfl
    have hrd : PySem.W.EachIs (fun v d => ∃ as, Reads s'.heap v d as) kA.toList ((as.zip rs).map fun b => dI (key b.2)) := by
      rw [hkz]
      exact PySem.W.each_map (fun r => dI (key r)) (hK.mono fun v r ⟨p, q1, q2⟩ => by
        subst q1
        exact Dp.reads I5 (dI (key r)) (.ref p) (.ref p) (dp_I (SqL.of q2)) rfl)
    have hal : PySem.W.AllAlike ((as.zip rs).map fun b => dI (key b.2)) := PySem.W.AllAlike.of (enc := fun b : Addr × List Int => dI (key b.2)) fun b c => alike_I _ _
    have hso : PySem.W.Sortable ((as.zip rs).map fun b => dI (key b.2)) := PySem.W.Sortable.others (enc := fun b : Addr × List Int => dI (key b.2)) fun b => ⟨(fun z => by cases z), fun xs z => by cases z⟩
    refine PySem.W.keyH_end (κ := PySem.W.dataKind s'.heap ((as.zip rs).map fun b => dI (key b.2))) (h₁ := gone s'.heap kS) (vs := its) (fun b o hb q => ?_) (gone_at _ _) nk' na' hKne.symm (PySem.W.SortsAt.data hrd hal hso fun d hd => ?_) hks hZ fun h' tk c kp hA' => ⟨rfl, ?_⟩
    · by_cases hbk : b = kS
      · rw [hbk, gone_at] at q; cases q
      · rw [gone_ne hbk] at q; exact q
    · obtain ⟨b, _, rfl⟩ := List.mem_map.mp hd
      rw [dep_I]
      show X.A.units + 2 + 1 < cLine
      omega
    · have hb := hits
      have hE : PySem.W.EachIs (fun v (b : Addr × List Int) => v = Value.ref b.1) its (as.zip rs) := by
        have e4 : its = (as.zip rs).map fun b => Value.ref b.1 := by
          rw [hits]
          conv => lhs; rw [← z1]
          rw [List.map_map]
          rfl
        rw [e4]
        exact each_of_refs _
      have ko : PySem.W.KeyedOut false ((as.zip rs).map fun b => dI (key b.2)) its (PySem.W.sortVals (PySem.W.dataKind s'.heap ((as.zip rs).map fun b => dI (key b.2))) false kA.toList its) := ⟨s'.heap, kA.toList, hal, rfl, hrd⟩
      have hout := PySem.W.keyedOut_each (fun b : Addr × List Int => dI (key b.2)) ko hE
      have hle : PySem.W.dataLe false (fun b : Addr × List Int => dI (key b.2)) = fun p q => decide (key p.2 ≤ key q.2) := PySem.W.dataLe_rows fun b : Addr × List Int => key b.2
      rw [hle] at hout
      have hov := each_refs hout
      rw [hov] at hA'
      obtain ⟨ps, hps⟩ : ∃ ps, ps = (as.zip rs).mergeSort fun p q => decide (key p.2 ≤ key q.2) := ⟨_, rfl⟩
      rw [← hps] at hA'
      have hperm : ps.Perm (as.zip rs) := by rw [hps]; exact List.mergeSort_perm _ _
      have hpl : ps.length = its.length := by
        have h1 := hperm.length_eq
        have h2 := congrArg List.length z1
        rw [List.length_map] at h2
        omega
      -- both scratch objects are left
      have fA5 : FpOk X pins Hi A0 := ⟨hna, fA.2⟩
      have fK5 : FpOk X pins Hi kS := ⟨hn, fK.2⟩
      have I6 : Inv X pins σ Hi { s' with heap := h', toks := tk } := I5.turnedL (ch := [kS, A0]) (fun b o hb q => by
        have h1 : b ≠ kS := fun z => hb (by simp [z])
        have h2 : b ≠ A0 := fun z => hb (by simp [z])
        exact kp b o h2 ((gone_ne h1).trans q)) fun b hb => by
        rcases List.mem_cons.mp hb with z | hb
        · rw [z]; exact fK5
        · rw [List.mem_singleton.mp hb]; exact fA5
      have I7 : Inv X pins σ (upd Hi A0 (.lst ((ps.map (·.1)).map V.ref))) { s' with heap := h', toks := tk } := I6.take (t' := tk) (fun b o _ q => q) fA5 ⟨by rw [List.length_map, List.length_map, hpl]; exact hZ, ps.map fun b => .ref b.1, c, by
        rw [List.map_map]
        clear hA' hpl hperm hps
        induction ps with
        | nil => exact .nil
        | cons p ps ih => exact .cons rfl ih, hA'⟩
      have hnew : Ex T Hi (upd Hi A0 (.lst ((ps.map (·.1)).map V.ref))) := .new hna
      refine done A0 (ps.map (·.1)) _ _ I7 (eH.trans hnew) nA upd_same ?_ ?_
      · have := hperm.map (·.1)
        rw [z1] at this
        exact this
      · have e5 : rs.mergeSort (kOrd key) = ps.map (·.2) := by
          rw [hps, List.map_mergeSort (s := kOrd key) fun a _ b _ => rfl, z2]
        rw [e5]
        exact LLs.of_zip fun b hb => hnew.lst (eH.lst (LLs.zip hL b (hperm.subset hb)))
end
end Sm

/-! SmE: refusals: classes, raising, the law's try. -/
namespace Sm
open PySem PySem.Spec PyProof.Rows L2
/-- where the classes of refusals stand -/
structure Ze where
  row : Addr
  noRow : Addr
  noPlace : Addr
  noSuch : Addr
  badText : Addr
/-- a class x at C that may be raised, one of those under the class at R -/
structure Xc (K : PySem.W.Frag) (mg : Str → Option Value) (x : Str) (C R : Addr) : Prop where
  g : mg x = some (.ref C)
  x : PySem.W.excIn K C [.type "ValueError", .type "Exception", .type "BaseException", .type "object"] "ValueError.__new__" = true
  k : PySem.W.keepIn K (.ref C) = true
  b : PySem.W.subIn K (.ref C) (.type "BaseException") = some true
  t : PySem.W.typeIn K (.ref C) = some (.type "type")
  e : PySem.W.exmOne K (.ref C) (.ref R) = some true
  i : ExcC K C
section
variable {X : Cx} {x : Str} {C R : Addr}
theorem Xc.make (c : Xc X.K X.mg x C R) {m : Str} {j : Nat} {p p2 pos : Pos} (hg : Gl X x) (hdb : (x == ("__debug__" : Str)) = false := by decide) : PMk X (.Call (.Name x p) [.Constant (.str m) j p2] [] pos) (fun _ H Q => Q (.ref C) none H) :=
  pmk_own PySem.F.excBase_ValueError c.x c.g c.k (raises_own c.b c.t) hg hdb
/-- isinstance(e, c), e what the suite holds, of whatever class -/
def rIsX (K : PySem.W.Frag) (a : Addr) (cls : Value) (d : Option Addr) : List V → Hp → VK → Prop := fun xs H Q => ∃ D, cls = .ref D ∧ d = none ∧ ExcC K D ∧ rIsE K D a xs H Q
theorem call_isX {K : PySem.W.Frag} {a : Addr} {oe : Obj} {cls : Value} {d : Option Addr} {pn : List (Addr × Obj)} (hK : X.K = K) (hz : Zc cls d oe) (hf : ∃ vs, oe.data = .fields vs) : CallR (X.suite a ((a, oe) :: pn)) (.builtin "isinstance") (rIsX K a cls d) := by
  subst hK
  intro pins s σ H xs us Q I r h
  obtain ⟨D, rfl, rfl, hE, h⟩ := h
  exact call_isE hE hz hf pins s σ H xs us Q I r h
variable {CX : CXT} {k j : Nat} {sp : Sp} {p pos : Pos} {e : Expr} {es : List Expr} {t : TA} {E : L2.St → XK}
theorem pe_kS (c : Ca CX X.prog X.w X.K X.mg X.base k x sp) (hr : Room j X.A) (hk : k ≤ j) (hx : ∀ σ, PassesAt CX X σ (E σ)) (hg : Gl X x) (ha : PA X (e :: es) t)
    (hd : (x == ("__debug__" : Str)) = false := by decide) (he : starEach (e :: es) X.env = (false, eval e X.env) :: starEach es X.env := by rfl) (hpl : (backTo pos (starEach es X.env)).any (·.1) = false := by rfl) :
    PE X (.Call (.Name x p) (e :: es) [] pos) (tCallS sp E t) := by
  obtain ⟨f, fd, ps, F, hm, kp, b⟩ := c.ex
  exact pe_callS F (hr.mono hk) hg hm kp b hx ha hd he hpl
end
section
variable {T : Tb} {K : PySem.W.Frag} {σ : L2.St} {H H' : Hp} {ta tb te tc : TE}
theorem ev_isX {a D : Addr} {cls : Value} {d : Option Addr} {c : V} {cv : Value} {b : Bool} (ha : Ev T ta σ H (.ref a)) (hb : Ev T tb σ H c) (h1 : cls = .ref D) (h2 : d = none) (hE : ExcC K D) (hc : ∀ u, RelV c u → u = cv) (hk : PySem.W.kitOne K (.ref D) cv = some b) :
    Ev T (tCB (rIsX K a cls d) (tCons ta (tCons tb tNil))) σ H (.bl b) := fun H1 e Q q => ha H1 e _ fun H2 e2 => hb H2 (e.trans e2) _ fun H3 e3 => ⟨D, h1, h2, hE, c, cv, b, rfl, hc, hk, q H3 (e2.trans e3)⟩
/-- a call that raises -/
theorem call_raise {sp : Sp} {E : XK} {tr : TA} {vs : List V} {Q : VK} (h : EvA T tr σ H vs) (hs : ∀ H1, Ex T H H1 → ∀ Q : VK, sp vs H1 Q E) : tCall sp [] E tr σ H Q := h H .refl _ fun H1 e1 => by
  show sp (vs ++ []) H1 Q E
  rw [List.append_nil]
  exact hs H1 e1 Q
theorem call_raiseS {sp : Sp} {E : L2.St → XK} {tr : TA} {vs : List V} {Q : VK} (h : EvA T tr σ H vs) (hs : ∀ H1, Ex T H H1 → ∀ Q : VK, sp vs H1 Q (E σ)) : tCallS sp E tr σ H Q := h H .refl _ fun H1 e1 => hs H1 e1 Q
theorem ev_callS {sp : Sp} {E : L2.St → XK} {tr : TA} {vs : List V} {z : V} (h : EvA T tr σ H vs) (hs : ∀ H1, Ex T H H1 → ∀ Q : VK, (∀ H2, Ex T H1 H2 → Q z H2) → sp vs H1 Q (E σ)) : Ev T (tCallS sp E tr) σ H z := fun H1 e Q q =>
  h H1 e _ fun H2 e2 => hs H2 (e.trans e2) Q fun H3 e3 => q H3 (e2.trans e3)
theorem el_callS {sp : Sp} {E : L2.St → XK} {tr : TA} {vs xs : List V} (h : EvA T tr σ H vs) (hs : ∀ H1, Ex T H H1 → ∀ Q : VK, (∀ p H2, H1 p = none → Ex T H1 H2 → H2 p = some (.lst xs) → Q (.ref p) H2) → sp vs H1 Q (E σ)) : EvL T (tCallS sp E tr) σ H xs := fun H1 e Q q =>
  h H1 e _ fun H2 e2 => hs H2 (e.trans e2) Q fun p H3 hp e3 h3 => q p H3 (e2.n p hp) (e2.trans e3) h3
theorem er_callS {sp : Sp} {E : L2.St → XK} {tr : TA} {vs : List V} {R : Hp → V → Hp → Prop} (h : EvA T tr σ H vs) (hs : ∀ H1, Ex T H H1 → ∀ Q : VK, (∀ v H2, Ex T H1 H2 → R H1 v H2 → Q v H2) → sp vs H1 Q (E σ))
    (hR : ∀ H1 H2 v H3, Ex T H1 H2 → R H2 v H3 → R H1 v H3) : EvR T (tCallS sp E tr) σ H R := fun H1 e Q q =>
  h H1 e _ fun H2 e2 => hs H2 (e.trans e2) Q fun v H3 e3 r => q v H3 (e2.trans e3) (hR H1 H2 v H3 e2 r)
/-! ### isinstance of an own class -/
theorem kit_self {C : Addr} (h : (Value.ref C == Value.ref C) = true) : PySem.W.kitOne K (.ref C) (.ref C) = some true := if_pos h
theorem kit_ref {C D : Addr} {b : Bool} (hd : PySem.W.hasDictIn K D = true) (ht : PySem.W.typeIn K (.ref D) = some (.type "type")) (hs : PySem.W.subIn K (.ref C) (.ref D) = some b) (hq : (Value.ref C == Value.ref D) = false) : PySem.W.kitOne K (.ref C) (.ref D) = some b := by
  obtain ⟨cd, hc, _⟩ := PySem.W.any_some hd
  have e2 : ((PySem.W.clsIn K D).isSome && PySem.W.typeIn K (.ref D) == some (.type "type")) = true := by rw [hc, ht] <;> rfl
  show (if (Value.ref C == Value.ref D) = true then some true else (if ((PySem.W.clsIn K D).isSome && PySem.W.typeIn K (.ref D) == some (.type "type")) = true then PySem.W.subIn K (.ref C) (.ref D) else none)) = some b
  rw [hq, if_neg Bool.false_ne_true, if_pos e2, hs]
theorem kit_VE {C : Addr} (hs : PySem.W.subIn K (.ref C) (.type "ValueError") = some true) : PySem.W.kitOne K (.ref C) (.type "ValueError") = some true := by
  have e1 : PySem.W.kitMeta "ValueError" = true := by decide +kernel
  show (if (Value.ref C == Value.type "ValueError") = true then some true else (if PySem.W.kitMeta "ValueError" = true then PySem.W.subIn K (.ref C) (.type "ValueError") else none)) = some true
  have e0 : (Value.ref C == Value.type "ValueError") = false := rfl
  rw [e0, if_neg Bool.false_ne_true, if_pos e1, hs]
/-! ### what is compared: bools, none -/
def dB (bs : List Bool) : PyData := .list (bs.map .bool)
abbrev vb (bs : List Bool) : List V := bs.map V.bl
theorem dp_bools {bs : List Bool} : DpAll K H (vb bs) (bs.map .bool) := by
  induction bs with
  | nil => exact .nil
  | cons b r ih => exact .cons (.bl b) ih
theorem lay_bools : ∀ bs : List Bool, PyData.canLayAll0 (bs.map .bool) = true
  | [] => by simp [PyData.canLayAll0]
  | b :: r => by simp [PyData.canLayAll0, PyData.canLay0, lay_bools r]
theorem dep_bools : ∀ bs : List Bool, PyData.depthAll (bs.map .bool) = 0
  | [] => by simp [PyData.depthAll]
  | b :: r => by simp [PyData.depthAll, PyData.depth, dep_bools r]
theorem eqvA_B : ∀ bs cs : List Bool, PyData.eqvAll (bs.map .bool) (cs.map .bool) = decide (bs = cs)
  | [], [] => by simp [PyData.eqvAll]
  | [], _ :: _ => by simp [PyData.eqvAll]
  | _ :: _, [] => by simp [PyData.eqvAll]
  | b :: r, c :: s => by
    show PyData.eqvAll (.bool b :: r.map .bool) (.bool c :: s.map .bool) = decide (b :: r = c :: s)
    simp only [PyData.eqvAll, PyData.eqv, eqvA_B r s]
    cases b <;> cases c <;> simp
end
/-- (None, [..]) at data -/
def dNB (bs : List Bool) : PyData := .tuple [.none, dB bs]
theorem sh_NB (bs : List Bool) : SeqAt.shaped (dNB bs) = true := by
  show (PyData.canLay0 (dNB bs) && decide (PyData.depth (dNB bs) ≤ 64)) = true
  have h1 : PyData.canLay0 (dNB bs) = true := by
    show PyData.canLay0 (.tuple [.none, .list (bs.map .bool)]) = true
    simp only [PyData.canLay0, PyData.canLayAll0, lay_bools, Bool.and_self]
  have h2 : PyData.depth (dNB bs) ≤ 64 := by
    show PyData.depth (.tuple [.none, .list (bs.map .bool)]) ≤ 64
    simp only [PyData.depth, PyData.depthAll, dep_bools]
    decide
  rw [h1, decide_eq_true h2]
  rfl
theorem eqv_NB (bs cs : List Bool) : PyData.eqv (dNB bs) (dNB cs) = decide (bs = cs) := by
  show PyData.eqv (.tuple [.none, .list (bs.map .bool)]) (.tuple [.none, .list (cs.map .bool)]) = decide (bs = cs)
  simp only [PyData.eqv, PyData.eqvAll, eqvA_B, Bool.and_true, Bool.true_and]
theorem ev_eqNB {T : Tb} {K : PySem.W.Frag} {σ : L2.St} {H : Hp} {ta tl : TE} {p l : Addr} {bs cs : List Bool} (ha : Ev T ta σ H (.ref p)) (hp : H p = some (.tup [.non, .ref l])) (hl : H l = some (.lst (vb bs))) (hb : EvL T tl σ H (vb cs)) :
    Ev T (tOp (rEqD K) ta (tTup (tCons (tC .non) (tCons tl tNil)))) σ H (.bl (decide (bs = cs))) := fun H1 e Q f =>
  ha H1 e _ fun H2 e2 => by
    simp only [tTup, tCons, tC, tNil]
    refine hb H2 (e.trans e2) _ fun m H3 hm e3 h3 => ⟨(by decide : 2 ≤ sizeLine), fun q hq => ⟨dNB bs, dNB cs, ?_, ?_, sh_NB _, sh_NB _, ?_⟩⟩
    · have E := (e.trans (e2.trans e3)).trans (Ex.new (T := T) (o := .tup [.non, .ref m]) hq)
      exact .tup (.inl (.inl (E.tup hp))) (.cons .non (.cons (.lst (SqL.of (E.lst hl)) dp_bools) .nil))
    · refine .tup (.inl (.inl upd_same)) (.cons .non (.cons (.lst (SqL.of ?_) dp_bools) .nil))
      rw [upd_ne (ne_of_none h3 hq)]
      exact h3
    · rw [eqv_NB]
      exact f _ ((e2.trans e3).trans (.new hq))
end Sm

/-! SmN: a list comprehension whose element refuses. -/
namespace Sm
open PySem PySem.Spec PyProof.Rows L2
theorem gone_some {h : Heap} {C b : Addr} {o : Obj} (e : (gone h C).get? b = some o) : b ≠ C ∧ h.get? b = some o := by
  have n : b ≠ C := fun z => by
    rw [z, gone_at] at e
    cases e
  exact ⟨n, by rw [gone_ne n] at e; exact e⟩
theorem gone_none {h : Heap} {C b : Addr} (e : h.get? b = none) : (gone h C).get? b = none := by
  by_cases n : b = C
  · rw [n, gone_at]
  · rw [gone_ne n, e]
/-- the block's names let go, the ground without them -/
theorem held_less {B h h2 : Heap} {l : List Env} {a L C : Addr} {Z : Obj → Prop} {m m2 : Str → Option Value} (hh : HandSPX.HeldZ B l a Z L h) (hn : h.Ns C m) (hn2 : h2.Ns C m2) (sb : Heap.SameBut C h h2) : HandSPX.HeldZ (gone B C) l a Z L h2 := by
  obtain ⟨st, na, ff, oe, vs, T, oT, ts, he, hz, hd, h1, hnT, hTa, hT, hdT, h3⟩ := hh
  obtain ⟨oC, es, ep, hC, hdC, _⟩ := hn
  have neC : ∀ {b : Addr} {o : Obj} {us : Array Value}, h.get? b = some o → o.data = .fields us → b ≠ C := fun e q z => by
    rw [z, hC] at e
    cases e
    rw [hdC] at q
    cases q
  have same : ∀ {b : Addr} {o : Obj}, b ≠ C → h.get? b = some o → h2.get? b = some o := fun n e => (sb.2 _ n).trans e
  refine ⟨fun b o e => ?_, gone_none na, funFrames_none (Heap.FunFrames.sameBut sb hn2 ff) fun b hb => ?_, oe, vs, T, oT, ts, same (neC he hd) he, hz, hd, h1, gone_none hnT, hTa, same (neC hT hdT) hT, hdT, h3⟩
  · obtain ⟨n, e'⟩ := gone_some e
    exact same n (st b o e')
  · obtain ⟨q, _⟩ := ff.mem hb
    exact gone_none q
section
variable {X : Cx} {W : WX} {pins : List (Addr × Obj)} {σ : L2.St} {H : Hp} {sI s' : Shared} {B : Heap} {a C : Addr} {cls : Value} {d : Option Addr} {ce : Env} {m : Str → Option Value}
/-- what is refused in a block leaves it -/
theorem lc_fails (tk : Takes X W) (hst : X.stack = X.env :: X.outer) (hf : X.env.frame = some X.env.locals) (hC : ce.locals = C) (hcf : ce.frame = X.env.frame) (I : Inv X pins σ H sI) (fC : FpOk X pins H C)
    (nb : ∀ b o, sI.heap.get? b = some o → b ∉ frs X.stack → B.get? b = some o) (up : sI.heap.UpToSlots s'.heap) (fl : HandSPX.FlyingZ B X.stack a (Zc cls d) s'.heap) (na : H a = none) (os : s'.os = sI.os) (ag : AllBare s'.gens) (w : W cls d σ H) (hn : s'.heap.Ns C m) :
    notedBy (model X.prog X.w) X.A ce (CompFails (model X.prog X.w) X.A X.xe ce) (.ref a) s' := by
  have hfr : X.A.frames = some (X.env :: X.outer) := by rw [I.ok.frames, hst]
  rw [hst] at fl
  show wpAny _ X.A (noteFrame (.ref a) ce) _ _ s'
  rw [noteFrame_env _ hcf]
  refine HandSPX.looks_onZ Zc.steady hfr hf fl fun h1 hh up1 => ?_
  have hn1 : h1.Ns C m := hn.upToSlots up1
  refine ⟨m, by rw [hC]; exact hn1, fun h2 m2 hn2 sb => ?_⟩
  rw [hC] at hn2 sb
  have hh2 := held_less hh hn1 hn2 sb
  obtain ⟨q1, q2, q3, oe, vs, Tr, oT, ts, he, hz, hd, hv1, q4⟩ := hh2
  unfold PySem.passOn
  refine wpAny_bind (wpAny_field he hd hv1 ?_)
  rw [if_neg (show ¬ ((Value.ref Tr == Value.none) = true) from by simp), hcf, hf]
  refine wpAny_bind (HandSPX.setFlight_onZ (L := X.env.locals) ⟨q1, q2, q3, oe, vs, Tr, oT, ts, he, hz, hd, hv1, q4⟩ fun h3 hh3 up3 => wpAny_throw (tk _ _ ⟨a, gone B C, { sI with heap := gone sI.heap C }, pins, σ, H, cls, d, rfl, ?_, fun b o e hb => ?_, ?_, .inr (.inr (by rw [hst]; exact hh3)), na, os, ag, w⟩))
  · obtain ⟨f0, f1, f2, f3, f4, f5⟩ := fC
    exact I.turned (t' := sI.toks) (fun b o hb e => by rw [gone_ne hb]; exact e) f0 f1 f3 f4 f5
  · obtain ⟨n, e'⟩ := gone_some e
    rw [gone_ne n]
    exact nb b o e' hb
  · refine Heap.UpToSlots.trans (fun b o e hno => ?_) up3
    obtain ⟨n, e'⟩ := gone_some e
    obtain ⟨sl, e2⟩ := (Heap.UpToSlots.trans up up1) b o e' hno
    exact ⟨sl, (sb.2 b n).trans e2⟩
end
section
variable {X : Cx} {E : XK} {pins : List (Addr × Obj)} {σ : L2.St} {H : Hp} {s s' : Shared} {u : Value}
/-- what a call lets out: the exception, and the state without it -/
theorem cx_split (I : Inv X pins σ H s) (c : L2.CX X.prog X.w X.stack H s E u s') : ∃ (a : Addr) (B : Heap) (sI : Shared) (H1 : Hp) (cls : Value) (d : Option Addr), u = .ref a ∧ Inv X pins σ H1 sI ∧ (∀ b o, sI.heap.get? b = some o → b ∉ frs X.stack → B.get? b = some o) ∧
    sI.heap.UpToSlots s'.heap ∧ HandSPX.FlyingZ B X.stack a (Zc cls d) s'.heap ∧ H1 a = none ∧ s'.os = sI.os ∧ AllBare s'.gens ∧ E cls d H1 := by
  obtain ⟨a, B, H1, cls, d, rfl, fly, ok1, base1, free1, os1, bare1, give1⟩ := c
  obtain ⟨G, yes, no⟩ := restrict s'.heap fun b => (B.get? b).isSome || decide (b ∈ frs X.stack)
  have inB : ∀ b o, B.get? b = some o → G.get? b = some o := fun b o e => (yes b (by simp [e])).trans (fly.1 b o e)
  have inF : ∀ b, b ∈ frs X.stack → G.get? b = s'.heap.get? b := fun b hb => yes b (by simp [hb])
  have outG : ∀ b o, G.get? b = some o → s'.heap.get? b = some o ∧ ((∃ o', B.get? b = some o') ∨ b ∈ frs X.stack) := fun b o e => by
    by_cases q : ((B.get? b).isSome || decide (b ∈ frs X.stack)) = true
    · refine ⟨(yes b q).symm.trans e, ?_⟩
      rcases Bool.or_eq_true _ _ ▸ q with q | q
      · exact .inl (Option.isSome_iff_exists.mp q)
      · exact .inr (of_decide_eq_true q)
    · rw [no b (by simpa using q)] at e
      cases e
  refine ⟨a, B, { s with heap := G, gens := s'.gens, drawn := s'.drawn, toks := s'.toks }, H1, cls, d, rfl, ?_, fun b o e hb => ?_, Heap.UpToSlots.of_keeps fun b o e => (outG b o e).1, fly, free1, os1, bare1, give1⟩
  · refine I.call (ch := []) ⟨fun b o e n hb _ => inB b o (base1.keep b o e n hb), fun b o e n hb _ => (base1.slot b o e hb).imp fun sl q => (inF b hb).trans q, fun b o e n _ => base1.free b o e n, fun b o e _ => ?_, base1.tups, base1.frzs, base1.tbls⟩ (ok1.kept inB) bare1 (fun _ z => nomatch z)
    by_cases hb : b ∈ frs X.stack
    · obtain ⟨sl, q⟩ := base1.slot b o e hb
      exact ⟨_, (inF b hb).trans q⟩
    · obtain ⟨o', q⟩ := base1.there b o e hb
      exact ⟨o', inB b o' q⟩
  · obtain ⟨e', ⟨o', h⟩ | h⟩ := outG b o e
    · have := fly.1 b o' h
      rw [e'] at this
      rw [h, this]
    · exact absurd h hb
end
/-- y = [elt for tg in iter], refused in one of its turns -/
def tLcBad (wi : TI) (g : TG) (te tx : TE) (vs : List Nat) : TS := fun _ σ H => wi σ H fun J H1 => ∀ D0, H1 D0 = none → ∃ W : Nat → Nat → Hp → Prop, (∃ m, W 0 m (upd H1 D0 (.lst []))) ∧ ∀ i m H2, W i m H2 → J.go i H2 ∧
  ((∃ Nx : Hp → Prop, (∀ H3, Nx H3 → ∃ m', m' < m ∧ W (i + 1) m' H3) ∧ ∀ x H3, J.yld i H2 x H3 → g x (wipe σ vs) H3 fun σ2 H4 => wipe σ2 vs = wipe σ vs ∧ te σ2 H4 fun y H5 => ∃ acc, H5 D0 = some (.lst acc) ∧ acc.length < sizeLine ∧ Nx (upd H5 D0 (.lst (acc ++ [y])))) ∨
    ∀ x H3, J.yld i H2 x H3 → g x (wipe σ vs) H3 fun σ2 H4 => tx σ2 H4 fun _ _ => False)
section
variable {X : Cx}
theorem ps_lcBad {i : Nat} {y : Str} {py : Pos} {elt tg iter : Expr} {scope : Scope} {own : List (Str × Nat)} {pos spos : Pos} {wi : TI} {g : TG} {te tx : TE} {E : XK} (hc : X.calm = true) (hN : X.N.Nodup) (tk : Takes X fun cls d _ H => E cls d H) (hst : X.stack = X.env :: X.outer) (hf : X.env.frame = some X.env.locals)
    (hsw : swapsWith (.ListComp elt [⟨tg, iter, [], 0⟩] scope pos) (some (.Name y py)) spos.line X.env = pure true) (hi : PI X tg iter wi) (ok : BlkOk X.N X.env.scope scope own)
    (hg : ∀ (s : Shared) (H : Hp) (C : Addr) (cl : List (Str × Addr)) (fp : List Addr), PG (X.blk s H scope (compEnvC scope cl C X.env) fp) tg g) (he : ∀ (s : Shared) (H : Hp) (C : Addr) (cl : List (Str × Addr)) (fp : List Addr), PE (X.blk s H scope (compEnvC scope cl C X.env) fp) elt te)
    (hx : ∀ (s : Shared) (H : Hp) (C : Addr) (cl : List (Str × Addr)) (fp : List Addr) (F : Value → Shared → Prop), Passes (L2.CX X.prog X.w) ((X.blk s H scope (compEnvC scope cl C X.env) fp).wish F) E → PE ((X.blk s H scope (compEnvC scope cl C X.env) fp).wish F) elt tx)
    (hs : ∀ x, foldedSetIterable iter X.env x = pure x := by intro _; rfl) : PS X (.Assign [.Name y py] (.ListComp elt [⟨tg, iter, [], 0⟩] scope pos) spos) (tLcBad wi g te tx (own.map (·.2))) := by
  refine ⟨fun pins s σ H D I h => ?_⟩
  have cellsThere : ∀ z ∈ scope.names, z.2 = .free → ∃ c, X.env.cells.lookup z.1 = some c := fun z hz e => (ok.free z hz e).elim (fun q => I.ok.has _ (.inl q)) fun q => I.ok.has _ (.inr q)
  rw [exec_Assign_Name_used _ _ _ _ hsw]
  refine wpAny_bind (wpAny_standAt (wpAny_bind (wpAny_bind (wpAny_mono (comprehension_at (use := some (assign (.Name y py) X.env)) (Q := fun _ z => SP X pins D .next z) (cl := cloFrom X.env.cells scope.names []) rfl hs (closure_ok cellsThere) ok.kind (fun z hz e => by rw [ok.uniq z hz, e])
    (thn (hi.run pins s σ H _ I h) fun xv s1 hx1 => thn hx1 fun itv s2 h2 => ?_)) (fun _ z q => wpAny_pure (wpAny_pure q)) fun _ _ z => z))))
  obtain ⟨it, fp, tn, J, H2, rfl, I2, Tn, st2, f2, turns⟩ := h2
  refine wpAny_newObj_type (newEnv_comp ?_) (by show 0 ≤ sizeLine; decide)
  obtain ⟨D0, hD0⟩ : ∃ D0, D0 = s2.heap.objs.size := ⟨_, rfl⟩
  rw [← hD0]
  obtain ⟨W, ⟨m0, w0⟩, turn⟩ := turns D0 (I2.hok.fresh (Nat.le_of_eq hD0.symm))
  obtain ⟨s3, hs3⟩ : ∃ s3 : Shared, s3 = { s2 with heap := s2.heap.push { cls := .type "list", data := .seq ([] : List Value).toArray } } := ⟨_, rfl⟩
  have I3 : Inv X pins σ (upd H2 D0 (.lst [])) s3 := by
    rw [hs3]
    exact I2.laid (t' := s2.toks) (fun b o e => Heap.get?_push_of_some _ e) (Nat.le_of_eq hD0.symm) ⟨Nat.zero_le _, [], 0, .nil, by rw [hD0]; exact Heap.get?_push_size _ rfl⟩
  have size3 : s3.heap = s2.heap.push { cls := .type "list", data := .seq ([] : List Value).toArray } := by rw [hs3]
  have low : ∀ b ∈ fp, b < s2.heap.objs.size := fun b hb => (Tn.obj _ _ st2 b hb).elim fun o q => Heap.lt_size q.1
  have f3 : ∀ b ∈ fp, FpOk X pins (upd H2 D0 (.lst [])) b ∧ b < s3.heap.objs.size := fun b hb => ⟨⟨by rw [upd_ne (by rw [hD0]; exact Nat.ne_of_lt (low b hb))]; exact (f2 b hb).1, (f2 b hb).2⟩, by rw [size3, Heap.size_push]; exact Nat.lt_succ_of_lt (low b hb)⟩
  have st3 : tn 0 s3.heap := Tn.keep _ _ _ st2 fun b _ o e => by rw [size3]; exact Heap.get?_push_of_some _ e
  have I4 := block_start I3 ok hN f3
  obtain ⟨H3, hH3⟩ : ∃ H3, H3 = upd H2 D0 (.lst []) := ⟨_, rfl⟩
  rw [← hH3] at I3 I4 w0 f3
  have pg := hg s3 H3 s3.heap.objs.size (cellsFrom (s3.heap.objs.size + 1) scope.names (cloFrom X.env.cells scope.names [])) fp
  have pe := he s3 H3 s3.heap.objs.size (cellsFrom (s3.heap.objs.size + 1) scope.names (cloFrom X.env.cells scope.names [])) fp
  have px := hx s3 H3 s3.heap.objs.size (cellsFrom (s3.heap.objs.size + 1) scope.names (cloFrom X.env.cells scope.names [])) fp
  rw [← hs3]
  show codeAny _ _ (.compStart (.ListComp elt [⟨tg, iter, [], 0⟩] scope pos) 0 (.ref it) (.ref D0) (compEnvC scope (cellsFrom (s3.heap.objs.size + 1) scope.names (cloFrom X.env.cells scope.names [])) s3.heap.objs.size X.env)) (compEnds (model X.prog X.w) X.A X.xe (some (assign (.Name y py) X.env)) (fun _ z => SP X pins D .next z) (.ref D0) (compEnvC scope (cellsFrom (s3.heap.objs.size + 1) scope.names (cloFrom X.env.cells scope.names [])) s3.heap.objs.size X.env)) { s3 with heap := pushCells (s3.heap.push { cls := .type "dict", data := .dict #[] }) scope.names }
  have nofp : ∀ b ∈ fp, H3 b = none := fun b hb => (f3 b hb).1.1
  obtain ⟨ce, hce⟩ : ∃ ce, ce = compEnvC scope (cellsFrom (s3.heap.objs.size + 1) scope.names (cloFrom X.env.cells scope.names [])) s3.heap.objs.size X.env := ⟨_, rfl⟩
  rw [← hce] at I4 pg pe px ⊢
  have cL : ce.locals = s3.heap.objs.size := by rw [hce]; rfl
  have cF : ce.frame = X.env.frame := by rw [hce]; rfl
  obtain ⟨s4, hs4⟩ : ∃ s4 : Shared, s4 = { s3 with heap := pushCells (s3.heap.push { cls := .type "dict", data := .dict #[] }) scope.names } := ⟨_, rfl⟩
  rw [← hs4] at I4 ⊢
  have st4 : tn 0 s4.heap := Tn.keep _ _ _ st3 fun b _ o e => by rw [hs4]; exact pushCells_keeps _ _ _ _ (Heap.get?_push_of_some _ e)
  have stay : ∀ {τ : L2.St} {K1 : Hp} {z : Shared}, Inv (X.blk s3 H3 scope ce fp) [] τ K1 z → (∀ b ∈ fp, K1 b = none) → ∀ b ∈ fp, FpOk (X.blk s3 H3 scope ce fp) [] K1 b := fun {τ K1 z} J1 n1 b hb => ⟨n1 b hb, (J1.ok.exf b hb).1, J1.ok.exfs b hb, .inl hb, fun x c e => (J1.ok.exf b hb).2 x c e, fun p hp => nomatch (hp : p ∈ ([] : List (Addr × Obj)))⟩
  -- back in the def's own context
  have home : ∀ {ps : List (Addr × Obj)} {τ : L2.St} {K1 : Hp} {z : Shared}, Inv (X.blk s3 H3 scope ce fp) ps τ K1 z → Inv X pins σ K1 z ∧ FpOk X pins K1 s3.heap.objs.size := fun {ps τ K1 z} J1 => ⟨I3.call' (ch := fp) J1.os J1.base J1.hok J1.bare fun b hb => ⟨(f3 b hb).1.2.2.2.1, (f3 b hb).1.2.1, (f3 b hb).1.2.2.2.2.1, (f3 b hb).1.2.2.2.2.2⟩, I3.fpOk (Nat.le_refl _) (by
    have q : K1 ce.locals = none := J1.free
    rwa [cL] at q)⟩
  have out : Passes (L2.CX X.prog X.w) ((X.blk s3 H3 scope ce fp).wish (notedBy (model X.prog X.w) X.A ce (CompFails (model X.prog X.w) X.A X.xe ce))) E := fun ps τ K1 z u z' J1 c => by
    obtain ⟨a, B, sI, K2, cls, d, rfl, J2, nb, up, fly, na, os, ag, give⟩ := cx_split (X := X.blk s3 H3 scope ce fp) J1.unwish c
    obtain ⟨J3, fC⟩ := home J2
    obtain ⟨m, hn, _⟩ := J2.loc
    have hn : sI.heap.Ns ce.locals m := hn
    rw [cL] at hn
    exact lc_fails tk hst hf cL cF J3 fC nb up fly na os ag give (hn.upToSlots up)
  have px := px _ out
  have loop : codeAny (model X.prog X.w) X.A (.compLoop (.ListComp elt [⟨tg, iter, [], 0⟩] scope pos) 0 (.ref it) (.ref D0) ce) (compEnds (model X.prog X.w) X.A X.xe (some (assign (.Name y py) X.env)) (fun _ z => SP X pins D .next z) (.ref D0) ce) s4 := by
    refine compLoop_any (fun n z => ∃ i K1, Inv (X.blk s3 H3 scope ce fp) [] (wipe σ (own.map (·.2))) K1 z ∧ tn i z.heap ∧ (∀ b ∈ fp, K1 b = none) ∧ W i n K1) ?_ m0 ⟨0, H3, I4, st4, nofp, w0⟩
    rintro n s5 ⟨i, H5, I5, st5, n5, w5⟩
    obtain ⟨go, kinds⟩ := turn i n H5 w5
    refine thnF (Tn.item (X.blk s3 H3 scope ce fp) rfl rfl rfl hc i [] s5 _ H5 (fun _ _ => False) I5 (stay I5 n5) st5 go) fun r s6 ⟨u, hr, h6⟩ => ?_
    subst hr
    refine thnF h6 fun _ s7 ⟨x, H7, I7, r7, y7, st7, n7⟩ => ?_
    have I7' := I7.pinned (stay I7 n7) (Tn.obj _ _ st7)
    rcases kinds with ⟨Nx, hNx, step⟩ | step
    · refine thnF (pg.run _ s7 _ H7 x u _ I7' r7 (step x H7 y7)) fun _ s8 ⟨σ8, H8, I8, hw8, q8⟩ => wpAny_tests_nil ?_
      rw [if_pos rfl]
      refine thnF (pe.run _ s8 σ8 H8 _ I8 q8) fun z s10 ⟨yv, H10, I10, r10, acc, hD10, hz10, nx⟩ => app_ok (X := X.blk s3 H3 scope ce fp) I10 hD10 hz10 r10 fun s11 I11 => ?_
      obtain ⟨m', hm, w'⟩ := hNx _ nx
      have pinned : ∀ b ∈ fp, ∀ o, s7.heap.get? b = some o → s11.heap.get? b = some o ∧ (upd H10 D0 (.lst (acc ++ [yv]))) b = none := fun b hb o e => ⟨(I11.pin (b, o) (List.mem_append_right _ (List.mem_append_right _ (mem_pinsAt hb e)))).1, (I11.pin (b, o) (List.mem_append_right _ (List.mem_append_right _ (mem_pinsAt hb e)))).2.1⟩
      refine ⟨m', hm, i + 1, _, (I11.unpinned (pins := [])).weak (by rw [← hw8, wipe_length]) (fun j v e => by rw [← hw8] at e; exact (wipe_some e).1), Tn.keep _ _ _ st7 fun b hb o e => (pinned b hb o e).1, fun b hb => ?_, w'⟩
      obtain ⟨o, e, _⟩ := Tn.obj _ _ st7 b hb
      exact (pinned b hb o e).2
    · refine thnF (pg.run _ s7 _ H7 x u _ I7' r7 (step x H7 y7)) fun _ s8 ⟨σ8, H8, I8, q8⟩ => wpAny_tests_nil ?_
      rw [if_pos rfl]
      exact wpAny_mono (px.run _ s8 σ8 H8 _ (I8.wish _) q8) (fun _ _ ⟨_, _, _, _, q⟩ => q.elim) fun _ _ q => q
  exact codeAny_compStart_list loop (Tn.self X.A 0 _ _ _ st4 loop)
end
/-- one statement by two promises -/
def tOrS (t u : TS) : TS := fun D σ H => t D σ H ∨ u D σ H
theorem ps_or {X : Cx} {st : Stmt} {t u : TS} (h1 : PS X st t) (h2 : PS X st u) : PS X st (tOrS t u) := ⟨fun pins s σ H D I h => h.elim (h1.run pins s σ H D I) (h2.run pins s σ H D I)⟩
section
variable {T : Tb} {K : PySem.W.Frag} {σ : L2.St} {H : Hp} {tl te tx : TE} {D : Ends} {xs : List V}
theorem s_lcBad {vs : List Nat} {n : Nat} (h : EvL T tl σ H xs) (k : Nat) (hk : k < xs.length) (hz : xs.length ≤ 40000) (hw : ∀ x, wipe ((wipe σ vs).set n (some x)) vs = wipe σ vs)
    (he : ∀ (i : Nat) (x : V) H1, Ex T H H1 → i < k → xs[i]? = some x → ∃ v, Ev T te ((wipe σ vs).set n (some x)) H1 v) (hx : ∀ (x : V) H1, Ex T H H1 → xs[k]? = some x → tx ((wipe σ vs).set n (some x)) H1 fun _ _ => False) : tLcBad (iList K tl) (gName n) te tx vs D σ H := h H .refl _ fun a H1 ha e1 h1 => ⟨a, rfl, ⟨xs, SqL.of h1⟩, fun D0 hD => by
  refine ⟨fun i m H2 => i ≤ k ∧ m = k - i ∧ Ex T H1 H2 ∧ ∃ acc, H2 D0 = some (.lst acc) ∧ acc.length = i, ⟨k, Nat.zero_le _, rfl, .new hD, [], upd_same, rfl⟩, ?_⟩
  rintro i m H2 ⟨hik, rfl, e2, acc, hacc, hlen⟩
  have hxi : xs[i]? = some xs[i] := List.getElem?_eq_getElem (by omega)
  refine ⟨⟨xs, xs[i], SqL.of (e2.lst h1), hxi⟩, ?_⟩
  by_cases hi : i < k
  · refine .inl ⟨fun H3 => i + 1 ≤ k ∧ Ex T H1 H3 ∧ ∃ acc, H3 D0 = some (.lst acc) ∧ acc.length = i + 1, fun H3 ⟨q1, q2, q3⟩ => ⟨k - (i + 1), by omega, q1, rfl, q2, q3⟩, fun x H3 hy => ?_⟩
    obtain ⟨rfl, hy⟩ := hy
    have hxx := hy xs (SqL.of (e2.lst h1))
    refine ⟨hw x, ?_⟩
    obtain ⟨v, hv⟩ := he i x H3 (e1.trans e2) hi hxx
    exact hv H3 .refl _ fun H4 e4 => ⟨acc, e4.lst hacc, Nat.lt_of_lt_of_le (show acc.length < 100000 by omega) (by decide), hi, (e2.trans e4).mut hD (e4.lst hacc), _, upd_same, by rw [List.length_append, List.length_singleton, hlen]⟩
  · have hie : i = k := by omega
    subst hie
    refine .inr fun x H3 hy => ?_
    obtain ⟨rfl, hy⟩ := hy
    exact hx x H3 (e1.trans e2) (hy xs (SqL.of (e2.lst h1)))⟩
theorem q_orL {t u : TS} {tz : TS} (h : tSeq t tz D σ H) : tSeq (tOrS t u) tz D σ H := .inl h
theorem q_orR {t u : TS} {tz : TS} (h : tSeq u tz D σ H) : tSeq (tOrS t u) tz D σ H := .inr h
end
end Sm

/-! SmO: a text so many times. -/
namespace Sm
open PySem PySem.Spec PyProof.Rows L2
def timesS (n : Nat) (c : Str) : Str := ⟨(List.replicate n c.cps).foldl (· ++ ·) #[]⟩
def rRepS : R2 := fun x y H Q => ∃ (c : Str) (n : Nat), x = .str c ∧ y = .int (n : Int) ∧ (2 ≤ n ∧ n ≤ 1000) ∧ (1 ≤ c.length ∧ c.length ≤ 10) ∧ Q (.str (timesS n c)) H
theorem times_size (a : Array Nat) : ∀ (n : Nat) (acc : Array Nat), ((List.replicate n a).foldl (· ++ ·) acc).size = acc.size + n * a.size
  | 0, acc => by simp
  | n + 1, acc => by
    rw [List.replicate_succ, List.foldl_cons, times_size a n, Array.size_append, Nat.succ_mul]
    omega
theorem op_repS {X : Cx} : OpR X (binaryOp .Mult) rRepS := by
  intro pins s σ H x y v u Q I rx ry h
  obtain ⟨c, n, rfl, rfl, hn, hc, q⟩ := h
  obtain ⟨t, rfl⟩ := rx
  obtain ⟨t', rfl⟩ := ry
  have h1 : ¬ (n : Int) < 1 := by omega
  have h2 : ((n : Int) == 1 || c.length == 0) = false := by
    rw [Bool.or_eq_false_iff]
    exact ⟨beq_eq_false_iff_ne.mpr (by omega), beq_eq_false_iff_ne.mpr (by omega)⟩
  refine PySem.P.mul_str (by
    rw [decide_eq_false (by omega), decide_eq_false (by omega)]
    rfl) (fun _ _ => ?_) (fun _ _ => ?_) ?_
  · have h4 : (10 : Int) ≤ (2 ^ 63 - 1 : Int) / (n : Int) := (Int.le_ediv_iff_mul_le (by omega)).mpr (by omega)
    omega
  · have h5 : c.length * (n : Int).toNat ≤ 10 * 1000 := Nat.mul_le_mul hc.2 (by omega)
    exact decide_eq_false (Nat.not_lt.mpr (Nat.le_trans h5 (by decide)))
  · rw [if_neg h1, if_neg (by rw [h2]; exact Bool.false_ne_true)]
    have h6 : (timesS n c).length = n * c.length := (times_size c.cps n #[]).trans (Nat.zero_add _)
    have h7 : n * c.length ≤ 1000 * 10 := Nat.mul_le_mul hn.2 hc.2
    exact ⟨Nat.le_trans (show (timesS n c).length ≤ 1000 * 10 by omega) (by decide), .str (timesS n c), H, I.tok _, ⟨_, rfl⟩, q⟩
theorem joinL_mem {S : List Nat} : ∀ {ps : List (List Nat)} {p : List Nat}, p ∈ ps → p.length ≤ (TL.joinL S ps).length
  | [q], p, h => by
    rw [List.mem_singleton.mp h]
    exact Nat.le_refl _
  | q :: r :: ps, p, h => by
    show p.length ≤ (q ++ (S ++ TL.joinL S (r :: ps))).length
    rw [List.length_append, List.length_append]
    rcases List.mem_cons.mp h with h | h
    · rw [h]
      omega
    · have := joinL_mem (S := S) h
      omega
theorem split_le {x y u : Str} (h : u ∈ Txt.split x y) : u.length ≤ x.length := by
  have e := congrArg TL.tl (StrLaws.join_split x y)
  rw [TL.tl_join] at e
  have h2 := joinL_mem (S := TL.tl y) (List.mem_map.mpr ⟨u, h, rfl⟩ : TL.tl u ∈ (Txt.split x y).map TL.tl)
  rw [e] at h2
  rw [TL.len_tl u, TL.len_tl x]
  exact h2
/-- a display that begins with "..." + e: behind its head a token is out -/
theorem pa_consC {X : Cx} {c : Str} {j : Nat} {cp bp : Pos} {op : Operator} {f : Expr} {es : List Expr} {r : R2} {tf : TE} {t : TA} (ho : OpR X (binaryOp op) r) (hb : PE X f tf) (hr : PAT X es t)
    (hs : starEach (.BinOp (.Constant (.str c) j cp) op f bp :: es) X.env = (false, eval (.BinOp (.Constant (.str c) j cp) op f bp) X.env) :: starEach es X.env := by rfl) : PA X (.BinOp (.Constant (.str c) j cp) op f bp :: es) (tCons (tOp r (tC (.str c)) tf) t) := by
  refine ⟨fun pos pins s σ H Q I h => ?_⟩
  rw [hs]
  show wpAny _ _ (spliced ((false, eval (.BinOp (.Constant (.str c) j cp) op f bp) X.env) :: backTo pos (starEach es X.env))) _ _ s
  refine Calls.spliced_cons (wpAny_BinOp (Calls.Constant_str ?_))
  refine wpAny_mono (PySem.wpAny_toks_of (n := 1) (Nat.le_add_left 1 s.toks) (hb.run pins { s with toks := s.toks + 1 } σ H _ (I.tok _) h)) (fun u s2 q => ?_) fun _ _ z => z.2
  obtain ⟨hk, y, H2, I2, r2, q2⟩ := q
  refine wpAny_mono (PySem.wpAny_toks_of (n := 1) hk (ho pins s2 σ H2 (.str c) y _ u _ I2 ⟨_, rfl⟩ r2 q2)) (fun v s3 q => ?_) fun _ _ z => z.2
  obtain ⟨hk3, z, H3, I3, r3, q3⟩ := q
  exact thn (hr pos pins s3 σ H3 _ hk3 I3 q3) fun us s4 ⟨xs, H4, I4, r4, q4⟩ => ⟨z :: xs, H4, I4, .cons r3 r4, q4⟩
section
variable {T : Tb} {K : PySem.W.Frag} {σ : L2.St} {H : Hp} {ta tb : TE} {i : Int}
theorem ev_repl {x y z : Str} (ha : Ev T ta σ H (.str x)) (hb : x.length + (x.length + 1) * z.length ≤ 16777216) : Ev T (CwR.tReplC ta y z) σ H (.str (Txt.replace x y z)) := fun H1 e Q q =>
  ha H1 e _ fun H2 e2 => ⟨x, rfl, hb, q H2 e2⟩
theorem ev_ixN {xs : List V} {m : Nat} {v : V} (ha : EvL T ta σ H xs) (hb : Ev T tb σ H (.int i)) (hi : i = (m : Int)) (hv : xs[m]? = some v) : Ev T (tOp (rIxL K) ta tb) σ H v := fun H1 e Q q =>
  ha H1 e _ fun p H2 _ e2 hp => hb H2 (e.trans e2) _ fun H3 e3 => ⟨p, xs, i, v, rfl, rfl, SqL.of (e3.lst hp), by rw [hi]; exact atI_nat hv, q H3 (e2.trans e3)⟩
theorem sum_words {b : Nat} : ∀ {ws : List Str}, (∀ u ∈ ws, u.length ≤ b) → (ws.map (·.length)).sum ≤ ws.length * b
  | [], _ => Nat.zero_le _
  | w :: ws, h => by
    have h1 := h w List.mem_cons_self
    have h2 := sum_words fun u hu => h u (List.mem_cons_of_mem w hu)
    rw [List.map_cons, List.sum_cons, List.length_cons, Nat.succ_mul]
    omega
/-- join of what a def makes -/
theorem er_joinW {a : Str} (ha : Ev T ta σ H (.str a)) (h1 : a.length = 1) (hb : EvR T tb σ H (fun _ v H' => ∃ p ws, v = .ref p ∧ H' p = some (.lst (vs ws)) ∧ ws.length ≤ 9 ∧ ∀ u ∈ ws, u.length ≤ 401)) : EvR T (tM1 (rJoin K) ta tb) σ H (fun _ v _ => ∃ w : Str, v = .str w ∧ w.length ≤ 4000) := fun H1 e Q q =>
  ha H1 e _ fun H2 e2 => ⟨⟨a, rfl⟩, hb H2 (e.trans e2) _ fun v H3 e3 ⟨p, ws, ev, hp, hl, hw⟩ => by
    subst ev
    have hs := sum_words hw
    have hm : ws.length * 401 ≤ 9 * 401 := Nat.mul_le_mul_right _ hl
    have hz : (ws.map (·.length)).sum + ws.length * a.length ≤ 4000 := by rw [h1]; omega
    exact ⟨a, p, ws, rfl, rfl, .inl (SqL.of hp), Nat.le_trans hz (by decide), q _ H3 (e2.trans e3) ⟨_, rfl, Nat.le_trans (len_join a ws) hz⟩⟩⟩
theorem mem_inV (n : Int) : ∀ ns : List Int, inV (.int n) (vz ns) = decide (n ∈ ns)
  | [] => rfl
  | m :: ns => by
    have h := mem_inV n ns
    show (eqV (.int m) (.int n) || inV (.int n) (vz ns)) = _
    rw [h]
    by_cases e : m = n
    · subst e; simp [eqV, eqU]
    · have e' : ¬ n = m := fun z => e z.symm
      have e2 : eqV (.int m) (.int n) = false := decide_eq_false (fun z => e z)
      rw [e2]
      simp [e']
theorem ev_inZ {p : Addr} {n : Int} {ns : List Int} (ha : Ev T ta σ H (.int n)) (hb : Ev T tb σ H (.ref p)) (h : SqL K H p (vz ns)) : Ev T (tOp (rIn K false) ta tb) σ H (.bl (decide (n ∈ ns))) := fun H1 e Q q =>
  ha H1 e _ fun H2 e2 => hb H2 (e.trans e2) _ fun H3 e3 => ⟨p, vz ns, rfl, .inl (((e.trans e2).trans e3).sq h), rfl, by
    rw [List.all_eq_true]
    intro x hx
    obtain ⟨k, _, rfl⟩ := List.mem_map.mp hx
    rfl, by
    rw [mem_inV]
    exact q H3 (e2.trans e3)⟩
end
end Sm

namespace Sm
open PySem PySem.Spec PyProof.Rows L2
/-! ### what goes by itself -/
local macro_rules | `(tactic| walk_at "sq") => `(tactic| first | assumption | (refine SqL.of ?_; assumption) | (refine Ex.sq (by assumption) ?_; walk_at "sq"))
local macro_rules | `(tactic| walk_at "lst") => `(tactic| first | assumption | (refine Ex.lst (by assumption) ?_; walk_at "lst"))
local macro_rules | `(tactic| walk_at "ev") => `(tactic| first
  | exact ev_var rfl
  | exact ev_c
  | (refine ev_I0 ?_ ?_ <;> walk_at "ev")
  | (refine ev_eqI ?_ ?_ <;> walk_at "ev")
  | (refine ev_neI ?_ ?_ <;> walk_at "ev")
  | (refine ev_neB ?_ ?_ <;> walk_at "ev")
  | (refine ev_un ?_ <;> walk_at "ev")
  | (refine ev_len ?h1 ?h2; (case h1 => walk_at "ev"); (case h2 => walk_at "sq"))
  | (refine ev_sum ?h1 ?h2; (case h1 => walk_at "ev"); (case h2 => walk_at "sq"))
  | (refine ev_eqL ?h1 ?h2 ?h3 ?h4; (case h1 => walk_at "ev"); (case h2 => walk_at "ev"); (case h3 => walk_at "sq"); (case h4 => walk_at "sq"))
  | (refine ev_neL ?h1 ?h2 ?h3 ?h4; (case h1 => walk_at "ev"); (case h2 => walk_at "ev"); (case h3 => walk_at "sq"); (case h4 => walk_at "sq"))
  | (refine et_test ?_; walk_at "ev")
  | (refine et_B ?_; walk_at "ev")
  | (refine et_not ?_; walk_at "ev")
  | exact ea_nil
  | (refine ea_cons ?_ ?_ <;> walk_at "ev")
  | exact eo_none
  | (refine eo_some ?_; walk_at "ev"))

/-! ### the text by its places -/
def topS (i : Nat) : Stmt := PySem.Challenge.pw_sumtimes_k14_read.main.body.getD i (.Pass ⟨0, 0, 0, 0⟩)
abbrev s_product : Stmt := topS 7
theorem sc_product : FnScope ["numbers", "made", "number"] ["numbers"] (defScope s_product) := ⟨rfl, rfl, rfl, by decide +kernel, rfl, by decide +kernel, by decide +kernel⟩
abbrev s_holds : Stmt := topS 8
theorem sc_holds : FnScope ["times", "row", "k", "number"] ["times", "row"] (defScope s_holds) := ⟨rfl, rfl, rfl, by decide +kernel, rfl, by decide +kernel, by decide +kernel⟩
abbrev s_see_row : Stmt := topS 9
theorem sc_see_row : FnScope ["times", "row"] ["times", "row"] (defScope s_see_row) := ⟨rfl, rfl, rfl, by decide +kernel, rfl, by decide +kernel, by decide +kernel⟩
abbrev s_number_of : Stmt := topS 12
theorem sc_number_of : FnScope ["word", "sign"] ["word"] (defScope s_number_of) := ⟨rfl, rfl, rfl, by decide +kernel, rfl, by decide +kernel, by decide +kernel⟩
abbrev s_read : Stmt := topS 13
theorem sc_read : FnScope ["text", "words", "times", "row", "word"] ["text"] (defScope s_read) := ⟨rfl, rfl, rfl, by decide +kernel, rfl, by decide +kernel, by decide +kernel⟩
abbrev s__law_cell_at : Stmt := topS 15
theorem sc__law_cell_at : FnScope ["script", "k"] ["script", "k"] (defScope s__law_cell_at) := ⟨rfl, rfl, rfl, by decide +kernel, rfl, by decide +kernel, by decide +kernel⟩
abbrev s__law_whole : Stmt := topS 16
theorem sc__law_whole : FnScope ["found"] ["found"] (defScope s__law_whole) := ⟨rfl, rfl, rfl, by decide +kernel, rfl, by decide +kernel, by decide +kernel⟩
abbrev s__law_product : Stmt := topS 17
theorem sc__law_product : FnScope ["numbers", "made", "number"] ["numbers"] (defScope s__law_product) := ⟨rfl, rfl, rfl, by decide +kernel, rfl, by decide +kernel, by decide +kernel⟩
abbrev s__law_near : Stmt := topS 18
theorem sc__law_near : FnScope ["times", "row", "place", "others"] ["times", "row", "place"] (defScope s__law_near) := ⟨rfl, rfl, rfl, by decide +kernel, rfl, by decide +kernel, by decide +kernel⟩
abbrev s__law_is_row : Stmt := topS 19
theorem sc__law_is_row : FnScope ["times", "row", "number"] ["times", "row"] (defScope s__law_is_row) := ⟨rfl, rfl, rfl, by decide +kernel, rfl, by decide +kernel, by decide +kernel⟩
abbrev s__law_alike : Stmt := topS 20
theorem sc__law_alike : FnScope ["found", "due", "k"] ["found", "due"] (defScope s__law_alike) := ⟨rfl, rfl, rfl, by decide +kernel, rfl, by decide +kernel, by decide +kernel⟩
abbrev s__law_root_by : Stmt := topS 21
theorem sc__law_root_by : FnScope ["cell", "some"] ["cell"] (defScope s__law_root_by) := ⟨rfl, rfl, rfl, by decide +kernel, rfl, by decide +kernel, by decide +kernel⟩
abbrev s__law_drawn : Stmt := topS 22
theorem sc__law_drawn : FnScope ["script", "root", "row", "k", "far"] ["script"] (defScope s__law_drawn) := ⟨rfl, rfl, rfl, by decide +kernel, rfl, by decide +kernel, by decide +kernel⟩
abbrev s__law_odd : Stmt := topS 23
theorem sc__law_odd : FnScope ["cell", "some"] ["cell"] (defScope s__law_odd) := ⟨rfl, rfl, rfl, by decide +kernel, rfl, by decide +kernel, by decide +kernel⟩
abbrev s__law_turned : Stmt := topS 24
theorem sc__law_turned : FnScope ["words", "cell", "at", "odd", "mode"] ["words", "cell"] (defScope s__law_turned) := ⟨rfl, rfl, rfl, by decide +kernel, rfl, by decide +kernel, by decide +kernel⟩
abbrev s__law_number : Stmt := topS 25
theorem sc__law_number : FnScope ["word", "sign"] ["word"] (defScope s__law_number) := ⟨rfl, rfl, rfl, by decide +kernel, rfl, by decide +kernel, by decide +kernel⟩
abbrev s__law_due : Stmt := topS 26
theorem sc__law_due : FnScope ["text", "words", "numbers", "word"] ["text"] (defScope s__law_due) := ⟨rfl, rfl, rfl, by decide +kernel, rfl, by decide +kernel, by decide +kernel⟩
abbrev s__law_tried : Stmt := topS 27
theorem sc__law_tried : FnScope ["text", "found", "kinds", "e"] ["text"] (defScope s__law_tried) := ⟨rfl, rfl, rfl, by decide +kernel, rfl, by decide +kernel, by decide +kernel⟩
abbrev s_law : Stmt := topS 28
theorem sc_law : FnScope ["script", "short", "drawn", "words", "text", "due", "tried", "found", "number"] ["script"] (defScope s_law) := ⟨rfl, rfl, rfl, by decide +kernel, rfl, by decide +kernel, by decide +kernel⟩
section
variable {P : Program} {w : World} {K : PySem.W.Frag} {mg : Str → Option Value} {base : Heap} {T : Tb}
/-! ### product -/
def sp_product (T : Tb) (K : PySem.W.Frag) : Sp := spM (α := Addr × List Int) (fun q => [.ref q.1]) fun q H Q _ => SqL K H q.1 (vz q.2) ∧ q.2.length ≤ 6 ∧ (∃ b, b ≤ 100000 ∧ Bd b q.2) ∧ ∀ H', Ex T H H' → Q (.int (prd q.2)) H'
theorem ok_product {P : Program} {w : World} {K : PySem.W.Frag} {mg : Str → Option Value} {base : Heap} {T : Tb} (B : Bi mg) {tF : Tok} (g_FIGURES : mg "FIGURES" = some (.str (Str.ofString "0123456789") tF)) {Z : Ze} (Z_RowError : Xc K mg "RowError" Z.row Z.row) (Z_NoRow : Xc K mg "NoRow" Z.noRow Z.row) (Z_NoPlace : Xc K mg "NoPlace" Z.noPlace Z.row) (Z_NoSuch : Xc K mg "NoSuch" Z.noSuch Z.row) (Z_BadText : Xc K mg "BadText" Z.badText Z.row) (kk_noRow_noRow : PySem.W.kitOne K (.ref Z.noRow) (.ref Z.noRow) = some true) (kk_noRow_noPlace : PySem.W.kitOne K (.ref Z.noRow) (.ref Z.noPlace) = some false) (kk_noRow_noSuch : PySem.W.kitOne K (.ref Z.noRow) (.ref Z.noSuch) = some false) (kk_noRow_badText : PySem.W.kitOne K (.ref Z.noRow) (.ref Z.badText) = some false) (kk_noRow_VE : PySem.W.kitOne K (.ref Z.noRow) (.type "ValueError") = some true) (kk_noPlace_noRow : PySem.W.kitOne K (.ref Z.noPlace) (.ref Z.noRow) = some false) (kk_noPlace_noPlace : PySem.W.kitOne K (.ref Z.noPlace) (.ref Z.noPlace) = some true) (kk_noPlace_noSuch : PySem.W.kitOne K (.ref Z.noPlace) (.ref Z.noSuch) = some false) (kk_noPlace_badText : PySem.W.kitOne K (.ref Z.noPlace) (.ref Z.badText) = some false) (kk_noPlace_VE : PySem.W.kitOne K (.ref Z.noPlace) (.type "ValueError") = some true) (kk_noSuch_noRow : PySem.W.kitOne K (.ref Z.noSuch) (.ref Z.noRow) = some false) (kk_noSuch_noPlace : PySem.W.kitOne K (.ref Z.noSuch) (.ref Z.noPlace) = some false) (kk_noSuch_noSuch : PySem.W.kitOne K (.ref Z.noSuch) (.ref Z.noSuch) = some true) (kk_noSuch_badText : PySem.W.kitOne K (.ref Z.noSuch) (.ref Z.badText) = some false) (kk_noSuch_VE : PySem.W.kitOne K (.ref Z.noSuch) (.type "ValueError") = some true) (kk_badText_noRow : PySem.W.kitOne K (.ref Z.badText) (.ref Z.noRow) = some false) (kk_badText_noPlace : PySem.W.kitOne K (.ref Z.badText) (.ref Z.noPlace) = some false) (kk_badText_noSuch : PySem.W.kitOne K (.ref Z.badText) (.ref Z.noSuch) = some false) (kk_badText_badText : PySem.W.kitOne K (.ref Z.badText) (.ref Z.badText) = some true) (kk_badText_VE : PySem.W.kitOne K (.ref Z.badText) (.type "ValueError") = some true)  (D : Df K mg "product" s_product ["numbers"]) : Ca CX0 P w K mg base 1 "product" (sp_product T K) := by
  refine D.ca0 sc_product (fun vs H Q E ⟨q, e, _⟩ => by rw [e]; rfl) (fun cdv A outer s H vs Q E f hr h => ?_)
  obtain ⟨⟨a, ns⟩, hv, h⟩ := h
  dsimp only at hv h
  subst hv
  obtain ⟨hS, hl, ⟨b, hb, hB⟩, k⟩ := h
  refine ⟨_, (pss_cons (ps_set (i := 1) sc_product.nd rfl (.inl rfl) pe_int)
      (pss_cons (ps_for PassesOwn.never rfl (pi_list (pv 0)) (pg_name (i := 2) sc_product.nd rfl (.inl rfl))
      (pss_one (ps_set (i := 1) sc_product.nd rfl (.inl rfl) (pe_op op_mulW (pv 1) (pv 2)))))
      (pss_one (ps_ret (pv 1))))), ?_⟩
  refine q_asg (T := T) ev_c fun H1 e1 => q_forL (T := T) (ev_var rfl) (e1.sq hS) (fun i σ H' => ∃ y, σ = [some (.ref a), some (.int (prd (ns.take i))), y] ∧ Ex T H H') (fun H2 e2 => ⟨none, rfl, e1.trans e2⟩) (fun i σ H' _ ⟨y, _, e⟩ => e.sq hS) ?_ ?_
  · rintro i x σ H' hx ⟨y, rfl, e⟩
    obtain ⟨n, hn, rfl⟩ := at_vz hx
    have hi := (List.getElem?_eq_some_iff.mp hn).1
    have h1 : (prd (ns.take i)).natAbs < 2 ^ (b * 6 + 1) := Nat.lt_of_lt_of_le (hB.sub fun m hm => List.mem_of_mem_take hm).prod (Nat.pow_le_pow_right (by decide) (by
      have : b * (ns.take i).length ≤ b * 6 := Nat.mul_le_mul_left _ (by rw [List.length_take]; omega)
      omega))
    have h2 : n.natAbs < 2 ^ (b + 1) := Nat.lt_of_lt_of_le (hB n (List.mem_of_getElem? hn)) (Nat.pow_le_pow_right (by decide) (by omega))
    refine s_asg (T := T) (ev_I (ev_var rfl) (ev_var rfl) (wide_mul h1 h2 (by omega) (by omega) (by omega))) fun H2 e2 => ⟨some (.int n), ?_, e.trans e2⟩
    rw [List.take_add_one, hn, prd_app]
    show _ = [some (V.ref a), some (V.int (prd (List.take i ns) * (n * 1))), some (V.int n)]
    rw [Int.mul_one]
    rfl
  · rintro σ H' ⟨y, rfl, e⟩
    rw [List.length_map, List.take_length]
    exact s_ret (T := T) (ev_var rfl) fun H2 e2 => k H2 (e.trans e2)

/-! ### holds -/
def sp_holds (T : Tb) (K : PySem.W.Frag) : Sp := spM (α := Int × Addr × List Int) (fun q => [.int q.1, .ref q.2.1]) fun q H Q _ => SqL K H q.2.1 (vz q.2.2) ∧ Wd q.1 q.2.2 ∧ ∀ H', Ex T H H' → Q (.bl (decide (IsRow q.1 q.2.2))) H'
theorem ok_holds {P : Program} {w : World} {K : PySem.W.Frag} {mg : Str → Option Value} {base : Heap} {T : Tb} (B : Bi mg) {tF : Tok} (g_FIGURES : mg "FIGURES" = some (.str (Str.ofString "0123456789") tF)) {Z : Ze} (Z_RowError : Xc K mg "RowError" Z.row Z.row) (Z_NoRow : Xc K mg "NoRow" Z.noRow Z.row) (Z_NoPlace : Xc K mg "NoPlace" Z.noPlace Z.row) (Z_NoSuch : Xc K mg "NoSuch" Z.noSuch Z.row) (Z_BadText : Xc K mg "BadText" Z.badText Z.row) (kk_noRow_noRow : PySem.W.kitOne K (.ref Z.noRow) (.ref Z.noRow) = some true) (kk_noRow_noPlace : PySem.W.kitOne K (.ref Z.noRow) (.ref Z.noPlace) = some false) (kk_noRow_noSuch : PySem.W.kitOne K (.ref Z.noRow) (.ref Z.noSuch) = some false) (kk_noRow_badText : PySem.W.kitOne K (.ref Z.noRow) (.ref Z.badText) = some false) (kk_noRow_VE : PySem.W.kitOne K (.ref Z.noRow) (.type "ValueError") = some true) (kk_noPlace_noRow : PySem.W.kitOne K (.ref Z.noPlace) (.ref Z.noRow) = some false) (kk_noPlace_noPlace : PySem.W.kitOne K (.ref Z.noPlace) (.ref Z.noPlace) = some true) (kk_noPlace_noSuch : PySem.W.kitOne K (.ref Z.noPlace) (.ref Z.noSuch) = some false) (kk_noPlace_badText : PySem.W.kitOne K (.ref Z.noPlace) (.ref Z.badText) = some false) (kk_noPlace_VE : PySem.W.kitOne K (.ref Z.noPlace) (.type "ValueError") = some true) (kk_noSuch_noRow : PySem.W.kitOne K (.ref Z.noSuch) (.ref Z.noRow) = some false) (kk_noSuch_noPlace : PySem.W.kitOne K (.ref Z.noSuch) (.ref Z.noPlace) = some false) (kk_noSuch_noSuch : PySem.W.kitOne K (.ref Z.noSuch) (.ref Z.noSuch) = some true) (kk_noSuch_badText : PySem.W.kitOne K (.ref Z.noSuch) (.ref Z.badText) = some false) (kk_noSuch_VE : PySem.W.kitOne K (.ref Z.noSuch) (.type "ValueError") = some true) (kk_badText_noRow : PySem.W.kitOne K (.ref Z.badText) (.ref Z.noRow) = some false) (kk_badText_noPlace : PySem.W.kitOne K (.ref Z.badText) (.ref Z.noPlace) = some false) (kk_badText_noSuch : PySem.W.kitOne K (.ref Z.badText) (.ref Z.noSuch) = some false) (kk_badText_badText : PySem.W.kitOne K (.ref Z.badText) (.ref Z.badText) = some true) (kk_badText_VE : PySem.W.kitOne K (.ref Z.badText) (.type "ValueError") = some true) (c_product : Ca CX0 P w K mg base 1 "product" (sp_product T K)) (D : Df K mg "holds" s_holds ["times", "row"]) : Ca CX0 P w K mg base 2 "holds" (sp_holds T K) := by
  refine D.ca0 sc_holds (fun vs H Q E ⟨q, e, _⟩ => by rw [e]; rfl) (fun cdv A outer s H vs Q E f hr h => ?_)
  obtain ⟨⟨t, a, ns⟩, hv, h⟩ := h
  dsimp only at hv h
  subst hv
  obtain ⟨hS, hW, k⟩ := h
  obtain ⟨b, hb1, hb, hB⟩ := hW.b
  have hl := hW.len
  refine ⟨_, (pss_cons (ps_for PassesOwn.never rfl (pi_range1 (by rfl) B.range (pa_cons (pe_callB call_lenS (by rfl) B.len boot_len (pa_cons (pv 1) pa_nil)) pa_nil)) (pg_name (i := 2) sc_holds.nd rfl (.inl rfl))
      (pss_one (ps_if (PW.pt (pw_or (pt_cmpR op_lt (pe_ix ix_list (pv 1) (pv 2) (fun _ _ => rfl)) pe_int (nomark _)) (pw_or1 (PW.pt (pw_and (pt_cmpR op_gt (pv 2) pe_int (nomark _)) (pw_and1 (pt_cmpR op_gt (pe_ix ix_list (pv 1) (pe_op op_sub (pv 2) pe_int) (fun _ _ => rfl)) (pe_ix ix_list (pv 1) (pv 2) (fun _ _ => rfl)) (nomark _)))))))) (pss_one (ps_ret pe_bl)) pss_nil)))
      (pss_one (ps_ret (pe_cmpR op_eq (pe_callB (cr_sum rfl) (by rfl) B.sum boot_sum (pa_cons (pe_lc (own := [("number", 3)]) (g := gName 3) (tt := tYes) rfl sc_holds.nd (pi_list (pv 1)) (blkOk_by (N := ["times", "row", "k", "number"]) (sc := defScope s_holds) (by decide +kernel)) (fun _ _ _ _ _ => pg_name (i := 3) sc_holds.nd rfl (Or.inl rfl)) (fun _ _ _ _ _ => by exact pts_nil) (fun _ _ _ _ _ => by exact (pe_op op_mulW (pv 3) (pv 3)))) pa_nil)) (pe_op op_mulW (pv 0) (pe_k0 c_product hr (by decide) (by rfl) (pa_cons (pv 1) pa_nil))) (nomark _))))), ?_⟩
  refine q_forR1 (T := T) (m := (ns.length : Int)) (ea_cons ((ev_len (ev_var rfl) hS).is (by rw [List.length_map])) ea_nil) (by omega) (by omega)
    (fun i σ H' => ∃ y, σ = [some (.int t), some (.ref a), y, none] ∧ Ex T H H' ∧ ∀ j, j < i → okAt ns j) (fun H1 e1 => ⟨none, rfl, e1, fun j hj => absurd hj (Nat.not_lt_zero j)⟩) ?_ ?_
  · rintro i σ H' hi ⟨y, rfl, e, hok⟩
    have hi' : i < ns.length := by omega
    have hS' := e.sq hS
    have g1 : ns[i]? = some (ns.getD i 0) := getD_at hi'
    refine s_if (T := T) (b := decide (ns.getD i 0 < 1) || (decide ((0 : Int) < (i : Int)) && decide (ns.getD i 0 < ns.getD (i - 1) 0))) (et_or (et_test (ev_I0 (ev_ixI (ev_var rfl) (ev_var rfl) hS' rfl g1) ev_c)) fun _ =>
      et_and (et_test (ev_I0 (ev_var rfl) ev_c)) fun h0 => et_test (ev_I0 (ev_ixI (ev_var rfl) (ev_I0 (ev_var rfl) ev_c) hS' (m := i - 1) (by have := of_decide_eq_true h0; omega) (getD_at (by omega))) (ev_ixI (ev_var rfl) (ev_var rfl) hS' rfl g1))) (fun hb H1 e1 => ?_) (fun hb H1 e1 => ?_)
    · refine s_ret (T := T) ev_c fun H2 e2 => ?_
      have hn : ¬ IsRow t ns := fun hr => by
        have h1 := hr.okAt hi'
        rw [Bool.or_eq_true, Bool.and_eq_true] at hb
        rcases hb with hb | hb
        · have := of_decide_eq_true hb; have := h1.1; omega
        · have := of_decide_eq_true hb.1; have h3 := of_decide_eq_true hb.2; have := h1.2 (by omega); omega
      have := k H2 ((e.trans e1).trans e2)
      rw [decide_eq_false hn] at this
      exact this
    · refine ⟨_, rfl, e.trans e1, fun j hj => ?_⟩
      by_cases hji : j < i
      · exact hok j hji
      · have : j = i := by omega
        subst this
        rw [Bool.or_eq_false_iff, Bool.and_eq_false_iff] at hb
        obtain ⟨b1, b2⟩ := hb
        have := of_decide_eq_false b1
        refine ⟨by omega, fun h0 => ?_⟩
        rcases b2 with b2 | b2
        · have := of_decide_eq_false b2; omega
        · have := of_decide_eq_false b2; omega
  · rintro σ H' ⟨y, rfl, e, hok⟩
    have hS' := e.sq hS
    have hall := okAt_all (ns := ns) (fun j hj => hok j (by omega))
    refine s_ret (T := T) (ev_eqI (ev_sumN (el_map (ys := vz (ns.map fun n => n * n)) (ev_var rfl) hS' (by rw [List.length_map]; omega) (by simp) (fun _ => rfl) fun i x y H1 e1 hx hy => ?_)) (ev_I (ev_var rfl) (ev_call (ea_cons (ev_var rfl) ea_nil) fun H1 e1 Q q => ⟨(a, ns), rfl, e1.sq hS', hl, ⟨b, hb, hB⟩, q⟩) ?_)) fun H1 e1 => ?_
    · obtain ⟨n, hn, rfl⟩ := at_vz hx
      have hy' : y = V.int (n * n) := by
        rw [List.getElem?_map, List.getElem?_map, hn] at hy
        exact (Option.some.inj hy).symm
      rw [hy']
      have h2 := hB n (List.mem_of_getElem? hn)
      exact ev_I (ev_var rfl) (ev_var rfl) (wide_mul h2 h2 (by omega) (by omega) (by omega))
    · have h1 := hB.prod
      have : b * ns.length ≤ b * 6 := Nat.mul_le_mul_left _ hl
      exact wide_mul hW.ht h1 (by omega) (by omega) (by omega)
    · have := k H1 (e.trans e1)
      rw [sqs_map]
      have e2 : decide (IsRow t ns) = decide (sqs ns = t * prd ns) := decide_eq_decide.mpr ⟨fun h => h.eq, fun h => ⟨hall.1, hall.2, h⟩⟩
      rw [e2] at this
      exact this

/-! ### see_row -/
def sp_see_row (T : Tb) (K : PySem.W.Frag) : Sp := spM (α := Int × Addr × List Int) (fun q => [.int q.1, .ref q.2.1]) fun q H Q _ => SqL K H q.2.1 (vz q.2.2) ∧ Wd q.1 q.2.2 ∧ IsRow q.1 q.2.2 ∧ ∀ H', Ex T H H' → Q .non H'
theorem ok_see_row {P : Program} {w : World} {K : PySem.W.Frag} {mg : Str → Option Value} {base : Heap} {T : Tb} (B : Bi mg) {tF : Tok} (g_FIGURES : mg "FIGURES" = some (.str (Str.ofString "0123456789") tF)) {Z : Ze} (Z_RowError : Xc K mg "RowError" Z.row Z.row) (Z_NoRow : Xc K mg "NoRow" Z.noRow Z.row) (Z_NoPlace : Xc K mg "NoPlace" Z.noPlace Z.row) (Z_NoSuch : Xc K mg "NoSuch" Z.noSuch Z.row) (Z_BadText : Xc K mg "BadText" Z.badText Z.row) (kk_noRow_noRow : PySem.W.kitOne K (.ref Z.noRow) (.ref Z.noRow) = some true) (kk_noRow_noPlace : PySem.W.kitOne K (.ref Z.noRow) (.ref Z.noPlace) = some false) (kk_noRow_noSuch : PySem.W.kitOne K (.ref Z.noRow) (.ref Z.noSuch) = some false) (kk_noRow_badText : PySem.W.kitOne K (.ref Z.noRow) (.ref Z.badText) = some false) (kk_noRow_VE : PySem.W.kitOne K (.ref Z.noRow) (.type "ValueError") = some true) (kk_noPlace_noRow : PySem.W.kitOne K (.ref Z.noPlace) (.ref Z.noRow) = some false) (kk_noPlace_noPlace : PySem.W.kitOne K (.ref Z.noPlace) (.ref Z.noPlace) = some true) (kk_noPlace_noSuch : PySem.W.kitOne K (.ref Z.noPlace) (.ref Z.noSuch) = some false) (kk_noPlace_badText : PySem.W.kitOne K (.ref Z.noPlace) (.ref Z.badText) = some false) (kk_noPlace_VE : PySem.W.kitOne K (.ref Z.noPlace) (.type "ValueError") = some true) (kk_noSuch_noRow : PySem.W.kitOne K (.ref Z.noSuch) (.ref Z.noRow) = some false) (kk_noSuch_noPlace : PySem.W.kitOne K (.ref Z.noSuch) (.ref Z.noPlace) = some false) (kk_noSuch_noSuch : PySem.W.kitOne K (.ref Z.noSuch) (.ref Z.noSuch) = some true) (kk_noSuch_badText : PySem.W.kitOne K (.ref Z.noSuch) (.ref Z.badText) = some false) (kk_noSuch_VE : PySem.W.kitOne K (.ref Z.noSuch) (.type "ValueError") = some true) (kk_badText_noRow : PySem.W.kitOne K (.ref Z.badText) (.ref Z.noRow) = some false) (kk_badText_noPlace : PySem.W.kitOne K (.ref Z.badText) (.ref Z.noPlace) = some false) (kk_badText_noSuch : PySem.W.kitOne K (.ref Z.badText) (.ref Z.noSuch) = some false) (kk_badText_badText : PySem.W.kitOne K (.ref Z.badText) (.ref Z.badText) = some true) (kk_badText_VE : PySem.W.kitOne K (.ref Z.badText) (.type "ValueError") = some true) (c_holds : Ca CX0 P w K mg base 2 "holds" (sp_holds T K)) (D : Df K mg "see_row" s_see_row ["times", "row"]) : Ca CX0 P w K mg base 3 "see_row" (sp_see_row T K) := by
  refine D.ca0 sc_see_row (fun vs H Q E ⟨q, e, _⟩ => by rw [e]; rfl) (fun cdv A outer s H vs Q E f hr h => ?_)
  obtain ⟨⟨t, a, ns⟩, hv, h⟩ := h
  dsimp only at hv h
  subst hv
  obtain ⟨hS, hW, hR, k⟩ := h
  refine ⟨_, (pss_one (ps_if (pt_not (pt_val (pe_k0 c_holds hr (by decide) (by rfl) (pa_cons (pv 0) (pa_cons (pv 1) pa_nil))))) (pss_one ps_never) pss_nil)), ?_⟩
  refine s_when (T := T) (et_not (et_B (ev_call (ea_cons (ev_var rfl) (ea_cons (ev_var rfl) ea_nil)) fun H1 e1 Q' q => ⟨(t, a, ns), rfl, e1.sq hS, hW, q⟩))) (fun hb H1 e1 => ?_) (fun hb H1 e1 => k H1 e1)
  rw [decide_eq_true hR] at hb
  cases hb

def spX_see_row (Z : Ze) (T : Tb) (K : PySem.W.Frag) : Sp := spM (α := Int × Addr × List Int) (fun q => [.int q.1, .ref q.2.1]) fun q H Q E => SqL K H q.2.1 (vz q.2.2) ∧ Wd q.1 q.2.2 ∧ (IsRow q.1 q.2.2 → ∀ H', Ex T H H' → Q .non H') ∧ (¬ IsRow q.1 q.2.2 → ∀ H', Ex T H H' → E (.ref Z.noRow) none H')
theorem okX_see_row {P : Program} {w : World} {K : PySem.W.Frag} {mg : Str → Option Value} {base : Heap} {T : Tb} (B : Bi mg) {tF : Tok} (g_FIGURES : mg "FIGURES" = some (.str (Str.ofString "0123456789") tF)) {Z : Ze} (Z_RowError : Xc K mg "RowError" Z.row Z.row) (Z_NoRow : Xc K mg "NoRow" Z.noRow Z.row) (Z_NoPlace : Xc K mg "NoPlace" Z.noPlace Z.row) (Z_NoSuch : Xc K mg "NoSuch" Z.noSuch Z.row) (Z_BadText : Xc K mg "BadText" Z.badText Z.row) (kk_noRow_noRow : PySem.W.kitOne K (.ref Z.noRow) (.ref Z.noRow) = some true) (kk_noRow_noPlace : PySem.W.kitOne K (.ref Z.noRow) (.ref Z.noPlace) = some false) (kk_noRow_noSuch : PySem.W.kitOne K (.ref Z.noRow) (.ref Z.noSuch) = some false) (kk_noRow_badText : PySem.W.kitOne K (.ref Z.noRow) (.ref Z.badText) = some false) (kk_noRow_VE : PySem.W.kitOne K (.ref Z.noRow) (.type "ValueError") = some true) (kk_noPlace_noRow : PySem.W.kitOne K (.ref Z.noPlace) (.ref Z.noRow) = some false) (kk_noPlace_noPlace : PySem.W.kitOne K (.ref Z.noPlace) (.ref Z.noPlace) = some true) (kk_noPlace_noSuch : PySem.W.kitOne K (.ref Z.noPlace) (.ref Z.noSuch) = some false) (kk_noPlace_badText : PySem.W.kitOne K (.ref Z.noPlace) (.ref Z.badText) = some false) (kk_noPlace_VE : PySem.W.kitOne K (.ref Z.noPlace) (.type "ValueError") = some true) (kk_noSuch_noRow : PySem.W.kitOne K (.ref Z.noSuch) (.ref Z.noRow) = some false) (kk_noSuch_noPlace : PySem.W.kitOne K (.ref Z.noSuch) (.ref Z.noPlace) = some false) (kk_noSuch_noSuch : PySem.W.kitOne K (.ref Z.noSuch) (.ref Z.noSuch) = some true) (kk_noSuch_badText : PySem.W.kitOne K (.ref Z.noSuch) (.ref Z.badText) = some false) (kk_noSuch_VE : PySem.W.kitOne K (.ref Z.noSuch) (.type "ValueError") = some true) (kk_badText_noRow : PySem.W.kitOne K (.ref Z.badText) (.ref Z.noRow) = some false) (kk_badText_noPlace : PySem.W.kitOne K (.ref Z.badText) (.ref Z.noPlace) = some false) (kk_badText_noSuch : PySem.W.kitOne K (.ref Z.badText) (.ref Z.noSuch) = some false) (kk_badText_badText : PySem.W.kitOne K (.ref Z.badText) (.ref Z.badText) = some true) (kk_badText_VE : PySem.W.kitOne K (.ref Z.badText) (.type "ValueError") = some true) (c_holds : Ca CX0 P w K mg base 2 "holds" (sp_holds T K)) (D : Df K mg "see_row" s_see_row ["times", "row"]) : Ca (L2.CX P w) P w K mg base 3 "see_row" (spX_see_row Z T K) := by
  refine D.caX sc_see_row (fun vs H Q E ⟨q, e, _⟩ => by rw [e]; rfl) (fun cdv A outer s H vs Q E f hr h => ?_)
  obtain ⟨⟨t, a, ns⟩, hv, h⟩ := h
  dsimp only at hv h
  subst hv
  obtain ⟨hS, hW, k, kx⟩ := h
  refine ⟨_, (pss_one (ps_if (pt_not (pt_val (pe_k0 c_holds hr (by decide) (by rfl) (pa_cons (pv 0) (pa_cons (pv 1) pa_nil))))) (pss_one (ps_raise rfl (takes_of rfl rfl rfl rfl) (Xc.make Z_NoRow (by rfl)))) pss_nil)), ?_⟩
  refine s_when (T := T) (et_not (et_B (ev_call (ea_cons (ev_var rfl) (ea_cons (ev_var rfl) ea_nil)) fun H1 e1 Q' q => ⟨(t, a, ns), rfl, e1.sq hS, hW, q⟩))) (fun hb H1 e1 => ?_) (fun hb H1 e1 => ?_)
  · exact kx (fun hR => by rw [decide_eq_true hR] at hb; cases hb) H1 e1
  · refine k ?_ H1 e1
    cases hd : decide (IsRow t ns) with
    | true => exact of_decide_eq_true hd
    | false => rw [hd] at hb; cases hb

/-! ### number_of -/
def sp_number_of (T : Tb) (K : PySem.W.Frag) : Sp := spM (α := Str) (fun w => [.str w]) fun w H Q _ => GoodW w ∧ ∀ H', Ex T H H' → Q (.int (wval w)) H'
theorem ok_number_of {P : Program} {w : World} {K : PySem.W.Frag} {mg : Str → Option Value} {base : Heap} {T : Tb} (B : Bi mg) {tF : Tok} (g_FIGURES : mg "FIGURES" = some (.str (Str.ofString "0123456789") tF)) {Z : Ze} (Z_RowError : Xc K mg "RowError" Z.row Z.row) (Z_NoRow : Xc K mg "NoRow" Z.noRow Z.row) (Z_NoPlace : Xc K mg "NoPlace" Z.noPlace Z.row) (Z_NoSuch : Xc K mg "NoSuch" Z.noSuch Z.row) (Z_BadText : Xc K mg "BadText" Z.badText Z.row) (kk_noRow_noRow : PySem.W.kitOne K (.ref Z.noRow) (.ref Z.noRow) = some true) (kk_noRow_noPlace : PySem.W.kitOne K (.ref Z.noRow) (.ref Z.noPlace) = some false) (kk_noRow_noSuch : PySem.W.kitOne K (.ref Z.noRow) (.ref Z.noSuch) = some false) (kk_noRow_badText : PySem.W.kitOne K (.ref Z.noRow) (.ref Z.badText) = some false) (kk_noRow_VE : PySem.W.kitOne K (.ref Z.noRow) (.type "ValueError") = some true) (kk_noPlace_noRow : PySem.W.kitOne K (.ref Z.noPlace) (.ref Z.noRow) = some false) (kk_noPlace_noPlace : PySem.W.kitOne K (.ref Z.noPlace) (.ref Z.noPlace) = some true) (kk_noPlace_noSuch : PySem.W.kitOne K (.ref Z.noPlace) (.ref Z.noSuch) = some false) (kk_noPlace_badText : PySem.W.kitOne K (.ref Z.noPlace) (.ref Z.badText) = some false) (kk_noPlace_VE : PySem.W.kitOne K (.ref Z.noPlace) (.type "ValueError") = some true) (kk_noSuch_noRow : PySem.W.kitOne K (.ref Z.noSuch) (.ref Z.noRow) = some false) (kk_noSuch_noPlace : PySem.W.kitOne K (.ref Z.noSuch) (.ref Z.noPlace) = some false) (kk_noSuch_noSuch : PySem.W.kitOne K (.ref Z.noSuch) (.ref Z.noSuch) = some true) (kk_noSuch_badText : PySem.W.kitOne K (.ref Z.noSuch) (.ref Z.badText) = some false) (kk_noSuch_VE : PySem.W.kitOne K (.ref Z.noSuch) (.type "ValueError") = some true) (kk_badText_noRow : PySem.W.kitOne K (.ref Z.badText) (.ref Z.noRow) = some false) (kk_badText_noPlace : PySem.W.kitOne K (.ref Z.badText) (.ref Z.noPlace) = some false) (kk_badText_noSuch : PySem.W.kitOne K (.ref Z.badText) (.ref Z.noSuch) = some false) (kk_badText_badText : PySem.W.kitOne K (.ref Z.badText) (.ref Z.badText) = some true) (kk_badText_VE : PySem.W.kitOne K (.ref Z.badText) (.type "ValueError") = some true)  (D : Df K mg "number_of" s_number_of ["word"]) : Ca CX0 P w K mg base 1 "number_of" (sp_number_of T K) := by
  refine D.ca0 sc_number_of (fun vs H Q E ⟨q, e, _⟩ => by rw [e]; rfl) (fun cdv A outer s H vs Q E f hr h => ?_)
  obtain ⟨w, hv, h⟩ := h
  dsimp only at hv h
  subst hv
  obtain ⟨hG, k⟩ := h
  have hlen := hG.len
  have hsz : w.length ≤ sizeLine := Nat.le_trans hlen (by decide)
  obtain ⟨c, r, hc⟩ : ∃ c r, TL.tl w = c :: r := by
    cases e : TL.tl w with
    | nil => exact absurd e hG.ne
    | cons c r => exact ⟨c, r, rfl⟩
  have hc0 : (TL.tl w)[0]? = some c := by rw [hc]; rfl
  have hc48 : c ≠ 48 := fun e => hG.hd (by rw [hc0, e])
  refine ⟨_, (pss_cons (ps_if (PW.pt (pw_or (pt_cmpR op_eq (pv 0) pe_str (nomark _)) (pw_or (pt_cmpR op_gt (pe_callB call_len_str (by rfl) B.len boot_len (pa_cons (pv 0) pa_nil)) pe_int (nomark _)) (pw_or1 (pt_cmpR op_eq (pe_ix ix_str (pv 0) pe_int (fun _ _ => rfl)) pe_str (nomark _)))))) (pss_one ps_never) pss_nil)
      (pss_cons (ps_for PassesOwn.never rfl (pi_str (pv 0)) (pg_name (i := 1) sc_number_of.nd rfl (.inl rfl))
      (pss_one (ps_if (pt_cmpR op_notIn_sign (pv 1) (pe_glob (v := .str (Str.ofString "0123456789")) rfl g_FIGURES ⟨_, rfl⟩) rfl) (pss_one ps_never) pss_nil)))
      (pss_one (ps_ret (pe_callTy call_int_str (by rfl) B.int boot_int (pa_cons (pv 0) pa_nil)))))), ?_⟩
  refine q_when (T := T) (et_or (et_test (ev_eqS (ev_var rfl) ev_c)) fun _ => et_or (et_test (ev_I0 (ev_lenStr (ev_var rfl) hsz) ev_c)) fun _ => et_test (ev_eqS (ev_ixS (m := 0) (ev_var rfl) ev_c hsz rfl hc0) ev_c)) (fun hb H1 e1 => ?_) (fun hb H1 e1 => ?_)
  · exfalso
    rw [Bool.or_eq_true, Bool.or_eq_true] at hb
    rcases hb with hb | hb | hb
    · have := of_decide_eq_true hb
      rw [this] at hc
      cases hc
    · have := of_decide_eq_true hb
      omega
    · have h1 := of_decide_eq_true hb
      have h2 := congrArg TL.tl h1
      have h3 : [c] = [48] := h2.trans (by decide +kernel)
      cases h3
      exact hc48 rfl
  refine q_forS (T := T) (ev_var rfl) (fun i σ H' => ∃ y, σ = [some (.str w), y] ∧ Ex T H H') (fun H2 e2 => ⟨none, rfl, e1.trans e2⟩) ?_ ?_
  · rintro i d σ H2 hd ⟨y, rfl, e⟩
    have hm := hG.all d (List.mem_of_getElem? hd)
    refine s_when (T := T) (et_test (ev_notInS (z := Str.ofString "0123456789") (ev_var rfl) ev_c)) (fun hb H3 e3 => ?_) (fun hb H3 e3 => ⟨_, rfl, e.trans e3⟩)
    exfalso
    rw [tl_figs, decide_eq_true (mem_figs.mpr hm)] at hb
    cases hb
  · rintro σ H2 ⟨y, rfl, e⟩
    exact s_ret (T := T) (ev_int (ev_var rfl) hG) fun H3 e3 => k H3 (e.trans e3)

def spX_number_of (Z : Ze) (T : Tb) (K : PySem.W.Frag) : Sp := spM (α := Str) (fun w => [.str w]) fun w H Q E => w.length ≤ 16000 ∧ (GoodW w → ∀ H', Ex T H H' → Q (.int (wval w)) H') ∧ (¬ GoodW w → ∀ H', Ex T H H' → E (.ref Z.badText) none H')
theorem okX_number_of {P : Program} {w : World} {K : PySem.W.Frag} {mg : Str → Option Value} {base : Heap} {T : Tb} (B : Bi mg) {tF : Tok} (g_FIGURES : mg "FIGURES" = some (.str (Str.ofString "0123456789") tF)) {Z : Ze} (Z_RowError : Xc K mg "RowError" Z.row Z.row) (Z_NoRow : Xc K mg "NoRow" Z.noRow Z.row) (Z_NoPlace : Xc K mg "NoPlace" Z.noPlace Z.row) (Z_NoSuch : Xc K mg "NoSuch" Z.noSuch Z.row) (Z_BadText : Xc K mg "BadText" Z.badText Z.row) (kk_noRow_noRow : PySem.W.kitOne K (.ref Z.noRow) (.ref Z.noRow) = some true) (kk_noRow_noPlace : PySem.W.kitOne K (.ref Z.noRow) (.ref Z.noPlace) = some false) (kk_noRow_noSuch : PySem.W.kitOne K (.ref Z.noRow) (.ref Z.noSuch) = some false) (kk_noRow_badText : PySem.W.kitOne K (.ref Z.noRow) (.ref Z.badText) = some false) (kk_noRow_VE : PySem.W.kitOne K (.ref Z.noRow) (.type "ValueError") = some true) (kk_noPlace_noRow : PySem.W.kitOne K (.ref Z.noPlace) (.ref Z.noRow) = some false) (kk_noPlace_noPlace : PySem.W.kitOne K (.ref Z.noPlace) (.ref Z.noPlace) = some true) (kk_noPlace_noSuch : PySem.W.kitOne K (.ref Z.noPlace) (.ref Z.noSuch) = some false) (kk_noPlace_badText : PySem.W.kitOne K (.ref Z.noPlace) (.ref Z.badText) = some false) (kk_noPlace_VE : PySem.W.kitOne K (.ref Z.noPlace) (.type "ValueError") = some true) (kk_noSuch_noRow : PySem.W.kitOne K (.ref Z.noSuch) (.ref Z.noRow) = some false) (kk_noSuch_noPlace : PySem.W.kitOne K (.ref Z.noSuch) (.ref Z.noPlace) = some false) (kk_noSuch_noSuch : PySem.W.kitOne K (.ref Z.noSuch) (.ref Z.noSuch) = some true) (kk_noSuch_badText : PySem.W.kitOne K (.ref Z.noSuch) (.ref Z.badText) = some false) (kk_noSuch_VE : PySem.W.kitOne K (.ref Z.noSuch) (.type "ValueError") = some true) (kk_badText_noRow : PySem.W.kitOne K (.ref Z.badText) (.ref Z.noRow) = some false) (kk_badText_noPlace : PySem.W.kitOne K (.ref Z.badText) (.ref Z.noPlace) = some false) (kk_badText_noSuch : PySem.W.kitOne K (.ref Z.badText) (.ref Z.noSuch) = some false) (kk_badText_badText : PySem.W.kitOne K (.ref Z.badText) (.ref Z.badText) = some true) (kk_badText_VE : PySem.W.kitOne K (.ref Z.badText) (.type "ValueError") = some true)  (D : Df K mg "number_of" s_number_of ["word"]) : Ca (L2.CX P w) P w K mg base 1 "number_of" (spX_number_of Z T K) := by
  refine D.caX sc_number_of (fun vs H Q E ⟨q, e, _⟩ => by rw [e]; rfl) (fun cdv A outer s H vs Q E f hr h => ?_)
  obtain ⟨w, hv, h⟩ := h
  dsimp only at hv h
  subst hv
  obtain ⟨hlen, k, kx⟩ := h
  have hsz : w.length ≤ sizeLine := Nat.le_trans hlen (by decide)
  refine ⟨_, (pss_cons (ps_if (PW.pt (pw_or (pt_cmpR op_eq (pv 0) pe_str (nomark _)) (pw_or (pt_cmpR op_gt (pe_callB call_len_str (by rfl) B.len boot_len (pa_cons (pv 0) pa_nil)) pe_int (nomark _)) (pw_or1 (pt_cmpR op_eq (pe_ix ix_str (pv 0) pe_int (fun _ _ => rfl)) pe_str (nomark _)))))) (pss_one (ps_raise rfl (takes_of rfl rfl rfl rfl) (Xc.make Z_BadText (by rfl)))) pss_nil)
      (pss_cons (ps_for (passes_of rfl) rfl (pi_str (pv 0)) (pg_name (i := 1) sc_number_of.nd rfl (.inl rfl))
      (pss_one (ps_if (pt_cmpR op_notIn_sign (pv 1) (pe_glob (v := .str (Str.ofString "0123456789")) rfl g_FIGURES ⟨_, rfl⟩) rfl) (pss_one (ps_raise rfl (takes_of rfl rfl rfl rfl) (Xc.make Z_BadText (by rfl)))) pss_nil)))
      (pss_one (ps_ret (pe_callTy call_int_str (by rfl) B.int boot_int (pa_cons (pv 0) pa_nil)))))), ?_⟩
  cases hc : TL.tl w with
  | nil =>
    have he : w = Str.ofString "" := by
      obtain ⟨cps⟩ := w
      have h1 : cps.toList = [] := hc
      have h2 : cps = #[] := Array.toList_eq_nil_iff.mp h1
      rw [h2]
      rfl
    refine q_when (T := T) (b := true) ((et_or (b := true) (c := true) ((et_test (ev_eqS (ev_var rfl) ev_c)).is (by rw [he]; simp)) fun hb => (by cases hb)).is rfl) (fun hb H1 e1 => kx (fun G => G.ne hc) H1 e1) (fun hb => by cases hb)
  | cons c r =>
    have hc0 : (TL.tl w)[0]? = some c := by rw [hc]; rfl
    refine q_when (T := T) (et_or (et_test (ev_eqS (ev_var rfl) ev_c)) fun _ => et_or (et_test (ev_I0 (ev_lenStr (ev_var rfl) hsz) ev_c)) fun _ => et_test (ev_eqS (ev_ixS (m := 0) (ev_var rfl) ev_c hsz rfl hc0) ev_c)) (fun hb H1 e1 => kx (fun G => ?_) H1 e1) (fun hb H1 e1 => ?_)
    · rw [Bool.or_eq_true, Bool.or_eq_true] at hb
      rcases hb with hb | hb | hb
      · have := of_decide_eq_true hb
        rw [this] at hc
        cases hc
      · have h1 := of_decide_eq_true hb
        have h2 := G.len
        omega
      · have h1 := of_decide_eq_true hb
        have h2 := congrArg TL.tl h1
        have h3 : [c] = [48] := h2.trans (by decide +kernel)
        cases h3
        exact G.hd hc0
    rw [Bool.or_eq_false_iff, Bool.or_eq_false_iff] at hb
    have h400 : w.length ≤ 400 := by
      have h1 := of_decide_eq_false hb.2.1
      omega
    have h48 : c ≠ 48 := fun e => by
      have h1 := of_decide_eq_false hb.2.2
      rw [e] at h1
      exact h1 (by decide +kernel)
    refine q_forS (T := T) (ev_var rfl) (fun i σ H' => ∃ y, σ = [some (.str w), y] ∧ Ex T H H' ∧ ∀ d ∈ (TL.tl w).take i, 48 ≤ d ∧ d ≤ 57) (fun H2 e2 => ⟨none, rfl, e1.trans e2, fun d hd => by rw [List.take_zero] at hd; cases hd⟩) ?_ ?_
    · rintro i d σ H2 hd ⟨y, rfl, e, hall⟩
      refine s_when (T := T) (et_test (ev_notInS (z := Str.ofString "0123456789") (ev_var rfl) ev_c)) (fun hb H3 e3 => kx (fun G => ?_) H3 (e.trans e3)) (fun hb H3 e3 => ⟨_, rfl, e.trans e3, fun d' hd' => ?_⟩)
      · have hm := G.all d (List.mem_of_getElem? hd)
        rw [tl_figs, decide_eq_true (mem_figs.mpr hm)] at hb
        cases hb
      · rw [List.take_add_one, hd] at hd'
        rcases List.mem_append.mp hd' with h1 | h1
        · exact hall d' h1
        · have h2 : d' = d := by simpa using h1
          rw [tl_figs] at hb
          have h3 : d ∈ _ := of_decide_eq_true (by simpa using hb)
          rw [h2]
          exact mem_figs.mp h3
    · rintro σ H2 ⟨y, rfl, e, hall⟩
      have G : GoodW w := ⟨by rw [hc]; simp, h400, by rw [hc0]; intro z; exact h48 (Option.some.inj z), fun d hd => hall d (by rw [List.take_of_length_le (Nat.le_refl _)]; exact hd)⟩
      exact s_ret (T := T) (ev_int (ev_var rfl) G) fun H3 e3 => k G H3 (e.trans e3)

/-! ### read -/
theorem big_ok {n : Int} (h0 : 0 ≤ n) (h : n < 10 ^ 400) : n.natAbs < 2 ^ 1919 := by
  have e : ((10 : Int) ^ 400) = ((10 ^ 400 : Nat) : Int) := (Int.natCast_pow 10 400).symm
  rw [e] at h
  have h1 : n.natAbs < 10 ^ 400 := by omega
  exact Nat.lt_of_lt_of_le h1 (by decide +kernel)
theorem least_good {P : Nat → Prop} : ∀ n, P n → ∃ k, P k ∧ ∀ j, j < k → ¬ P j := fun n => by
  induction n using Nat.strongRecOn with
  | _ n ih =>
    intro h
    by_cases q : ∃ j, j < n ∧ P j
    · obtain ⟨j, hj, hp⟩ := q
      exact ih j hj hp
    · exact ⟨n, h, fun j hj hp => q ⟨j, hj, hp⟩⟩
/-- what may be read -/
def ReadB (ws : List Str) : Prop := (5 ≤ ws.length ∧ ws.length ≤ 8) ∧ ws[1]? = some (Str.ofString "x") ∧ (∀ u ∈ ws.take 1 ++ ws.drop 2, GoodW u) ∧ wval (ws.getD 0 Str.empty) ≤ 1000
instance (ws : List Str) : Decidable (ReadB ws) := by unfold ReadB; infer_instance
def sp_read (Z : Ze) (T : Tb) (K : PySem.W.Frag) : Sp := spM (α := Str) (fun w => [.str w]) fun w H Q E => w.length ≤ 16000 ∧ (∀ u ∈ Txt.split w (Str.ofString " "), u.length ≤ 16000) ∧
  (¬ ReadB (Txt.split w (Str.ofString " ")) → ∀ H', Ex T H H' → E (.ref Z.badText) none H') ∧
  (ReadB (Txt.split w (Str.ofString " ")) → ¬ IsRow (wval ((Txt.split w (Str.ofString " ")).getD 0 Str.empty)) (((Txt.split w (Str.ofString " ")).drop 2).map wval) → ∀ H', Ex T H H' → E (.ref Z.noRow) none H') ∧
  (ReadB (Txt.split w (Str.ofString " ")) → IsRow (wval ((Txt.split w (Str.ofString " ")).getD 0 Str.empty)) (((Txt.split w (Str.ofString " ")).drop 2).map wval) → ∀ p r H', Ex T H H' → H' p = some (.tup [.int (wval ((Txt.split w (Str.ofString " ")).getD 0 Str.empty)), .ref r]) → H' r = some (.lst (vz (((Txt.split w (Str.ofString " ")).drop 2).map wval))) → Q (.ref p) H')
theorem ok_read {P : Program} {w : World} {K : PySem.W.Frag} {mg : Str → Option Value} {base : Heap} {T : Tb} (B : Bi mg) {tF : Tok} (g_FIGURES : mg "FIGURES" = some (.str (Str.ofString "0123456789") tF)) {Z : Ze} (Z_RowError : Xc K mg "RowError" Z.row Z.row) (Z_NoRow : Xc K mg "NoRow" Z.noRow Z.row) (Z_NoPlace : Xc K mg "NoPlace" Z.noPlace Z.row) (Z_NoSuch : Xc K mg "NoSuch" Z.noSuch Z.row) (Z_BadText : Xc K mg "BadText" Z.badText Z.row) (kk_noRow_noRow : PySem.W.kitOne K (.ref Z.noRow) (.ref Z.noRow) = some true) (kk_noRow_noPlace : PySem.W.kitOne K (.ref Z.noRow) (.ref Z.noPlace) = some false) (kk_noRow_noSuch : PySem.W.kitOne K (.ref Z.noRow) (.ref Z.noSuch) = some false) (kk_noRow_badText : PySem.W.kitOne K (.ref Z.noRow) (.ref Z.badText) = some false) (kk_noRow_VE : PySem.W.kitOne K (.ref Z.noRow) (.type "ValueError") = some true) (kk_noPlace_noRow : PySem.W.kitOne K (.ref Z.noPlace) (.ref Z.noRow) = some false) (kk_noPlace_noPlace : PySem.W.kitOne K (.ref Z.noPlace) (.ref Z.noPlace) = some true) (kk_noPlace_noSuch : PySem.W.kitOne K (.ref Z.noPlace) (.ref Z.noSuch) = some false) (kk_noPlace_badText : PySem.W.kitOne K (.ref Z.noPlace) (.ref Z.badText) = some false) (kk_noPlace_VE : PySem.W.kitOne K (.ref Z.noPlace) (.type "ValueError") = some true) (kk_noSuch_noRow : PySem.W.kitOne K (.ref Z.noSuch) (.ref Z.noRow) = some false) (kk_noSuch_noPlace : PySem.W.kitOne K (.ref Z.noSuch) (.ref Z.noPlace) = some false) (kk_noSuch_noSuch : PySem.W.kitOne K (.ref Z.noSuch) (.ref Z.noSuch) = some true) (kk_noSuch_badText : PySem.W.kitOne K (.ref Z.noSuch) (.ref Z.badText) = some false) (kk_noSuch_VE : PySem.W.kitOne K (.ref Z.noSuch) (.type "ValueError") = some true) (kk_badText_noRow : PySem.W.kitOne K (.ref Z.badText) (.ref Z.noRow) = some false) (kk_badText_noPlace : PySem.W.kitOne K (.ref Z.badText) (.ref Z.noPlace) = some false) (kk_badText_noSuch : PySem.W.kitOne K (.ref Z.badText) (.ref Z.noSuch) = some false) (kk_badText_badText : PySem.W.kitOne K (.ref Z.badText) (.ref Z.badText) = some true) (kk_badText_VE : PySem.W.kitOne K (.ref Z.badText) (.type "ValueError") = some true) (c_number_of : Ca CX0 P w K mg base 1 "number_of" (sp_number_of T K)) (c_see_row : Ca CX0 P w K mg base 3 "see_row" (sp_see_row T K)) (r_number_of : Ca (L2.CX P w) P w K mg base 1 "number_of" (spX_number_of Z T K)) (r_see_row : Ca (L2.CX P w) P w K mg base 3 "see_row" (spX_see_row Z T K)) (D : Df K mg "read" s_read ["text"]) : Ca (L2.CX P w) P w K mg base 4 "read" (sp_read Z T K) := by
  refine D.caX sc_read (fun vs H Q E ⟨q, e, _⟩ => by rw [e]; rfl) (fun cdv A outer s H vs Q E f hr h => ?_)
  obtain ⟨w, hv, h⟩ := h
  dsimp only at hv h
  subst hv
  obtain ⟨hsz, hwl, kb, kn, k⟩ := h
  obtain ⟨ws, hws⟩ : ∃ ws, ws = Txt.split w (Str.ofString " ") := ⟨_, rfl⟩
  rw [← hws] at hwl kb kn k
  refine ⟨_, (pss_cons (ps_set (i := 1) sc_read.nd rfl (.inl rfl) (pe_split (pv 0) pe_str))
      (pss_cons (ps_if (PW.pt (pw_or (pt_not (pt_chain op_le op_le pe_int (pe_callB call_lenS (by rfl) B.len boot_len (pa_cons (pv 1) pa_nil)) pe_int)) (pw_or1 (pt_cmpR op_ne (pe_ix ix_list (pv 1) pe_int (fun _ _ => rfl)) pe_str (nomark _))))) (pss_one (ps_raise rfl (takes_of rfl rfl rfl rfl) (Xc.make Z_BadText (by rfl)))) pss_nil)
      (pss_cons (ps_set (i := 2) sc_read.nd rfl (.inl rfl) (pe_k r_number_of hr (by decide) (passes_call (takes_of rfl rfl rfl rfl) fun _ _ _ _ h => h) (by rfl) (pa_cons (pe_ix ix_list (pv 1) pe_int (fun _ _ => rfl)) pa_nil)))
      (pss_cons (ps_or (ps_setLc (i := 3) (own := [("word", 4)]) (g := gName 4) (tt := tYes) rfl sc_read.nd rfl rfl (sw_true rfl rfl rfl (by decide +kernel)) (pi_list (pe_slice sl_list (pv 1) (po_some pe_int) po_none)) (blkOk_by (N := ["text", "words", "times", "row", "word"]) (sc := defScope s_read) (by decide +kernel)) (fun _ _ _ _ _ => pg_name (i := 4) sc_read.nd rfl (Or.inl rfl)) (fun _ _ _ _ _ => by exact pts_nil) (fun _ _ _ _ _ => by exact (pe_k0 c_number_of hr (by decide) (by rfl) (pa_cons (pv 4) pa_nil)))) (ps_lcBad (i := 3) (own := [("word", 4)]) (g := gName 4) (E := E) rfl sc_read.nd (takes_of rfl rfl rfl rfl) rfl rfl (sw_true rfl rfl rfl (by decide +kernel)) (pi_list (pe_slice sl_list (pv 1) (po_some pe_int) po_none)) (blkOk_by (N := ["text", "words", "times", "row", "word"]) (sc := defScope s_read) (by decide +kernel)) (fun _ _ _ _ _ => pg_name (i := 4) sc_read.nd rfl (Or.inl rfl)) (fun _ _ _ _ _ => by exact (pe_k0 c_number_of hr (by decide) (by rfl) (pa_cons (pv 4) pa_nil))) (fun _ _ _ _ _ F P => by exact (pe_k r_number_of hr (by decide) P (by rfl) (pa_cons (pv 4) pa_nil)))))
      (pss_cons (ps_if (pt_cmpR op_gt (pv 2) pe_int (nomark _)) (pss_one (ps_raise rfl (takes_of rfl rfl rfl rfl) (Xc.make Z_BadText (by rfl)))) pss_nil)
      (pss_cons (ps_expr (pe_k r_see_row hr (by decide) (passes_call (takes_of rfl rfl rfl rfl) fun _ _ _ _ h => h) (by rfl) (pa_cons (pv 2) (pa_cons (pv 3) pa_nil))))
      (pss_one (ps_ret (pe_tup (pa_cons (pv 2) (pa_cons (pv 3) pa_nil))))))))))), ?_⟩
  refine q_asgL (T := T) (xs := vs ws) ((el_split (ev_var rfl) ev_c (by decide +kernel) (Nat.le_trans (Nat.add_le_add_right hsz 2) (by decide))).is (by rw [hws])) fun o H1 ho e1 h1 => ?_
  have hS1 := SqL.of (K := K) h1
  by_cases hform : (5 ≤ ws.length ∧ ws.length ≤ 8) ∧ ws[1]? = some (Str.ofString "x")
  case neg =>
    by_cases h58 : 5 ≤ ws.length ∧ ws.length ≤ 8
    · have hx : ws[1]? = some ws[1] := List.getElem?_eq_getElem (by omega)
      have hne : ws[1] ≠ Str.ofString "x" := fun z => hform ⟨h58, by rw [hx, z]⟩
      exact q_when (T := T) (b := true) ((et_or (b := false) (c := true) ((et_not (et_test (ev_chain (b := true) (c := true) ev_c ((ev_len (ev_var rfl) hS1).is (by rw [List.length_map])) ev_c (congrArg V.bl (decide_eq_true (show (5 : Int) ≤ ((ws.length : Nat) : Int) by omega))) (congrArg V.bl (decide_eq_true (show ((ws.length : Nat) : Int) ≤ 8 by omega)))))).is rfl) fun _ => (et_test (ev_neS (ev_ixW (m := 1) (ev_var rfl) ev_c hS1 rfl hx) ev_c)).is (by simp [hne])).is rfl) (fun hb H2 e2 => kb (fun R => hform ⟨R.1, R.2.1⟩) H2 (e1.trans e2)) (fun hb => by cases hb)
    · exact q_when (T := T) (b := true) ((et_or (b := true) (c := true) ((et_not (et_test (ev_chain (b := decide ((5 : Int) ≤ ((ws.length : Nat) : Int))) (c := decide (((ws.length : Nat) : Int) ≤ 8)) ev_c ((ev_len (ev_var rfl) hS1).is (by rw [List.length_map])) ev_c rfl rfl))).is (by
        rw [Bool.not_eq_true', Bool.and_eq_false_iff, decide_eq_false_iff_not, decide_eq_false_iff_not]
        omega)) fun hb => (by cases hb)).is rfl) (fun hb H2 e2 => kb (fun R => h58 R.1) H2 (e1.trans e2)) (fun hb => by cases hb)
  case pos =>
    obtain ⟨h58, hx⟩ := hform
    refine q_when (T := T) (b := false) ((et_or (b := false) (c := false) ((et_not (et_test (ev_chain (b := true) (c := true) ev_c ((ev_len (ev_var rfl) hS1).is (by rw [List.length_map])) ev_c (congrArg V.bl (decide_eq_true (show (5 : Int) ≤ ((ws.length : Nat) : Int) by omega))) (congrArg V.bl (decide_eq_true (show ((ws.length : Nat) : Int) ≤ 8 by omega)))))).is rfl) fun _ => (et_test (ev_neS (ev_ixW (m := 1) (ev_var rfl) ev_c hS1 rfl hx) ev_c)).is (by simp)).is rfl) (fun hb => by cases hb) (fun hb H2 e2 => ?_)
    have hS2 := e2.sq hS1
    have hx0 : ws[0]? = some (ws.getD 0 Str.empty) := by
      rw [List.getD_eq_getElem?_getD, List.getElem?_eq_getElem (show 0 < ws.length by omega)]
      rfl
    generalize hw0 : ws.getD 0 Str.empty = w0 at hx0 kn k
    have hw0l : w0.length ≤ 16000 := hwl w0 (List.mem_of_getElem? hx0)
    have hin0 : w0 ∈ ws.take 1 ++ ws.drop 2 := by
      refine List.mem_append.mpr (.inl ?_)
      cases ws with
      | nil => cases hx0
      | cons u us =>
        cases hx0
        exact List.mem_cons_self ..
    by_cases hG0 : GoodW w0
    case neg => exact call_raise (T := T) (ea_cons (ev_ixW (m := 0) (ev_var rfl) ev_c hS2 rfl hx0) ea_nil) fun H3 e3 Q' => ⟨w0, rfl, hw0l, fun G => absurd G hG0, fun _ H' e' => kb (fun R => hG0 (R.2.2.1 w0 hin0)) H' (e1.trans (e2.trans (e3.trans e')))⟩
    refine q_asg (T := T) (v := .int (wval w0)) (ev_call (ea_cons (ev_ixW (m := 0) (ev_var rfl) ev_c hS2 rfl hx0) ea_nil) fun H3 e3 Q' q => ⟨w0, rfl, hw0l, fun _ => q, fun h => absurd hG0 h⟩) fun H3 e3 => ?_
    have hS3 := (e2.trans e3).sq hS1
    have E3 := e1.trans (e2.trans e3)
    have hdl : (ws.drop 2).length = ws.length - 2 := List.length_drop ..
    by_cases hall : ∀ u ∈ ws.drop 2, GoodW u
    case neg =>
      have hex : ∃ k, ∃ u, (ws.drop 2)[k]? = some u ∧ ¬ GoodW u := Classical.byContradiction fun z => hall fun u hu => by
        obtain ⟨j, hj⟩ := List.getElem?_of_mem hu
        exact Classical.byContradiction fun g => z ⟨j, u, hj, g⟩
      obtain ⟨k0, ⟨u0, hk0, hb0⟩, hmin⟩ : ∃ k, (∃ u, (ws.drop 2)[k]? = some u ∧ ¬ GoodW u) ∧ ∀ j, j < k → ¬ ∃ u, (ws.drop 2)[j]? = some u ∧ ¬ GoodW u := hex.elim fun n hn => least_good n hn
      have hkl := (List.getElem?_eq_some_iff.mp hk0).1
      have at_ : ∀ {i : Nat} {x : V}, (vs (ws.drop 2))[i]? = some x → ∃ u, (ws.drop 2)[i]? = some u ∧ x = .str u := fun {i x} h => by
        rw [List.getElem?_map] at h
        cases q : (ws.drop 2)[i]? with
        | none => rw [q] at h; cases h
        | some u => rw [q] at h; exact ⟨u, rfl, (Option.some.inj h).symm⟩
      have long : ∀ {i : Nat} {u : Str}, (ws.drop 2)[i]? = some u → u.length ≤ 16000 := fun h => hwl _ (List.mem_of_mem_drop (List.mem_of_getElem? h))
      refine q_orR (s_lcBad (T := T) (el_fromW (m := 2) (ev_var rfl) ev_c hS3 rfl (by omega)) k0 (by rw [List.length_map]; exact hkl) (by rw [List.length_map]; omega) (fun _ => rfl) (fun i x H4 e4 hi hx => ?_) fun x H4 e4 hx => ?_)
      · obtain ⟨u, hu, rfl⟩ := at_ hx
        have G : GoodW u := Classical.byContradiction fun g => hmin i hi ⟨u, hu, g⟩
        exact ⟨_, ev_call (ea_cons (ev_var rfl) ea_nil) fun H5 e5 Q' q => ⟨u, rfl, G, q⟩⟩
      · obtain ⟨u, hu, rfl⟩ := at_ hx
        rw [hk0] at hu
        cases hu
        exact call_raise (T := T) (ea_cons (ev_var rfl) ea_nil) fun H5 e5 Q' => ⟨u0, rfl, long hk0, fun G => absurd G hb0, fun _ H' e' => kb (fun R => hb0 (R.2.2.1 u0 (List.mem_append.mpr (.inr (List.mem_of_getElem? hk0))))) H' (E3.trans (e4.trans (e5.trans e')))⟩
    obtain ⟨ns, hns⟩ : ∃ ns, ns = (ws.drop 2).map wval := ⟨_, rfl⟩
    rw [← hns] at kn k
    have hnl : ns.length = ws.length - 2 := by rw [hns, List.length_map, hdl]
    refine q_orL (q_asgL (T := T) (xs := vz ns) (el_mapN (ys := vz ns) (el_fromW (m := 2) (ev_var rfl) ev_c hS3 rfl (by omega)) (by rw [List.length_map]; omega) (by rw [List.length_map, List.length_map, hnl, hdl]) (fun _ => rfl) fun i x y H4 e4 hx hy => ?_) fun r H4 hr4 e4 h4 => ?_)
    · have hi : i < (ws.drop 2).length := by
        have := (List.getElem?_eq_some_iff.mp hx).1
        rwa [List.length_map] at this
      have hu : (ws.drop 2)[i]? = some (ws.drop 2)[i] := List.getElem?_eq_getElem hi
      generalize (ws.drop 2)[i] = u at hu
      have hx2 : x = .str u := by
        rw [List.getElem?_map, hu] at hx
        exact (Option.some.inj hx).symm
      have hy2 : y = .int (wval u) := by
        rw [hns, List.getElem?_map, List.getElem?_map, hu] at hy
        exact (Option.some.inj hy).symm
      rw [hx2, hy2]
      exact ev_call (ea_cons (ev_var rfl) ea_nil) fun H5 e5 Q' q => ⟨u, rfl, hall u (List.mem_of_getElem? hu), q⟩
    have E4 := E3.trans e4
    by_cases ht : wval w0 ≤ 1000
    case neg => exact q_when (T := T) (b := true) ((et_test (ev_I0 (ev_var rfl) ev_c)).is (decide_eq_true (show (1000 : Int) < wval w0 by omega))) (fun hb H5 e5 => kb (fun R => ht (by have h9 := R.2.2.2; rwa [hw0] at h9)) H5 (E4.trans e5)) (fun hb => by cases hb)
    refine q_when (T := T) (b := false) ((et_test (ev_I0 (ev_var rfl) ev_c)).is (decide_eq_false (show ¬ (1000 : Int) < wval w0 by omega))) (fun hb => by cases hb) (fun hb H5 e5 => ?_)
    have hRB : ReadB ws := ⟨h58, hx, fun u hu => by
      rcases List.mem_append.mp hu with h | h
      · cases ws with
        | nil => cases hx0
        | cons v us =>
          cases hx0
          rw [List.mem_singleton.mp (show u ∈ [w0] from h)]
          exact hG0
      · exact hall u h, by rw [hw0]; exact ht⟩
    have hW : Wd (wval w0) ns := ⟨by have := hG0.pos; show (wval w0).natAbs < 1024; omega, by omega, 1919, by decide, by decide, fun n hn => by
      rw [hns] at hn
      obtain ⟨u, hu, rfl⟩ := List.mem_map.mp hn
      have G := hall u hu
      exact big_ok (by have := G.pos; omega) G.lt⟩
    by_cases hR : IsRow (wval w0) ns
    case neg => exact call_raise (T := T) (ea_cons (ev_var rfl) (ea_cons (ev_var rfl) ea_nil)) fun H6 e6 Q' => ⟨(wval w0, r, ns), rfl, (e5.trans e6).sq (SqL.of h4), hW, fun h => absurd h hR, fun _ H' e' => kn hRB hR H' (E4.trans (e5.trans (e6.trans e')))⟩
    refine q_drop (T := T) (ev_call (ea_cons (ev_var rfl) (ea_cons (ev_var rfl) ea_nil)) fun H6 e6 Q' q => ⟨(wval w0, r, ns), rfl, (e5.trans e6).sq (SqL.of h4), hW, fun _ => q, fun h => absurd hR h⟩) fun H6 e6 => ?_
    exact s_retU (T := T) (eu_tup (ea_cons (ev_var rfl) (ea_cons (ev_var rfl) ea_nil)) (show 2 ≤ 1000 by decide)) fun p H7 hp e7 h7 => k hRB hR p r H7 (E4.trans (e5.trans (e6.trans e7))) h7 ((e5.trans (e6.trans e7)).lst h4)

/-! ### _law_cell_at -/
def sp__law_cell_at (T : Tb) (K : PySem.W.Frag) : Sp := spM (α := Addr × List Int × Nat) (fun q => [.ref q.1, .int (q.2.2 : Int)]) fun q H Q _ => SqL K H q.1 (vz q.2.1) ∧ ∀ H', Ex T H H' → Q (.int (q.2.1.getD q.2.2 0)) H'
theorem ok__law_cell_at {P : Program} {w : World} {K : PySem.W.Frag} {mg : Str → Option Value} {base : Heap} {T : Tb} (B : Bi mg) {tF : Tok} (g_FIGURES : mg "FIGURES" = some (.str (Str.ofString "0123456789") tF)) {Z : Ze} (Z_RowError : Xc K mg "RowError" Z.row Z.row) (Z_NoRow : Xc K mg "NoRow" Z.noRow Z.row) (Z_NoPlace : Xc K mg "NoPlace" Z.noPlace Z.row) (Z_NoSuch : Xc K mg "NoSuch" Z.noSuch Z.row) (Z_BadText : Xc K mg "BadText" Z.badText Z.row) (kk_noRow_noRow : PySem.W.kitOne K (.ref Z.noRow) (.ref Z.noRow) = some true) (kk_noRow_noPlace : PySem.W.kitOne K (.ref Z.noRow) (.ref Z.noPlace) = some false) (kk_noRow_noSuch : PySem.W.kitOne K (.ref Z.noRow) (.ref Z.noSuch) = some false) (kk_noRow_badText : PySem.W.kitOne K (.ref Z.noRow) (.ref Z.badText) = some false) (kk_noRow_VE : PySem.W.kitOne K (.ref Z.noRow) (.type "ValueError") = some true) (kk_noPlace_noRow : PySem.W.kitOne K (.ref Z.noPlace) (.ref Z.noRow) = some false) (kk_noPlace_noPlace : PySem.W.kitOne K (.ref Z.noPlace) (.ref Z.noPlace) = some true) (kk_noPlace_noSuch : PySem.W.kitOne K (.ref Z.noPlace) (.ref Z.noSuch) = some false) (kk_noPlace_badText : PySem.W.kitOne K (.ref Z.noPlace) (.ref Z.badText) = some false) (kk_noPlace_VE : PySem.W.kitOne K (.ref Z.noPlace) (.type "ValueError") = some true) (kk_noSuch_noRow : PySem.W.kitOne K (.ref Z.noSuch) (.ref Z.noRow) = some false) (kk_noSuch_noPlace : PySem.W.kitOne K (.ref Z.noSuch) (.ref Z.noPlace) = some false) (kk_noSuch_noSuch : PySem.W.kitOne K (.ref Z.noSuch) (.ref Z.noSuch) = some true) (kk_noSuch_badText : PySem.W.kitOne K (.ref Z.noSuch) (.ref Z.badText) = some false) (kk_noSuch_VE : PySem.W.kitOne K (.ref Z.noSuch) (.type "ValueError") = some true) (kk_badText_noRow : PySem.W.kitOne K (.ref Z.badText) (.ref Z.noRow) = some false) (kk_badText_noPlace : PySem.W.kitOne K (.ref Z.badText) (.ref Z.noPlace) = some false) (kk_badText_noSuch : PySem.W.kitOne K (.ref Z.badText) (.ref Z.noSuch) = some false) (kk_badText_badText : PySem.W.kitOne K (.ref Z.badText) (.ref Z.badText) = some true) (kk_badText_VE : PySem.W.kitOne K (.ref Z.badText) (.type "ValueError") = some true)  (D : Df K mg "_law_cell_at" s__law_cell_at ["script", "k"]) : Ca CX0 P w K mg base 1 "_law_cell_at" (sp__law_cell_at T K) := by
  refine D.ca0 sc__law_cell_at (fun vs H Q E ⟨q, e, _⟩ => by rw [e]; rfl) (fun cdv A outer s H vs Q E f hr h => ?_)
  obtain ⟨⟨a, ns, m⟩, hv, h⟩ := h
  dsimp only at hv h
  subst hv
  obtain ⟨hS, k⟩ := h
  refine ⟨_, (pss_cons (ps_if (pt_cmpR op_lt (pv 1) (pe_callB call_lenS (by rfl) B.len boot_len (pa_cons (pv 0) pa_nil)) (nomark _)) (pss_one (ps_ret (pe_ix ix_list (pv 0) (pv 1) (fun _ _ => rfl)))) pss_nil)
      (pss_one (ps_ret pe_int))), ?_⟩
  refine q_when (T := T) (et_test (ev_I0 (ev_var rfl) (ev_len (ev_var rfl) hS))) (fun hb H1 e1 => ?_) (fun hb H1 e1 => ?_)
  · have hm : m < ns.length := by have := of_decide_eq_true hb; rw [List.length_map] at this; omega
    exact s_ret (T := T) (ev_ixI (ev_var rfl) (ev_var rfl) (e1.sq hS) rfl (getD_at hm)) fun H2 e2 => k H2 (e1.trans e2)
  · have hm : ns.length ≤ m := by have := of_decide_eq_false hb; rw [List.length_map] at this; omega
    refine s_ret (T := T) ev_c fun H2 e2 => ?_
    have := k H2 (e1.trans e2)
    rw [List.getD_eq_getElem?_getD, List.getElem?_eq_none hm] at this
    exact this

/-! ### _law_whole -/
def sp__law_whole (T : Tb) (K : PySem.W.Frag) : Sp := spM (α := Int) (fun q => [.int q]) fun _ H Q _ => ∀ H', Ex T H H' → Q (.bl true) H'
theorem ok__law_whole {P : Program} {w : World} {K : PySem.W.Frag} {mg : Str → Option Value} {base : Heap} {T : Tb} (B : Bi mg) {tF : Tok} (g_FIGURES : mg "FIGURES" = some (.str (Str.ofString "0123456789") tF)) {Z : Ze} (Z_RowError : Xc K mg "RowError" Z.row Z.row) (Z_NoRow : Xc K mg "NoRow" Z.noRow Z.row) (Z_NoPlace : Xc K mg "NoPlace" Z.noPlace Z.row) (Z_NoSuch : Xc K mg "NoSuch" Z.noSuch Z.row) (Z_BadText : Xc K mg "BadText" Z.badText Z.row) (kk_noRow_noRow : PySem.W.kitOne K (.ref Z.noRow) (.ref Z.noRow) = some true) (kk_noRow_noPlace : PySem.W.kitOne K (.ref Z.noRow) (.ref Z.noPlace) = some false) (kk_noRow_noSuch : PySem.W.kitOne K (.ref Z.noRow) (.ref Z.noSuch) = some false) (kk_noRow_badText : PySem.W.kitOne K (.ref Z.noRow) (.ref Z.badText) = some false) (kk_noRow_VE : PySem.W.kitOne K (.ref Z.noRow) (.type "ValueError") = some true) (kk_noPlace_noRow : PySem.W.kitOne K (.ref Z.noPlace) (.ref Z.noRow) = some false) (kk_noPlace_noPlace : PySem.W.kitOne K (.ref Z.noPlace) (.ref Z.noPlace) = some true) (kk_noPlace_noSuch : PySem.W.kitOne K (.ref Z.noPlace) (.ref Z.noSuch) = some false) (kk_noPlace_badText : PySem.W.kitOne K (.ref Z.noPlace) (.ref Z.badText) = some false) (kk_noPlace_VE : PySem.W.kitOne K (.ref Z.noPlace) (.type "ValueError") = some true) (kk_noSuch_noRow : PySem.W.kitOne K (.ref Z.noSuch) (.ref Z.noRow) = some false) (kk_noSuch_noPlace : PySem.W.kitOne K (.ref Z.noSuch) (.ref Z.noPlace) = some false) (kk_noSuch_noSuch : PySem.W.kitOne K (.ref Z.noSuch) (.ref Z.noSuch) = some true) (kk_noSuch_badText : PySem.W.kitOne K (.ref Z.noSuch) (.ref Z.badText) = some false) (kk_noSuch_VE : PySem.W.kitOne K (.ref Z.noSuch) (.type "ValueError") = some true) (kk_badText_noRow : PySem.W.kitOne K (.ref Z.badText) (.ref Z.noRow) = some false) (kk_badText_noPlace : PySem.W.kitOne K (.ref Z.badText) (.ref Z.noPlace) = some false) (kk_badText_noSuch : PySem.W.kitOne K (.ref Z.badText) (.ref Z.noSuch) = some false) (kk_badText_badText : PySem.W.kitOne K (.ref Z.badText) (.ref Z.badText) = some true) (kk_badText_VE : PySem.W.kitOne K (.ref Z.badText) (.type "ValueError") = some true)  (D : Df K mg "_law_whole" s__law_whole ["found"]) : Ca CX0 P w K mg base 1 "_law_whole" (sp__law_whole T K) := by
  refine D.ca0 sc__law_whole (fun vs H Q E ⟨q, e, _⟩ => by rw [e]; rfl) (fun cdv A outer s H vs Q E f hr h => ?_)
  obtain ⟨n, hv, h⟩ := h
  dsimp only at hv h
  subst hv
  refine ⟨_, (pss_one (ps_ret (pe_and (pe_callB call_isi (by rfl) B.isinstance boot_isinstance (pa_cons (pv 0) (pa_cons (pe_bltn (v := .ty "int") (by rfl) B.int boot_int rfl) pa_nil))) (pe_one (pe_not (pe_callB call_isi (by rfl) B.isinstance boot_isinstance (pa_cons (pv 0) (pa_cons (pe_bltn (v := .ty "bool") (by rfl) B.bool boot_bool rfl) pa_nil)))))))), ?_⟩
  exact s_ret (T := T) (ev_andV (ev_isInt (ev_var rfl) ev_c) fun _ => ev_notV (ev_isIntB (ev_var rfl) ev_c)) h

/-! ### _law_product -/
def sp__law_product (T : Tb) (K : PySem.W.Frag) : Sp := spM (α := Addr × List Int) (fun q => [.ref q.1]) fun q H Q _ => SqL K H q.1 (vz q.2) ∧ q.2.length ≤ 6 ∧ (∃ b, b ≤ 100000 ∧ Bd b q.2) ∧ ∀ H', Ex T H H' → Q (.int (prd q.2)) H'
theorem ok__law_product {P : Program} {w : World} {K : PySem.W.Frag} {mg : Str → Option Value} {base : Heap} {T : Tb} (B : Bi mg) {tF : Tok} (g_FIGURES : mg "FIGURES" = some (.str (Str.ofString "0123456789") tF)) {Z : Ze} (Z_RowError : Xc K mg "RowError" Z.row Z.row) (Z_NoRow : Xc K mg "NoRow" Z.noRow Z.row) (Z_NoPlace : Xc K mg "NoPlace" Z.noPlace Z.row) (Z_NoSuch : Xc K mg "NoSuch" Z.noSuch Z.row) (Z_BadText : Xc K mg "BadText" Z.badText Z.row) (kk_noRow_noRow : PySem.W.kitOne K (.ref Z.noRow) (.ref Z.noRow) = some true) (kk_noRow_noPlace : PySem.W.kitOne K (.ref Z.noRow) (.ref Z.noPlace) = some false) (kk_noRow_noSuch : PySem.W.kitOne K (.ref Z.noRow) (.ref Z.noSuch) = some false) (kk_noRow_badText : PySem.W.kitOne K (.ref Z.noRow) (.ref Z.badText) = some false) (kk_noRow_VE : PySem.W.kitOne K (.ref Z.noRow) (.type "ValueError") = some true) (kk_noPlace_noRow : PySem.W.kitOne K (.ref Z.noPlace) (.ref Z.noRow) = some false) (kk_noPlace_noPlace : PySem.W.kitOne K (.ref Z.noPlace) (.ref Z.noPlace) = some true) (kk_noPlace_noSuch : PySem.W.kitOne K (.ref Z.noPlace) (.ref Z.noSuch) = some false) (kk_noPlace_badText : PySem.W.kitOne K (.ref Z.noPlace) (.ref Z.badText) = some false) (kk_noPlace_VE : PySem.W.kitOne K (.ref Z.noPlace) (.type "ValueError") = some true) (kk_noSuch_noRow : PySem.W.kitOne K (.ref Z.noSuch) (.ref Z.noRow) = some false) (kk_noSuch_noPlace : PySem.W.kitOne K (.ref Z.noSuch) (.ref Z.noPlace) = some false) (kk_noSuch_noSuch : PySem.W.kitOne K (.ref Z.noSuch) (.ref Z.noSuch) = some true) (kk_noSuch_badText : PySem.W.kitOne K (.ref Z.noSuch) (.ref Z.badText) = some false) (kk_noSuch_VE : PySem.W.kitOne K (.ref Z.noSuch) (.type "ValueError") = some true) (kk_badText_noRow : PySem.W.kitOne K (.ref Z.badText) (.ref Z.noRow) = some false) (kk_badText_noPlace : PySem.W.kitOne K (.ref Z.badText) (.ref Z.noPlace) = some false) (kk_badText_noSuch : PySem.W.kitOne K (.ref Z.badText) (.ref Z.noSuch) = some false) (kk_badText_badText : PySem.W.kitOne K (.ref Z.badText) (.ref Z.badText) = some true) (kk_badText_VE : PySem.W.kitOne K (.ref Z.badText) (.type "ValueError") = some true)  (D : Df K mg "_law_product" s__law_product ["numbers"]) : Ca CX0 P w K mg base 1 "_law_product" (sp__law_product T K) := by
  refine D.ca0 sc__law_product (fun vs H Q E ⟨q, e, _⟩ => by rw [e]; rfl) (fun cdv A outer s H vs Q E f hr h => ?_)
  obtain ⟨⟨a, ns⟩, hv, h⟩ := h
  dsimp only at hv h
  subst hv
  obtain ⟨hS, hl, ⟨b, hb, hB⟩, k⟩ := h
  refine ⟨_, (pss_cons (ps_set (i := 1) sc__law_product.nd rfl (.inl rfl) pe_int)
      (pss_cons (ps_for PassesOwn.never rfl (pi_list (pv 0)) (pg_name (i := 2) sc__law_product.nd rfl (.inl rfl))
      (pss_one (ps_set (i := 1) sc__law_product.nd rfl (.inl rfl) (pe_op op_mulW (pv 1) (pv 2)))))
      (pss_one (ps_ret (pv 1))))), ?_⟩
  refine q_asg (T := T) ev_c fun H1 e1 => q_forL (T := T) (ev_var rfl) (e1.sq hS) (fun i σ H' => ∃ y, σ = [some (.ref a), some (.int (prd (ns.take i))), y] ∧ Ex T H H') (fun H2 e2 => ⟨none, rfl, e1.trans e2⟩) (fun i σ H' _ ⟨y, _, e⟩ => e.sq hS) ?_ ?_
  · rintro i x σ H' hx ⟨y, rfl, e⟩
    obtain ⟨n, hn, rfl⟩ := at_vz hx
    have hi := (List.getElem?_eq_some_iff.mp hn).1
    have h1 : (prd (ns.take i)).natAbs < 2 ^ (b * 6 + 1) := Nat.lt_of_lt_of_le (hB.sub fun m hm => List.mem_of_mem_take hm).prod (Nat.pow_le_pow_right (by decide) (by
      have : b * (ns.take i).length ≤ b * 6 := Nat.mul_le_mul_left _ (by rw [List.length_take]; omega)
      omega))
    have h2 : n.natAbs < 2 ^ (b + 1) := Nat.lt_of_lt_of_le (hB n (List.mem_of_getElem? hn)) (Nat.pow_le_pow_right (by decide) (by omega))
    refine s_asg (T := T) (ev_I (ev_var rfl) (ev_var rfl) (wide_mul h1 h2 (by omega) (by omega) (by omega))) fun H2 e2 => ⟨some (.int n), ?_, e.trans e2⟩
    rw [List.take_add_one, hn, prd_app]
    show _ = [some (V.ref a), some (V.int (prd (List.take i ns) * (n * 1))), some (V.int n)]
    rw [Int.mul_one]
    rfl
  · rintro σ H' ⟨y, rfl, e⟩
    rw [List.length_map, List.take_length]
    exact s_ret (T := T) (ev_var rfl) fun H2 e2 => k H2 (e.trans e2)

/-! ### _law_near -/
def sp__law_near (T : Tb) (K : PySem.W.Frag) : Sp := spM (α := Int × Addr × List Int × Nat) (fun q => [.int q.1, .ref q.2.1, .int (q.2.2.2 : Int)]) fun q H Q _ => SqL K H q.2.1 (vz q.2.2.1) ∧ Wd q.1 q.2.2.1 ∧ q.2.2.2 < q.2.2.1.length ∧
  ∀ p H', H p = none → Ex T H H' → H' p = some (.lst (vz (near q.1 q.2.2.1 q.2.2.2))) → Q (.ref p) H'
theorem ok__law_near {P : Program} {w : World} {K : PySem.W.Frag} {mg : Str → Option Value} {base : Heap} {T : Tb} (B : Bi mg) {tF : Tok} (g_FIGURES : mg "FIGURES" = some (.str (Str.ofString "0123456789") tF)) {Z : Ze} (Z_RowError : Xc K mg "RowError" Z.row Z.row) (Z_NoRow : Xc K mg "NoRow" Z.noRow Z.row) (Z_NoPlace : Xc K mg "NoPlace" Z.noPlace Z.row) (Z_NoSuch : Xc K mg "NoSuch" Z.noSuch Z.row) (Z_BadText : Xc K mg "BadText" Z.badText Z.row) (kk_noRow_noRow : PySem.W.kitOne K (.ref Z.noRow) (.ref Z.noRow) = some true) (kk_noRow_noPlace : PySem.W.kitOne K (.ref Z.noRow) (.ref Z.noPlace) = some false) (kk_noRow_noSuch : PySem.W.kitOne K (.ref Z.noRow) (.ref Z.noSuch) = some false) (kk_noRow_badText : PySem.W.kitOne K (.ref Z.noRow) (.ref Z.badText) = some false) (kk_noRow_VE : PySem.W.kitOne K (.ref Z.noRow) (.type "ValueError") = some true) (kk_noPlace_noRow : PySem.W.kitOne K (.ref Z.noPlace) (.ref Z.noRow) = some false) (kk_noPlace_noPlace : PySem.W.kitOne K (.ref Z.noPlace) (.ref Z.noPlace) = some true) (kk_noPlace_noSuch : PySem.W.kitOne K (.ref Z.noPlace) (.ref Z.noSuch) = some false) (kk_noPlace_badText : PySem.W.kitOne K (.ref Z.noPlace) (.ref Z.badText) = some false) (kk_noPlace_VE : PySem.W.kitOne K (.ref Z.noPlace) (.type "ValueError") = some true) (kk_noSuch_noRow : PySem.W.kitOne K (.ref Z.noSuch) (.ref Z.noRow) = some false) (kk_noSuch_noPlace : PySem.W.kitOne K (.ref Z.noSuch) (.ref Z.noPlace) = some false) (kk_noSuch_noSuch : PySem.W.kitOne K (.ref Z.noSuch) (.ref Z.noSuch) = some true) (kk_noSuch_badText : PySem.W.kitOne K (.ref Z.noSuch) (.ref Z.badText) = some false) (kk_noSuch_VE : PySem.W.kitOne K (.ref Z.noSuch) (.type "ValueError") = some true) (kk_badText_noRow : PySem.W.kitOne K (.ref Z.badText) (.ref Z.noRow) = some false) (kk_badText_noPlace : PySem.W.kitOne K (.ref Z.badText) (.ref Z.noPlace) = some false) (kk_badText_noSuch : PySem.W.kitOne K (.ref Z.badText) (.ref Z.noSuch) = some false) (kk_badText_badText : PySem.W.kitOne K (.ref Z.badText) (.ref Z.badText) = some true) (kk_badText_VE : PySem.W.kitOne K (.ref Z.badText) (.type "ValueError") = some true) (c__law_product : Ca CX0 P w K mg base 1 "_law_product" (sp__law_product T K)) (D : Df K mg "_law_near" s__law_near ["times", "row", "place"]) : Ca CX0 P w K mg base 2 "_law_near" (sp__law_near T K) := by
  refine D.ca0 sc__law_near (fun vs H Q E ⟨q, e, _⟩ => by rw [e]; rfl) (fun cdv A outer s H vs Q E f hr h => ?_)
  obtain ⟨⟨t, a, ns, m⟩, hv, h⟩ := h
  dsimp only at hv h
  subst hv
  obtain ⟨hS, hW, hm, k⟩ := h
  obtain ⟨b, hb1, hb, hB⟩ := hW.b
  have hl := hW.len
  refine ⟨_, (pss_cons (ps_set (i := 3) sc__law_near.nd rfl (.inl rfl) (pe_op op_cat (pe_slice sl_list (pv 1) po_none (po_some (pv 2))) (pe_slice sl_list (pv 1) (po_some (pe_op op_add (pv 2) pe_int)) po_none)))
      (pss_one (ps_ret (pe_callB cr_sortedI (by rfl) B.sorted boot_sorted (pa_cons (pe_op op_cat (pv 3) (pe_lst (pa_cons (pe_op op_sub (pe_op op_mulW (pv 0) (pe_k0 c__law_product hr (by decide) (by rfl) (pa_cons (pv 3) pa_nil))) (pe_ix ix_list (pv 1) (pv 2) (fun _ _ => rfl))) pa_nil))) pa_nil))))), ?_⟩
  refine q_asgL (T := T) (el_catNN (el_to (ev_var rfl) (ev_var rfl) hS rfl (Nat.le_of_lt hm)) (el_from (m := m + 1) (ev_var rfl) (ev_I0 (ev_var rfl) ev_c) hS rfl hm) (by rw [List.length_map, List.length_map, List.length_take, List.length_drop]; omega)) fun o H1 ho e1 h1 => ?_
  have h1' : H1 o = some (.lst (vz (oth ns m))) := by rw [h1]; unfold oth; rw [vz_app]
  have hol := oth_len hm
  have hoB : Bd b (oth ns m) := hB.sub fun n hn => oth_sub hm hn
  refine s_retL (T := T) (el_sortedN ((el_catN (ev_var rfl) h1' (el_lst (ea_cons (ev_I0 (ev_I (ev_var rfl) (ev_call (ea_cons (ev_var rfl) ea_nil) fun H2 e2 Q q => ⟨(o, oth ns m), rfl, e2.sq (SqL.of h1'), by show (oth ns m).length ≤ 6; omega, ⟨b, hb, hoB⟩, q⟩) ?_) (ev_ixI (ev_var rfl) (ev_var rfl) (e1.sq hS) rfl (getD_at hm))) ea_nil) (show 1 ≤ 1000 by decide)) ?_).is (ys := vz (oth ns m ++ [new t ns m])) ?_)) fun p H2 hp e2 h2 => k p H2 (e1.n p hp) (e1.trans e2) h2
  · have h2 := hoB.prod
    have : b * (oth ns m).length ≤ b * 6 := Nat.mul_le_mul_left _ (by omega)
    exact wide_mul hW.ht h2 (by omega) (by omega) (by omega)
  · rw [List.length_map]
    show (oth ns m).length + 1 ≤ 1000
    omega
  · rw [vz_app]
    rfl

/-! ### _law_is_row -/
def sp__law_is_row (T : Tb) (K : PySem.W.Frag) : Sp := spM (α := Int × Addr × List Int) (fun q => [.int q.1, .ref q.2.1]) fun q H Q _ => SqL K H q.2.1 (vz q.2.2) ∧ Wd q.1 q.2.2 ∧ 0 < q.2.2.length ∧ ∀ H', Ex T H H' → Q (.bl (decide (IsRow q.1 q.2.2))) H'
theorem least_of {ns : List Int} (h : 0 < ns.length) : ∃ m, m ∈ ns ∧ ∀ n ∈ ns, m ≤ n := by
  have hp := isort_perm ns
  have hs := isort_sorted ns
  cases e : isort ns with
  | nil => rw [e] at hp; have := hp.length_eq; simp at this; omega
  | cons m r =>
    rw [e] at hp hs
    refine ⟨m, hp.subset List.mem_cons_self, fun n hn => ?_⟩
    rcases List.mem_cons.mp (hp.symm.subset hn) with q | q
    · rw [q]; exact Int.le_refl _
    · exact (List.pairwise_cons.mp hs).1 n q
theorem ok__law_is_row {P : Program} {w : World} {K : PySem.W.Frag} {mg : Str → Option Value} {base : Heap} {T : Tb} (B : Bi mg) {tF : Tok} (g_FIGURES : mg "FIGURES" = some (.str (Str.ofString "0123456789") tF)) {Z : Ze} (Z_RowError : Xc K mg "RowError" Z.row Z.row) (Z_NoRow : Xc K mg "NoRow" Z.noRow Z.row) (Z_NoPlace : Xc K mg "NoPlace" Z.noPlace Z.row) (Z_NoSuch : Xc K mg "NoSuch" Z.noSuch Z.row) (Z_BadText : Xc K mg "BadText" Z.badText Z.row) (kk_noRow_noRow : PySem.W.kitOne K (.ref Z.noRow) (.ref Z.noRow) = some true) (kk_noRow_noPlace : PySem.W.kitOne K (.ref Z.noRow) (.ref Z.noPlace) = some false) (kk_noRow_noSuch : PySem.W.kitOne K (.ref Z.noRow) (.ref Z.noSuch) = some false) (kk_noRow_badText : PySem.W.kitOne K (.ref Z.noRow) (.ref Z.badText) = some false) (kk_noRow_VE : PySem.W.kitOne K (.ref Z.noRow) (.type "ValueError") = some true) (kk_noPlace_noRow : PySem.W.kitOne K (.ref Z.noPlace) (.ref Z.noRow) = some false) (kk_noPlace_noPlace : PySem.W.kitOne K (.ref Z.noPlace) (.ref Z.noPlace) = some true) (kk_noPlace_noSuch : PySem.W.kitOne K (.ref Z.noPlace) (.ref Z.noSuch) = some false) (kk_noPlace_badText : PySem.W.kitOne K (.ref Z.noPlace) (.ref Z.badText) = some false) (kk_noPlace_VE : PySem.W.kitOne K (.ref Z.noPlace) (.type "ValueError") = some true) (kk_noSuch_noRow : PySem.W.kitOne K (.ref Z.noSuch) (.ref Z.noRow) = some false) (kk_noSuch_noPlace : PySem.W.kitOne K (.ref Z.noSuch) (.ref Z.noPlace) = some false) (kk_noSuch_noSuch : PySem.W.kitOne K (.ref Z.noSuch) (.ref Z.noSuch) = some true) (kk_noSuch_badText : PySem.W.kitOne K (.ref Z.noSuch) (.ref Z.badText) = some false) (kk_noSuch_VE : PySem.W.kitOne K (.ref Z.noSuch) (.type "ValueError") = some true) (kk_badText_noRow : PySem.W.kitOne K (.ref Z.badText) (.ref Z.noRow) = some false) (kk_badText_noPlace : PySem.W.kitOne K (.ref Z.badText) (.ref Z.noPlace) = some false) (kk_badText_noSuch : PySem.W.kitOne K (.ref Z.badText) (.ref Z.noSuch) = some false) (kk_badText_badText : PySem.W.kitOne K (.ref Z.badText) (.ref Z.badText) = some true) (kk_badText_VE : PySem.W.kitOne K (.ref Z.badText) (.type "ValueError") = some true) (c__law_product : Ca CX0 P w K mg base 1 "_law_product" (sp__law_product T K)) (D : Df K mg "_law_is_row" s__law_is_row ["times", "row"]) : Ca CX0 P w K mg base 2 "_law_is_row" (sp__law_is_row T K) := by
  refine D.ca0 sc__law_is_row (fun vs H Q E ⟨q, e, _⟩ => by rw [e]; rfl) (fun cdv A outer s H vs Q E f hr h => ?_)
  obtain ⟨⟨t, a, ns⟩, hv, h⟩ := h
  dsimp only at hv h
  subst hv
  obtain ⟨hS, hW, hl0, k⟩ := h
  obtain ⟨b, hb1, hb, hB⟩ := hW.b
  have hl := hW.len
  obtain ⟨m, hm, hmin⟩ := least_of hl0
  refine ⟨_, (pss_cons (ps_if (PW.pt (pw_or (pt_cmpR op_lt (pe_callB (cr_min rfl) (by rfl) B.min boot_min (pa_cons (pv 1) pa_nil)) pe_int (nomark _)) (pw_or1 (pt_cmpR (op_neD hr.units) (pe_callB cr_sortedI (by rfl) B.sorted boot_sorted (pa_cons (pv 1) pa_nil)) (pv 1) (nomark _))))) (pss_one (ps_ret pe_bl)) pss_nil)
      (pss_one (ps_ret (pe_cmpR op_eq (pe_callB (cr_sum rfl) (by rfl) B.sum boot_sum (pa_cons (pe_lc (own := [("number", 2)]) (g := gName 2) (tt := tYes) rfl sc__law_is_row.nd (pi_list (pv 1)) (blkOk_by (N := ["times", "row", "number"]) (sc := defScope s__law_is_row) (by decide +kernel)) (fun _ _ _ _ _ => pg_name (i := 2) sc__law_is_row.nd rfl (Or.inl rfl)) (fun _ _ _ _ _ => by exact pts_nil) (fun _ _ _ _ _ => by exact (pe_op op_mulW (pv 2) (pv 2)))) pa_nil)) (pe_op op_mulW (pv 0) (pe_k0 c__law_product hr (by decide) (by rfl) (pa_cons (pv 1) pa_nil))) (nomark _))))), ?_⟩
  refine q_when (T := T) (et_or (et_test (ev_I0 (ev_min (ev_var rfl) hS hm hmin) ev_c)) fun _ => et_test (ev_neNL (el_sorted (ev_var rfl) hS) (ev_var rfl) hS)) (fun hb' H1 e1 => ?_) (fun hb' H1 e1 => ?_)
  · refine s_ret (T := T) ev_c fun H2 e2 => ?_
    have hn : ¬ IsRow t ns := fun hr => by
      rw [Bool.or_eq_true, Bool.not_eq_true'] at hb'
      rcases hb' with h1 | h1
      · have := of_decide_eq_true h1; have := hr.pos m hm; omega
      · exact of_decide_eq_false h1 (isort_id hr.ord)
    have := k H2 (e1.trans e2)
    rw [decide_eq_false hn] at this
    exact this
  · rw [Bool.or_eq_false_iff, Bool.not_eq_false'] at hb'
    have p1 := of_decide_eq_false hb'.1
    have p2 : isort ns = ns := of_decide_eq_true hb'.2
    have hall : (∀ n ∈ ns, 1 ≤ n) ∧ ns.Pairwise (· ≤ ·) := ⟨fun n hn => by have := hmin n hn; omega, by rw [← p2]; exact isort_sorted ns⟩
    have hS' := e1.sq hS
    refine s_ret (T := T) (ev_eqI (ev_sumN (el_map (ys := vz (ns.map fun n => n * n)) (ev_var rfl) hS' (by rw [List.length_map]; omega) (by simp) (fun _ => rfl) fun i x y H1 e1 hx hy => ?_)) (ev_I (ev_var rfl) (ev_call (ea_cons (ev_var rfl) ea_nil) fun H2 e2 Q q => ⟨(a, ns), rfl, e2.sq hS', hl, ⟨b, hb, hB⟩, q⟩) ?_)) fun H2 e2 => ?_
    · obtain ⟨n, hn, rfl⟩ := at_vz hx
      have hy' : y = V.int (n * n) := by
        rw [List.getElem?_map, List.getElem?_map, hn] at hy
        exact (Option.some.inj hy).symm
      rw [hy']
      have h2 := hB n (List.mem_of_getElem? hn)
      exact ev_I (ev_var rfl) (ev_var rfl) (wide_mul h2 h2 (by omega) (by omega) (by omega))
    · have h1 := hB.prod
      have : b * ns.length ≤ b * 6 := Nat.mul_le_mul_left _ hl
      exact wide_mul hW.ht h1 (by omega) (by omega) (by omega)
    · have := k H2 (e1.trans e2)
      rw [sqs_map]
      have e2 : decide (IsRow t ns) = decide (sqs ns = t * prd ns) := decide_eq_decide.mpr ⟨fun h => h.eq, fun h => ⟨hall.1, hall.2, h⟩⟩
      rw [e2] at this
      exact this

/-! ### _law_alike -/
def sp__law_alike (T : Tb) (K : PySem.W.Frag) : Sp := spM (α := Addr × List Int × Addr × List Int) (fun q => [.ref q.1, .ref q.2.2.1]) fun q H Q _ => H q.1 = some (.lst (vz q.2.1)) ∧ SqL K H q.2.2.1 (vz q.2.2.2) ∧ q.2.2.2.length ≤ 1000 ∧ ∀ H', Ex T H H' → Q (.bl (decide (q.2.1 = q.2.2.2))) H'
theorem ok__law_alike {P : Program} {w : World} {K : PySem.W.Frag} {mg : Str → Option Value} {base : Heap} {T : Tb} (B : Bi mg) {tF : Tok} (g_FIGURES : mg "FIGURES" = some (.str (Str.ofString "0123456789") tF)) {Z : Ze} (Z_RowError : Xc K mg "RowError" Z.row Z.row) (Z_NoRow : Xc K mg "NoRow" Z.noRow Z.row) (Z_NoPlace : Xc K mg "NoPlace" Z.noPlace Z.row) (Z_NoSuch : Xc K mg "NoSuch" Z.noSuch Z.row) (Z_BadText : Xc K mg "BadText" Z.badText Z.row) (kk_noRow_noRow : PySem.W.kitOne K (.ref Z.noRow) (.ref Z.noRow) = some true) (kk_noRow_noPlace : PySem.W.kitOne K (.ref Z.noRow) (.ref Z.noPlace) = some false) (kk_noRow_noSuch : PySem.W.kitOne K (.ref Z.noRow) (.ref Z.noSuch) = some false) (kk_noRow_badText : PySem.W.kitOne K (.ref Z.noRow) (.ref Z.badText) = some false) (kk_noRow_VE : PySem.W.kitOne K (.ref Z.noRow) (.type "ValueError") = some true) (kk_noPlace_noRow : PySem.W.kitOne K (.ref Z.noPlace) (.ref Z.noRow) = some false) (kk_noPlace_noPlace : PySem.W.kitOne K (.ref Z.noPlace) (.ref Z.noPlace) = some true) (kk_noPlace_noSuch : PySem.W.kitOne K (.ref Z.noPlace) (.ref Z.noSuch) = some false) (kk_noPlace_badText : PySem.W.kitOne K (.ref Z.noPlace) (.ref Z.badText) = some false) (kk_noPlace_VE : PySem.W.kitOne K (.ref Z.noPlace) (.type "ValueError") = some true) (kk_noSuch_noRow : PySem.W.kitOne K (.ref Z.noSuch) (.ref Z.noRow) = some false) (kk_noSuch_noPlace : PySem.W.kitOne K (.ref Z.noSuch) (.ref Z.noPlace) = some false) (kk_noSuch_noSuch : PySem.W.kitOne K (.ref Z.noSuch) (.ref Z.noSuch) = some true) (kk_noSuch_badText : PySem.W.kitOne K (.ref Z.noSuch) (.ref Z.badText) = some false) (kk_noSuch_VE : PySem.W.kitOne K (.ref Z.noSuch) (.type "ValueError") = some true) (kk_badText_noRow : PySem.W.kitOne K (.ref Z.badText) (.ref Z.noRow) = some false) (kk_badText_noPlace : PySem.W.kitOne K (.ref Z.badText) (.ref Z.noPlace) = some false) (kk_badText_noSuch : PySem.W.kitOne K (.ref Z.badText) (.ref Z.noSuch) = some false) (kk_badText_badText : PySem.W.kitOne K (.ref Z.badText) (.ref Z.badText) = some true) (kk_badText_VE : PySem.W.kitOne K (.ref Z.badText) (.type "ValueError") = some true) (c__law_whole : Ca CX0 P w K mg base 1 "_law_whole" (sp__law_whole T K)) (D : Df K mg "_law_alike" s__law_alike ["found", "due"]) : Ca CX0 P w K mg base 2 "_law_alike" (sp__law_alike T K) := by
  refine D.ca0 sc__law_alike (fun vs H Q E ⟨q, e, _⟩ => by rw [e]; rfl) (fun cdv A outer s H vs Q E f hr h => ?_)
  obtain ⟨⟨a, ns, b, ms⟩, hv, h⟩ := h
  dsimp only at hv h
  subst hv
  obtain ⟨hA, hS, hl, k⟩ := h
  refine ⟨_, (pss_cons (ps_if (PW.pt (pw_or (pt_not (pt_val (pe_callB call_isi (by rfl) B.isinstance boot_isinstance (pa_cons (pv 0) (pa_cons (pe_bltn (v := .ty "list") (by rfl) B.list boot_list rfl) pa_nil))))) (pw_or1 (pt_cmpR op_ne (pe_callB call_lenS (by rfl) B.len boot_len (pa_cons (pv 0) pa_nil)) (pe_callB call_lenS (by rfl) B.len boot_len (pa_cons (pv 1) pa_nil)) (nomark _))))) (pss_one (ps_ret pe_bl)) pss_nil)
      (pss_cons (ps_for PassesOwn.never rfl (pi_range1 (by rfl) B.range (pa_cons (pe_callB call_lenS (by rfl) B.len boot_len (pa_cons (pv 1) pa_nil)) pa_nil)) (pg_name (i := 2) sc__law_alike.nd rfl (.inl rfl))
      (pss_one (ps_if (PW.pt (pw_or (pt_not (pt_val (pe_k0 c__law_whole hr (by decide) (by rfl) (pa_cons (pe_ix ix_list (pv 0) (pv 2) (fun _ _ => rfl)) pa_nil)))) (pw_or1 (pt_cmpR op_ne (pe_ix ix_list (pv 0) (pv 2) (fun _ _ => rfl)) (pe_ix ix_list (pv 1) (pv 2) (fun _ _ => rfl)) (nomark _))))) (pss_one (ps_ret pe_bl)) pss_nil)))
      (pss_one (ps_ret pe_bl)))), ?_⟩
  refine q_when (T := T) (et_or (et_not (et_B (ev_isLst (ev_var rfl) ev_c hA))) fun _ => et_test (ev_neI (ev_len (ev_var rfl) (SqL.of hA)) (ev_len (ev_var rfl) hS))) (fun hb H1 e1 => ?_) (fun hb H1 e1 => ?_)
  · refine s_ret (T := T) ev_c fun H2 e2 => ?_
    have := k H2 (e1.trans e2)
    rw [decide_eq_false (fun q => by rw [q] at hb; simp at hb)] at this
    exact this
  · have hlen : ns.length = ms.length := by simp at hb; omega
    refine q_forR1 (T := T) (m := (ms.length : Int)) (ea_cons ((ev_len (ev_var rfl) (e1.sq hS)).is (by rw [List.length_map])) ea_nil) (by omega) (by omega)
      (fun i σ H' => ∃ y, σ = [some (.ref a), some (.ref b), y] ∧ Ex T H H' ∧ ∀ j, j < i → ns.getD j 0 = ms.getD j 0) (fun H2 e2 => ⟨none, rfl, e1.trans e2, fun j hj => absurd hj (Nat.not_lt_zero j)⟩) ?_ ?_
    · rintro i σ H' hi ⟨y, rfl, e, hok⟩
      have hi' : i < ms.length := by omega
      have g1 : ns[i]? = some (ns.getD i 0) := getD_at (by omega)
      have g2 : ms[i]? = some (ms.getD i 0) := getD_at hi'
      refine s_if (T := T) (et_or (et_not (et_B (ev_call (ea_cons (ev_ixI (ev_var rfl) (ev_var rfl) (SqL.of (e.lst hA)) rfl g1) ea_nil) fun H2 e2 Q q => ⟨ns.getD i 0, rfl, q⟩))) fun _ => et_test (ev_neI (ev_ixI (ev_var rfl) (ev_var rfl) (SqL.of (e.lst hA)) rfl g1) (ev_ixI (ev_var rfl) (ev_var rfl) (e.sq hS) rfl g2))) (fun hb H1 e1 => ?_) (fun hb H1 e1 => ?_)
      · refine s_ret (T := T) ev_c fun H2 e2 => ?_
        have := k H2 ((e.trans e1).trans e2)
        rw [decide_eq_false (fun q => by rw [q] at hb; simp at hb)] at this
        exact this
      · refine ⟨_, rfl, e.trans e1, fun j hj => ?_⟩
        by_cases hji : j < i
        · exact hok j hji
        · have : j = i := by omega
          subst this
          simp at hb
          exact hb
    · rintro σ H' ⟨y, rfl, e, hok⟩
      refine s_ret (T := T) ev_c fun H2 e2 => ?_
      have := k H2 (e.trans e2)
      have heq : ns = ms := List.ext_getElem hlen fun j h1 h2 => by
        have := hok j (by omega)
        have a1 := getD_at h1
        have a2 := getD_at h2
        rw [List.getElem?_eq_getElem h1] at a1
        rw [List.getElem?_eq_getElem h2] at a2
        rw [Option.some.inj a1, Option.some.inj a2, this]
      rw [decide_eq_true heq] at this
      exact this

/-! ### _law_root_by -/
theorem roots9_at (c : Int) : ∃ q, roots9[(c % 9).toNat]? = some q ∧ q ∈ roots9 := by
  have h1 := Int.emod_nonneg c (by decide : (9 : Int) ≠ 0)
  have h2 := Int.emod_lt_of_pos c (by decide : (0 : Int) < 9)
  have h3 : (c % 9).toNat < roots9.length := by show (c % 9).toNat < 9; omega
  exact ⟨_, List.getElem?_eq_getElem h3, List.getElem_mem h3⟩
def sp__law_root_by (T : Tb) (K : PySem.W.Frag) : Sp := spM (α := Int) (fun q => [.int q]) fun c H Q _ => ∀ q, roots9[(c % 9).toNat]? = some q → ∀ v H', Ex T H H' → PairAt H' v q → Q v H'
theorem ok__law_root_by {P : Program} {w : World} {K : PySem.W.Frag} {mg : Str → Option Value} {base : Heap} {T : Tb} (B : Bi mg) {tF : Tok} (g_FIGURES : mg "FIGURES" = some (.str (Str.ofString "0123456789") tF)) {Z : Ze} (Z_RowError : Xc K mg "RowError" Z.row Z.row) (Z_NoRow : Xc K mg "NoRow" Z.noRow Z.row) (Z_NoPlace : Xc K mg "NoPlace" Z.noPlace Z.row) (Z_NoSuch : Xc K mg "NoSuch" Z.noSuch Z.row) (Z_BadText : Xc K mg "BadText" Z.badText Z.row) (kk_noRow_noRow : PySem.W.kitOne K (.ref Z.noRow) (.ref Z.noRow) = some true) (kk_noRow_noPlace : PySem.W.kitOne K (.ref Z.noRow) (.ref Z.noPlace) = some false) (kk_noRow_noSuch : PySem.W.kitOne K (.ref Z.noRow) (.ref Z.noSuch) = some false) (kk_noRow_badText : PySem.W.kitOne K (.ref Z.noRow) (.ref Z.badText) = some false) (kk_noRow_VE : PySem.W.kitOne K (.ref Z.noRow) (.type "ValueError") = some true) (kk_noPlace_noRow : PySem.W.kitOne K (.ref Z.noPlace) (.ref Z.noRow) = some false) (kk_noPlace_noPlace : PySem.W.kitOne K (.ref Z.noPlace) (.ref Z.noPlace) = some true) (kk_noPlace_noSuch : PySem.W.kitOne K (.ref Z.noPlace) (.ref Z.noSuch) = some false) (kk_noPlace_badText : PySem.W.kitOne K (.ref Z.noPlace) (.ref Z.badText) = some false) (kk_noPlace_VE : PySem.W.kitOne K (.ref Z.noPlace) (.type "ValueError") = some true) (kk_noSuch_noRow : PySem.W.kitOne K (.ref Z.noSuch) (.ref Z.noRow) = some false) (kk_noSuch_noPlace : PySem.W.kitOne K (.ref Z.noSuch) (.ref Z.noPlace) = some false) (kk_noSuch_noSuch : PySem.W.kitOne K (.ref Z.noSuch) (.ref Z.noSuch) = some true) (kk_noSuch_badText : PySem.W.kitOne K (.ref Z.noSuch) (.ref Z.badText) = some false) (kk_noSuch_VE : PySem.W.kitOne K (.ref Z.noSuch) (.type "ValueError") = some true) (kk_badText_noRow : PySem.W.kitOne K (.ref Z.badText) (.ref Z.noRow) = some false) (kk_badText_noPlace : PySem.W.kitOne K (.ref Z.badText) (.ref Z.noPlace) = some false) (kk_badText_noSuch : PySem.W.kitOne K (.ref Z.badText) (.ref Z.noSuch) = some false) (kk_badText_badText : PySem.W.kitOne K (.ref Z.badText) (.ref Z.badText) = some true) (kk_badText_VE : PySem.W.kitOne K (.ref Z.badText) (.type "ValueError") = some true)  (D : Df K mg "_law_root_by" s__law_root_by ["cell"]) : Ca CX0 P w K mg base 1 "_law_root_by" (sp__law_root_by T K) := by
  refine D.ca0 sc__law_root_by (fun vs H Q E ⟨q, e, _⟩ => by rw [e]; rfl) (fun cdv A outer s H vs Q E f hr h => ?_)
  obtain ⟨c, hv, h⟩ := h
  dsimp only at hv h
  subst hv
  obtain ⟨q, hq, _⟩ := roots9_at c
  have k := h q hq
  refine ⟨_, (pss_cons (ps_set (i := 1) sc__law_root_by.nd rfl (.inl rfl) (pe_lst (pa_cons (pe_tup (pa_cons pe_int (pa_cons (pe_lst (pa_cons pe_int (pa_cons pe_int (pa_cons pe_int pa_nil)))) pa_nil))) (pa_cons (pe_tup (pa_cons pe_int (pa_cons (pe_lst (pa_cons pe_int (pa_cons pe_int (pa_cons pe_int pa_nil)))) pa_nil))) (pa_cons (pe_tup (pa_cons pe_int (pa_cons (pe_lst (pa_cons pe_int (pa_cons pe_int (pa_cons pe_int (pa_cons pe_int pa_nil))))) pa_nil))) (pa_cons (pe_tup (pa_cons pe_int (pa_cons (pe_lst (pa_cons pe_int (pa_cons pe_int (pa_cons pe_int (pa_cons pe_int pa_nil))))) pa_nil))) (pa_cons (pe_tup (pa_cons pe_int (pa_cons (pe_lst (pa_cons pe_int (pa_cons pe_int (pa_cons pe_int (pa_cons pe_int (pa_cons pe_int pa_nil)))))) pa_nil))) pa_nil)))))))
      (pss_cons (ps_set (i := 1) sc__law_root_by.nd rfl (.inl rfl) (pe_op op_cat (pv 1) (pe_lst (pa_cons (pe_tup (pa_cons pe_int (pa_cons (pe_lst (pa_cons pe_int (pa_cons pe_int (pa_cons pe_int (pa_cons pe_int (pa_cons pe_int pa_nil)))))) pa_nil))) (pa_cons (pe_tup (pa_cons pe_int (pa_cons (pe_lst (pa_cons pe_int (pa_cons pe_int (pa_cons pe_int (pa_cons pe_int (pa_cons pe_int pa_nil)))))) pa_nil))) (pa_cons (pe_tup (pa_cons pe_int (pa_cons (pe_lst (pa_cons pe_int (pa_cons pe_int (pa_cons pe_int (pa_cons pe_int (pa_cons pe_int (pa_cons pe_int pa_nil))))))) pa_nil))) (pa_cons (pe_tup (pa_cons pe_int (pa_cons (pe_lst (pa_cons pe_int (pa_cons pe_int (pa_cons pe_int (pa_cons pe_int (pa_cons pe_int (pa_cons pe_int pa_nil))))))) pa_nil))) pa_nil)))))))
      (pss_one (ps_ret (pe_ix ix_list (pv 1) (pe_op op_mod (pv 0) pe_int) (fun _ _ => rfl)))))), ?_⟩
  have L : ∀ {tr : TA} {σ : L2.St} {H : Hp} {ns : List Int}, EvA T tr σ H (vz ns) → ns.length ≤ 1000 → EvL T (tLst tr) σ H (vz ns) := fun h hl => el_lst h (by rw [List.length_map]; exact hl)
  refine q_asgR (T := T) (er_pairs (qs := [(3, [1, 1, 1]), (1, [3, 3, 3]), (4, [1, 1, 1, 1]), (1, [2, 2, 2, 2]), (5, [1, 1, 1, 1, 1])]) (ep_cons (er_pair (el_lst ?a1 (by decide))) (ep_cons (er_pair (el_lst ?a2 (by decide))) (ep_cons (er_pair (el_lst ?a3 (by decide))) (ep_cons (er_pair (el_lst ?a4 (by decide))) (ep_cons (er_pair (el_lst ?a5 (by decide))) ep_nil))))) (by decide)) fun v H1 e1 r1 => ?_
  case a1 => walk_at "ev"
  case a2 => walk_at "ev"
  case a3 => walk_at "ev"
  case a4 => walk_at "ev"
  case a5 => walk_at "ev"
  obtain ⟨p, vs, rfl, hp, h1, hP⟩ := r1
  refine q_asgR (T := T) (er_catP (rs := [(4, [1, 1, 1, 1, 2]), (1, [1, 1, 3, 3, 4]), (6, [1, 1, 1, 1, 1, 1]), (3, [1, 1, 1, 1, 2, 2])]) (ev_var rfl) h1 hP (er_pairs (ep_cons (er_pair (el_lst ?b1 (by decide))) (ep_cons (er_pair (el_lst ?b2 (by decide))) (ep_cons (er_pair (el_lst ?b3 (by decide))) (ep_cons (er_pair (el_lst ?b4 (by decide))) ep_nil)))) (by decide)) (by decide)) fun v H2 e2 r2 => ?_
  case b1 => walk_at "ev"
  case b2 => walk_at "ev"
  case b3 => walk_at "ev"
  case b4 => walk_at "ev"
  obtain ⟨o, ws, rfl, ho, h2, hP2⟩ := r2
  have h3 := Int.emod_nonneg c (by decide : (9 : Int) ≠ 0)
  obtain ⟨x, hx, hxq⟩ := hP2.at_ (i := (c % 9).toNat) (q := q) hq
  refine s_ret (T := T) (ev_ixL (v := x) (ev_var rfl) (ev_I (ev_var rfl) ev_c (by show (0 : Int) < 9; decide)) (SqL.of h2) ?_) fun H3 e3 => k x H3 ((e1.trans e2).trans e3) (hxq.ex e3)
  rw [show c % 9 = (((c % 9).toNat : Nat) : Int) by omega]
  exact atI_nat hx

/-! ### _law_drawn -/
def sp__law_drawn (T : Tb) (K : PySem.W.Frag) : Sp := spM (α := Addr × List Int) (fun q => [.ref q.1]) fun q H Q _ => SqL K H q.1 (vz q.2) ∧ ∀ t ns p r H', Dr 6 t ns → Ex T H H' → H p = none → H r = none → H' p = some (.tup [.int t, .ref r]) → H' r = some (.lst (vz ns)) → Q (.ref p) H'
theorem ok__law_drawn {P : Program} {w : World} {K : PySem.W.Frag} {mg : Str → Option Value} {base : Heap} {T : Tb} (B : Bi mg) {tF : Tok} (g_FIGURES : mg "FIGURES" = some (.str (Str.ofString "0123456789") tF)) {Z : Ze} (Z_RowError : Xc K mg "RowError" Z.row Z.row) (Z_NoRow : Xc K mg "NoRow" Z.noRow Z.row) (Z_NoPlace : Xc K mg "NoPlace" Z.noPlace Z.row) (Z_NoSuch : Xc K mg "NoSuch" Z.noSuch Z.row) (Z_BadText : Xc K mg "BadText" Z.badText Z.row) (kk_noRow_noRow : PySem.W.kitOne K (.ref Z.noRow) (.ref Z.noRow) = some true) (kk_noRow_noPlace : PySem.W.kitOne K (.ref Z.noRow) (.ref Z.noPlace) = some false) (kk_noRow_noSuch : PySem.W.kitOne K (.ref Z.noRow) (.ref Z.noSuch) = some false) (kk_noRow_badText : PySem.W.kitOne K (.ref Z.noRow) (.ref Z.badText) = some false) (kk_noRow_VE : PySem.W.kitOne K (.ref Z.noRow) (.type "ValueError") = some true) (kk_noPlace_noRow : PySem.W.kitOne K (.ref Z.noPlace) (.ref Z.noRow) = some false) (kk_noPlace_noPlace : PySem.W.kitOne K (.ref Z.noPlace) (.ref Z.noPlace) = some true) (kk_noPlace_noSuch : PySem.W.kitOne K (.ref Z.noPlace) (.ref Z.noSuch) = some false) (kk_noPlace_badText : PySem.W.kitOne K (.ref Z.noPlace) (.ref Z.badText) = some false) (kk_noPlace_VE : PySem.W.kitOne K (.ref Z.noPlace) (.type "ValueError") = some true) (kk_noSuch_noRow : PySem.W.kitOne K (.ref Z.noSuch) (.ref Z.noRow) = some false) (kk_noSuch_noPlace : PySem.W.kitOne K (.ref Z.noSuch) (.ref Z.noPlace) = some false) (kk_noSuch_noSuch : PySem.W.kitOne K (.ref Z.noSuch) (.ref Z.noSuch) = some true) (kk_noSuch_badText : PySem.W.kitOne K (.ref Z.noSuch) (.ref Z.badText) = some false) (kk_noSuch_VE : PySem.W.kitOne K (.ref Z.noSuch) (.type "ValueError") = some true) (kk_badText_noRow : PySem.W.kitOne K (.ref Z.badText) (.ref Z.noRow) = some false) (kk_badText_noPlace : PySem.W.kitOne K (.ref Z.badText) (.ref Z.noPlace) = some false) (kk_badText_noSuch : PySem.W.kitOne K (.ref Z.badText) (.ref Z.noSuch) = some false) (kk_badText_badText : PySem.W.kitOne K (.ref Z.badText) (.ref Z.badText) = some true) (kk_badText_VE : PySem.W.kitOne K (.ref Z.badText) (.type "ValueError") = some true) (c__law_root_by : Ca CX0 P w K mg base 1 "_law_root_by" (sp__law_root_by T K)) (c__law_cell_at : Ca CX0 P w K mg base 1 "_law_cell_at" (sp__law_cell_at T K)) (c__law_near : Ca CX0 P w K mg base 2 "_law_near" (sp__law_near T K)) (D : Df K mg "_law_drawn" s__law_drawn ["script"]) : Ca CX0 P w K mg base 3 "_law_drawn" (sp__law_drawn T K) := by
  refine D.ca0 sc__law_drawn (fun vs H Q E ⟨q, e, _⟩ => by rw [e]; rfl) (fun cdv A outer s H vs Q E f hr h => ?_)
  obtain ⟨⟨a, cs⟩, hv, h⟩ := h
  dsimp only at hv h
  subst hv
  obtain ⟨hS, k⟩ := h
  refine ⟨_, (pss_cons (ps_set (i := 1) sc__law_drawn.nd rfl (.inl rfl) (pe_k0 c__law_root_by hr (by decide) (by rfl) (pa_cons (pe_k0 c__law_cell_at hr (by decide) (by rfl) (pa_cons (pv 0) (pa_cons pe_int pa_nil))) pa_nil)))
      (pss_cons (ps_set (i := 2) sc__law_drawn.nd rfl (.inl rfl) (pe_callTy call_listS (by rfl) B.list boot_list (pa_cons (pe_ix ix_tup (pv 1) pe_int (fun _ _ => rfl)) pa_nil)))
      (pss_cons (ps_for PassesOwn.never rfl (pi_range1 (by rfl) B.range (pa_cons (pe_op op_mod (pe_k0 c__law_cell_at hr (by decide) (by rfl) (pa_cons (pv 0) (pa_cons pe_int pa_nil))) pe_int) pa_nil)) (pg_name (i := 3) sc__law_drawn.nd rfl (.inl rfl))
      (pss_cons (ps_set (i := 4) sc__law_drawn.nd rfl (.inl rfl) (pe_k0 c__law_near hr (by decide) (by rfl) (pa_cons (pe_ix ix_tup (pv 1) pe_int (fun _ _ => rfl)) (pa_cons (pv 2) (pa_cons (pe_op op_mod (pe_k0 c__law_cell_at hr (by decide) (by rfl) (pa_cons (pv 0) (pa_cons (pe_op op_add pe_int (pv 3)) pa_nil))) (pe_callB call_lenS (by rfl) B.len boot_len (pa_cons (pv 2) pa_nil))) pa_nil)))))
      (pss_one (ps_if (pt_cmpR op_gt (pe_callB (cr_sum rfl) (by rfl) B.sum boot_sum (pa_cons (pv 4) pa_nil)) (pe_callB (cr_sum rfl) (by rfl) B.sum boot_sum (pa_cons (pv 2) pa_nil)) (nomark _)) (pss_one (ps_set (i := 2) sc__law_drawn.nd rfl (.inl rfl) (pv 4))) pss_nil))))
      (pss_one (ps_ret (pe_tup (pa_cons (pe_ix ix_tup (pv 1) pe_int (fun _ _ => rfl)) (pa_cons (pv 2) pa_nil)))))))), ?_⟩
  have cell : ∀ (m : Nat) (i : Int) {σ : L2.St} {H' : Hp} {ti : TE}, i = (m : Int) → Ex T H H' → σ[0]? = some (some (.ref a)) → Ev T ti σ H' (.int i) → Ev T (tCall (sp__law_cell_at T K) [] E0 (tCons (tVar 0) (tCons ti tNil))) σ H' (.int (cs.getD m 0)) := fun m i σ H' ti hi e h0 hti =>
    ev_call (ea_cons (ev_var h0) (ea_cons (hi ▸ hti) ea_nil)) fun H1 e1 Q q => ⟨(a, cs, m), rfl, (e.trans e1).sq hS, q⟩
  obtain ⟨q, hq, hqm⟩ := roots9_at (cs.getD 0 0)
  have hD := roots9_dr q hqm
  refine q_asgR (T := T) (R := fun _ v H' => PairAt H' v q) (er_call (ea_cons (cell 0 0 rfl .refl rfl ev_c) ea_nil) (fun H1 e1 Q' k' => ⟨cs.getD 0 0, rfl, fun q' hq' v H' e' hp => k' v H' e' (by rw [hq] at hq'; cases hq'; exact hp)⟩) fun _ _ _ _ _ h => h) fun v H1 e1 r1 => ?_
  obtain ⟨pr, rr, rfl, hpr, hrr⟩ := r1
  refine q_asgL (T := T) (xs := vz q.2) (el_list (ev_ixT (ev_var rfl) ev_c (.inl (.inl hpr)) (atI_nat (j := 1) rfl)) (SqL.of hrr)) fun o H2 ho e2 h2 => ?_
  obtain ⟨m7, hm7, em7⟩ := emod_nat (cs.getD 1 0) (n := 7) (by decide)
  refine q_forR1 (T := T) (m := (m7 : Int)) (ea_cons ((ev_I (cell 1 1 rfl (e1.trans e2) rfl ev_c) ev_c (by show (0 : Int) < 7; decide)).is (by rw [← em7]; rfl)) ea_nil) (by omega) (by omega)
    (fun i σ H' => ∃ r ns y z, σ = [some (.ref a), some (.ref pr), some (.ref r), y, z] ∧ Ex T H H' ∧ H r = none ∧ H' r = some (.lst (vz ns)) ∧ Dr i q.1 ns ∧ H' pr = some (.tup [.int q.1, .ref rr]))
    (fun H3 e3 => ⟨o, q.2, none, none, rfl, (e1.trans e2).trans e3, e1.n o ho, e3.lst h2, hD, (e2.trans e3).tup hpr⟩) ?_ ?_
  · rintro i σ H' hi ⟨r, ns, y, z, rfl, e, hr0, hr, hd, hpr'⟩
    obtain ⟨m, hm, em⟩ := emod_nat (cs.getD (2 + i) 0) (n := ns.length) (by have := hd.len; omega)
    have hd' := hd.near hm
    have hW : Wd q.1 ns := (hd.mono (show i ≤ 6 by omega)).wd (by decide)
    refine q_asgL (T := T) (el_call (ea_cons (ev_ixT (ev_var rfl) ev_c (.inl (.inl hpr')) (atI_nat (j := 0) rfl)) (ea_cons (ev_var rfl) (ea_cons ((ev_I (cell (2 + i) (2 + (i : Int)) (by omega) e rfl (ev_I0 ev_c (ev_var rfl))) ((ev_len (ev_var rfl) (SqL.of hr)).is (by rw [List.length_map])) (by have := hd.len; show (0 : Int) < (ns.length : Int); omega)).is (by rw [← em])) ea_nil)))
      fun H1 e1 Q' k' => ⟨(q.1, r, ns, m), rfl, e1.sq (SqL.of hr), hW, hm, k'⟩) fun o2 H3 ho2 e3 h3 => ?_
    have hr3 := e3.lst hr
    refine s_when (T := T) (et_test (ev_I0 (ev_sum (ev_var rfl) (SqL.of h3)) (ev_sum (ev_var rfl) (SqL.of hr3)))) (fun hb H4 e4 => ?_) (fun hb H4 e4 => ?_)
    · exact s_asg (T := T) (ev_var rfl) fun H5 e5 => ⟨o2, _, _, _, rfl, ((e.trans e3).trans e4).trans e5, e.n o2 ho2, (e4.trans e5).lst h3, hd', ((e3.trans e4).trans e5).tup hpr'⟩
    · exact ⟨r, ns, _, _, rfl, (e.trans e3).trans e4, hr0, e4.lst hr3, hd.mono (Nat.le_succ _), (e3.trans e4).tup hpr'⟩
  · rintro σ H' ⟨r, ns, y, z, rfl, e, hr0, hr, hd, hpr'⟩
    have hm6 : (m7 : Int).toNat ≤ 6 := by omega
    exact s_retU (T := T) (eu_tup (ea_cons (ev_ixT (ev_var rfl) ev_c (.inl (.inl hpr')) (atI_nat (j := 0) rfl)) (ea_cons (ev_var rfl) ea_nil)) (show 2 ≤ 1000 by decide)) fun p H3 hp e3 h3 => k q.1 ns p r H3 (hd.mono hm6) (e.trans e3) (e.n p hp) hr0 h3 (e3.lst hr)

/-! ### _law_odd -/
/-- the odd words -/
def oddL : List Str := [Str.ofString "", Str.ofString "0", Str.ofString "01", Str.ofString "+1", Str.ofString "-1", Str.ofString "1_0", Str.ofString "x", Str.ofString "X", Str.ofString "1.", Str.ofString "a", Str.ofString "1x", Str.ofString "\t1", Str.ofString "1\n", Str.ofString "2", Str.ofString "1", Str.ofString "7", Str.ofString "1000", Str.ofString "1001"] ++ [Str.ofString "999", timesS 400 (Str.ofString "9"), timesS 401 (Str.ofString "9")]
theorem ev_repS {T : Tb} {σ : L2.St} {H : Hp} {ta tb : TE} {c : Str} {n : Nat} (ha : Ev T ta σ H (.str c)) (hb : Ev T tb σ H (.int (n : Int))) (hn : 2 ≤ n ∧ n ≤ 1000) (hc : 1 ≤ c.length ∧ c.length ≤ 10) : Ev T (tOp rRepS ta tb) σ H (.str (timesS n c)) := fun H1 e Q q =>
  ha H1 e _ fun H2 e2 => hb H2 (e.trans e2) _ fun H3 e3 => ⟨c, n, rfl, rfl, hn, hc, q H3 (e2.trans e3)⟩
def sp__law_odd (T : Tb) (K : PySem.W.Frag) : Sp := spM (α := Int) (fun q => [.int q]) fun c H Q _ => ∀ u, oddL[(c % 21).toNat]? = some u → ∀ H', Ex T H H' → Q (.str u) H'
theorem ok__law_odd {P : Program} {w : World} {K : PySem.W.Frag} {mg : Str → Option Value} {base : Heap} {T : Tb} (B : Bi mg) {tF : Tok} (g_FIGURES : mg "FIGURES" = some (.str (Str.ofString "0123456789") tF)) {Z : Ze} (Z_RowError : Xc K mg "RowError" Z.row Z.row) (Z_NoRow : Xc K mg "NoRow" Z.noRow Z.row) (Z_NoPlace : Xc K mg "NoPlace" Z.noPlace Z.row) (Z_NoSuch : Xc K mg "NoSuch" Z.noSuch Z.row) (Z_BadText : Xc K mg "BadText" Z.badText Z.row) (kk_noRow_noRow : PySem.W.kitOne K (.ref Z.noRow) (.ref Z.noRow) = some true) (kk_noRow_noPlace : PySem.W.kitOne K (.ref Z.noRow) (.ref Z.noPlace) = some false) (kk_noRow_noSuch : PySem.W.kitOne K (.ref Z.noRow) (.ref Z.noSuch) = some false) (kk_noRow_badText : PySem.W.kitOne K (.ref Z.noRow) (.ref Z.badText) = some false) (kk_noRow_VE : PySem.W.kitOne K (.ref Z.noRow) (.type "ValueError") = some true) (kk_noPlace_noRow : PySem.W.kitOne K (.ref Z.noPlace) (.ref Z.noRow) = some false) (kk_noPlace_noPlace : PySem.W.kitOne K (.ref Z.noPlace) (.ref Z.noPlace) = some true) (kk_noPlace_noSuch : PySem.W.kitOne K (.ref Z.noPlace) (.ref Z.noSuch) = some false) (kk_noPlace_badText : PySem.W.kitOne K (.ref Z.noPlace) (.ref Z.badText) = some false) (kk_noPlace_VE : PySem.W.kitOne K (.ref Z.noPlace) (.type "ValueError") = some true) (kk_noSuch_noRow : PySem.W.kitOne K (.ref Z.noSuch) (.ref Z.noRow) = some false) (kk_noSuch_noPlace : PySem.W.kitOne K (.ref Z.noSuch) (.ref Z.noPlace) = some false) (kk_noSuch_noSuch : PySem.W.kitOne K (.ref Z.noSuch) (.ref Z.noSuch) = some true) (kk_noSuch_badText : PySem.W.kitOne K (.ref Z.noSuch) (.ref Z.badText) = some false) (kk_noSuch_VE : PySem.W.kitOne K (.ref Z.noSuch) (.type "ValueError") = some true) (kk_badText_noRow : PySem.W.kitOne K (.ref Z.badText) (.ref Z.noRow) = some false) (kk_badText_noPlace : PySem.W.kitOne K (.ref Z.badText) (.ref Z.noPlace) = some false) (kk_badText_noSuch : PySem.W.kitOne K (.ref Z.badText) (.ref Z.noSuch) = some false) (kk_badText_badText : PySem.W.kitOne K (.ref Z.badText) (.ref Z.badText) = some true) (kk_badText_VE : PySem.W.kitOne K (.ref Z.badText) (.type "ValueError") = some true)  (D : Df K mg "_law_odd" s__law_odd ["cell"]) : Ca CX0 P w K mg base 1 "_law_odd" (sp__law_odd T K) := by
  refine D.ca0 sc__law_odd (fun vs H Q E ⟨q, e, _⟩ => by rw [e]; rfl) (fun cdv A outer s H vs Q E f hr h => ?_)
  obtain ⟨c, hv, h⟩ := h
  dsimp only at hv h
  subst hv
  have h1 := Int.emod_nonneg c (by decide : (21 : Int) ≠ 0)
  have h2 := Int.emod_lt_of_pos c (by decide : (0 : Int) < 21)
  have h3 : (c % 21).toNat < oddL.length := by show (c % 21).toNat < 21; omega
  have hu : oddL[(c % 21).toNat]? = some oddL[(c % 21).toNat] := List.getElem?_eq_getElem h3
  generalize oddL[(c % 21).toNat] = u at hu
  have k := h u hu
  refine ⟨_, (pss_cons (ps_set (i := 1) sc__law_odd.nd rfl (.inl rfl) (pe_lst (pa_cons pe_str (pa_cons pe_str (pa_cons pe_str (pa_cons pe_str (pa_cons pe_str (pa_cons pe_str (pa_cons pe_str (pa_cons pe_str (pa_cons pe_str (pa_cons pe_str (pa_cons pe_str (pa_cons pe_str (pa_cons pe_str (pa_cons pe_str (pa_cons pe_str (pa_cons pe_str (pa_cons pe_str (pa_cons pe_str pa_nil))))))))))))))))))))
      (pss_cons (ps_set (i := 1) sc__law_odd.nd rfl (.inl rfl) (pe_op op_cat (pv 1) (pe_lst (pa_cons pe_str (pa_cons (pe_op op_repS pe_str pe_int) (pa_cons (pe_op op_repS pe_str pe_int) pa_nil))))))
      (pss_one (ps_ret (pe_ix ix_list (pv 1) (pe_op op_mod (pv 0) pe_int) (fun _ _ => rfl)))))), ?_⟩
  refine q_asgL (T := T) (xs := vs (oddL.take 18)) (el_lst ?a1 (show 18 ≤ 1000 by decide)) fun o H1 ho e1 h1' => ?_
  case a1 => walk_at "ev"
  refine q_asgL (T := T) (xs := vs oddL) (el_catN (xs := vs (oddL.take 18)) (ys := vs (oddL.drop 18)) (ev_var rfl) h1' (el_lst (ea_cons ev_c (ea_cons (ev_repS (n := 400) ev_c ev_c (by decide) (by decide)) (ea_cons (ev_repS (n := 401) ev_c ev_c (by decide) (by decide)) ea_nil))) (show 3 ≤ 1000 by decide)) (show 21 ≤ 1000 by decide)) fun o2 H2 ho2 e2 h2' => ?_
  exact s_ret (T := T) (ev_ixW (m := (c % 21).toNat) (ev_var rfl) (ev_I (ev_var rfl) ev_c (by show (0 : Int) < 21; decide)) (SqL.of h2') (by show c % 21 = ((c % 21).toNat : Int); omega) hu) fun H3 e3 => k H3 (e1.trans (e2.trans e3))

/-! ### _law_turned -/
def sp__law_turned (T : Tb) (K : PySem.W.Frag) : Sp := spM (α := Addr × List Str × Int) (fun q => [.ref q.1, .int q.2.2]) fun q H Q _ => H q.1 = some (.lst (vs q.2.1)) ∧ (1 ≤ q.2.1.length ∧ q.2.1.length ≤ 8) ∧ (∀ u ∈ q.2.1, u.length ≤ 401) ∧ ∀ ws p H', ws.length ≤ 9 → (∀ u ∈ ws, u.length ≤ 401) → Ex T H H' → H' p = some (.lst (vs ws)) → Q (.ref p) H'
theorem odd_len : ∀ u ∈ oddL, u.length ≤ 401 := by decide +kernel
theorem all_app {P : Str → Prop} {a b : List Str} (h1 : ∀ u ∈ a, P u) (h2 : ∀ u ∈ b, P u) : ∀ u ∈ a ++ b, P u := fun u hu => (List.mem_append.mp hu).elim (h1 u) (h2 u)
theorem all_one {P : Str → Prop} {w : Str} (h : P w) : ∀ u ∈ [w], P u := fun u hu => by
  rw [List.mem_singleton.mp hu]
  exact h
theorem ok__law_turned {P : Program} {w : World} {K : PySem.W.Frag} {mg : Str → Option Value} {base : Heap} {T : Tb} (B : Bi mg) {tF : Tok} (g_FIGURES : mg "FIGURES" = some (.str (Str.ofString "0123456789") tF)) {Z : Ze} (Z_RowError : Xc K mg "RowError" Z.row Z.row) (Z_NoRow : Xc K mg "NoRow" Z.noRow Z.row) (Z_NoPlace : Xc K mg "NoPlace" Z.noPlace Z.row) (Z_NoSuch : Xc K mg "NoSuch" Z.noSuch Z.row) (Z_BadText : Xc K mg "BadText" Z.badText Z.row) (kk_noRow_noRow : PySem.W.kitOne K (.ref Z.noRow) (.ref Z.noRow) = some true) (kk_noRow_noPlace : PySem.W.kitOne K (.ref Z.noRow) (.ref Z.noPlace) = some false) (kk_noRow_noSuch : PySem.W.kitOne K (.ref Z.noRow) (.ref Z.noSuch) = some false) (kk_noRow_badText : PySem.W.kitOne K (.ref Z.noRow) (.ref Z.badText) = some false) (kk_noRow_VE : PySem.W.kitOne K (.ref Z.noRow) (.type "ValueError") = some true) (kk_noPlace_noRow : PySem.W.kitOne K (.ref Z.noPlace) (.ref Z.noRow) = some false) (kk_noPlace_noPlace : PySem.W.kitOne K (.ref Z.noPlace) (.ref Z.noPlace) = some true) (kk_noPlace_noSuch : PySem.W.kitOne K (.ref Z.noPlace) (.ref Z.noSuch) = some false) (kk_noPlace_badText : PySem.W.kitOne K (.ref Z.noPlace) (.ref Z.badText) = some false) (kk_noPlace_VE : PySem.W.kitOne K (.ref Z.noPlace) (.type "ValueError") = some true) (kk_noSuch_noRow : PySem.W.kitOne K (.ref Z.noSuch) (.ref Z.noRow) = some false) (kk_noSuch_noPlace : PySem.W.kitOne K (.ref Z.noSuch) (.ref Z.noPlace) = some false) (kk_noSuch_noSuch : PySem.W.kitOne K (.ref Z.noSuch) (.ref Z.noSuch) = some true) (kk_noSuch_badText : PySem.W.kitOne K (.ref Z.noSuch) (.ref Z.badText) = some false) (kk_noSuch_VE : PySem.W.kitOne K (.ref Z.noSuch) (.type "ValueError") = some true) (kk_badText_noRow : PySem.W.kitOne K (.ref Z.badText) (.ref Z.noRow) = some false) (kk_badText_noPlace : PySem.W.kitOne K (.ref Z.badText) (.ref Z.noPlace) = some false) (kk_badText_noSuch : PySem.W.kitOne K (.ref Z.badText) (.ref Z.noSuch) = some false) (kk_badText_badText : PySem.W.kitOne K (.ref Z.badText) (.ref Z.badText) = some true) (kk_badText_VE : PySem.W.kitOne K (.ref Z.badText) (.type "ValueError") = some true) (c__law_odd : Ca CX0 P w K mg base 1 "_law_odd" (sp__law_odd T K)) (D : Df K mg "_law_turned" s__law_turned ["words", "cell"]) : Ca CX0 P w K mg base 2 "_law_turned" (sp__law_turned T K) := by
  refine D.ca0 sc__law_turned (fun vs H Q E ⟨q, e, _⟩ => by rw [e]; rfl) (fun cdv A outer s H vs Q E f hr h => ?_)
  obtain ⟨⟨a, ws, c⟩, hv, h⟩ := h
  dsimp only at hv h
  subst hv
  obtain ⟨hS0, hl, hw, k⟩ := h
  have hS := SqL.of (K := K) hS0
  refine ⟨_, (pss_cons (ps_set (i := 2) sc__law_turned.nd rfl (.inl rfl) (pe_op op_mod (pv 1) (pe_callB call_lenS (by rfl) B.len boot_len (pa_cons (pv 0) pa_nil))))
      (pss_cons (ps_set (i := 3) sc__law_turned.nd rfl (.inl rfl) (pe_k0 c__law_odd hr (by decide) (by rfl) (pa_cons (pe_op op_fdiv (pv 1) pe_int) pa_nil)))
      (pss_cons (ps_set (i := 4) sc__law_turned.nd rfl (.inl rfl) (pe_op op_mod (pe_op op_fdiv (pv 1) pe_int) pe_int))
      (pss_cons (ps_if (pt_cmpR op_eq (pv 4) pe_int (nomark _)) (pss_one (ps_ret (pe_op op_cat (pe_op op_cat (pe_slice sl_list (pv 0) po_none (po_some (pv 2))) (pe_lst (pa_cons (pv 3) pa_nil))) (pe_slice sl_list (pv 0) (po_some (pe_op op_add (pv 2) pe_int)) po_none)))) pss_nil)
      (pss_cons (ps_if (pt_cmpR op_eq (pv 4) pe_int (nomark _)) (pss_one (ps_ret (pe_op op_cat (pe_op op_cat (pe_slice sl_list (pv 0) po_none (po_some (pv 2))) (pe_lst (pa_cons (pv 3) pa_nil))) (pe_slice sl_list (pv 0) (po_some (pv 2)) po_none)))) pss_nil)
      (pss_cons (ps_if (pt_cmpR op_eq (pv 4) pe_int (nomark _)) (pss_one (ps_ret (pe_op op_cat (pe_slice sl_list (pv 0) po_none (po_some (pv 2))) (pe_slice sl_list (pv 0) (po_some (pe_op op_add (pv 2) pe_int)) po_none)))) pss_nil)
      (pss_cons (ps_if (pt_cmpR op_eq (pv 4) pe_int (nomark _)) (pss_one (ps_ret (pe_op op_cat (pe_lst (pa_cons (pv 3) pa_nil)) (pe_slice sl_list (pv 0) (po_some pe_int) po_none)))) pss_nil)
      (pss_one (ps_ret (pv 0)))))))))), ?_⟩
  obtain ⟨m, hm, em⟩ := emod_nat c (n := ws.length) (by omega)
  refine q_asg (T := T) (v := .int (m : Int)) (Ev.as (v := .int (c % (ws.length : Int))) (congrArg V.int em) (ev_I (ev_var rfl) ((ev_len (ev_var rfl) hS).is (by rw [List.length_map])) (show (0 : Int) < (ws.length : Int) by omega))) fun H1 e1 => ?_
  have ho1 := Int.emod_nonneg (c / 8) (by decide : (21 : Int) ≠ 0)
  have ho2 := Int.emod_lt_of_pos (c / 8) (by decide : (0 : Int) < 21)
  obtain ⟨n, hn⟩ : ∃ n, n = (c / 8 % 21).toNat := ⟨_, rfl⟩
  have ho3 : n < oddL.length := by show n < 21; omega
  have hou : oddL[n]? = some oddL[n] := List.getElem?_eq_getElem ho3
  have hol := odd_len _ (List.getElem_mem ho3)
  generalize oddL[n] = u at hou hol
  refine q_asg (T := T) (v := .str u) (ev_call (ea_cons (ev_I (ev_var rfl) ev_c ⟨by decide, by decide⟩) ea_nil) fun H2 e2 Q' q => ⟨c / 8, rfl, fun u' hu' => ?_⟩) fun H2 e2 => ?_
  · have hu2 : oddL[(c / 8 % 21).toNat]? = some u' := hu'
    rw [← hn, hou] at hu2
    rw [← Option.some.inj hu2]
    exact q
  refine q_asg (T := T) (v := .int (c / 168 % 5)) (ev_I (ev_I (ev_var rfl) ev_c ⟨by decide, by decide⟩) ev_c (show (0 : Int) < 5 by decide)) fun H3 e3 => ?_
  have E := e1.trans (e2.trans e3)
  have hmt : ∀ x ∈ ws.take m, x.length ≤ 401 := fun x hx => hw x (List.mem_of_mem_take hx)
  have hmd : ∀ j, ∀ x ∈ ws.drop j, x.length ≤ 401 := fun j x hx => hw x (List.mem_of_mem_drop hx)
  refine q_when (T := T) (et_test (ev_eqI (ev_var rfl) ev_c)) (fun hb H4 e4 => ?_) (fun hb H4 e4 => ?_)
  · have hS4 := (E.trans e4).sq hS
    exact s_retL (T := T) (xs := vs (ws.take m ++ [u] ++ ws.drop (m + 1))) ((el_catNN (el_catNN (el_toW (m := m) (ev_var rfl) (ev_var rfl) hS4 rfl (by omega)) (el_lst (ea_cons (ev_var rfl) ea_nil) (show 1 ≤ 1000 by decide)) (by simp only [List.length_map, List.length_take, List.length_cons, List.length_nil]; omega)) (el_fromW (m := m + 1) (ev_var rfl) (ev_I0 (ev_var rfl) ev_c) hS4 (by show (m : Int) + 1 = ((m + 1 : Nat) : Int); omega) (by omega)) (by simp only [List.length_map, List.length_take, List.length_drop, List.length_append, List.length_cons, List.length_nil]; omega)).is (by simp)) fun p H5 hp e5 h5 =>
      k _ p H5 (by simp only [List.length_take, List.length_drop, List.length_append, List.length_cons, List.length_nil]; omega) (all_app (all_app hmt (all_one hol)) (hmd _)) (E.trans (e4.trans e5)) h5
  have E4 := E.trans e4
  refine q_when (T := T) (et_test (ev_eqI (ev_var rfl) ev_c)) (fun hb H5 e5 => ?_) (fun hb H5 e5 => ?_)
  · have hS5 := (E4.trans e5).sq hS
    exact s_retL (T := T) (xs := vs (ws.take m ++ [u] ++ ws.drop m)) ((el_catNN (el_catNN (el_toW (m := m) (ev_var rfl) (ev_var rfl) hS5 rfl (by omega)) (el_lst (ea_cons (ev_var rfl) ea_nil) (show 1 ≤ 1000 by decide)) (by simp only [List.length_map, List.length_take, List.length_cons, List.length_nil]; omega)) (el_fromW (m := m) (ev_var rfl) (ev_var rfl) hS5 rfl (by omega)) (by simp only [List.length_map, List.length_take, List.length_drop, List.length_append, List.length_cons, List.length_nil]; omega)).is (by simp)) fun p H6 hp e6 h6 =>
      k _ p H6 (by simp only [List.length_take, List.length_drop, List.length_append, List.length_cons, List.length_nil]; omega) (all_app (all_app hmt (all_one hol)) (hmd _)) (E4.trans (e5.trans e6)) h6
  have E5 := E4.trans e5
  refine q_when (T := T) (et_test (ev_eqI (ev_var rfl) ev_c)) (fun hb H6 e6 => ?_) (fun hb H6 e6 => ?_)
  · have hS6 := (E5.trans e6).sq hS
    exact s_retL (T := T) (xs := vs (ws.take m ++ ws.drop (m + 1))) ((el_catNN (el_toW (m := m) (ev_var rfl) (ev_var rfl) hS6 rfl (by omega)) (el_fromW (m := m + 1) (ev_var rfl) (ev_I0 (ev_var rfl) ev_c) hS6 (by show (m : Int) + 1 = ((m + 1 : Nat) : Int); omega) (by omega)) (by simp only [List.length_map, List.length_take, List.length_drop]; omega)).is (by simp)) fun p H7 hp e7 h7 =>
      k _ p H7 (by simp only [List.length_take, List.length_drop, List.length_append]; omega) (all_app hmt (hmd _)) (E5.trans (e6.trans e7)) h7
  have E6 := E5.trans e6
  refine q_when (T := T) (et_test (ev_eqI (ev_var rfl) ev_c)) (fun hb H7 e7 => ?_) (fun hb H7 e7 => ?_)
  · have hS7 := (E6.trans e7).sq hS
    exact s_retL (T := T) (xs := vs ([u] ++ ws.drop 1)) ((el_catNN (el_lst (ea_cons (ev_var rfl) ea_nil) (show 1 ≤ 1000 by decide)) (el_fromW (m := 1) (ev_var rfl) ev_c hS7 rfl (by omega)) (by simp only [List.length_map, List.length_drop, List.length_cons, List.length_nil]; omega)).is (by simp)) fun p H8 hp e8 h8 =>
      k _ p H8 (by simp only [List.length_drop, List.length_append, List.length_cons, List.length_nil]; omega) (all_app (all_one hol) (hmd _)) (E6.trans (e7.trans e8)) h8
  exact s_ret (T := T) (ev_var rfl) fun H8 e8 => k ws a H8 (by omega) hw (E6.trans (e7.trans e8)) ((E6.trans (e7.trans e8)).lst hS0)

/-! ### _law_number -/
def numZ (w : Str) : Int := if GoodW w then wval w else 0
def sp__law_number (T : Tb) (K : PySem.W.Frag) : Sp := spM (α := Str) (fun w => [.str w]) fun w H Q _ => w.length ≤ 16000 ∧ ∀ H', Ex T H H' → Q (.int (numZ w)) H'
theorem ok__law_number {P : Program} {w : World} {K : PySem.W.Frag} {mg : Str → Option Value} {base : Heap} {T : Tb} (B : Bi mg) {tF : Tok} (g_FIGURES : mg "FIGURES" = some (.str (Str.ofString "0123456789") tF)) {Z : Ze} (Z_RowError : Xc K mg "RowError" Z.row Z.row) (Z_NoRow : Xc K mg "NoRow" Z.noRow Z.row) (Z_NoPlace : Xc K mg "NoPlace" Z.noPlace Z.row) (Z_NoSuch : Xc K mg "NoSuch" Z.noSuch Z.row) (Z_BadText : Xc K mg "BadText" Z.badText Z.row) (kk_noRow_noRow : PySem.W.kitOne K (.ref Z.noRow) (.ref Z.noRow) = some true) (kk_noRow_noPlace : PySem.W.kitOne K (.ref Z.noRow) (.ref Z.noPlace) = some false) (kk_noRow_noSuch : PySem.W.kitOne K (.ref Z.noRow) (.ref Z.noSuch) = some false) (kk_noRow_badText : PySem.W.kitOne K (.ref Z.noRow) (.ref Z.badText) = some false) (kk_noRow_VE : PySem.W.kitOne K (.ref Z.noRow) (.type "ValueError") = some true) (kk_noPlace_noRow : PySem.W.kitOne K (.ref Z.noPlace) (.ref Z.noRow) = some false) (kk_noPlace_noPlace : PySem.W.kitOne K (.ref Z.noPlace) (.ref Z.noPlace) = some true) (kk_noPlace_noSuch : PySem.W.kitOne K (.ref Z.noPlace) (.ref Z.noSuch) = some false) (kk_noPlace_badText : PySem.W.kitOne K (.ref Z.noPlace) (.ref Z.badText) = some false) (kk_noPlace_VE : PySem.W.kitOne K (.ref Z.noPlace) (.type "ValueError") = some true) (kk_noSuch_noRow : PySem.W.kitOne K (.ref Z.noSuch) (.ref Z.noRow) = some false) (kk_noSuch_noPlace : PySem.W.kitOne K (.ref Z.noSuch) (.ref Z.noPlace) = some false) (kk_noSuch_noSuch : PySem.W.kitOne K (.ref Z.noSuch) (.ref Z.noSuch) = some true) (kk_noSuch_badText : PySem.W.kitOne K (.ref Z.noSuch) (.ref Z.badText) = some false) (kk_noSuch_VE : PySem.W.kitOne K (.ref Z.noSuch) (.type "ValueError") = some true) (kk_badText_noRow : PySem.W.kitOne K (.ref Z.badText) (.ref Z.noRow) = some false) (kk_badText_noPlace : PySem.W.kitOne K (.ref Z.badText) (.ref Z.noPlace) = some false) (kk_badText_noSuch : PySem.W.kitOne K (.ref Z.badText) (.ref Z.noSuch) = some false) (kk_badText_badText : PySem.W.kitOne K (.ref Z.badText) (.ref Z.badText) = some true) (kk_badText_VE : PySem.W.kitOne K (.ref Z.badText) (.type "ValueError") = some true)  (D : Df K mg "_law_number" s__law_number ["word"]) : Ca CX0 P w K mg base 1 "_law_number" (sp__law_number T K) := by
  refine D.ca0 sc__law_number (fun vs H Q E ⟨q, e, _⟩ => by rw [e]; rfl) (fun cdv A outer s H vs Q E f hr h => ?_)
  obtain ⟨w, hv, h⟩ := h
  dsimp only at hv h
  subst hv
  obtain ⟨hlen, k0⟩ := h
  have k : GoodW w → ∀ H', Ex T H H' → Q (.int (wval w)) H' := fun G H' e => by
    have q := k0 H' e
    unfold numZ at q
    rwa [if_pos G] at q
  have kx : ¬ GoodW w → ∀ H', Ex T H H' → Q (.int 0) H' := fun G H' e => by
    have q := k0 H' e
    unfold numZ at q
    rwa [if_neg G] at q
  have hsz : w.length ≤ sizeLine := Nat.le_trans hlen (by decide)
  refine ⟨_, (pss_cons (ps_if (PW.pt (pw_or (pt_cmpR op_eq (pv 0) pe_str (nomark _)) (pw_or (pt_cmpR op_gt (pe_callB call_len_str (by rfl) B.len boot_len (pa_cons (pv 0) pa_nil)) pe_int (nomark _)) (pw_or1 (pt_cmpR op_eq (pe_ix ix_str (pv 0) pe_int (fun _ _ => rfl)) pe_str (nomark _)))))) (pss_one (ps_ret pe_int)) pss_nil)
      (pss_cons (ps_for PassesOwn.never rfl (pi_str (pv 0)) (pg_name (i := 1) sc__law_number.nd rfl (.inl rfl))
      (pss_one (ps_if (pt_cmpR op_notIn_sign (pv 1) pe_str rfl) (pss_one (ps_ret pe_int)) pss_nil)))
      (pss_one (ps_ret (pe_callTy call_int_str (by rfl) B.int boot_int (pa_cons (pv 0) pa_nil)))))), ?_⟩
  cases hc : TL.tl w with
  | nil =>
    have he : w = Str.ofString "" := by
      obtain ⟨cps⟩ := w
      have h1 : cps.toList = [] := hc
      have h2 : cps = #[] := Array.toList_eq_nil_iff.mp h1
      rw [h2]
      rfl
    refine q_when (T := T) (b := true) ((et_or (b := true) (c := true) ((et_test (ev_eqS (ev_var rfl) ev_c)).is (by rw [he]; simp)) fun hb => (by cases hb)).is rfl) (fun hb H1 e1 => s_ret (T := T) ev_c fun H2 e2 => kx (fun G => G.ne hc) H2 (e1.trans e2)) (fun hb => by cases hb)
  | cons c r =>
    have hc0 : (TL.tl w)[0]? = some c := by rw [hc]; rfl
    refine q_when (T := T) (et_or (et_test (ev_eqS (ev_var rfl) ev_c)) fun _ => et_or (et_test (ev_I0 (ev_lenStr (ev_var rfl) hsz) ev_c)) fun _ => et_test (ev_eqS (ev_ixS (m := 0) (ev_var rfl) ev_c hsz rfl hc0) ev_c)) (fun hb H1 e1 => s_ret (T := T) ev_c fun H2 e2 => kx (fun G => ?_) H2 (e1.trans e2)) (fun hb H1 e1 => ?_)
    · rw [Bool.or_eq_true, Bool.or_eq_true] at hb
      rcases hb with hb | hb | hb
      · have := of_decide_eq_true hb
        rw [this] at hc
        cases hc
      · have h1 := of_decide_eq_true hb
        have h2 := G.len
        omega
      · have h1 := of_decide_eq_true hb
        have h2 := congrArg TL.tl h1
        have h3 : [c] = [48] := h2.trans (by decide +kernel)
        cases h3
        exact G.hd hc0
    rw [Bool.or_eq_false_iff, Bool.or_eq_false_iff] at hb
    have h400 : w.length ≤ 400 := by
      have h1 := of_decide_eq_false hb.2.1
      omega
    have h48 : c ≠ 48 := fun e => by
      have h1 := of_decide_eq_false hb.2.2
      rw [e] at h1
      exact h1 (by decide +kernel)
    refine q_forS (T := T) (ev_var rfl) (fun i σ H' => ∃ y, σ = [some (.str w), y] ∧ Ex T H H' ∧ ∀ d ∈ (TL.tl w).take i, 48 ≤ d ∧ d ≤ 57) (fun H2 e2 => ⟨none, rfl, e1.trans e2, fun d hd => by rw [List.take_zero] at hd; cases hd⟩) ?_ ?_
    · rintro i d σ H2 hd ⟨y, rfl, e, hall⟩
      refine s_when (T := T) (et_test (ev_notInS (z := Str.ofString "0123456789") (ev_var rfl) ev_c)) (fun hb H3 e3 => s_ret (T := T) ev_c fun H4 e4 => kx (fun G => ?_) H4 (e.trans (e3.trans e4))) (fun hb H3 e3 => ⟨_, rfl, e.trans e3, fun d' hd' => ?_⟩)
      · have hm := G.all d (List.mem_of_getElem? hd)
        rw [tl_figs, decide_eq_true (mem_figs.mpr hm)] at hb
        cases hb
      · rw [List.take_add_one, hd] at hd'
        rcases List.mem_append.mp hd' with h1 | h1
        · exact hall d' h1
        · have h2 : d' = d := by simpa using h1
          rw [tl_figs] at hb
          have h3 : d ∈ _ := of_decide_eq_true (by simpa using hb)
          rw [h2]
          exact mem_figs.mp h3
    · rintro σ H2 ⟨y, rfl, e, hall⟩
      have G : GoodW w := ⟨by rw [hc]; simp, h400, by rw [hc0]; intro z; exact h48 (Option.some.inj z), fun d hd => hall d (by rw [List.take_of_length_le (Nat.le_refl _)]; exact hd)⟩
      exact s_ret (T := T) (ev_int (ev_var rfl) G) fun H3 e3 => k G H3 (e.trans e3)

/-! ### _law_due -/
/-- the numbers that are due -/
def dueNs (ws : List Str) : List Int := (ws.take 1 ++ ws.drop 2).map wval
def sp__law_due (T : Tb) (K : PySem.W.Frag) : Sp := spM (α := Str) (fun w => [.str w]) fun w H Q _ => w.length ≤ 16000 ∧
  (¬ ReadB (Txt.split w (Str.ofString " ")) → ∀ H', Ex T H H' → Q .non H') ∧
  (ReadB (Txt.split w (Str.ofString " ")) → ∀ p H', Ex T H H' → H' p = some (.lst (vz (dueNs (Txt.split w (Str.ofString " "))))) → Q (.ref p) H')
theorem numZ_good {u : Str} (h : GoodW u) : numZ u = wval u := if_pos h
theorem numZ_bad {u : Str} (h : ¬ GoodW u) : numZ u = 0 := if_neg h
theorem ok__law_due {P : Program} {w : World} {K : PySem.W.Frag} {mg : Str → Option Value} {base : Heap} {T : Tb} (B : Bi mg) {tF : Tok} (g_FIGURES : mg "FIGURES" = some (.str (Str.ofString "0123456789") tF)) {Z : Ze} (Z_RowError : Xc K mg "RowError" Z.row Z.row) (Z_NoRow : Xc K mg "NoRow" Z.noRow Z.row) (Z_NoPlace : Xc K mg "NoPlace" Z.noPlace Z.row) (Z_NoSuch : Xc K mg "NoSuch" Z.noSuch Z.row) (Z_BadText : Xc K mg "BadText" Z.badText Z.row) (kk_noRow_noRow : PySem.W.kitOne K (.ref Z.noRow) (.ref Z.noRow) = some true) (kk_noRow_noPlace : PySem.W.kitOne K (.ref Z.noRow) (.ref Z.noPlace) = some false) (kk_noRow_noSuch : PySem.W.kitOne K (.ref Z.noRow) (.ref Z.noSuch) = some false) (kk_noRow_badText : PySem.W.kitOne K (.ref Z.noRow) (.ref Z.badText) = some false) (kk_noRow_VE : PySem.W.kitOne K (.ref Z.noRow) (.type "ValueError") = some true) (kk_noPlace_noRow : PySem.W.kitOne K (.ref Z.noPlace) (.ref Z.noRow) = some false) (kk_noPlace_noPlace : PySem.W.kitOne K (.ref Z.noPlace) (.ref Z.noPlace) = some true) (kk_noPlace_noSuch : PySem.W.kitOne K (.ref Z.noPlace) (.ref Z.noSuch) = some false) (kk_noPlace_badText : PySem.W.kitOne K (.ref Z.noPlace) (.ref Z.badText) = some false) (kk_noPlace_VE : PySem.W.kitOne K (.ref Z.noPlace) (.type "ValueError") = some true) (kk_noSuch_noRow : PySem.W.kitOne K (.ref Z.noSuch) (.ref Z.noRow) = some false) (kk_noSuch_noPlace : PySem.W.kitOne K (.ref Z.noSuch) (.ref Z.noPlace) = some false) (kk_noSuch_noSuch : PySem.W.kitOne K (.ref Z.noSuch) (.ref Z.noSuch) = some true) (kk_noSuch_badText : PySem.W.kitOne K (.ref Z.noSuch) (.ref Z.badText) = some false) (kk_noSuch_VE : PySem.W.kitOne K (.ref Z.noSuch) (.type "ValueError") = some true) (kk_badText_noRow : PySem.W.kitOne K (.ref Z.badText) (.ref Z.noRow) = some false) (kk_badText_noPlace : PySem.W.kitOne K (.ref Z.badText) (.ref Z.noPlace) = some false) (kk_badText_noSuch : PySem.W.kitOne K (.ref Z.badText) (.ref Z.noSuch) = some false) (kk_badText_badText : PySem.W.kitOne K (.ref Z.badText) (.ref Z.badText) = some true) (kk_badText_VE : PySem.W.kitOne K (.ref Z.badText) (.type "ValueError") = some true) (c__law_number : Ca CX0 P w K mg base 1 "_law_number" (sp__law_number T K)) (D : Df K mg "_law_due" s__law_due ["text"]) : Ca CX0 P w K mg base 2 "_law_due" (sp__law_due T K) := by
  refine D.ca0 sc__law_due (fun vs H Q E ⟨q, e, _⟩ => by rw [e]; rfl) (fun cdv A outer s H vs Q E f hr h => ?_)
  obtain ⟨w, hv, h⟩ := h
  dsimp only at hv h
  subst hv
  obtain ⟨hsz, kb, k⟩ := h
  obtain ⟨ws, hws⟩ : ∃ ws, ws = Txt.split w (Str.ofString " ") := ⟨_, rfl⟩
  have hwl : ∀ u ∈ ws, u.length ≤ 16000 := fun u hu => Nat.le_trans (split_le (by rw [hws] at hu; exact hu)) hsz
  rw [← hws] at kb k
  refine ⟨_, (pss_cons (ps_set (i := 1) sc__law_due.nd rfl (.inl rfl) (pe_split (pv 0) pe_str))
      (pss_cons (ps_if (PW.pt (pw_or (pt_not (pt_chain op_le op_le pe_int (pe_callB call_lenS (by rfl) B.len boot_len (pa_cons (pv 1) pa_nil)) pe_int)) (pw_or1 (pt_cmpR op_ne (pe_ix ix_list (pv 1) pe_int (fun _ _ => rfl)) pe_str (nomark _))))) (pss_one (ps_ret pe_non)) pss_nil)
      (pss_cons (ps_setLc (i := 2) (own := [("word", 3)]) (g := gName 3) (tt := tYes) rfl sc__law_due.nd rfl rfl (sw_true rfl rfl rfl (by decide +kernel)) (pi_list (pe_op op_cat (pe_slice sl_list (pv 1) po_none (po_some pe_int)) (pe_slice sl_list (pv 1) (po_some pe_int) po_none))) (blkOk_by (N := ["text", "words", "numbers", "word"]) (sc := defScope s__law_due) (by decide +kernel)) (fun _ _ _ _ _ => pg_name (i := 3) sc__law_due.nd rfl (Or.inl rfl)) (fun _ _ _ _ _ => by exact pts_nil) (fun _ _ _ _ _ => by exact (pe_k0 c__law_number hr (by decide) (by rfl) (pa_cons (pv 3) pa_nil))))
      (pss_cons (ps_if (PW.pt (pw_or (pt_cmpR op_in_seq pe_int (pv 2) (by rfl)) (pw_or1 (pt_cmpR op_gt (pe_ix ix_list (pv 2) pe_int (fun _ _ => rfl)) pe_int (nomark _))))) (pss_one (ps_ret pe_non)) pss_nil)
      (pss_one (ps_ret (pv 2))))))), ?_⟩
  refine q_asgL (T := T) (xs := vs ws) ((el_split (ev_var rfl) ev_c (by decide +kernel) (Nat.le_trans (Nat.add_le_add_right hsz 2) (by decide))).is (by rw [hws])) fun o H1 ho e1 h1 => ?_
  have hS1 := SqL.of (K := K) h1
  by_cases hform : (5 ≤ ws.length ∧ ws.length ≤ 8) ∧ ws[1]? = some (Str.ofString "x")
  case neg =>
    by_cases h58 : 5 ≤ ws.length ∧ ws.length ≤ 8
    · have hx : ws[1]? = some ws[1] := List.getElem?_eq_getElem (by omega)
      have hne : ws[1] ≠ Str.ofString "x" := fun z => hform ⟨h58, by rw [hx, z]⟩
      exact q_when (T := T) (b := true) ((et_or (b := false) (c := true) ((et_not (et_test (ev_chain (b := true) (c := true) ev_c ((ev_len (ev_var rfl) hS1).is (by rw [List.length_map])) ev_c (congrArg V.bl (decide_eq_true (show (5 : Int) ≤ ((ws.length : Nat) : Int) by omega))) (congrArg V.bl (decide_eq_true (show ((ws.length : Nat) : Int) ≤ 8 by omega)))))).is rfl) fun _ => (et_test (ev_neS (ev_ixW (m := 1) (ev_var rfl) ev_c hS1 rfl hx) ev_c)).is (by simp [hne])).is rfl) (fun hb H2 e2 => s_ret (T := T) ev_c fun H3 e3 => kb (fun R => hform ⟨R.1, R.2.1⟩) H3 (e1.trans (e2.trans e3))) (fun hb => by cases hb)
    · exact q_when (T := T) (b := true) ((et_or (b := true) (c := true) ((et_not (et_test (ev_chain (b := decide ((5 : Int) ≤ ((ws.length : Nat) : Int))) (c := decide (((ws.length : Nat) : Int) ≤ 8)) ev_c ((ev_len (ev_var rfl) hS1).is (by rw [List.length_map])) ev_c rfl rfl))).is (by
        rw [Bool.not_eq_true', Bool.and_eq_false_iff, decide_eq_false_iff_not, decide_eq_false_iff_not]
        omega)) fun hb => (by cases hb)).is rfl) (fun hb H2 e2 => s_ret (T := T) ev_c fun H3 e3 => kb (fun R => h58 R.1) H3 (e1.trans (e2.trans e3))) (fun hb => by cases hb)
  case pos =>
    obtain ⟨h58, hx⟩ := hform
    refine q_when (T := T) (b := false) ((et_or (b := false) (c := false) ((et_not (et_test (ev_chain (b := true) (c := true) ev_c ((ev_len (ev_var rfl) hS1).is (by rw [List.length_map])) ev_c (congrArg V.bl (decide_eq_true (show (5 : Int) ≤ ((ws.length : Nat) : Int) by omega))) (congrArg V.bl (decide_eq_true (show ((ws.length : Nat) : Int) ≤ 8 by omega)))))).is rfl) fun _ => (et_test (ev_neS (ev_ixW (m := 1) (ev_var rfl) ev_c hS1 rfl hx) ev_c)).is (by simp)).is rfl) (fun hb => by cases hb) (fun hb H2 e2 => ?_)
    have hS2 := e2.sq hS1
    obtain ⟨us, hus⟩ : ∃ us, us = ws.take 1 ++ ws.drop 2 := ⟨_, rfl⟩
    have hul : us.length = ws.length - 1 := by
      rw [hus, List.length_append, List.length_take, List.length_drop]
      omega
    have huw : ∀ u ∈ us, u ∈ ws := fun u hu => by
      rw [hus] at hu
      exact (List.mem_append.mp hu).elim List.mem_of_mem_take List.mem_of_mem_drop
    have hu0 : us[0]? = some (ws.getD 0 Str.empty) := by
      rw [hus]
      cases hc : ws with
      | nil => rw [hc] at h58; exact absurd h58.1 (by decide)
      | cons v r => rfl
    refine q_asgL (T := T) (xs := vz (us.map numZ)) (el_mapN (xs := vs us) (ys := vz (us.map numZ)) ((el_catNN (el_toW (m := 1) (ev_var rfl) ev_c hS2 rfl (by omega)) (el_fromW (m := 2) (ev_var rfl) ev_c hS2 rfl (by omega)) (by simp only [List.length_map, List.length_take, List.length_drop]; omega)).is (by rw [hus, ← List.map_append])) (by rw [List.length_map]; omega) (by simp) (fun _ => rfl) fun i x y H3 e3 hx3 hy3 => ?_) fun r H3 hr3 e3 h3 => ?_
    · have hi : i < us.length := by
        have := (List.getElem?_eq_some_iff.mp hx3).1
        rwa [List.length_map] at this
      have hu : us[i]? = some us[i] := List.getElem?_eq_getElem hi
      generalize us[i] = u at hu
      have hx2 : x = .str u := by
        rw [List.getElem?_map, hu] at hx3
        exact (Option.some.inj hx3).symm
      have hy2 : y = .int (numZ u) := by
        rw [List.getElem?_map, List.getElem?_map, hu] at hy3
        exact (Option.some.inj hy3).symm
      rw [hx2, hy2]
      exact ev_call (ea_cons (ev_var rfl) ea_nil) fun H4 e4 Q' q => ⟨u, rfl, hwl u (huw u (List.mem_of_getElem? hu)), q⟩
    have hS3 := SqL.of (K := K) h3
    have g0 : (us.map numZ)[0]? = some (numZ (ws.getD 0 Str.empty)) := by rw [List.getElem?_map, hu0]; rfl
    have m0 := List.mem_of_getElem? hu0
    have E3 := e1.trans (e2.trans e3)
    refine q_when (T := T) (et_or (et_test (ev_inZ ev_c (ev_var rfl) hS3)) fun _ => et_test (ev_I0 (ev_ixI (m := 0) (ev_var rfl) ev_c hS3 rfl g0) ev_c)) (fun hb H4 e4 => s_ret (T := T) ev_c fun H5 e5 => kb (fun R => ?_) H5 (E3.trans (e4.trans e5))) (fun hb H4 e4 => ?_)
    · have hG : ∀ u ∈ us, GoodW u := by rw [hus]; exact R.2.2.1
      rw [Bool.or_eq_true] at hb
      rcases hb with hb | hb
      · obtain ⟨u, hu, h0⟩ := List.mem_map.mp (of_decide_eq_true hb)
        have h1 := (hG u hu).pos
        rw [numZ_good (hG u hu)] at h0
        omega
      · have h9 := of_decide_eq_true hb
        rw [numZ_good (hG _ m0)] at h9
        have := R.2.2.2
        omega
    · rw [Bool.or_eq_false_iff] at hb
      have n0 : (0 : Int) ∉ us.map numZ := of_decide_eq_false hb.1
      have hG : ∀ u ∈ us, GoodW u := fun u hu => Classical.byContradiction fun g => n0 (List.mem_map.mpr ⟨u, hu, numZ_bad g⟩)
      have hRB : ReadB ws := ⟨h58, hx, by rw [← hus]; exact hG, by
        have h9 := of_decide_eq_false hb.2
        rw [numZ_good (hG _ m0)] at h9
        omega⟩
      have hdue : us.map numZ = dueNs ws := by
        unfold dueNs
        rw [← hus]
        exact List.map_congr_left fun u hu => numZ_good (hG u hu)
      exact s_ret (T := T) (ev_var rfl) fun H5 e5 => k hRB r H5 (E3.trans (e4.trans e5)) (by rw [← hdue]; exact (e4.trans e5).lst h3)

/-! ### _law_tried -/
def sp__law_tried (T : Tb) (K : PySem.W.Frag) : Sp := spM (α := Str) (fun w => [.str w]) fun w H Q _ => w.length ≤ 16000 ∧
  (¬ ReadB (Txt.split w (Str.ofString " ")) → ∀ p l H', Ex T H H' → H' p = some (.tup [.non, .ref l]) → H' l = some (.lst (vb [true, false, false, false, true])) → Q (.ref p) H') ∧
  (ReadB (Txt.split w (Str.ofString " ")) → ¬ IsRow (wval ((Txt.split w (Str.ofString " ")).getD 0 Str.empty)) (((Txt.split w (Str.ofString " ")).drop 2).map wval) → ∀ p l H', Ex T H H' → H' p = some (.tup [.non, .ref l]) → H' l = some (.lst (vb [false, true, false, false, true])) → Q (.ref p) H') ∧
  (ReadB (Txt.split w (Str.ofString " ")) → IsRow (wval ((Txt.split w (Str.ofString " ")).getD 0 Str.empty)) (((Txt.split w (Str.ofString " ")).drop 2).map wval) → ∀ p o r l H', Ex T H H' → H' p = some (.tup [.ref o, .ref l]) → H' o = some (.tup [.int (wval ((Txt.split w (Str.ofString " ")).getD 0 Str.empty)), .ref r]) → H' r = some (.lst (vz (((Txt.split w (Str.ofString " ")).drop 2).map wval))) → H' l = some (.lst []) → Q (.ref p) H')
theorem ok__law_tried {P : Program} {w : World} {K : PySem.W.Frag} {mg : Str → Option Value} {base : Heap} {T : Tb} (B : Bi mg) {tF : Tok} (g_FIGURES : mg "FIGURES" = some (.str (Str.ofString "0123456789") tF)) {Z : Ze} (Z_RowError : Xc K mg "RowError" Z.row Z.row) (Z_NoRow : Xc K mg "NoRow" Z.noRow Z.row) (Z_NoPlace : Xc K mg "NoPlace" Z.noPlace Z.row) (Z_NoSuch : Xc K mg "NoSuch" Z.noSuch Z.row) (Z_BadText : Xc K mg "BadText" Z.badText Z.row) (kk_noRow_noRow : PySem.W.kitOne K (.ref Z.noRow) (.ref Z.noRow) = some true) (kk_noRow_noPlace : PySem.W.kitOne K (.ref Z.noRow) (.ref Z.noPlace) = some false) (kk_noRow_noSuch : PySem.W.kitOne K (.ref Z.noRow) (.ref Z.noSuch) = some false) (kk_noRow_badText : PySem.W.kitOne K (.ref Z.noRow) (.ref Z.badText) = some false) (kk_noRow_VE : PySem.W.kitOne K (.ref Z.noRow) (.type "ValueError") = some true) (kk_noPlace_noRow : PySem.W.kitOne K (.ref Z.noPlace) (.ref Z.noRow) = some false) (kk_noPlace_noPlace : PySem.W.kitOne K (.ref Z.noPlace) (.ref Z.noPlace) = some true) (kk_noPlace_noSuch : PySem.W.kitOne K (.ref Z.noPlace) (.ref Z.noSuch) = some false) (kk_noPlace_badText : PySem.W.kitOne K (.ref Z.noPlace) (.ref Z.badText) = some false) (kk_noPlace_VE : PySem.W.kitOne K (.ref Z.noPlace) (.type "ValueError") = some true) (kk_noSuch_noRow : PySem.W.kitOne K (.ref Z.noSuch) (.ref Z.noRow) = some false) (kk_noSuch_noPlace : PySem.W.kitOne K (.ref Z.noSuch) (.ref Z.noPlace) = some false) (kk_noSuch_noSuch : PySem.W.kitOne K (.ref Z.noSuch) (.ref Z.noSuch) = some true) (kk_noSuch_badText : PySem.W.kitOne K (.ref Z.noSuch) (.ref Z.badText) = some false) (kk_noSuch_VE : PySem.W.kitOne K (.ref Z.noSuch) (.type "ValueError") = some true) (kk_badText_noRow : PySem.W.kitOne K (.ref Z.badText) (.ref Z.noRow) = some false) (kk_badText_noPlace : PySem.W.kitOne K (.ref Z.badText) (.ref Z.noPlace) = some false) (kk_badText_noSuch : PySem.W.kitOne K (.ref Z.badText) (.ref Z.noSuch) = some false) (kk_badText_badText : PySem.W.kitOne K (.ref Z.badText) (.ref Z.badText) = some true) (kk_badText_VE : PySem.W.kitOne K (.ref Z.badText) (.type "ValueError") = some true) (c_read : Ca (L2.CX P w) P w K mg base 4 "read" (sp_read Z T K)) (D : Df K mg "_law_tried" s__law_tried ["text"]) : Ca CX0 P w K mg base 5 "_law_tried" (sp__law_tried T K) := by
  refine D.ca0 sc__law_tried (fun vs H Q E ⟨q, e, _⟩ => by rw [e]; rfl) (fun cdv A outer s H vs Q E f hr h => ?_)
  obtain ⟨w, hv, h⟩ := h
  dsimp only at hv h
  subst hv
  obtain ⟨hsz, kb, kn, k⟩ := h
  have hwl : ∀ u ∈ Txt.split w (Str.ofString " "), u.length ≤ 16000 := fun u hu => Nat.le_trans (split_le hu) hsz
  refine ⟨_, (pss_cons (ps_set (i := 1) sc__law_tried.nd rfl (.inl rfl) pe_non)
      (pss_cons (ps_set (i := 2) sc__law_tried.nd rfl (.inl rfl) (pe_lst pa_nil))
      (pss_cons (ps_try_as (i := 3) (Wout := fun _ _ _ _ => False) rfl rfl sc__law_tried.nd rfl rfl ⟨rfl, by decide, .inl Z_RowError.g⟩ takes0 (fun W pn xe tk _ => (pss_one (ps_set (i := 1) sc__law_tried.nd rfl (.inl rfl) (by exact (pe_kS c_read hr (by decide) (fun σ => passAt tk σ) (by rfl) (by exact (pa_cons (pv 0) pa_nil)))))))
      (fun a oe cls d pn hz hf => (pss_cons (ps_set (i := 2) sc__law_tried.nd rfl (.inl rfl) (pe_lst (pa_cons (pe_callB (call_isX (K := K) rfl hz hf) (by rfl) B.isinstance boot_isinstance (pa_cons (pv 3) (pa_cons (pe_glob (v := .ref Z.badText) rfl Z_BadText.g rfl) pa_nil))) (pa_cons (pe_callB (call_isX (K := K) rfl hz hf) (by rfl) B.isinstance boot_isinstance (pa_cons (pv 3) (pa_cons (pe_glob (v := .ref Z.noRow) rfl Z_NoRow.g rfl) pa_nil))) (pa_cons (pe_callB (call_isX (K := K) rfl hz hf) (by rfl) B.isinstance boot_isinstance (pa_cons (pv 3) (pa_cons (pe_glob (v := .ref Z.noPlace) rfl Z_NoPlace.g rfl) pa_nil))) (pa_cons (pe_callB (call_isX (K := K) rfl hz hf) (by rfl) B.isinstance boot_isinstance (pa_cons (pv 3) (pa_cons (pe_glob (v := .ref Z.noSuch) rfl Z_NoSuch.g rfl) pa_nil))) pa_nil))))))
      (pss_one (ps_set (i := 2) sc__law_tried.nd rfl (.inl rfl) (pe_op op_cat (pv 2) (pe_lst (pa_cons (pe_callB (call_isX (K := K) rfl hz hf) (by rfl) B.isinstance boot_isinstance (pa_cons (pv 3) (pa_cons (pe_bltn (v := .ty "ValueError") (by rfl) B.ValueError (by decide +kernel) rfl) pa_nil))) pa_nil))))))))
      (pss_one (ps_ret (pe_tup (pa_cons (pv 1) (pa_cons (pv 2) pa_nil)))))))), ?_⟩
  refine q_asg (T := T) ev_c fun H1 e1 => ?_
  refine q_asgL (T := T) (xs := []) (el_lst ea_nil (Nat.zero_le _)) fun l H2 hl e2 h2' => ?_
  refine q_seq ?_
  by_cases hR : ReadB (Txt.split w (Str.ofString " "))
  case neg =>
    refine call_raiseS (T := T) (ea_cons (ev_var rfl) ea_nil) fun H3 e3 Q' => ⟨w, rfl, hsz, hwl, fun _ H4 e4 => ⟨true, Z_BadText.e, fun _ x hx => ?_, fun h => (by cases h)⟩, fun h => absurd h hR, fun h => absurd h hR⟩
    refine q_asgL (T := T) (xs := vb [true, false, false, false]) (el_lst (ea_cons (ev_isX (ev_var rfl) ev_c rfl rfl Z_BadText.i (fun _ h => h) kk_badText_badText) (ea_cons (ev_isX (ev_var rfl) ev_c rfl rfl Z_BadText.i (fun _ h => h) kk_badText_noRow) (ea_cons (ev_isX (ev_var rfl) ev_c rfl rfl Z_BadText.i (fun _ h => h) kk_badText_noPlace) (ea_cons (ev_isX (ev_var rfl) ev_c rfl rfl Z_BadText.i (fun _ h => h) kk_badText_noSuch) ea_nil)))) (show 4 ≤ 1000 by decide)) fun m5 H5 hm5 e5 h5 => ?_
    refine s_asgL (T := T) (xs := vb [true, false, false, false, true]) (el_catN (xs := vb [true, false, false, false]) (ys := [.bl true]) (ev_var rfl) h5 (el_lst (ea_cons (ev_isX (ev_var rfl) ev_c rfl rfl Z_BadText.i (fun _ h => h) kk_badText_VE) ea_nil) (show 1 ≤ 1000 by decide)) (show 4 + 1 ≤ 1000 by decide)) fun m6 H6 hm6 e6 h6 => ?_
    exact s_retU (T := T) (eu_tup (ea_cons (ev_var rfl) (ea_cons (ev_var rfl) ea_nil)) (show 2 ≤ 1000 by decide)) fun p H7 hp e7 h7 => kb hR p m6 H7 (e1.trans (e2.trans (e3.trans (e4.trans (e5.trans (e6.trans e7)))))) h7 (e7.lst h6)
  case pos =>
    by_cases hRow : IsRow (wval ((Txt.split w (Str.ofString " ")).getD 0 Str.empty)) (((Txt.split w (Str.ofString " ")).drop 2).map wval)
    case neg =>
      refine call_raiseS (T := T) (ea_cons (ev_var rfl) ea_nil) fun H3 e3 Q' => ⟨w, rfl, hsz, hwl, fun h => absurd hR h, fun _ _ H4 e4 => ⟨true, Z_NoRow.e, fun _ x hx => ?_, fun h => (by cases h)⟩, fun _ h => absurd h hRow⟩
      refine q_asgL (T := T) (xs := vb [false, true, false, false]) (el_lst (ea_cons (ev_isX (ev_var rfl) ev_c rfl rfl Z_NoRow.i (fun _ h => h) kk_noRow_badText) (ea_cons (ev_isX (ev_var rfl) ev_c rfl rfl Z_NoRow.i (fun _ h => h) kk_noRow_noRow) (ea_cons (ev_isX (ev_var rfl) ev_c rfl rfl Z_NoRow.i (fun _ h => h) kk_noRow_noPlace) (ea_cons (ev_isX (ev_var rfl) ev_c rfl rfl Z_NoRow.i (fun _ h => h) kk_noRow_noSuch) ea_nil)))) (show 4 ≤ 1000 by decide)) fun m5 H5 hm5 e5 h5 => ?_
      refine s_asgL (T := T) (xs := vb [false, true, false, false, true]) (el_catN (xs := vb [false, true, false, false]) (ys := [.bl true]) (ev_var rfl) h5 (el_lst (ea_cons (ev_isX (ev_var rfl) ev_c rfl rfl Z_NoRow.i (fun _ h => h) kk_noRow_VE) ea_nil) (show 1 ≤ 1000 by decide)) (show 4 + 1 ≤ 1000 by decide)) fun m6 H6 hm6 e6 h6 => ?_
      exact s_retU (T := T) (eu_tup (ea_cons (ev_var rfl) (ea_cons (ev_var rfl) ea_nil)) (show 2 ≤ 1000 by decide)) fun p H7 hp e7 h7 => kn hR hRow p m6 H7 (e1.trans (e2.trans (e3.trans (e4.trans (e5.trans (e6.trans e7)))))) h7 (e7.lst h6)
    case pos =>
      refine s_asgR (T := T) (R := fun _ v H' => ∃ o r, v = .ref o ∧ H' o = some (.tup [.int (wval ((Txt.split w (Str.ofString " ")).getD 0 Str.empty)), .ref r]) ∧ H' r = some (.lst (vz (((Txt.split w (Str.ofString " ")).drop 2).map wval)))) (er_callS (ea_cons (ev_var rfl) ea_nil) (fun H3 e3 Q' q => ⟨w, rfl, hsz, hwl, fun h => absurd hR h, fun _ h => absurd hRow h, fun _ _ p r H' e' h1 h2 => q (.ref p) H' e' ⟨p, r, rfl, h1, h2⟩⟩) fun _ _ _ _ _ h => h) fun v H3 e3 r3 => ?_
      obtain ⟨o, r, rfl, ho3, hr3⟩ := r3
      exact s_retU (T := T) (eu_tup (ea_cons (ev_var rfl) (ea_cons (ev_var rfl) ea_nil)) (show 2 ≤ 1000 by decide)) fun p H4 hp e4 h4 => k hR hRow p o r l H4 (e1.trans (e2.trans (e3.trans e4))) h4 (e4.tup ho3) (e4.lst hr3) ((e3.trans e4).lst h2')

/-! ### law -/
def sp_law (T : Tb) (K : PySem.W.Frag) : Sp := spM (α := Addr × List Int) (fun q => [.ref q.1]) fun q H Q _ => SqL K H q.1 (vz q.2) ∧ q.2.length ≤ 63 ∧ LamX.Tabs T H ∧ ∀ H', Q (.bl true) H'
theorem law_in {K : PySem.W.Frag} {H : Hp} {a : Addr} {ns : List Int} (hS : SqL K H a (vz ns)) (hl : ns.length ≤ 63) : sp_law [] K [.ref a] H (fun v _ => v = .bl true) fun _ _ _ => False := ⟨(a, ns), rfl, hS, hl, fun _ hp => (nomatch hp), fun _ => rfl⟩
theorem below_big {n : Int} {b : Nat} (hb : b ≤ 1300) (h : n < 2 ^ b) : n < 10 ^ 400 := by
  refine Int.lt_of_lt_of_le h ?_
  have e : ((10 : Int) ^ 400) = ((10 ^ 400 : Nat) : Int) := (Int.natCast_pow 10 400).symm
  rw [e, ← pow_cast]
  exact Int.ofNat_le.mpr (Nat.le_trans (Nat.pow_le_pow_right (by decide) hb) (by decide +kernel))
theorem due_split {ws : List Str} (h : 5 ≤ ws.length) : dueNs ws = wval (ws.getD 0 Str.empty) :: (ws.drop 2).map wval := by
  cases ws with
  | nil => exact absurd h (by decide)
  | cons v r => rfl
theorem len_one : (Str.ofString " ").length = 1 := by decide +kernel
theorem len_two : (Str.ofString "  ").length = 2 := by decide +kernel
/-- the text as it may be turned at its ends -/
def turnsL (w : Str) : List Str := [Str.ofString " " ++ w, w ++ Str.ofString " ", Txt.replace w (Str.ofString " ") (Str.ofString "  "), Str.ofString ""]
theorem turns_len {w : Str} (h : w.length ≤ 4000) : ∀ u ∈ turnsL w, u.length ≤ 16000 := fun u hu => by
  unfold turnsL at hu
  simp only [List.mem_cons, List.not_mem_nil, or_false] at hu
  rcases hu with rfl | rfl | rfl | rfl
  · rw [len_app, len_one]
    omega
  · rw [len_app, len_one]
    omega
  · have h1 := TK.replace_len w (Str.ofString " ") (Str.ofString "  ")
    rw [len_two] at h1
    omega
  · exact Nat.zero_le _
theorem ok_law {P : Program} {w : World} {K : PySem.W.Frag} {mg : Str → Option Value} {base : Heap} {T : Tb} (B : Bi mg) {tF : Tok} (g_FIGURES : mg "FIGURES" = some (.str (Str.ofString "0123456789") tF)) {Z : Ze} (Z_RowError : Xc K mg "RowError" Z.row Z.row) (Z_NoRow : Xc K mg "NoRow" Z.noRow Z.row) (Z_NoPlace : Xc K mg "NoPlace" Z.noPlace Z.row) (Z_NoSuch : Xc K mg "NoSuch" Z.noSuch Z.row) (Z_BadText : Xc K mg "BadText" Z.badText Z.row) (kk_noRow_noRow : PySem.W.kitOne K (.ref Z.noRow) (.ref Z.noRow) = some true) (kk_noRow_noPlace : PySem.W.kitOne K (.ref Z.noRow) (.ref Z.noPlace) = some false) (kk_noRow_noSuch : PySem.W.kitOne K (.ref Z.noRow) (.ref Z.noSuch) = some false) (kk_noRow_badText : PySem.W.kitOne K (.ref Z.noRow) (.ref Z.badText) = some false) (kk_noRow_VE : PySem.W.kitOne K (.ref Z.noRow) (.type "ValueError") = some true) (kk_noPlace_noRow : PySem.W.kitOne K (.ref Z.noPlace) (.ref Z.noRow) = some false) (kk_noPlace_noPlace : PySem.W.kitOne K (.ref Z.noPlace) (.ref Z.noPlace) = some true) (kk_noPlace_noSuch : PySem.W.kitOne K (.ref Z.noPlace) (.ref Z.noSuch) = some false) (kk_noPlace_badText : PySem.W.kitOne K (.ref Z.noPlace) (.ref Z.badText) = some false) (kk_noPlace_VE : PySem.W.kitOne K (.ref Z.noPlace) (.type "ValueError") = some true) (kk_noSuch_noRow : PySem.W.kitOne K (.ref Z.noSuch) (.ref Z.noRow) = some false) (kk_noSuch_noPlace : PySem.W.kitOne K (.ref Z.noSuch) (.ref Z.noPlace) = some false) (kk_noSuch_noSuch : PySem.W.kitOne K (.ref Z.noSuch) (.ref Z.noSuch) = some true) (kk_noSuch_badText : PySem.W.kitOne K (.ref Z.noSuch) (.ref Z.badText) = some false) (kk_noSuch_VE : PySem.W.kitOne K (.ref Z.noSuch) (.type "ValueError") = some true) (kk_badText_noRow : PySem.W.kitOne K (.ref Z.badText) (.ref Z.noRow) = some false) (kk_badText_noPlace : PySem.W.kitOne K (.ref Z.badText) (.ref Z.noPlace) = some false) (kk_badText_noSuch : PySem.W.kitOne K (.ref Z.badText) (.ref Z.noSuch) = some false) (kk_badText_badText : PySem.W.kitOne K (.ref Z.badText) (.ref Z.badText) = some true) (kk_badText_VE : PySem.W.kitOne K (.ref Z.badText) (.type "ValueError") = some true) (c__law_drawn : Ca CX0 P w K mg base 3 "_law_drawn" (sp__law_drawn T K)) (c__law_due : Ca CX0 P w K mg base 2 "_law_due" (sp__law_due T K)) (c__law_tried : Ca CX0 P w K mg base 5 "_law_tried" (sp__law_tried T K)) (c__law_turned : Ca CX0 P w K mg base 2 "_law_turned" (sp__law_turned T K)) (c__law_is_row : Ca CX0 P w K mg base 2 "_law_is_row" (sp__law_is_row T K)) (c__law_alike : Ca CX0 P w K mg base 2 "_law_alike" (sp__law_alike T K)) (c__law_cell_at : Ca CX0 P w K mg base 1 "_law_cell_at" (sp__law_cell_at T K)) (c__law_whole : Ca CX0 P w K mg base 1 "_law_whole" (sp__law_whole T K)) {f : Addr} {fd : FuncData} (F : Fun K "law" "law" s_law f fd) : FnOk P w K mg base CX0 6 f fd ["script"] (sp_law T K) := by
  refine F.ok sc_law (fun vs H Q E ⟨q, e, _⟩ => by rw [e]; rfl) (fun cdv A outer s H vs Q E hr h => ?_)
  obtain ⟨⟨a, cs⟩, hv, h⟩ := h
  dsimp only at hv h
  subst hv
  obtain ⟨hS, hl63, hT, k⟩ := h
  refine ⟨_, (pss_cons (ps_set (i := 1) sc_law.nd rfl (.inl rfl) (pe_op op_cat (pe_op op_cat (pe_callTy call_listS (by rfl) B.list boot_list (pa_cons (pe_slice sl_list (pv 0) po_none (po_some pe_int)) pa_nil)) (pe_lst (pa_cons (pe_op op_mod (pe_k0 c__law_cell_at hr (by decide) (by rfl) (pa_cons (pv 0) (pa_cons pe_int pa_nil))) pe_int) pa_nil))) (pe_callTy call_listS (by rfl) B.list boot_list (pa_cons (pe_slice sl_list (pv 0) (po_some pe_int) (po_some pe_int)) pa_nil))))
      (pss_cons (ps_set (i := 2) sc_law.nd rfl (.inl rfl) (pe_k0 c__law_drawn hr (by decide) (by rfl) (pa_cons (pv 1) pa_nil)))
      (pss_cons (ps_set (i := 3) sc_law.nd rfl (.inl rfl) (pe_op op_cat (pe_lst (pa_cons (pe_callTy call_str_int (by rfl) B.str boot_str (pa_cons (pe_ix ix_tup (pv 2) pe_int (fun _ _ => rfl)) pa_nil)) (pa_cons pe_str pa_nil))) (pe_lc (own := [("number", 8)]) (g := gName 8) (tt := tYes) rfl sc_law.nd (pi_list (pe_ix ix_tup (pv 2) pe_int (fun _ _ => rfl))) (blkOk_by (N := ["script", "short", "drawn", "words", "text", "due", "tried", "found", "number"]) (sc := defScope s_law) (by decide +kernel)) (fun _ _ _ _ _ => pg_name (i := 8) sc_law.nd rfl (Or.inl rfl)) (fun _ _ _ _ _ => by exact pts_nil) (fun _ _ _ _ _ => by exact (pe_callTy call_str_int (by rfl) B.str boot_str (pa_cons (pv 8) pa_nil))))))
      (pss_cons (ps_set (i := 4) sc_law.nd rfl (.inl rfl) (pe_join pe_str (pe_k0 c__law_turned hr (by decide) (by rfl) (pa_cons (pv 3) (pa_cons (pe_k0 c__law_cell_at hr (by decide) (by rfl) (pa_cons (pv 0) (pa_cons pe_int pa_nil))) pa_nil)))))
      (Evl.pss_cut (ps_if (pt_cmpR op_eq (pe_op op_mod (pe_k0 c__law_cell_at hr (by decide) (by rfl) (pa_cons (pv 0) (pa_cons pe_int pa_nil))) pe_int) pe_int (nomark _)) (pss_one (ps_set (i := 4) sc_law.nd rfl (.inl rfl) (pe_ix ix_list (pe_lst (pa_consC op_add_str (pv 4) (pat_cons (CwR.PET.of (pe_op op_add_str (pv 4) pe_str)) (pat_cons (CwR.pet_replC (pv 4)) (pat_cons (CwR.PET.of pe_str) pat_nil))))) (pe_op op_mod (pe_op op_fdiv (pe_k0 c__law_cell_at hr (by decide) (by rfl) (pa_cons (pv 0) (pa_cons pe_int pa_nil))) pe_int) pe_int) (fun _ _ => rfl)))) pss_nil)
      (pss_cons (ps_set (i := 5) sc_law.nd rfl (.inl rfl) (pe_k0 c__law_due hr (by decide) (by rfl) (pa_cons (pv 4) pa_nil)))
      (pss_cons (ps_set (i := 6) sc_law.nd rfl (.inl rfl) (pe_k0 c__law_tried hr (by decide) (by rfl) (pa_cons (pv 4) pa_nil)))
      (pss_cons (ps_if (pt_cmpR op_isN (pv 5) pe_non (nomark _)) (pss_one (ps_ret (pe_cmpR (op_eqD hr.units) (pv 6) (pe_tup (pa_cons pe_non (pa_cons (pe_lst (pa_cons pe_bl (pa_cons pe_bl (pa_cons pe_bl (pa_cons pe_bl (pa_cons pe_bl pa_nil)))))) pa_nil))) (nomark _)))) pss_nil)
      (pss_cons (ps_if (pt_not (pt_val (pe_k0 c__law_is_row hr (by decide) (by rfl) (pa_cons (pe_ix ix_list (pv 5) pe_int (fun _ _ => rfl)) (pa_cons (pe_slice sl_list (pv 5) (po_some pe_int) po_none) pa_nil))))) (pss_one (ps_ret (pe_cmpR (op_eqD hr.units) (pv 6) (pe_tup (pa_cons pe_non (pa_cons (pe_lst (pa_cons pe_bl (pa_cons pe_bl (pa_cons pe_bl (pa_cons pe_bl (pa_cons pe_bl pa_nil)))))) pa_nil))) (nomark _)))) pss_nil)
      (pss_cons (ps_set (i := 7) sc_law.nd rfl (.inl rfl) (pe_ix ix_tup (pv 6) pe_int (fun _ _ => rfl)))
      (pss_cons (ps_if (PW.pt (pw_or (pt_cmpR (op_neD hr.units) (pe_ix ix_tup (pv 6) pe_int (fun _ _ => rfl)) (pe_lst pa_nil) (nomark _)) (pw_or (pt_not (pt_val (pe_callB call_isi (by rfl) B.isinstance boot_isinstance (pa_cons (pv 7) (pa_cons (pe_bltn (v := .ty "tuple") (by rfl) B.tuple boot_tuple rfl) pa_nil))))) (pw_or (pt_cmpR op_ne (pe_callB call_lenS (by rfl) B.len boot_len (pa_cons (pv 7) pa_nil)) pe_int (nomark _)) (pw_or1 (pt_not (pt_val (pe_k0 c__law_whole hr (by decide) (by rfl) (pa_cons (pe_ix ix_tup (pv 7) pe_int (fun _ _ => rfl)) pa_nil))))))))) (pss_one (ps_ret pe_bl)) pss_nil)
      (pss_one (ps_ret (pe_and (pe_cmpR op_eq (pe_ix ix_tup (pv 7) pe_int (fun _ _ => rfl)) (pe_ix ix_list (pv 5) pe_int (fun _ _ => rfl)) (nomark _)) (pe_one (pe_k0 c__law_alike hr (by decide) (by rfl) (pa_cons (pe_ix ix_tup (pv 7) pe_int (fun _ _ => rfl)) (pa_cons (pe_slice sl_list (pv 5) (po_some pe_int) po_none) pa_nil)))))))))))))))))), ?_⟩
  have cell : ∀ (m : Nat) (i : Int) {σ : L2.St} {H' : Hp} {ti : TE}, i = (m : Int) → Ex T H H' → σ[0]? = some (some (.ref a)) → Ev T ti σ H' (.int i) → Ev T (tCall (sp__law_cell_at T K) [] E0 (tCons (tVar 0) (tCons ti tNil))) σ H' (.int (cs.getD m 0)) := fun m i σ H' ti hi e h0 hti =>
    ev_call (ea_cons (ev_var h0) (ea_cons (hi ▸ hti) ea_nil)) fun H1 e1 Q q => ⟨(a, cs, m), rfl, (e.trans e1).sq hS, q⟩
  -- what is drawn
  obtain ⟨sh, hsh⟩ : ∃ sh : List Int, sh = cs.take 1 ++ [cs.getD 1 0 % 4] ++ (cs.drop 2).take 6 := ⟨_, rfl⟩
  refine q_asgL (T := T) (xs := vz sh) ((el_catNN (el_catNN (el_listN (el_upto (n := 1) (ev_var rfl) ev_c hS)) (el_lst (ea_cons (ev_I (cell 1 1 rfl .refl rfl ev_c) ev_c (by show (0 : Int) < 4; decide)) ea_nil) (show 1 ≤ 1000 by decide)) (by simp only [List.length_map, List.length_take, List.length_cons, List.length_nil]; omega)) (el_listN (el_range (m := 2) (n := 8) (ev_var rfl) ev_c ev_c hS)) (by simp only [List.length_map, List.length_take, List.length_drop, List.length_append, List.length_cons, List.length_nil]; omega)).is (by rw [hsh, vz_app, vz_app]; rfl)) fun o H1 ho e1 h1 => ?_
  refine q_asgR (T := T) (R := fun H v H' => ∃ t ns p r, v = .ref p ∧ Dr 6 t ns ∧ H' p = some (.tup [.int t, .ref r]) ∧ H' r = some (.lst (vz ns))) (er_call (ea_cons (ev_var rfl) ea_nil) (fun H2 e2 Q' k' => ⟨(o, sh), rfl, SqL.of (e2.lst h1), fun t ns p r H' hd e' _ _ h1 h2 => k' _ H' e' ⟨t, ns, p, r, rfl, hd, h1, h2⟩⟩) fun _ _ _ _ _ h => h) fun v H2 e2 r2 => ?_
  obtain ⟨t, ns, p, r, rfl, hd, hp2, hr2⟩ := r2
  have E2 := e1.trans e2
  have h3 := hd.len
  have ht := hd.ht
  have hn : ∀ n ∈ ns, 0 ≤ n ∧ n < 10 ^ 400 := fun n hm => ⟨by have := hd.row.pos n hm; omega, below_big (b := bb 6) (by decide) (Int.lt_of_le_of_lt (mem_sum hd.row.pos hm) hd.sz)⟩
  have ht2 : t < 10 ^ 400 := below_big (b := 10) (by decide) (by omega)
  -- its words
  refine q_asgL (T := T) (xs := vs (wordsOf t ns)) ((el_catNN (el_lst (vs := vs [numT t, Str.ofString "x"]) (ea_cons (ev_str (ev_ixT (v := .int t) (ev_var rfl) ev_c (.inl (.inl hp2)) (atI_nat (j := 0) rfl)) (big_ok (by omega) ht2)) (ea_cons ev_c ea_nil)) (show 2 ≤ 1000 by decide)) (el_map (xs := vz ns) (ys := vs (ns.map numT)) (ev_ixT (v := .ref r) (ev_var rfl) ev_c (.inl (.inl hp2)) (atI_nat (j := 1) rfl)) (SqL.of hr2) (by rw [List.length_map]; omega) (by simp) (fun _ => rfl) fun i x y H3 e3 hx hy => ?_) (by simp only [List.length_map, List.length_cons, List.length_nil]; omega)).is (by unfold wordsOf; rw [← List.map_append]; rfl)) fun q H3 hq e3 hq3 => ?_
  · obtain ⟨n, hnx, rfl⟩ := at_vz hx
    have hy' : y = V.str (numT n) := by
      rw [List.getElem?_map, List.getElem?_map, hnx] at hy
      exact (Option.some.inj hy).symm
    rw [hy']
    have := hn n (List.mem_of_getElem? hnx)
    exact ev_str (ev_var rfl) (big_ok this.1 this.2)
  have E3 := E2.trans e3
  have hwl : ∀ u ∈ wordsOf t ns, u.length ≤ 401 := fun u hu => by
    unfold wordsOf at hu
    rcases List.mem_cons.mp hu with rfl | hu
    · exact Nat.le_trans (numT_len (k := 400) (by omega) (by decide) ht2) (by decide)
    · rcases List.mem_cons.mp hu with rfl | hu
      · decide +kernel
      · obtain ⟨n, hm, rfl⟩ := List.mem_map.mp hu
        exact Nat.le_trans (numT_len (k := 400) (hn n hm).1 (by decide) (hn n hm).2) (by decide)
  have hwn : (wordsOf t ns).length = ns.length + 2 := by unfold wordsOf; simp
  -- the text
  refine q_asgR (T := T) (R := fun _ v _ => ∃ w : Str, v = .str w ∧ w.length ≤ 4000) (er_joinW ev_c len_one (er_call (ea_cons (ev_var rfl) (ea_cons (cell 9 9 rfl E3 rfl ev_c) ea_nil)) (fun H4 e4 Q' k' => ⟨(q, wordsOf t ns, cs.getD 9 0), rfl, e4.lst hq3, by rw [hwn]; omega, hwl, fun ws p' H' h9 hw9 e' hp' => k' _ H' e' ⟨p', ws, rfl, hp', h9, hw9⟩⟩) fun _ _ _ _ _ h => h)) fun v H4 e4 r4 => ?_
  obtain ⟨w0, rfl, hw0⟩ := r4
  have E4 := E3.trans e4
  refine q_cut (M := fun σ H' => ∃ w : Str, w.length ≤ 16000 ∧ σ = [some (.ref a), some (.ref o), some (.ref p), some (.ref q), some (.str w), none, none, none, none] ∧ Ex T H4 H') ?_ ?_
  · refine s_when (T := T) (et_test (ev_eqI (ev_I (cell 10 10 rfl E4 rfl ev_c) ev_c (by show (0 : Int) < 9; decide)) ev_c)) (fun hb H5 e5 => ?_) (fun hb H5 e5 => ⟨w0, by omega, rfl, e5⟩)
    obtain ⟨m, hm, em⟩ := emod_nat (cs.getD 10 0 / 9) (n := 4) (by decide)
    have hml : m < (turnsL w0).length := hm
    have hu : (turnsL w0)[m]? = some (turnsL w0)[m] := List.getElem?_eq_getElem hml
    have hul := turns_len hw0 _ (List.getElem_mem hml)
    generalize (turnsL w0)[m] = u at hu hul
    refine s_asg (T := T) (v := .str u) (ev_ixN (xs := vs (turnsL w0)) (m := m) (el_lst (ea_cons (ev_addS ev_c (ev_var rfl) ?_) (ea_cons (ev_addS (ev_var rfl) ev_c ?_) (ea_cons (ev_repl (ev_var rfl) ?_) (ea_cons ev_c ea_nil)))) (show 4 ≤ 1000 by decide)) (ev_I (ev_I (cell 10 10 rfl (E4.trans e5) rfl ev_c) ev_c ⟨by decide, by decide⟩) ev_c (by show (0 : Int) < 4; decide)) em (by rw [List.getElem?_map, hu]; rfl)) fun H6 e6 => ⟨u, hul, rfl, e5.trans e6⟩
    · rw [len_one]
      exact Nat.le_trans (show 1 + w0.length ≤ 4001 by omega) (by decide)
    · rw [len_one]
      exact Nat.le_trans (show w0.length + 1 ≤ 4001 by omega) (by decide)
    · rw [len_two]
      omega
  rintro σ H5 ⟨w, hw, rfl, e5⟩
  have E5 := E4.trans e5
  obtain ⟨ws, hws⟩ : ∃ ws, ws = Txt.split w (Str.ofString " ") := ⟨_, rfl⟩
  -- what is due, what is tried
  refine q_asgR (T := T) (R := fun _ v H' => (¬ ReadB ws ∧ v = .non) ∨ (ReadB ws ∧ ∃ d, v = .ref d ∧ H' d = some (.lst (vz (dueNs ws))))) (er_call (ea_cons (ev_var rfl) ea_nil) (fun H6 e6 Q' k' => ⟨w, rfl, hw, fun hR H' e' => k' _ H' e' (.inl ⟨by rw [hws]; exact hR, rfl⟩), fun hR d H' e' hd' => k' _ H' e' (.inr ⟨by rw [hws]; exact hR, d, rfl, by rw [hws]; exact hd'⟩)⟩) fun _ _ _ _ _ h => h) fun v H6 e6 r6 => ?_
  refine q_asgR (T := T) (R := fun _ v H' => ∃ b, v = .ref b ∧ ((¬ ReadB ws ∧ ∃ l, H' b = some (.tup [.non, .ref l]) ∧ H' l = some (.lst (vb [true, false, false, false, true]))) ∨ (ReadB ws ∧ ¬ IsRow (wval (ws.getD 0 Str.empty)) ((ws.drop 2).map wval) ∧ ∃ l, H' b = some (.tup [.non, .ref l]) ∧ H' l = some (.lst (vb [false, true, false, false, true]))) ∨ (ReadB ws ∧ IsRow (wval (ws.getD 0 Str.empty)) ((ws.drop 2).map wval) ∧ ∃ f g l, H' b = some (.tup [.ref f, .ref l]) ∧ H' f = some (.tup [.int (wval (ws.getD 0 Str.empty)), .ref g]) ∧ H' g = some (.lst (vz ((ws.drop 2).map wval))) ∧ H' l = some (.lst []))))
    (er_call (ea_cons (ev_var rfl) ea_nil) (fun H7 e7 Q' k' => ⟨w, rfl, hw, fun hR b l H' e' q1 q2 => k' _ H' e' ⟨b, rfl, .inl ⟨by rw [hws]; exact hR, l, q1, q2⟩⟩, fun hR hN b l H' e' q1 q2 => k' _ H' e' ⟨b, rfl, .inr (.inl ⟨by rw [hws]; exact hR, by rw [hws]; exact hN, l, q1, q2⟩)⟩, fun hR hI b f g l H' e' q1 q2 q3 q4 => k' _ H' e' ⟨b, rfl, .inr (.inr ⟨by rw [hws]; exact hR, by rw [hws]; exact hI, f, g, l, q1, by rw [hws]; exact q2, by rw [hws]; exact q3, q4⟩)⟩⟩) fun _ _ _ _ _ h => h) fun v7 H7 e7 r7 => ?_
  obtain ⟨b, rfl, r7⟩ := r7
  rcases r6 with ⟨hR, rfl⟩ | ⟨hR, d, rfl, hd6⟩
  · rcases r7 with ⟨_, l, q1, q2⟩ | ⟨hR', _⟩ | ⟨hR', _⟩
    · exact q_when (T := T) (b := true) ((et_test (ev_isN (ev_var rfl) ev_c)).is (by simp)) (fun hb H8 e8 => s_ret (T := T) ((ev_eqNB (bs := [true, false, false, false, true]) (cs := [true, false, false, false, true]) (ev_var rfl) (e8.tup q1) (e8.lst q2) (el_lst (vs := vb [true, false, false, false, true]) (ea_cons ev_c (ea_cons ev_c (ea_cons ev_c (ea_cons ev_c (ea_cons ev_c ea_nil))))) (show 5 ≤ 1000 by decide))).is (by simp)) fun H9 e9 => k H9) (fun hb => by cases hb)
    · exact absurd hR' hR
    · exact absurd hR' hR
  refine q_when (T := T) (b := false) ((et_test (ev_isN (ev_var rfl) ev_c)).is (by simp)) (fun hb => by cases hb) (fun hb H8 e8 => ?_)
  obtain ⟨t1, ht1⟩ : ∃ t1, t1 = wval (ws.getD 0 Str.empty) := ⟨_, rfl⟩
  obtain ⟨ms, hms⟩ : ∃ ms, ms = (ws.drop 2).map wval := ⟨_, rfl⟩
  have hdue : dueNs ws = t1 :: ms := by rw [due_split hR.1.1, ht1, hms]
  have hG : ∀ u ∈ ws.take 1 ++ ws.drop 2, GoodW u := hR.2.2.1
  have h58 := hR.1
  have hml : ms.length = ws.length - 2 := by rw [hms, List.length_map, List.length_drop]
  have g0 : GoodW (ws.getD 0 Str.empty) := by
    refine hG _ (List.mem_append.mpr (.inl ?_))
    cases hc : ws with
    | nil => rw [hc] at h58; exact absurd h58.1 (by decide)
    | cons v r => exact List.mem_cons_self ..
  have hW : Wd t1 ms := ⟨by have h1 := g0.pos; have h2 := hR.2.2.2; rw [← ht1] at h1 h2; show t1.natAbs < 1024; omega, by omega, 1919, by decide, by decide, fun n hn => by
    rw [hms] at hn
    obtain ⟨u, hu, rfl⟩ := List.mem_map.mp hn
    have G := hG u (List.mem_append.mpr (.inr hu))
    exact big_ok (by have := G.pos; omega) G.lt⟩
  rw [hdue] at hd6
  rw [← ht1, ← hms] at r7
  have hd8 := (e7.trans e8).lst hd6
  have two : ∀ {H' : Hp} {σ : L2.St}, H' d = some (.lst (vz (t1 :: ms))) → σ[5]? = some (some (.ref d)) → EvL T (tSl (rSlL K) (tVar 5) (tPart (tC (.int 1))) tNoPart) σ H' (vz ms) := fun h s => el_from (m := 1) (ns := t1 :: ms) (ev_var s) ev_c (SqL.of h) rfl (by simp)
  have one : ∀ {H' : Hp} {σ : L2.St}, H' d = some (.lst (vz (t1 :: ms))) → σ[5]? = some (some (.ref d)) → Ev T (tOp (rIxL K) (tVar 5) (tC (.int 0))) σ H' (.int t1) := fun h s => ev_ixI (m := 0) (ns := t1 :: ms) (ev_var s) ev_c (SqL.of h) rfl rfl
  refine q_when (T := T) (b := !decide (IsRow t1 ms)) (et_not (et_B (ev_call2 (Ev.r (one hd8 rfl)) (EvL.r (r := ms) (two hd8 rfl)) fun X Y Ha Hb H9 ea eb ec r1 r2 Q' q' => ?_))) (fun hb H9 e9 => ?_) (fun hb H9 e9 => ?_)
  · subst r1
    obtain ⟨y, rfl, hy0, hy⟩ := r2
    exact ⟨(t1, y, ms), rfl, SqL.of hy, hW, by show 0 < ms.length; omega, q'⟩
  · have hN : ¬ IsRow t1 ms := of_decide_eq_false (by simpa using hb)
    rcases r7 with ⟨hR', _⟩ | ⟨_, _, l, q1, q2⟩ | ⟨_, hI, _⟩
    · exact absurd hR hR'
    · exact s_ret (T := T) ((ev_eqNB (bs := [false, true, false, false, true]) (cs := [false, true, false, false, true]) (ev_var rfl) ((e8.trans e9).tup q1) ((e8.trans e9).lst q2) (el_lst (vs := vb [false, true, false, false, true]) (ea_cons ev_c (ea_cons ev_c (ea_cons ev_c (ea_cons ev_c (ea_cons ev_c ea_nil))))) (show 5 ≤ 1000 by decide))).is (by simp)) fun H10 e10 => k H10
    · exact absurd hI hN
  have hI : IsRow t1 ms := of_decide_eq_true (by simpa using hb)
  rcases r7 with ⟨hR', _⟩ | ⟨_, hN, _⟩ | ⟨_, _, f, g, l, q1, q2, q3, q4⟩
  · exact absurd hR hR'
  · exact absurd hI hN
  have E9 := e8.trans e9
  have d9 := e9.lst hd8
  refine q_asg (T := T) (v := .ref f) (ev_ixT (ev_var rfl) ev_c (.inl (.inl (E9.tup q1))) (atI_nat (j := 0) rfl)) fun H10 e10 => ?_
  have E10 := E9.trans e10
  have f10 := E10.tup q2
  refine q_when (T := T) (b := false) ((et_or (b := false) ((et_test (ev_neLN (ns := []) (ms := []) (ev_ixT (v := .ref l) (ev_var rfl) ev_c (.inl (.inl (E10.tup q1))) (atI_nat (j := 1) rfl)) (el_lst ea_nil (show 0 ≤ 1000 by decide)) (SqL.of (E10.lst q4)))).is (by simp)) fun _ => et_or (b := false) (et_not (et_B (ev_isTup (ev_var rfl) ev_c f10))) fun _ => et_or (b := false) ((et_test (ev_neI (ev_lenT (ev_var rfl) (.inl (.inl f10))) ev_c)).is (by simp)) fun _ => et_not (et_B (ev_call (ea_cons (ev_ixT (v := .int t1) (ev_var rfl) ev_c (.inl (.inl f10)) (atI_nat (j := 0) rfl)) ea_nil) fun H11 e11 Q' q => ⟨t1, rfl, q⟩))).is (by simp)) (fun hb => by cases hb) (fun hb H11 e11 => ?_)
  have f11 := e11.tup f10
  have d11 := (e10.trans e11).lst d9
  exact s_ret (T := T) ((ev_andV (ev_eqI (ev_ixT (v := .int t1) (ev_var rfl) ev_c (.inl (.inl f11)) (atI_nat (j := 0) rfl)) (one d11 rfl)) fun _ => ev_call2 (z := .bl (decide (ms = ms))) (Ev.r (ev_ixT (v := .ref g) (ev_var rfl) ev_c (.inl (.inl f11)) (atI_nat (j := 1) rfl))) (EvL.r (r := ms) (two d11 rfl)) fun X Y Ha Hb H12 ea eb ec r1 r2 Q' q' => by
    subst r1
    obtain ⟨y, rfl, hy0, hy⟩ := r2
    exact ⟨(g, ms, y, ms), rfl, ((E10.trans e11).trans (ea.trans (eb.trans ec))).lst q3, SqL.of hy, by show ms.length ≤ 1000; omega, q'⟩).is (by simp)) fun H12 e12 => k H12

end
theorem all_mk {l : PySem.W.OpenLaw} {w : World} {K : PySem.W.Frag} {h : Heap} {mg : Str → Option Value} {fa f0 f1 f2 f3 f4 f5 f6 f7 f8 f9 f10 f11 f12 f13 f14 f15 f16 f17 f18 : Addr} (X : K.In h) (G : h.Ns mainGlobals mg) (hfa : mg "law" = some (.ref fa))
    {od0 an0 od1 an1 od2 an2 od3 an3 od4 an4 od5 an5 od6 an6 od7 an7 od8 an8 od9 an9 od10 an10 od11 an11 od12 an12 od13 an13 od14 an14 od15 an15 od16 an16 od17 an17 od18 an18 : Option Addr} {sl0 sl1 sl2 sl3 sl4 sl5 sl6 sl7 sl8 sl9 sl10 sl11 sl12 sl13 sl14 sl15 sl16 sl17 sl18 : Array (Option Value)} {oc0 kV0 dc0 pm0 cd0 ct0 oc1 kV1 dc1 pm1 cd1 ct1 oc2 kV2 dc2 pm2 cd2 ct2 oc3 kV3 dc3 pm3 cd3 ct3 oc4 kV4 dc4 pm4 cd4 ct4 oc5 kV5 dc5 pm5 cd5 ct5 oc6 kV6 dc6 pm6 cd6 ct6 oc7 kV7 dc7 pm7 cd7 ct7 oc8 kV8 dc8 pm8 cd8 ct8 oc9 kV9 dc9 pm9 cd9 ct9 oc10 kV10 dc10 pm10 cd10 ct10 oc11 kV11 dc11 pm11 cd11 ct11 oc12 kV12 dc12 pm12 cd12 ct12 oc13 kV13 dc13 pm13 cd13 ct13 oc14 kV14 dc14 pm14 cd14 ct14 oc15 kV15 dc15 pm15 cd15 ct15 oc16 kV16 dc16 pm16 cd16 ct16 oc17 kV17 dc17 pm17 cd17 ct17 oc18 kV18 dc18 pm18 cd18 ct18 : Value}
    (a0 : PySem.W.nsIn K mainGlobals "product" = some (some (.ref f0))) (l0 : K.lookup f0 = some ⟨oc0, od0, .func (PySem.W.fnOf "product" "product" (defArgs s_product) (defBody s_product) (defScope s_product) .none kV0 dc0 pm0 an0 cd0 ct0), sl0⟩) (c0 : PySem.W.codeIn K cd0 "product" = true) (k0 : PySem.W.keepIn K (.ref f0) = true)
    (a1 : PySem.W.nsIn K mainGlobals "holds" = some (some (.ref f1))) (l1 : K.lookup f1 = some ⟨oc1, od1, .func (PySem.W.fnOf "holds" "holds" (defArgs s_holds) (defBody s_holds) (defScope s_holds) .none kV1 dc1 pm1 an1 cd1 ct1), sl1⟩) (c1 : PySem.W.codeIn K cd1 "holds" = true) (k1 : PySem.W.keepIn K (.ref f1) = true)
    (a2 : PySem.W.nsIn K mainGlobals "see_row" = some (some (.ref f2))) (l2 : K.lookup f2 = some ⟨oc2, od2, .func (PySem.W.fnOf "see_row" "see_row" (defArgs s_see_row) (defBody s_see_row) (defScope s_see_row) .none kV2 dc2 pm2 an2 cd2 ct2), sl2⟩) (c2 : PySem.W.codeIn K cd2 "see_row" = true) (k2 : PySem.W.keepIn K (.ref f2) = true)
    (a3 : PySem.W.nsIn K mainGlobals "number_of" = some (some (.ref f3))) (l3 : K.lookup f3 = some ⟨oc3, od3, .func (PySem.W.fnOf "number_of" "number_of" (defArgs s_number_of) (defBody s_number_of) (defScope s_number_of) .none kV3 dc3 pm3 an3 cd3 ct3), sl3⟩) (c3 : PySem.W.codeIn K cd3 "number_of" = true) (k3 : PySem.W.keepIn K (.ref f3) = true)
    (a4 : PySem.W.nsIn K mainGlobals "read" = some (some (.ref f4))) (l4 : K.lookup f4 = some ⟨oc4, od4, .func (PySem.W.fnOf "read" "read" (defArgs s_read) (defBody s_read) (defScope s_read) .none kV4 dc4 pm4 an4 cd4 ct4), sl4⟩) (c4 : PySem.W.codeIn K cd4 "read" = true) (k4 : PySem.W.keepIn K (.ref f4) = true)
    (a5 : PySem.W.nsIn K mainGlobals "_law_cell_at" = some (some (.ref f5))) (l5 : K.lookup f5 = some ⟨oc5, od5, .func (PySem.W.fnOf "_law_cell_at" "_law_cell_at" (defArgs s__law_cell_at) (defBody s__law_cell_at) (defScope s__law_cell_at) .none kV5 dc5 pm5 an5 cd5 ct5), sl5⟩) (c5 : PySem.W.codeIn K cd5 "_law_cell_at" = true) (k5 : PySem.W.keepIn K (.ref f5) = true)
    (a6 : PySem.W.nsIn K mainGlobals "_law_whole" = some (some (.ref f6))) (l6 : K.lookup f6 = some ⟨oc6, od6, .func (PySem.W.fnOf "_law_whole" "_law_whole" (defArgs s__law_whole) (defBody s__law_whole) (defScope s__law_whole) .none kV6 dc6 pm6 an6 cd6 ct6), sl6⟩) (c6 : PySem.W.codeIn K cd6 "_law_whole" = true) (k6 : PySem.W.keepIn K (.ref f6) = true)
    (a7 : PySem.W.nsIn K mainGlobals "_law_product" = some (some (.ref f7))) (l7 : K.lookup f7 = some ⟨oc7, od7, .func (PySem.W.fnOf "_law_product" "_law_product" (defArgs s__law_product) (defBody s__law_product) (defScope s__law_product) .none kV7 dc7 pm7 an7 cd7 ct7), sl7⟩) (c7 : PySem.W.codeIn K cd7 "_law_product" = true) (k7 : PySem.W.keepIn K (.ref f7) = true)
    (a8 : PySem.W.nsIn K mainGlobals "_law_near" = some (some (.ref f8))) (l8 : K.lookup f8 = some ⟨oc8, od8, .func (PySem.W.fnOf "_law_near" "_law_near" (defArgs s__law_near) (defBody s__law_near) (defScope s__law_near) .none kV8 dc8 pm8 an8 cd8 ct8), sl8⟩) (c8 : PySem.W.codeIn K cd8 "_law_near" = true) (k8 : PySem.W.keepIn K (.ref f8) = true)
    (a9 : PySem.W.nsIn K mainGlobals "_law_is_row" = some (some (.ref f9))) (l9 : K.lookup f9 = some ⟨oc9, od9, .func (PySem.W.fnOf "_law_is_row" "_law_is_row" (defArgs s__law_is_row) (defBody s__law_is_row) (defScope s__law_is_row) .none kV9 dc9 pm9 an9 cd9 ct9), sl9⟩) (c9 : PySem.W.codeIn K cd9 "_law_is_row" = true) (k9 : PySem.W.keepIn K (.ref f9) = true)
    (a10 : PySem.W.nsIn K mainGlobals "_law_alike" = some (some (.ref f10))) (l10 : K.lookup f10 = some ⟨oc10, od10, .func (PySem.W.fnOf "_law_alike" "_law_alike" (defArgs s__law_alike) (defBody s__law_alike) (defScope s__law_alike) .none kV10 dc10 pm10 an10 cd10 ct10), sl10⟩) (c10 : PySem.W.codeIn K cd10 "_law_alike" = true) (k10 : PySem.W.keepIn K (.ref f10) = true)
    (a11 : PySem.W.nsIn K mainGlobals "_law_root_by" = some (some (.ref f11))) (l11 : K.lookup f11 = some ⟨oc11, od11, .func (PySem.W.fnOf "_law_root_by" "_law_root_by" (defArgs s__law_root_by) (defBody s__law_root_by) (defScope s__law_root_by) .none kV11 dc11 pm11 an11 cd11 ct11), sl11⟩) (c11 : PySem.W.codeIn K cd11 "_law_root_by" = true) (k11 : PySem.W.keepIn K (.ref f11) = true)
    (a12 : PySem.W.nsIn K mainGlobals "_law_drawn" = some (some (.ref f12))) (l12 : K.lookup f12 = some ⟨oc12, od12, .func (PySem.W.fnOf "_law_drawn" "_law_drawn" (defArgs s__law_drawn) (defBody s__law_drawn) (defScope s__law_drawn) .none kV12 dc12 pm12 an12 cd12 ct12), sl12⟩) (c12 : PySem.W.codeIn K cd12 "_law_drawn" = true) (k12 : PySem.W.keepIn K (.ref f12) = true)
    (a13 : PySem.W.nsIn K mainGlobals "_law_odd" = some (some (.ref f13))) (l13 : K.lookup f13 = some ⟨oc13, od13, .func (PySem.W.fnOf "_law_odd" "_law_odd" (defArgs s__law_odd) (defBody s__law_odd) (defScope s__law_odd) .none kV13 dc13 pm13 an13 cd13 ct13), sl13⟩) (c13 : PySem.W.codeIn K cd13 "_law_odd" = true) (k13 : PySem.W.keepIn K (.ref f13) = true)
    (a14 : PySem.W.nsIn K mainGlobals "_law_turned" = some (some (.ref f14))) (l14 : K.lookup f14 = some ⟨oc14, od14, .func (PySem.W.fnOf "_law_turned" "_law_turned" (defArgs s__law_turned) (defBody s__law_turned) (defScope s__law_turned) .none kV14 dc14 pm14 an14 cd14 ct14), sl14⟩) (c14 : PySem.W.codeIn K cd14 "_law_turned" = true) (k14 : PySem.W.keepIn K (.ref f14) = true)
    (a15 : PySem.W.nsIn K mainGlobals "_law_number" = some (some (.ref f15))) (l15 : K.lookup f15 = some ⟨oc15, od15, .func (PySem.W.fnOf "_law_number" "_law_number" (defArgs s__law_number) (defBody s__law_number) (defScope s__law_number) .none kV15 dc15 pm15 an15 cd15 ct15), sl15⟩) (c15 : PySem.W.codeIn K cd15 "_law_number" = true) (k15 : PySem.W.keepIn K (.ref f15) = true)
    (a16 : PySem.W.nsIn K mainGlobals "_law_due" = some (some (.ref f16))) (l16 : K.lookup f16 = some ⟨oc16, od16, .func (PySem.W.fnOf "_law_due" "_law_due" (defArgs s__law_due) (defBody s__law_due) (defScope s__law_due) .none kV16 dc16 pm16 an16 cd16 ct16), sl16⟩) (c16 : PySem.W.codeIn K cd16 "_law_due" = true) (k16 : PySem.W.keepIn K (.ref f16) = true)
    (a17 : PySem.W.nsIn K mainGlobals "_law_tried" = some (some (.ref f17))) (l17 : K.lookup f17 = some ⟨oc17, od17, .func (PySem.W.fnOf "_law_tried" "_law_tried" (defArgs s__law_tried) (defBody s__law_tried) (defScope s__law_tried) .none kV17 dc17 pm17 an17 cd17 ct17), sl17⟩) (c17 : PySem.W.codeIn K cd17 "_law_tried" = true) (k17 : PySem.W.keepIn K (.ref f17) = true)
    (a18 : PySem.W.nsIn K mainGlobals "law" = some (some (.ref f18))) (l18 : K.lookup f18 = some ⟨oc18, od18, .func (PySem.W.fnOf "law" "law" (defArgs s_law) (defBody s_law) (defScope s_law) .none kV18 dc18 pm18 an18 cd18 ct18), sl18⟩) (c18 : PySem.W.codeIn K cd18 "law" = true) (k18 : PySem.W.keepIn K (.ref f18) = true)
    (z_len : PySem.W.nsIn K mainGlobals "len" = some none)    (z_range : PySem.W.nsIn K mainGlobals "range" = some none)    (z_sum : PySem.W.nsIn K mainGlobals "sum" = some none)    (z_sorted : PySem.W.nsIn K mainGlobals "sorted" = some none)    (z_min : PySem.W.nsIn K mainGlobals "min" = some none)    (z_max : PySem.W.nsIn K mainGlobals "max" = some none)    (z_isinstance : PySem.W.nsIn K mainGlobals "isinstance" = some none)    (z_int : PySem.W.nsIn K mainGlobals "int" = some none)    (z_bool : PySem.W.nsIn K mainGlobals "bool" = some none)    (z_list : PySem.W.nsIn K mainGlobals "list" = some none)    (z_tuple : PySem.W.nsIn K mainGlobals "tuple" = some none)    (z_str : PySem.W.nsIn K mainGlobals "str" = some none)    (z_set : PySem.W.nsIn K mainGlobals "set" = some none)    (z_ValueError : PySem.W.nsIn K mainGlobals "ValueError" = some none)    {tF : Tok}
    {Zrow ZnoRow ZnoPlace ZnoSuch ZbadText : Addr}
    (aFIG : PySem.W.nsIn K mainGlobals "FIGURES" = some (some (.str (Str.ofString "0123456789") tF)))
    (yn : PySem.W.specialIn K (.builtin "object.__class__") "__get__" = some (some (.builtin "getset_descriptor.__get__"))) (yt : PySem.W.takesIn K (.builtin "object.__class__") = some true)
    (grow : PySem.W.nsIn K mainGlobals "RowError" = some (some (.ref Zrow))) (xrow : PySem.W.excIn K Zrow [.type "ValueError", .type "Exception", .type "BaseException", .type "object"] "ValueError.__new__" = true) (krow : PySem.W.keepIn K (.ref Zrow) = true) (brow : PySem.W.subIn K (.ref Zrow) (.type "BaseException") = some true) (trow : PySem.W.typeIn K (.ref Zrow) = some (.type "type")) (srow : PySem.W.subIn K (.ref Zrow) (.ref Zrow) = some true)
    (hgrow : PySem.W.findIn K (.ref Zrow) "__getattribute__" = some (some (.builtin "BaseException.__getattribute__"))) (hkrow : PySem.W.findIn K (.ref Zrow) "__getattr__" = some none) (hdrow : PySem.W.hasDictIn K Zrow = true) (harow : PySem.W.findIn K (.ref Zrow) "__class__" = some (some (.builtin "object.__class__"))) (hmrow : PySem.W.mroIn K Zrow (.type "object") = some true)
    (gnoRow : PySem.W.nsIn K mainGlobals "NoRow" = some (some (.ref ZnoRow))) (xnoRow : PySem.W.excIn K ZnoRow [.type "ValueError", .type "Exception", .type "BaseException", .type "object"] "ValueError.__new__" = true) (knoRow : PySem.W.keepIn K (.ref ZnoRow) = true) (bnoRow : PySem.W.subIn K (.ref ZnoRow) (.type "BaseException") = some true) (tnoRow : PySem.W.typeIn K (.ref ZnoRow) = some (.type "type")) (snoRow : PySem.W.subIn K (.ref ZnoRow) (.ref Zrow) = some true)
    (hgnoRow : PySem.W.findIn K (.ref ZnoRow) "__getattribute__" = some (some (.builtin "BaseException.__getattribute__"))) (hknoRow : PySem.W.findIn K (.ref ZnoRow) "__getattr__" = some none) (hdnoRow : PySem.W.hasDictIn K ZnoRow = true) (hanoRow : PySem.W.findIn K (.ref ZnoRow) "__class__" = some (some (.builtin "object.__class__"))) (hmnoRow : PySem.W.mroIn K ZnoRow (.type "object") = some true)
    (gnoPlace : PySem.W.nsIn K mainGlobals "NoPlace" = some (some (.ref ZnoPlace))) (xnoPlace : PySem.W.excIn K ZnoPlace [.type "ValueError", .type "Exception", .type "BaseException", .type "object"] "ValueError.__new__" = true) (knoPlace : PySem.W.keepIn K (.ref ZnoPlace) = true) (bnoPlace : PySem.W.subIn K (.ref ZnoPlace) (.type "BaseException") = some true) (tnoPlace : PySem.W.typeIn K (.ref ZnoPlace) = some (.type "type")) (snoPlace : PySem.W.subIn K (.ref ZnoPlace) (.ref Zrow) = some true)
    (hgnoPlace : PySem.W.findIn K (.ref ZnoPlace) "__getattribute__" = some (some (.builtin "BaseException.__getattribute__"))) (hknoPlace : PySem.W.findIn K (.ref ZnoPlace) "__getattr__" = some none) (hdnoPlace : PySem.W.hasDictIn K ZnoPlace = true) (hanoPlace : PySem.W.findIn K (.ref ZnoPlace) "__class__" = some (some (.builtin "object.__class__"))) (hmnoPlace : PySem.W.mroIn K ZnoPlace (.type "object") = some true)
    (gnoSuch : PySem.W.nsIn K mainGlobals "NoSuch" = some (some (.ref ZnoSuch))) (xnoSuch : PySem.W.excIn K ZnoSuch [.type "ValueError", .type "Exception", .type "BaseException", .type "object"] "ValueError.__new__" = true) (knoSuch : PySem.W.keepIn K (.ref ZnoSuch) = true) (bnoSuch : PySem.W.subIn K (.ref ZnoSuch) (.type "BaseException") = some true) (tnoSuch : PySem.W.typeIn K (.ref ZnoSuch) = some (.type "type")) (snoSuch : PySem.W.subIn K (.ref ZnoSuch) (.ref Zrow) = some true)
    (hgnoSuch : PySem.W.findIn K (.ref ZnoSuch) "__getattribute__" = some (some (.builtin "BaseException.__getattribute__"))) (hknoSuch : PySem.W.findIn K (.ref ZnoSuch) "__getattr__" = some none) (hdnoSuch : PySem.W.hasDictIn K ZnoSuch = true) (hanoSuch : PySem.W.findIn K (.ref ZnoSuch) "__class__" = some (some (.builtin "object.__class__"))) (hmnoSuch : PySem.W.mroIn K ZnoSuch (.type "object") = some true)
    (gbadText : PySem.W.nsIn K mainGlobals "BadText" = some (some (.ref ZbadText))) (xbadText : PySem.W.excIn K ZbadText [.type "ValueError", .type "Exception", .type "BaseException", .type "object"] "ValueError.__new__" = true) (kbadText : PySem.W.keepIn K (.ref ZbadText) = true) (bbadText : PySem.W.subIn K (.ref ZbadText) (.type "BaseException") = some true) (tbadText : PySem.W.typeIn K (.ref ZbadText) = some (.type "type")) (sbadText : PySem.W.subIn K (.ref ZbadText) (.ref Zrow) = some true)
    (hgbadText : PySem.W.findIn K (.ref ZbadText) "__getattribute__" = some (some (.builtin "BaseException.__getattribute__"))) (hkbadText : PySem.W.findIn K (.ref ZbadText) "__getattr__" = some none) (hdbadText : PySem.W.hasDictIn K ZbadText = true) (habadText : PySem.W.findIn K (.ref ZbadText) "__class__" = some (some (.builtin "object.__class__"))) (hmbadText : PySem.W.mroIn K ZbadText (.type "object") = some true)
    (eq_kk_noRow_noRow : (Value.ref ZnoRow == Value.ref ZnoRow) = true)
    (ss_kk_noRow_noPlace : PySem.W.subIn K (.ref ZnoRow) (.ref ZnoPlace) = some false) (eq_kk_noRow_noPlace : (Value.ref ZnoRow == Value.ref ZnoPlace) = false)
    (ss_kk_noRow_noSuch : PySem.W.subIn K (.ref ZnoRow) (.ref ZnoSuch) = some false) (eq_kk_noRow_noSuch : (Value.ref ZnoRow == Value.ref ZnoSuch) = false)
    (ss_kk_noRow_badText : PySem.W.subIn K (.ref ZnoRow) (.ref ZbadText) = some false) (eq_kk_noRow_badText : (Value.ref ZnoRow == Value.ref ZbadText) = false)
    (ss_kk_noRow_VE : PySem.W.subIn K (.ref ZnoRow) (.type "ValueError") = some true)
    (ss_kk_noPlace_noRow : PySem.W.subIn K (.ref ZnoPlace) (.ref ZnoRow) = some false) (eq_kk_noPlace_noRow : (Value.ref ZnoPlace == Value.ref ZnoRow) = false)
    (eq_kk_noPlace_noPlace : (Value.ref ZnoPlace == Value.ref ZnoPlace) = true)
    (ss_kk_noPlace_noSuch : PySem.W.subIn K (.ref ZnoPlace) (.ref ZnoSuch) = some false) (eq_kk_noPlace_noSuch : (Value.ref ZnoPlace == Value.ref ZnoSuch) = false)
    (ss_kk_noPlace_badText : PySem.W.subIn K (.ref ZnoPlace) (.ref ZbadText) = some false) (eq_kk_noPlace_badText : (Value.ref ZnoPlace == Value.ref ZbadText) = false)
    (ss_kk_noPlace_VE : PySem.W.subIn K (.ref ZnoPlace) (.type "ValueError") = some true)
    (ss_kk_noSuch_noRow : PySem.W.subIn K (.ref ZnoSuch) (.ref ZnoRow) = some false) (eq_kk_noSuch_noRow : (Value.ref ZnoSuch == Value.ref ZnoRow) = false)
    (ss_kk_noSuch_noPlace : PySem.W.subIn K (.ref ZnoSuch) (.ref ZnoPlace) = some false) (eq_kk_noSuch_noPlace : (Value.ref ZnoSuch == Value.ref ZnoPlace) = false)
    (eq_kk_noSuch_noSuch : (Value.ref ZnoSuch == Value.ref ZnoSuch) = true)
    (ss_kk_noSuch_badText : PySem.W.subIn K (.ref ZnoSuch) (.ref ZbadText) = some false) (eq_kk_noSuch_badText : (Value.ref ZnoSuch == Value.ref ZbadText) = false)
    (ss_kk_noSuch_VE : PySem.W.subIn K (.ref ZnoSuch) (.type "ValueError") = some true)
    (ss_kk_badText_noRow : PySem.W.subIn K (.ref ZbadText) (.ref ZnoRow) = some false) (eq_kk_badText_noRow : (Value.ref ZbadText == Value.ref ZnoRow) = false)
    (ss_kk_badText_noPlace : PySem.W.subIn K (.ref ZbadText) (.ref ZnoPlace) = some false) (eq_kk_badText_noPlace : (Value.ref ZbadText == Value.ref ZnoPlace) = false)
    (ss_kk_badText_noSuch : PySem.W.subIn K (.ref ZbadText) (.ref ZnoSuch) = some false) (eq_kk_badText_noSuch : (Value.ref ZbadText == Value.ref ZnoSuch) = false)
    (eq_kk_badText_badText : (Value.ref ZbadText == Value.ref ZbadText) = true)
    (ss_kk_badText_VE : PySem.W.subIn K (.ref ZbadText) (.type "ValueError") = some true)
 :
    ∃ fd : FuncData, (∀ (s : Shared) (v : Value), BindsTo s fd ⟨[v], []⟩ [("script", v)]) ∧ ∀ base : Heap, K.In base → base.Ns mainGlobals mg → FnOk l.prog w K mg base CX0 6 fa fd ["script"] (sp_law [] K) := by
  have e := hfa.symm.trans (PySem.W.mg_of X G a18)
  cases e
  obtain ⟨Z, hZ⟩ : ∃ Z : Ze, Z = ⟨Zrow, ZnoRow, ZnoPlace, ZnoSuch, ZbadText⟩ := ⟨_, rfl⟩
  have Z_RowError : Xc K mg "RowError" Z.row Z.row := by rw [hZ]; exact ⟨PySem.W.mg_of X G grow, xrow, krow, brow, trow, PySem.W.exm_ref brow hdrow trow srow, ⟨hgrow, hkrow, brow, hdrow, harow, yn, yt, hmrow⟩⟩
  have Z_NoRow : Xc K mg "NoRow" Z.noRow Z.row := by rw [hZ]; exact ⟨PySem.W.mg_of X G gnoRow, xnoRow, knoRow, bnoRow, tnoRow, PySem.W.exm_ref brow hdrow trow snoRow, ⟨hgnoRow, hknoRow, bnoRow, hdnoRow, hanoRow, yn, yt, hmnoRow⟩⟩
  have Z_NoPlace : Xc K mg "NoPlace" Z.noPlace Z.row := by rw [hZ]; exact ⟨PySem.W.mg_of X G gnoPlace, xnoPlace, knoPlace, bnoPlace, tnoPlace, PySem.W.exm_ref brow hdrow trow snoPlace, ⟨hgnoPlace, hknoPlace, bnoPlace, hdnoPlace, hanoPlace, yn, yt, hmnoPlace⟩⟩
  have Z_NoSuch : Xc K mg "NoSuch" Z.noSuch Z.row := by rw [hZ]; exact ⟨PySem.W.mg_of X G gnoSuch, xnoSuch, knoSuch, bnoSuch, tnoSuch, PySem.W.exm_ref brow hdrow trow snoSuch, ⟨hgnoSuch, hknoSuch, bnoSuch, hdnoSuch, hanoSuch, yn, yt, hmnoSuch⟩⟩
  have Z_BadText : Xc K mg "BadText" Z.badText Z.row := by rw [hZ]; exact ⟨PySem.W.mg_of X G gbadText, xbadText, kbadText, bbadText, tbadText, PySem.W.exm_ref brow hdrow trow sbadText, ⟨hgbadText, hkbadText, bbadText, hdbadText, habadText, yn, yt, hmbadText⟩⟩
  have kk_noRow_noRow : PySem.W.kitOne K (.ref Z.noRow) (.ref Z.noRow) = some true := by rw [hZ]; exact kit_self eq_kk_noRow_noRow
  have kk_noRow_noPlace : PySem.W.kitOne K (.ref Z.noRow) (.ref Z.noPlace) = some false := by rw [hZ]; exact kit_ref hdnoPlace tnoPlace ss_kk_noRow_noPlace eq_kk_noRow_noPlace
  have kk_noRow_noSuch : PySem.W.kitOne K (.ref Z.noRow) (.ref Z.noSuch) = some false := by rw [hZ]; exact kit_ref hdnoSuch tnoSuch ss_kk_noRow_noSuch eq_kk_noRow_noSuch
  have kk_noRow_badText : PySem.W.kitOne K (.ref Z.noRow) (.ref Z.badText) = some false := by rw [hZ]; exact kit_ref hdbadText tbadText ss_kk_noRow_badText eq_kk_noRow_badText
  have kk_noRow_VE : PySem.W.kitOne K (.ref Z.noRow) (.type "ValueError") = some true := by rw [hZ]; exact kit_VE ss_kk_noRow_VE
  have kk_noPlace_noRow : PySem.W.kitOne K (.ref Z.noPlace) (.ref Z.noRow) = some false := by rw [hZ]; exact kit_ref hdnoRow tnoRow ss_kk_noPlace_noRow eq_kk_noPlace_noRow
  have kk_noPlace_noPlace : PySem.W.kitOne K (.ref Z.noPlace) (.ref Z.noPlace) = some true := by rw [hZ]; exact kit_self eq_kk_noPlace_noPlace
  have kk_noPlace_noSuch : PySem.W.kitOne K (.ref Z.noPlace) (.ref Z.noSuch) = some false := by rw [hZ]; exact kit_ref hdnoSuch tnoSuch ss_kk_noPlace_noSuch eq_kk_noPlace_noSuch
  have kk_noPlace_badText : PySem.W.kitOne K (.ref Z.noPlace) (.ref Z.badText) = some false := by rw [hZ]; exact kit_ref hdbadText tbadText ss_kk_noPlace_badText eq_kk_noPlace_badText
  have kk_noPlace_VE : PySem.W.kitOne K (.ref Z.noPlace) (.type "ValueError") = some true := by rw [hZ]; exact kit_VE ss_kk_noPlace_VE
  have kk_noSuch_noRow : PySem.W.kitOne K (.ref Z.noSuch) (.ref Z.noRow) = some false := by rw [hZ]; exact kit_ref hdnoRow tnoRow ss_kk_noSuch_noRow eq_kk_noSuch_noRow
  have kk_noSuch_noPlace : PySem.W.kitOne K (.ref Z.noSuch) (.ref Z.noPlace) = some false := by rw [hZ]; exact kit_ref hdnoPlace tnoPlace ss_kk_noSuch_noPlace eq_kk_noSuch_noPlace
  have kk_noSuch_noSuch : PySem.W.kitOne K (.ref Z.noSuch) (.ref Z.noSuch) = some true := by rw [hZ]; exact kit_self eq_kk_noSuch_noSuch
  have kk_noSuch_badText : PySem.W.kitOne K (.ref Z.noSuch) (.ref Z.badText) = some false := by rw [hZ]; exact kit_ref hdbadText tbadText ss_kk_noSuch_badText eq_kk_noSuch_badText
  have kk_noSuch_VE : PySem.W.kitOne K (.ref Z.noSuch) (.type "ValueError") = some true := by rw [hZ]; exact kit_VE ss_kk_noSuch_VE
  have kk_badText_noRow : PySem.W.kitOne K (.ref Z.badText) (.ref Z.noRow) = some false := by rw [hZ]; exact kit_ref hdnoRow tnoRow ss_kk_badText_noRow eq_kk_badText_noRow
  have kk_badText_noPlace : PySem.W.kitOne K (.ref Z.badText) (.ref Z.noPlace) = some false := by rw [hZ]; exact kit_ref hdnoPlace tnoPlace ss_kk_badText_noPlace eq_kk_badText_noPlace
  have kk_badText_noSuch : PySem.W.kitOne K (.ref Z.badText) (.ref Z.noSuch) = some false := by rw [hZ]; exact kit_ref hdnoSuch tnoSuch ss_kk_badText_noSuch eq_kk_badText_noSuch
  have kk_badText_badText : PySem.W.kitOne K (.ref Z.badText) (.ref Z.badText) = some true := by rw [hZ]; exact kit_self eq_kk_badText_badText
  have kk_badText_VE : PySem.W.kitOne K (.ref Z.badText) (.type "ValueError") = some true := by rw [hZ]; exact kit_VE ss_kk_badText_VE
  have B : Bi mg := ⟨PySem.W.mg_none_of X G z_len, PySem.W.mg_none_of X G z_range, PySem.W.mg_none_of X G z_sum, PySem.W.mg_none_of X G z_sorted, PySem.W.mg_none_of X G z_min, PySem.W.mg_none_of X G z_max, PySem.W.mg_none_of X G z_isinstance, PySem.W.mg_none_of X G z_int, PySem.W.mg_none_of X G z_bool, PySem.W.mg_none_of X G z_list, PySem.W.mg_none_of X G z_tuple, PySem.W.mg_none_of X G z_str, PySem.W.mg_none_of X G z_set, PySem.W.mg_none_of X G z_ValueError⟩
  have F0 := fun_mk (st := s_product) l0 c0 k0
  have D_product : Df K mg "product" s_product ["numbers"] := ⟨f0, _, F0, F0.binds (ps := ["numbers"]) (fun _ _ _ _ _ _ us hl => match us, hl with | [_], _ => rfl), PySem.W.mg_of X G a0⟩
  have F1 := fun_mk (st := s_holds) l1 c1 k1
  have D_holds : Df K mg "holds" s_holds ["times", "row"] := ⟨f1, _, F1, F1.binds (ps := ["times", "row"]) (fun _ _ _ _ _ _ us hl => match us, hl with | [_, _], _ => rfl), PySem.W.mg_of X G a1⟩
  have F2 := fun_mk (st := s_see_row) l2 c2 k2
  have D_see_row : Df K mg "see_row" s_see_row ["times", "row"] := ⟨f2, _, F2, F2.binds (ps := ["times", "row"]) (fun _ _ _ _ _ _ us hl => match us, hl with | [_, _], _ => rfl), PySem.W.mg_of X G a2⟩
  have F3 := fun_mk (st := s_number_of) l3 c3 k3
  have D_number_of : Df K mg "number_of" s_number_of ["word"] := ⟨f3, _, F3, F3.binds (ps := ["word"]) (fun _ _ _ _ _ _ us hl => match us, hl with | [_], _ => rfl), PySem.W.mg_of X G a3⟩
  have F4 := fun_mk (st := s_read) l4 c4 k4
  have D_read : Df K mg "read" s_read ["text"] := ⟨f4, _, F4, F4.binds (ps := ["text"]) (fun _ _ _ _ _ _ us hl => match us, hl with | [_], _ => rfl), PySem.W.mg_of X G a4⟩
  have F5 := fun_mk (st := s__law_cell_at) l5 c5 k5
  have D__law_cell_at : Df K mg "_law_cell_at" s__law_cell_at ["script", "k"] := ⟨f5, _, F5, F5.binds (ps := ["script", "k"]) (fun _ _ _ _ _ _ us hl => match us, hl with | [_, _], _ => rfl), PySem.W.mg_of X G a5⟩
  have F6 := fun_mk (st := s__law_whole) l6 c6 k6
  have D__law_whole : Df K mg "_law_whole" s__law_whole ["found"] := ⟨f6, _, F6, F6.binds (ps := ["found"]) (fun _ _ _ _ _ _ us hl => match us, hl with | [_], _ => rfl), PySem.W.mg_of X G a6⟩
  have F7 := fun_mk (st := s__law_product) l7 c7 k7
  have D__law_product : Df K mg "_law_product" s__law_product ["numbers"] := ⟨f7, _, F7, F7.binds (ps := ["numbers"]) (fun _ _ _ _ _ _ us hl => match us, hl with | [_], _ => rfl), PySem.W.mg_of X G a7⟩
  have F8 := fun_mk (st := s__law_near) l8 c8 k8
  have D__law_near : Df K mg "_law_near" s__law_near ["times", "row", "place"] := ⟨f8, _, F8, F8.binds (ps := ["times", "row", "place"]) (fun _ _ _ _ _ _ us hl => match us, hl with | [_, _, _], _ => rfl), PySem.W.mg_of X G a8⟩
  have F9 := fun_mk (st := s__law_is_row) l9 c9 k9
  have D__law_is_row : Df K mg "_law_is_row" s__law_is_row ["times", "row"] := ⟨f9, _, F9, F9.binds (ps := ["times", "row"]) (fun _ _ _ _ _ _ us hl => match us, hl with | [_, _], _ => rfl), PySem.W.mg_of X G a9⟩
  have F10 := fun_mk (st := s__law_alike) l10 c10 k10
  have D__law_alike : Df K mg "_law_alike" s__law_alike ["found", "due"] := ⟨f10, _, F10, F10.binds (ps := ["found", "due"]) (fun _ _ _ _ _ _ us hl => match us, hl with | [_, _], _ => rfl), PySem.W.mg_of X G a10⟩
  have F11 := fun_mk (st := s__law_root_by) l11 c11 k11
  have D__law_root_by : Df K mg "_law_root_by" s__law_root_by ["cell"] := ⟨f11, _, F11, F11.binds (ps := ["cell"]) (fun _ _ _ _ _ _ us hl => match us, hl with | [_], _ => rfl), PySem.W.mg_of X G a11⟩
  have F12 := fun_mk (st := s__law_drawn) l12 c12 k12
  have D__law_drawn : Df K mg "_law_drawn" s__law_drawn ["script"] := ⟨f12, _, F12, F12.binds (ps := ["script"]) (fun _ _ _ _ _ _ us hl => match us, hl with | [_], _ => rfl), PySem.W.mg_of X G a12⟩
  have F13 := fun_mk (st := s__law_odd) l13 c13 k13
  have D__law_odd : Df K mg "_law_odd" s__law_odd ["cell"] := ⟨f13, _, F13, F13.binds (ps := ["cell"]) (fun _ _ _ _ _ _ us hl => match us, hl with | [_], _ => rfl), PySem.W.mg_of X G a13⟩
  have F14 := fun_mk (st := s__law_turned) l14 c14 k14
  have D__law_turned : Df K mg "_law_turned" s__law_turned ["words", "cell"] := ⟨f14, _, F14, F14.binds (ps := ["words", "cell"]) (fun _ _ _ _ _ _ us hl => match us, hl with | [_, _], _ => rfl), PySem.W.mg_of X G a14⟩
  have F15 := fun_mk (st := s__law_number) l15 c15 k15
  have D__law_number : Df K mg "_law_number" s__law_number ["word"] := ⟨f15, _, F15, F15.binds (ps := ["word"]) (fun _ _ _ _ _ _ us hl => match us, hl with | [_], _ => rfl), PySem.W.mg_of X G a15⟩
  have F16 := fun_mk (st := s__law_due) l16 c16 k16
  have D__law_due : Df K mg "_law_due" s__law_due ["text"] := ⟨f16, _, F16, F16.binds (ps := ["text"]) (fun _ _ _ _ _ _ us hl => match us, hl with | [_], _ => rfl), PySem.W.mg_of X G a16⟩
  have F17 := fun_mk (st := s__law_tried) l17 c17 k17
  have D__law_tried : Df K mg "_law_tried" s__law_tried ["text"] := ⟨f17, _, F17, F17.binds (ps := ["text"]) (fun _ _ _ _ _ _ us hl => match us, hl with | [_], _ => rfl), PySem.W.mg_of X G a17⟩
  refine ⟨PySem.W.fnOf "law" "law" (defArgs s_law) (defBody s_law) (defScope s_law) .none kV18 dc18 pm18 an18 cd18 ct18, fun s v => .of_eq rfl, fun base _ _ => ?_⟩
  have c_product : Ca CX0 l.prog w K mg base 1 "product" (sp_product [] K) := ok_product B (PySem.W.mg_of X G aFIG) Z_RowError Z_NoRow Z_NoPlace Z_NoSuch Z_BadText kk_noRow_noRow kk_noRow_noPlace kk_noRow_noSuch kk_noRow_badText kk_noRow_VE kk_noPlace_noRow kk_noPlace_noPlace kk_noPlace_noSuch kk_noPlace_badText kk_noPlace_VE kk_noSuch_noRow kk_noSuch_noPlace kk_noSuch_noSuch kk_noSuch_badText kk_noSuch_VE kk_badText_noRow kk_badText_noPlace kk_badText_noSuch kk_badText_badText kk_badText_VE   D_product
  have c_holds : Ca CX0 l.prog w K mg base 2 "holds" (sp_holds [] K) := ok_holds B (PySem.W.mg_of X G aFIG) Z_RowError Z_NoRow Z_NoPlace Z_NoSuch Z_BadText kk_noRow_noRow kk_noRow_noPlace kk_noRow_noSuch kk_noRow_badText kk_noRow_VE kk_noPlace_noRow kk_noPlace_noPlace kk_noPlace_noSuch kk_noPlace_badText kk_noPlace_VE kk_noSuch_noRow kk_noSuch_noPlace kk_noSuch_noSuch kk_noSuch_badText kk_noSuch_VE kk_badText_noRow kk_badText_noPlace kk_badText_noSuch kk_badText_badText kk_badText_VE  c_product D_holds
  have c_see_row : Ca CX0 l.prog w K mg base 3 "see_row" (sp_see_row [] K) := ok_see_row B (PySem.W.mg_of X G aFIG) Z_RowError Z_NoRow Z_NoPlace Z_NoSuch Z_BadText kk_noRow_noRow kk_noRow_noPlace kk_noRow_noSuch kk_noRow_badText kk_noRow_VE kk_noPlace_noRow kk_noPlace_noPlace kk_noPlace_noSuch kk_noPlace_badText kk_noPlace_VE kk_noSuch_noRow kk_noSuch_noPlace kk_noSuch_noSuch kk_noSuch_badText kk_noSuch_VE kk_badText_noRow kk_badText_noPlace kk_badText_noSuch kk_badText_badText kk_badText_VE  c_holds D_see_row
  have r_see_row : Ca (L2.CX l.prog w) l.prog w K mg base 3 "see_row" (spX_see_row Z [] K) := okX_see_row B (PySem.W.mg_of X G aFIG) Z_RowError Z_NoRow Z_NoPlace Z_NoSuch Z_BadText kk_noRow_noRow kk_noRow_noPlace kk_noRow_noSuch kk_noRow_badText kk_noRow_VE kk_noPlace_noRow kk_noPlace_noPlace kk_noPlace_noSuch kk_noPlace_badText kk_noPlace_VE kk_noSuch_noRow kk_noSuch_noPlace kk_noSuch_noSuch kk_noSuch_badText kk_noSuch_VE kk_badText_noRow kk_badText_noPlace kk_badText_noSuch kk_badText_badText kk_badText_VE  c_holds D_see_row
  have c_number_of : Ca CX0 l.prog w K mg base 1 "number_of" (sp_number_of [] K) := ok_number_of B (PySem.W.mg_of X G aFIG) Z_RowError Z_NoRow Z_NoPlace Z_NoSuch Z_BadText kk_noRow_noRow kk_noRow_noPlace kk_noRow_noSuch kk_noRow_badText kk_noRow_VE kk_noPlace_noRow kk_noPlace_noPlace kk_noPlace_noSuch kk_noPlace_badText kk_noPlace_VE kk_noSuch_noRow kk_noSuch_noPlace kk_noSuch_noSuch kk_noSuch_badText kk_noSuch_VE kk_badText_noRow kk_badText_noPlace kk_badText_noSuch kk_badText_badText kk_badText_VE   D_number_of
  have r_number_of : Ca (L2.CX l.prog w) l.prog w K mg base 1 "number_of" (spX_number_of Z [] K) := okX_number_of B (PySem.W.mg_of X G aFIG) Z_RowError Z_NoRow Z_NoPlace Z_NoSuch Z_BadText kk_noRow_noRow kk_noRow_noPlace kk_noRow_noSuch kk_noRow_badText kk_noRow_VE kk_noPlace_noRow kk_noPlace_noPlace kk_noPlace_noSuch kk_noPlace_badText kk_noPlace_VE kk_noSuch_noRow kk_noSuch_noPlace kk_noSuch_noSuch kk_noSuch_badText kk_noSuch_VE kk_badText_noRow kk_badText_noPlace kk_badText_noSuch kk_badText_badText kk_badText_VE   D_number_of
  have c_read : Ca (L2.CX l.prog w) l.prog w K mg base 4 "read" (sp_read Z [] K) := ok_read B (PySem.W.mg_of X G aFIG) Z_RowError Z_NoRow Z_NoPlace Z_NoSuch Z_BadText kk_noRow_noRow kk_noRow_noPlace kk_noRow_noSuch kk_noRow_badText kk_noRow_VE kk_noPlace_noRow kk_noPlace_noPlace kk_noPlace_noSuch kk_noPlace_badText kk_noPlace_VE kk_noSuch_noRow kk_noSuch_noPlace kk_noSuch_noSuch kk_noSuch_badText kk_noSuch_VE kk_badText_noRow kk_badText_noPlace kk_badText_noSuch kk_badText_badText kk_badText_VE  c_number_of c_see_row r_number_of r_see_row D_read
  have c__law_cell_at : Ca CX0 l.prog w K mg base 1 "_law_cell_at" (sp__law_cell_at [] K) := ok__law_cell_at B (PySem.W.mg_of X G aFIG) Z_RowError Z_NoRow Z_NoPlace Z_NoSuch Z_BadText kk_noRow_noRow kk_noRow_noPlace kk_noRow_noSuch kk_noRow_badText kk_noRow_VE kk_noPlace_noRow kk_noPlace_noPlace kk_noPlace_noSuch kk_noPlace_badText kk_noPlace_VE kk_noSuch_noRow kk_noSuch_noPlace kk_noSuch_noSuch kk_noSuch_badText kk_noSuch_VE kk_badText_noRow kk_badText_noPlace kk_badText_noSuch kk_badText_badText kk_badText_VE   D__law_cell_at
  have c__law_whole : Ca CX0 l.prog w K mg base 1 "_law_whole" (sp__law_whole [] K) := ok__law_whole B (PySem.W.mg_of X G aFIG) Z_RowError Z_NoRow Z_NoPlace Z_NoSuch Z_BadText kk_noRow_noRow kk_noRow_noPlace kk_noRow_noSuch kk_noRow_badText kk_noRow_VE kk_noPlace_noRow kk_noPlace_noPlace kk_noPlace_noSuch kk_noPlace_badText kk_noPlace_VE kk_noSuch_noRow kk_noSuch_noPlace kk_noSuch_noSuch kk_noSuch_badText kk_noSuch_VE kk_badText_noRow kk_badText_noPlace kk_badText_noSuch kk_badText_badText kk_badText_VE   D__law_whole
  have c__law_product : Ca CX0 l.prog w K mg base 1 "_law_product" (sp__law_product [] K) := ok__law_product B (PySem.W.mg_of X G aFIG) Z_RowError Z_NoRow Z_NoPlace Z_NoSuch Z_BadText kk_noRow_noRow kk_noRow_noPlace kk_noRow_noSuch kk_noRow_badText kk_noRow_VE kk_noPlace_noRow kk_noPlace_noPlace kk_noPlace_noSuch kk_noPlace_badText kk_noPlace_VE kk_noSuch_noRow kk_noSuch_noPlace kk_noSuch_noSuch kk_noSuch_badText kk_noSuch_VE kk_badText_noRow kk_badText_noPlace kk_badText_noSuch kk_badText_badText kk_badText_VE   D__law_product
  have c__law_near : Ca CX0 l.prog w K mg base 2 "_law_near" (sp__law_near [] K) := ok__law_near B (PySem.W.mg_of X G aFIG) Z_RowError Z_NoRow Z_NoPlace Z_NoSuch Z_BadText kk_noRow_noRow kk_noRow_noPlace kk_noRow_noSuch kk_noRow_badText kk_noRow_VE kk_noPlace_noRow kk_noPlace_noPlace kk_noPlace_noSuch kk_noPlace_badText kk_noPlace_VE kk_noSuch_noRow kk_noSuch_noPlace kk_noSuch_noSuch kk_noSuch_badText kk_noSuch_VE kk_badText_noRow kk_badText_noPlace kk_badText_noSuch kk_badText_badText kk_badText_VE  c__law_product D__law_near
  have c__law_is_row : Ca CX0 l.prog w K mg base 2 "_law_is_row" (sp__law_is_row [] K) := ok__law_is_row B (PySem.W.mg_of X G aFIG) Z_RowError Z_NoRow Z_NoPlace Z_NoSuch Z_BadText kk_noRow_noRow kk_noRow_noPlace kk_noRow_noSuch kk_noRow_badText kk_noRow_VE kk_noPlace_noRow kk_noPlace_noPlace kk_noPlace_noSuch kk_noPlace_badText kk_noPlace_VE kk_noSuch_noRow kk_noSuch_noPlace kk_noSuch_noSuch kk_noSuch_badText kk_noSuch_VE kk_badText_noRow kk_badText_noPlace kk_badText_noSuch kk_badText_badText kk_badText_VE  c__law_product D__law_is_row
  have c__law_alike : Ca CX0 l.prog w K mg base 2 "_law_alike" (sp__law_alike [] K) := ok__law_alike B (PySem.W.mg_of X G aFIG) Z_RowError Z_NoRow Z_NoPlace Z_NoSuch Z_BadText kk_noRow_noRow kk_noRow_noPlace kk_noRow_noSuch kk_noRow_badText kk_noRow_VE kk_noPlace_noRow kk_noPlace_noPlace kk_noPlace_noSuch kk_noPlace_badText kk_noPlace_VE kk_noSuch_noRow kk_noSuch_noPlace kk_noSuch_noSuch kk_noSuch_badText kk_noSuch_VE kk_badText_noRow kk_badText_noPlace kk_badText_noSuch kk_badText_badText kk_badText_VE  c__law_whole D__law_alike
  have c__law_root_by : Ca CX0 l.prog w K mg base 1 "_law_root_by" (sp__law_root_by [] K) := ok__law_root_by B (PySem.W.mg_of X G aFIG) Z_RowError Z_NoRow Z_NoPlace Z_NoSuch Z_BadText kk_noRow_noRow kk_noRow_noPlace kk_noRow_noSuch kk_noRow_badText kk_noRow_VE kk_noPlace_noRow kk_noPlace_noPlace kk_noPlace_noSuch kk_noPlace_badText kk_noPlace_VE kk_noSuch_noRow kk_noSuch_noPlace kk_noSuch_noSuch kk_noSuch_badText kk_noSuch_VE kk_badText_noRow kk_badText_noPlace kk_badText_noSuch kk_badText_badText kk_badText_VE   D__law_root_by
  have c__law_drawn : Ca CX0 l.prog w K mg base 3 "_law_drawn" (sp__law_drawn [] K) := ok__law_drawn B (PySem.W.mg_of X G aFIG) Z_RowError Z_NoRow Z_NoPlace Z_NoSuch Z_BadText kk_noRow_noRow kk_noRow_noPlace kk_noRow_noSuch kk_noRow_badText kk_noRow_VE kk_noPlace_noRow kk_noPlace_noPlace kk_noPlace_noSuch kk_noPlace_badText kk_noPlace_VE kk_noSuch_noRow kk_noSuch_noPlace kk_noSuch_noSuch kk_noSuch_badText kk_noSuch_VE kk_badText_noRow kk_badText_noPlace kk_badText_noSuch kk_badText_badText kk_badText_VE  c__law_root_by c__law_cell_at c__law_near D__law_drawn
  have c__law_odd : Ca CX0 l.prog w K mg base 1 "_law_odd" (sp__law_odd [] K) := ok__law_odd B (PySem.W.mg_of X G aFIG) Z_RowError Z_NoRow Z_NoPlace Z_NoSuch Z_BadText kk_noRow_noRow kk_noRow_noPlace kk_noRow_noSuch kk_noRow_badText kk_noRow_VE kk_noPlace_noRow kk_noPlace_noPlace kk_noPlace_noSuch kk_noPlace_badText kk_noPlace_VE kk_noSuch_noRow kk_noSuch_noPlace kk_noSuch_noSuch kk_noSuch_badText kk_noSuch_VE kk_badText_noRow kk_badText_noPlace kk_badText_noSuch kk_badText_badText kk_badText_VE   D__law_odd
  have c__law_turned : Ca CX0 l.prog w K mg base 2 "_law_turned" (sp__law_turned [] K) := ok__law_turned B (PySem.W.mg_of X G aFIG) Z_RowError Z_NoRow Z_NoPlace Z_NoSuch Z_BadText kk_noRow_noRow kk_noRow_noPlace kk_noRow_noSuch kk_noRow_badText kk_noRow_VE kk_noPlace_noRow kk_noPlace_noPlace kk_noPlace_noSuch kk_noPlace_badText kk_noPlace_VE kk_noSuch_noRow kk_noSuch_noPlace kk_noSuch_noSuch kk_noSuch_badText kk_noSuch_VE kk_badText_noRow kk_badText_noPlace kk_badText_noSuch kk_badText_badText kk_badText_VE  c__law_odd D__law_turned
  have c__law_number : Ca CX0 l.prog w K mg base 1 "_law_number" (sp__law_number [] K) := ok__law_number B (PySem.W.mg_of X G aFIG) Z_RowError Z_NoRow Z_NoPlace Z_NoSuch Z_BadText kk_noRow_noRow kk_noRow_noPlace kk_noRow_noSuch kk_noRow_badText kk_noRow_VE kk_noPlace_noRow kk_noPlace_noPlace kk_noPlace_noSuch kk_noPlace_badText kk_noPlace_VE kk_noSuch_noRow kk_noSuch_noPlace kk_noSuch_noSuch kk_noSuch_badText kk_noSuch_VE kk_badText_noRow kk_badText_noPlace kk_badText_noSuch kk_badText_badText kk_badText_VE   D__law_number
  have c__law_due : Ca CX0 l.prog w K mg base 2 "_law_due" (sp__law_due [] K) := ok__law_due B (PySem.W.mg_of X G aFIG) Z_RowError Z_NoRow Z_NoPlace Z_NoSuch Z_BadText kk_noRow_noRow kk_noRow_noPlace kk_noRow_noSuch kk_noRow_badText kk_noRow_VE kk_noPlace_noRow kk_noPlace_noPlace kk_noPlace_noSuch kk_noPlace_badText kk_noPlace_VE kk_noSuch_noRow kk_noSuch_noPlace kk_noSuch_noSuch kk_noSuch_badText kk_noSuch_VE kk_badText_noRow kk_badText_noPlace kk_badText_noSuch kk_badText_badText kk_badText_VE  c__law_number D__law_due
  have c__law_tried : Ca CX0 l.prog w K mg base 5 "_law_tried" (sp__law_tried [] K) := ok__law_tried B (PySem.W.mg_of X G aFIG) Z_RowError Z_NoRow Z_NoPlace Z_NoSuch Z_BadText kk_noRow_noRow kk_noRow_noPlace kk_noRow_noSuch kk_noRow_badText kk_noRow_VE kk_noPlace_noRow kk_noPlace_noPlace kk_noPlace_noSuch kk_noPlace_badText kk_noPlace_VE kk_noSuch_noRow kk_noSuch_noPlace kk_noSuch_noSuch kk_noSuch_badText kk_noSuch_VE kk_badText_noRow kk_badText_noPlace kk_badText_noSuch kk_badText_badText kk_badText_VE  c_read D__law_tried
  exact ok_law B (PySem.W.mg_of X G aFIG) Z_RowError Z_NoRow Z_NoPlace Z_NoSuch Z_BadText kk_noRow_noRow kk_noRow_noPlace kk_noRow_noSuch kk_noRow_badText kk_noRow_VE kk_noPlace_noRow kk_noPlace_noPlace kk_noPlace_noSuch kk_noPlace_badText kk_noPlace_VE kk_noSuch_noRow kk_noSuch_noPlace kk_noSuch_noSuch kk_noSuch_badText kk_noSuch_VE kk_badText_noRow kk_badText_noPlace kk_badText_noSuch kk_badText_badText kk_badText_VE  c__law_drawn c__law_due c__law_tried c__law_turned c__law_is_row c__law_alike c__law_cell_at c__law_whole (fun_mk (st := s_law) l18 c18 k18)

end Sm
open PySem PySem.W PyProof.Rows
set_option maxHeartbeats 0 in
theorem PySem.Challenge.cw_sumtimes_k14_read_holds : PySem.Challenge.rw_sumtimes_k14_read.Holds := by
  w_on; o_law; k_head; (case hw => w_witness2)
  k_fill
  refine L2.walk_of (l := PySem.Challenge.rw_sumtimes_k14_read) (n := 63) (k := 6) (x := "script") (CX := fun _ => L2.CX0) (sp := fun w => Sm.sp_law [] _) rfl (by decide) rfl ⟨rfl, by decide, by decide⟩ (fun w h Y => PySem.W.kIn_of Y) ?F (fun _ _ a ns hl _ hS => Sm.law_in hS hl) (fun _ _ _ _ _ h => h)
  case F =>
    intro w mg fa h KX G hmg
    refine' Sm.all_mk KX G hmg ?a0 ?l0 ?c0 ?k0 ?a1 ?l1 ?c1 ?k1 ?a2 ?l2 ?c2 ?k2 ?a3 ?l3 ?c3 ?k3 ?a4 ?l4 ?c4 ?k4 ?a5 ?l5 ?c5 ?k5 ?a6 ?l6 ?c6 ?k6 ?a7 ?l7 ?c7 ?k7 ?a8 ?l8 ?c8 ?k8 ?a9 ?l9 ?c9 ?k9 ?a10 ?l10 ?c10 ?k10 ?a11 ?l11 ?c11 ?k11 ?a12 ?l12 ?c12 ?k12 ?a13 ?l13 ?c13 ?k13 ?a14 ?l14 ?c14 ?k14 ?a15 ?l15 ?c15 ?k15 ?a16 ?l16 ?c16 ?k16 ?a17 ?l17 ?c17 ?k17 ?a18 ?l18 ?c18 ?k18 ?z_len ?z_range ?z_sum ?z_sorted ?z_min ?z_max ?z_isinstance ?z_int ?z_bool ?z_list ?z_tuple ?z_str ?z_set ?z_ValueError ?aFIG ?yn ?yt ?grow ?xrow ?krow ?brow ?trow ?srow ?hgrow ?hkrow ?hdrow ?harow ?hmrow ?gnoRow ?xnoRow ?knoRow ?bnoRow ?tnoRow ?snoRow ?hgnoRow ?hknoRow ?hdnoRow ?hanoRow ?hmnoRow ?gnoPlace ?xnoPlace ?knoPlace ?bnoPlace ?tnoPlace ?snoPlace ?hgnoPlace ?hknoPlace ?hdnoPlace ?hanoPlace ?hmnoPlace ?gnoSuch ?xnoSuch ?knoSuch ?bnoSuch ?tnoSuch ?snoSuch ?hgnoSuch ?hknoSuch ?hdnoSuch ?hanoSuch ?hmnoSuch ?gbadText ?xbadText ?kbadText ?bbadText ?tbadText ?sbadText ?hgbadText ?hkbadText ?hdbadText ?habadText ?hmbadText ?eq_kk_noRow_noRow ?ss_kk_noRow_noPlace ?eq_kk_noRow_noPlace ?ss_kk_noRow_noSuch ?eq_kk_noRow_noSuch ?ss_kk_noRow_badText ?eq_kk_noRow_badText ?ss_kk_noRow_VE ?ss_kk_noPlace_noRow ?eq_kk_noPlace_noRow ?eq_kk_noPlace_noPlace ?ss_kk_noPlace_noSuch ?eq_kk_noPlace_noSuch ?ss_kk_noPlace_badText ?eq_kk_noPlace_badText ?ss_kk_noPlace_VE ?ss_kk_noSuch_noRow ?eq_kk_noSuch_noRow ?ss_kk_noSuch_noPlace ?eq_kk_noSuch_noPlace ?eq_kk_noSuch_noSuch ?ss_kk_noSuch_badText ?eq_kk_noSuch_badText ?ss_kk_noSuch_VE ?ss_kk_badText_noRow ?eq_kk_badText_noRow ?ss_kk_badText_noPlace ?eq_kk_badText_noPlace ?ss_kk_badText_noSuch ?eq_kk_badText_noSuch ?eq_kk_badText_badText ?ss_kk_badText_VE
    (case a0 => k_is)
    (case l0 => k_is)
    (case c0 => k_is)
    (case k0 => k_is)
    (case a1 => k_is)
    (case l1 => k_is)
    (case c1 => k_is)
    (case k1 => k_is)
    (case a2 => k_is)
    (case l2 => k_is)
    (case c2 => k_is)
    (case k2 => k_is)
    (case a3 => k_is)
    (case l3 => k_is)
    (case c3 => k_is)
    (case k3 => k_is)
    (case a4 => k_is)
    (case l4 => k_is)
    (case c4 => k_is)
    (case k4 => k_is)
    (case a5 => k_is)
    (case l5 => k_is)
    (case c5 => k_is)
    (case k5 => k_is)
    (case a6 => k_is)
    (case l6 => k_is)
    (case c6 => k_is)
    (case k6 => k_is)
    (case a7 => k_is)
    (case l7 => k_is)
    (case c7 => k_is)
    (case k7 => k_is)
    (case a8 => k_is)
    (case l8 => k_is)
    (case c8 => k_is)
    (case k8 => k_is)
    (case a9 => k_is)
    (case l9 => k_is)
    (case c9 => k_is)
    (case k9 => k_is)
    (case a10 => k_is)
    (case l10 => k_is)
    (case c10 => k_is)
    (case k10 => k_is)
    (case a11 => k_is)
    (case l11 => k_is)
    (case c11 => k_is)
    (case k11 => k_is)
    (case a12 => k_is)
    (case l12 => k_is)
    (case c12 => k_is)
    (case k12 => k_is)
    (case a13 => k_is)
    (case l13 => k_is)
    (case c13 => k_is)
    (case k13 => k_is)
    (case a14 => k_is)
    (case l14 => k_is)
    (case c14 => k_is)
    (case k14 => k_is)
    (case a15 => k_is)
    (case l15 => k_is)
    (case c15 => k_is)
    (case k15 => k_is)
    (case a16 => k_is)
    (case l16 => k_is)
    (case c16 => k_is)
    (case k16 => k_is)
    (case a17 => k_is)
    (case l17 => k_is)
    (case c17 => k_is)
    (case k17 => k_is)
    (case a18 => k_is)
    (case l18 => k_is)
    (case c18 => k_is)
    (case k18 => k_is)
    (case z_len => k_is)
    (case z_range => k_is)
    (case z_sum => k_is)
    (case z_sorted => k_is)
    (case z_min => k_is)
    (case z_max => k_is)
    (case z_isinstance => k_is)
    (case z_int => k_is)
    (case z_bool => k_is)
    (case z_list => k_is)
    (case z_tuple => k_is)
    (case z_str => k_is)
    (case z_set => k_is)
    (case z_ValueError => k_is)
    (case aFIG => k_is)
    (case yn => k_is)
    (case yt => k_is)
    (case grow => k_is)
    (case xrow => k_exc)
    (case krow => k_is)
    (case brow => k_is)
    (case trow => k_is)
    (case srow => first | rfl | k_is)
    (case hgrow => k_is)
    (case hkrow => k_is)
    (case hdrow => k_is)
    (case harow => k_is)
    (case hmrow => k_is)
    (case gnoRow => k_is)
    (case xnoRow => k_exc)
    (case knoRow => k_is)
    (case bnoRow => k_is)
    (case tnoRow => k_is)
    (case snoRow => first | rfl | k_is)
    (case hgnoRow => k_is)
    (case hknoRow => k_is)
    (case hdnoRow => k_is)
    (case hanoRow => k_is)
    (case hmnoRow => k_is)
    (case gnoPlace => k_is)
    (case xnoPlace => k_exc)
    (case knoPlace => k_is)
    (case bnoPlace => k_is)
    (case tnoPlace => k_is)
    (case snoPlace => first | rfl | k_is)
    (case hgnoPlace => k_is)
    (case hknoPlace => k_is)
    (case hdnoPlace => k_is)
    (case hanoPlace => k_is)
    (case hmnoPlace => k_is)
    (case gnoSuch => k_is)
    (case xnoSuch => k_exc)
    (case knoSuch => k_is)
    (case bnoSuch => k_is)
    (case tnoSuch => k_is)
    (case snoSuch => first | rfl | k_is)
    (case hgnoSuch => k_is)
    (case hknoSuch => k_is)
    (case hdnoSuch => k_is)
    (case hanoSuch => k_is)
    (case hmnoSuch => k_is)
    (case gbadText => k_is)
    (case xbadText => k_exc)
    (case kbadText => k_is)
    (case bbadText => k_is)
    (case tbadText => k_is)
    (case sbadText => first | rfl | k_is)
    (case hgbadText => k_is)
    (case hkbadText => k_is)
    (case hdbadText => k_is)
    (case habadText => k_is)
    (case hmbadText => k_is)
    (case eq_kk_noRow_noRow => first | rfl | decide)
    (case ss_kk_noRow_noPlace => k_is)
    (case eq_kk_noRow_noPlace => first | rfl | decide)
    (case ss_kk_noRow_noSuch => k_is)
    (case eq_kk_noRow_noSuch => first | rfl | decide)
    (case ss_kk_noRow_badText => k_is)
    (case eq_kk_noRow_badText => first | rfl | decide)
    (case ss_kk_noRow_VE => k_is)
    (case ss_kk_noPlace_noRow => k_is)
    (case eq_kk_noPlace_noRow => first | rfl | decide)
    (case eq_kk_noPlace_noPlace => first | rfl | decide)
    (case ss_kk_noPlace_noSuch => k_is)
    (case eq_kk_noPlace_noSuch => first | rfl | decide)
    (case ss_kk_noPlace_badText => k_is)
    (case eq_kk_noPlace_badText => first | rfl | decide)
    (case ss_kk_noPlace_VE => k_is)
    (case ss_kk_noSuch_noRow => k_is)
    (case eq_kk_noSuch_noRow => first | rfl | decide)
    (case ss_kk_noSuch_noPlace => k_is)
    (case eq_kk_noSuch_noPlace => first | rfl | decide)
    (case eq_kk_noSuch_noSuch => first | rfl | decide)
    (case ss_kk_noSuch_badText => k_is)
    (case eq_kk_noSuch_badText => first | rfl | decide)
    (case ss_kk_noSuch_VE => k_is)
    (case ss_kk_badText_noRow => k_is)
    (case eq_kk_badText_noRow => first | rfl | decide)
    (case ss_kk_badText_noPlace => k_is)
    (case eq_kk_badText_noPlace => first | rfl | decide)
    (case ss_kk_badText_noSuch => k_is)
    (case eq_kk_badText_noSuch => first | rfl | decide)
    (case eq_kk_badText_badText => first | rfl | decide)
    (case ss_kk_badText_VE => k_is)
#print axioms PySem.Challenge.cw_sumtimes_k14_read_holds
