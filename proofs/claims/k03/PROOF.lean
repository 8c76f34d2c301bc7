import PyProof.Rows.All
import Wide.All
import OpenK.AllK
import Wide.FinOn
import HandS.ForMost
import HandS.Wide
import HandS.IsInst
import HandS.SortInts
import HandS.Deep
import HandS.Exc
import HandS.TryOnly
import HandS.ExcOwn
import HandS.WordsExc
import HandS.Lambda
import HandS.EndTab
import HandS.Evl
import KE.DataCmp
import HandS.More
import KE.SortKeyHeap
import KE.KSortKey
import HandS.Keys
import HandS.SortKw
import HandS.ExcIs
import PySem.Challenge.RW_sumtimes_k03_no_rows
set_option Elab.async false
set_option linter.all false
set_option maxRecDepth 100000
set_option maxHeartbeats 4000000
/-! SmA: the frame: extension of heaps, evaluation, statements. -/
namespace Sm
open PySem PySem.Spec PyProof.Rows L2

abbrev vz (ns : List Int) : List V := ns.map V.int
abbrev Tb := List (Addr × Str)
/-- later heaps: what was tracked stands (tables of code objects grow), what is new was free -/
structure Ex (T : Tb) (H H' : Hp) : Prop where
  k : ∀ a o, H a = some o → (∀ ps, o ≠ .tbl ps) → H' a = some o
  t : LamX.Tabs T H → LamX.Tabs T H'
  n : ∀ a, H' a = none → H a = none
section
variable {T : Tb} {K : PySem.W.Frag} {H H1 H2 : Hp} {a p l : Addr} {o : HO} {xs ys : List V}
theorem Ex.refl : Ex T H H := ⟨fun _ _ h _ => h, fun h => h, fun _ h => h⟩
theorem Ex.trans (e : Ex T H H1) (f : Ex T H1 H2) : Ex T H H2 := ⟨fun b u h q => f.k b u (e.k b u h q) q, fun h => f.t (e.t h), fun b h => e.n b (f.n b h)⟩
theorem Ex.of (h : ∀ b u, H b = some u → H1 b = some u) : Ex T H H1 := ⟨fun b u e _ => h b u e, fun t => t.ext h, fun b e => by
  cases q : H b with
  | none => rfl
  | some u => rw [h b u q] at e; cases e⟩
theorem Ex.new (h : H p = none) : Ex T H (upd H p o) := .of fun b u e => by rw [upd_ne (ne_of_none e h)]; exact e
theorem Ex.lst (e : Ex T H H1) (h : H a = some (.lst xs)) : H1 a = some (.lst xs) := e.k _ _ h fun _ z => nomatch z
theorem Ex.tup (e : Ex T H H1) (h : H a = some (.tup xs)) : H1 a = some (.tup xs) := e.k _ _ h fun _ z => nomatch z
theorem Ex.dT {kv} (e : Ex T H H1) (h : H a = some (.dT kv)) : H1 a = some (.dT kv) := e.k _ _ h fun _ z => nomatch z
theorem Ex.sq (e : Ex T H H1) (h : SqL K H a xs) : SqL K H1 a xs := by
  rcases h with (h | ⟨w, h⟩) | h
  · exact .inl (.inl (e.lst h))
  · exact .inl (.inr ⟨w, e.k _ _ h fun _ z => nomatch z⟩)
  · exact .inr h
theorem Ex.sqt (e : Ex T H H1) (h : SqT K H a xs) : SqT K H1 a xs := by
  rcases h with (h | ⟨w, h⟩) | h
  · exact .inl (.inl (e.tup h))
  · exact .inl (.inr ⟨w, e.k _ _ h fun _ z => nomatch z⟩)
  · exact .inr h
/-- a list of one's own is changed -/
theorem Ex.mut (e : Ex T H H1) (h0 : H l = none) (h1 : H1 l = some (.lst xs)) : Ex T H (upd H1 l (.lst ys)) := by
  refine ⟨fun b u h q => ?_, fun t => ?_, fun b h => ?_⟩
  · rw [upd_ne (ne_of_none h h0)]
    exact e.k b u h q
  · intro x hx
    obtain ⟨ps, t1, t2, t3⟩ := e.t t x hx
    refine ⟨ps, ?_, t2, fun pos cv hc => ?_⟩
    · rw [upd_ne (ne_of t1 h1 (by intro z; cases z))]
      exact t1
    · obtain ⟨c, c1, c2⟩ := t3 pos cv hc
      refine ⟨c, c1, ?_⟩
      rw [upd_ne (ne_of c2 h1 (by intro z; unfold LamX.CodeO at z; cases z))]
      exact c2
  · by_cases hb : b = l
    · rw [hb]; exact h0
    · rw [upd_ne hb] at h
      exact e.n b h
theorem Ex.mutT {kv kv'} (e : Ex T H H1) (h0 : H l = none) (h1 : H1 l = some (.dT kv)) : Ex T H (upd H1 l (.dT kv')) := by
  refine ⟨fun b u h q => ?_, fun t => ?_, fun b h => ?_⟩
  · rw [upd_ne (ne_of_none h h0)]
    exact e.k b u h q
  · intro x hx
    obtain ⟨ps, t1, t2, t3⟩ := e.t t x hx
    refine ⟨ps, ?_, t2, fun pos cv hc => ?_⟩
    · rw [upd_ne (ne_of t1 h1 (by intro z; cases z))]
      exact t1
    · obtain ⟨c, c1, c2⟩ := t3 pos cv hc
      refine ⟨c, c1, ?_⟩
      rw [upd_ne (ne_of c2 h1 (by intro z; unfold LamX.CodeO at z; cases z))]
      exact c2
  · by_cases hb : b = l
    · rw [hb]; exact h0
    · rw [upd_ne hb] at h
      exact e.n b h
/-- the heap without one object: what is known there does not hang on it -/
def rm (H : Hp) (D : Addr) : Hp := fun b => if b = D then none else H b
theorem rm_at {D : Addr} : rm H D D = none := if_pos rfl
theorem rm_ne {D b : Addr} (h : b ≠ D) : rm H D b = H b := if_neg h
theorem rm_upd {D : Addr} {u : HO} : rm (upd H D u) D = rm H D := by
  funext b
  by_cases h : b = D
  · rw [h, rm_at, rm_at]
  · rw [rm_ne h, rm_ne h, upd_ne h]
end

/-! ### what evaluates to what -/
def Ev (T : Tb) (te : TE) (σ : L2.St) (H : Hp) (v : V) : Prop := ∀ H1, Ex T H H1 → ∀ Q : VK, (∀ H2, Ex T H1 H2 → Q v H2) → te σ H1 Q
def EvL (T : Tb) (te : TE) (σ : L2.St) (H : Hp) (xs : List V) : Prop := ∀ H1, Ex T H H1 → ∀ Q : VK, (∀ p H2, H1 p = none → Ex T H1 H2 → H2 p = some (.lst xs) → Q (.ref p) H2) → te σ H1 Q
def EvU (T : Tb) (te : TE) (σ : L2.St) (H : Hp) (xs : List V) : Prop := ∀ H1, Ex T H H1 → ∀ Q : VK, (∀ p H2, H1 p = none → Ex T H1 H2 → H2 p = some (.tup xs) → Q (.ref p) H2) → te σ H1 Q
def EvR (T : Tb) (te : TE) (σ : L2.St) (H : Hp) (R : Hp → V → Hp → Prop) : Prop := ∀ H1, Ex T H H1 → ∀ Q : VK, (∀ v H2, Ex T H1 H2 → R H1 v H2 → Q v H2) → te σ H1 Q
def EvT (T : Tb) (tt : TT) (σ : L2.St) (H : Hp) (b : Bool) : Prop := ∀ H1, Ex T H H1 → ∀ Q : Bool → Hp → Prop, (∀ H2, Ex T H1 H2 → Q b H2) → tt σ H1 Q
def EvA (T : Tb) (ta : TA) (σ : L2.St) (H : Hp) (vs : List V) : Prop := ∀ H1, Ex T H H1 → ∀ Q : List V → Hp → Prop, (∀ H2, Ex T H1 H2 → Q vs H2) → ta σ H1 Q
def EvO (T : Tb) (to : TO) (σ : L2.St) (H : Hp) (o : Option Int) : Prop := ∀ H1, Ex T H H1 → ∀ Q : Option Int → Hp → Prop, (∀ H2, Ex T H1 H2 → Q o H2) → to σ H1 Q
section
variable {T : Tb} {K : PySem.W.Frag} {σ : L2.St} {H H' : Hp} {ta tb te tc : TE} {t u : TT} {x y z v : V} {xs ys : List V} {a p l : Addr} {i j : Int}
theorem Ev.mono (h : Ev T te σ H v) (e : Ex T H H') : Ev T te σ H' v := fun H1 f Q q => h H1 (e.trans f) Q q
theorem EvT.mono {b : Bool} (h : EvT T t σ H b) (e : Ex T H H') : EvT T t σ H' b := fun H1 f Q q => h H1 (e.trans f) Q q
theorem Ev.is {w : V} (h : Ev T te σ H v) (e : v = w) : Ev T te σ H w := e ▸ h
theorem EvT.is {b c : Bool} (h : EvT T t σ H b) (e : b = c) : EvT T t σ H c := e ▸ h
theorem EvL.is (h : EvL T te σ H xs) (e : xs = ys) : EvL T te σ H ys := e ▸ h
theorem Ev.as {w : V} (e : v = w) (h : Ev T te σ H v) : Ev T te σ H w := e ▸ h
theorem EvL.as (e : xs = ys) (h : EvL T te σ H xs) : EvL T te σ H ys := e ▸ h
theorem EvT.as {b c : Bool} (e : b = c) (h : EvT T t σ H b) : EvT T t σ H c := e ▸ h
theorem ev_var {n : Nat} (h : σ[n]? = some (some v)) : Ev T (tVar n) σ H v := fun H1 _ _ q => ⟨v, h, q H1 .refl⟩
theorem ev_c : Ev T (tC v) σ H v := fun H1 _ _ q => q H1 .refl
theorem ev_I0 {g : Int → Int → V} (ha : Ev T ta σ H (.int i)) (hb : Ev T tb σ H (.int j)) : Ev T (tOp (rI0 g) ta tb) σ H (g i j) := fun H1 e Q q =>
  ha H1 e _ fun H2 e2 => hb H2 (e.trans e2) _ fun H3 e3 => ⟨i, j, rfl, rfl, q H3 (e2.trans e3)⟩
theorem ev_I {C : Int → Int → Prop} {g : Int → Int → V} (ha : Ev T ta σ H (.int i)) (hb : Ev T tb σ H (.int j)) (hc : C i j) : Ev T (tOp (rI C g) ta tb) σ H (g i j) := fun H1 e Q q =>
  ha H1 e _ fun H2 e2 => hb H2 (e.trans e2) _ fun H3 e3 => ⟨i, j, rfl, rfl, hc, q H3 (e2.trans e3)⟩
theorem ev_eq (ha : Ev T ta σ H x) (hb : Ev T tb σ H y) (hs : scal x y = true) : Ev T (tOp rEq ta tb) σ H (.bl (decide (x = y))) := fun H1 e Q q =>
  ha H1 e _ fun H2 e2 => hb H2 (e.trans e2) _ fun H3 e3 => ⟨hs, q H3 (e2.trans e3)⟩
theorem ev_ne (ha : Ev T ta σ H x) (hb : Ev T tb σ H y) (hs : scal x y = true) : Ev T (tOp rNe ta tb) σ H (.bl (!decide (x = y))) := fun H1 e Q q =>
  ha H1 e _ fun H2 e2 => hb H2 (e.trans e2) _ fun H3 e3 => ⟨hs, q H3 (e2.trans e3)⟩
theorem ev_un {g : Int → V} (ha : Ev T ta σ H (.int i)) : Ev T (tUn (rU g) ta) σ H (g i) := fun H1 e Q q => ha H1 e _ fun H2 e2 => ⟨i, rfl, q H2 e2⟩
theorem ev_ixL (ha : Ev T ta σ H (.ref p)) (hb : Ev T tb σ H (.int i)) (h : SqL K H p xs) (hv : atI xs i = some v) : Ev T (tOp (rIxL K) ta tb) σ H v := fun H1 e Q q =>
  ha H1 e _ fun H2 e2 => hb H2 (e.trans e2) _ fun H3 e3 => ⟨p, xs, i, v, rfl, rfl, ((e.trans e2).trans e3).sq h, hv, q H3 (e2.trans e3)⟩
theorem ev_ixT (ha : Ev T ta σ H (.ref p)) (hb : Ev T tb σ H (.int i)) (h : SqT K H p xs) (hv : atI xs i = some v) : Ev T (tOp (rIxT K) ta tb) σ H v := fun H1 e Q q =>
  ha H1 e _ fun H2 e2 => hb H2 (e.trans e2) _ fun H3 e3 => ⟨p, xs, i, v, rfl, rfl, ((e.trans e2).trans e3).sqt h, hv, q H3 (e2.trans e3)⟩
/-- len of a list, a tuple -/
def rLenS (K : PySem.W.Frag) : List V → Hp → VK → Prop := fun vs H Q => ∃ p ys, vs = [.ref p] ∧ (SqL K H p ys ∨ SqT K H p ys) ∧ Q (.int ys.length) H
def rListS (K : PySem.W.Frag) : List V → Hp → VK → Prop := fun vs H Q => ∃ p ys, vs = [.ref p] ∧ (SqL K H p ys ∨ SqT K H p ys) ∧ ∀ l, H l = none → Q (.ref l) (upd H l (.lst ys))
theorem ev_len (ha : Ev T ta σ H (.ref p)) (h : SqL K H p xs) : Ev T (tCB (rLenS K) (tCons ta tNil)) σ H (.int (xs.length : Int)) := fun H1 e Q q =>
  ha H1 e _ fun H2 e2 => ⟨p, xs, rfl, .inl ((e.trans e2).sq h), q H2 e2⟩
theorem ev_lenT (ha : Ev T ta σ H (.ref p)) (h : SqT K H p xs) : Ev T (tCB (rLenS K) (tCons ta tNil)) σ H (.int (xs.length : Int)) := fun H1 e Q q =>
  ha H1 e _ fun H2 e2 => ⟨p, xs, rfl, .inr ((e.trans e2).sqt h), q H2 e2⟩
theorem ev_sum {ns : List Int} (ha : Ev T ta σ H (.ref p)) (h : SqL K H p (vz ns)) : Ev T (tCB (rSum K) (tCons ta tNil)) σ H (.int ns.sum) := fun H1 e Q q =>
  ha H1 e _ fun H2 e2 => ⟨p, ns, rfl, (e.trans e2).sq h, q H2 e2⟩
theorem ev_sumN {ns : List Int} (ha : EvL T ta σ H (vz ns)) : Ev T (tCB (rSum K) (tCons ta tNil)) σ H (.int ns.sum) := fun H1 e Q q =>
  ha H1 e _ fun p H2 _ e2 hp => ⟨p, ns, rfl, SqL.of hp, q H2 e2⟩
theorem el_list (ha : Ev T ta σ H (.ref p)) (h : SqL K H p xs) : EvL T (tCB (rListS K) (tCons ta tNil)) σ H xs := fun H1 e Q q =>
  ha H1 e _ fun H2 e2 => ⟨p, xs, rfl, .inl ((e.trans e2).sq h), fun l hl => q l _ (e2.n l hl) (e2.trans (.new hl)) upd_same⟩
theorem el_listN (ha : EvL T ta σ H xs) : EvL T (tCB (rListS K) (tCons ta tNil)) σ H xs := fun H1 e Q q =>
  ha H1 e _ fun p H2 _ e2 hp => ⟨p, xs, rfl, .inl (SqL.of hp), fun l hl => q l _ (e2.n l hl) (e2.trans (.new hl)) upd_same⟩
theorem et_test {b : Bool} (h : Ev T te σ H (.bl b)) : EvT T (tTest te) σ H b := fun H1 e _ q => h H1 e _ fun H2 e2 => ⟨b, rfl, q H2 e2⟩
theorem et_B {b : Bool} (h : Ev T te σ H (.bl b)) : EvT T (tB te) σ H b := fun H1 e _ q => h H1 e _ fun H2 e2 => ⟨b, rfl, q H2 e2⟩
theorem et_and {b c : Bool} (h1 : EvT T t σ H b) (h2 : b = true → EvT T u σ H c) : EvT T (tAnd t u) σ H (b && c) := fun H1 e Q q => h1 H1 e _ fun H2 e2 => by
  cases b with
  | true => exact iteT (h2 rfl H2 (e.trans e2) Q fun H3 e3 => q H3 (e2.trans e3))
  | false => exact iteF (q H2 e2)
theorem et_or {b c : Bool} (h1 : EvT T t σ H b) (h2 : b = false → EvT T u σ H c) : EvT T (tOr t u) σ H (b || c) := fun H1 e Q q => h1 H1 e _ fun H2 e2 => by
  cases b with
  | true => exact iteT (q H2 e2)
  | false => exact iteF (h2 rfl H2 (e.trans e2) Q fun H3 e3 => q H3 (e2.trans e3))
theorem et_not {b : Bool} (h1 : EvT T t σ H b) : EvT T (tNot t) σ H (!b) := fun H1 e _ q => h1 H1 e _ fun H2 e2 => q H2 e2
theorem ev_andV {b c : Bool} (h1 : Ev T ta σ H (.bl b)) (h2 : b = true → Ev T tb σ H (.bl c)) : Ev T (tAndV ta tb) σ H (.bl (b && c)) := fun H1 e Q q => h1 H1 e _ fun H2 e2 => ⟨b, rfl, by
  cases b with
  | true => exact iteT (h2 rfl H2 (e.trans e2) Q fun H3 e3 => q H3 (e2.trans e3))
  | false => exact iteF (q H2 e2)⟩
theorem ev_orV {b c : Bool} (h1 : Ev T ta σ H (.bl b)) (h2 : b = false → Ev T tb σ H (.bl c)) : Ev T (tOrV ta tb) σ H (.bl (b || c)) := fun H1 e Q q => h1 H1 e _ fun H2 e2 => ⟨b, rfl, by
  cases b with
  | true => exact iteT (q H2 e2)
  | false => exact iteF (h2 rfl H2 (e.trans e2) Q fun H3 e3 => q H3 (e2.trans e3))⟩
theorem ev_notV {b : Bool} (h1 : Ev T ta σ H (.bl b)) : Ev T (tNotV ta) σ H (.bl (!b)) := fun H1 e _ q => h1 H1 e _ fun H2 e2 => ⟨b, rfl, q H2 e2⟩
theorem ea_nil : EvA T tNil σ H [] := fun H1 _ _ q => q H1 .refl
theorem ea_cons {tr : TA} {vs : List V} (h : Ev T ta σ H x) (hr : EvA T tr σ H vs) : EvA T (tCons ta tr) σ H (x :: vs) := fun H1 e _ q =>
  h H1 e _ fun H2 e2 => hr H2 (e.trans e2) _ fun H3 e3 => q H3 (e2.trans e3)
theorem eu_tup {tr : TA} {vs : List V} (h : EvA T tr σ H vs) (hl : vs.length ≤ 1000) : EvU T (tTup tr) σ H vs := fun H1 e _ q =>
  h H1 e _ fun H2 e2 => ⟨Nat.le_of_lt (small1000 hl), fun p hp => q p _ (e2.n p hp) (e2.trans (.new hp)) upd_same⟩
theorem el_lst {tr : TA} {vs : List V} (h : EvA T tr σ H vs) (hl : vs.length ≤ 1000) : EvL T (tLst tr) σ H vs := fun H1 e _ q =>
  h H1 e _ fun H2 e2 => ⟨Nat.le_of_lt (small1000 hl), fun p hp => q p _ (e2.n p hp) (e2.trans (.new hp)) upd_same⟩
theorem eo_none : EvO T tNoPart σ H none := fun H1 _ _ q => q H1 .refl
theorem eo_some (h : Ev T te σ H (.int i)) : EvO T (tPart te) σ H (some i) := fun H1 e _ q => h H1 e _ fun H2 e2 => ⟨i, rfl, q H2 e2⟩
theorem el_sl {tl th : TO} {lo hi : Option Int} (h : Ev T te σ H (.ref a)) (h1 : EvO T tl σ H lo) (h2 : EvO T th σ H hi) (hs : SqL K H a xs) : EvL T (tSl (rSlL K) te tl th) σ H (cutV xs lo hi) := fun H1 e _ q =>
  h H1 e _ fun H2 e2 => h1 H2 (e.trans e2) _ fun H3 e3 => h2 H3 ((e.trans e2).trans e3) _ fun H4 e4 =>
    ⟨a, xs, rfl, (((e.trans e2).trans e3).trans e4).sq hs, fun p hp => q p _ (((e2.trans e3).trans e4).n p hp) (((e2.trans e3).trans e4).trans (.new hp)) upd_same⟩
/-- xs + ys: both tracked; the second one new, or both -/
theorem el_catN (ha : Ev T ta σ H (.ref a)) (h : H a = some (.lst xs)) (hb : EvL T tb σ H ys) (hl : xs.length + ys.length ≤ 1000) : EvL T (tOp rCat ta tb) σ H (xs ++ ys) := fun H1 e _ q =>
  ha H1 e _ fun H2 e2 => hb H2 (e.trans e2) _ fun b H3 _ e3 hb3 => ⟨a, b, xs, ys, rfl, rfl, ((e.trans e2).trans e3).lst h, hb3, Nat.le_of_lt (small1000 hl), fun p hp => q p _ ((e2.trans e3).n p hp) ((e2.trans e3).trans (.new hp)) upd_same⟩
theorem el_catNN (ha : EvL T ta σ H xs) (hb : EvL T tb σ H ys) (hl : xs.length + ys.length ≤ 1000) : EvL T (tOp rCat ta tb) σ H (xs ++ ys) := fun H1 e _ q =>
  ha H1 e _ fun a H2 _ e2 h2 => hb H2 (e.trans e2) _ fun b H3 _ e3 hb3 => ⟨a, b, xs, ys, rfl, rfl, e3.lst h2, hb3, Nat.le_of_lt (small1000 hl), fun p hp => q p _ ((e2.trans e3).n p hp) ((e2.trans e3).trans (.new hp)) upd_same⟩
theorem el_catNL (ha : EvL T ta σ H xs) (hb : Ev T tb σ H (.ref a)) (h : H a = some (.lst ys)) (hl : xs.length + ys.length ≤ 1000) : EvL T (tOp rCat ta tb) σ H (xs ++ ys) := fun H1 e _ q =>
  ha H1 e _ fun b H2 _ e2 h2 => hb H2 (e.trans e2) _ fun H3 e3 => ⟨b, a, xs, ys, rfl, rfl, e3.lst h2, ((e.trans e2).trans e3).lst h, Nat.le_of_lt (small1000 hl), fun p hp => q p _ ((e2.trans e3).n p hp) ((e2.trans e3).trans (.new hp)) upd_same⟩
/-- calls of a def: by its promise -/
theorem ev_call {sp : Sp} {E : XK} {tr : TA} {vs : List V} (h : EvA T tr σ H vs) (hs : ∀ H1, Ex T H H1 → ∀ Q : VK, (∀ H2, Ex T H1 H2 → Q z H2) → sp vs H1 Q E) : Ev T (tCall sp [] E tr) σ H z := fun H1 e Q q =>
  h H1 e _ fun H2 e2 => by
    show sp (vs ++ []) H2 Q E
    rw [List.append_nil]
    exact hs H2 (e.trans e2) Q fun H3 e3 => q H3 (e2.trans e3)
theorem el_call {sp : Sp} {E : XK} {tr : TA} {vs : List V} (h : EvA T tr σ H vs) (hs : ∀ H1, Ex T H H1 → ∀ Q : VK, (∀ p H2, H1 p = none → Ex T H1 H2 → H2 p = some (.lst xs) → Q (.ref p) H2) → sp vs H1 Q E) : EvL T (tCall sp [] E tr) σ H xs := fun H1 e Q q =>
  h H1 e _ fun H2 e2 => by
    show sp (vs ++ []) H2 Q E
    rw [List.append_nil]
    exact hs H2 (e.trans e2) Q fun p H3 hp e3 h3 => q p H3 (e2.n p hp) (e2.trans e3) h3
theorem er_call {sp : Sp} {E : XK} {tr : TA} {vs : List V} {R : Hp → V → Hp → Prop} (h : EvA T tr σ H vs) (hs : ∀ H1, Ex T H H1 → ∀ Q : VK, (∀ v H2, Ex T H1 H2 → R H1 v H2 → Q v H2) → sp vs H1 Q E)
    (hR : ∀ H1 H2 v H3, Ex T H1 H2 → R H2 v H3 → R H1 v H3) : EvR T (tCall sp [] E tr) σ H R := fun H1 e Q q =>
  h H1 e _ fun H2 e2 => by
    show sp (vs ++ []) H2 Q E
    rw [List.append_nil]
    exact hs H2 (e.trans e2) Q fun v H3 e3 r => q v H3 (e2.trans e3) (hR H1 H2 v H3 e2 r)

/-! ### statements -/
variable {D : Ends} {tu tw tz : TS} {g : TG}
theorem s_asg {n : Nat} (h : Ev T te σ H v) (k : ∀ H1, Ex T H H1 → D.nx (σ.set n (some v)) H1) : tAsg te (gName n) D σ H := h H .refl _ fun H1 e => k H1 e
theorem s_asgL {n : Nat} (h : EvL T te σ H xs) (k : ∀ p H1, H p = none → Ex T H H1 → H1 p = some (.lst xs) → D.nx (σ.set n (some (.ref p))) H1) : tAsg te (gName n) D σ H := h H .refl _ fun p H1 hp e h1 => k p H1 hp e h1
theorem s_asgU {n : Nat} (h : EvU T te σ H xs) (k : ∀ p H1, H p = none → Ex T H H1 → H1 p = some (.tup xs) → D.nx (σ.set n (some (.ref p))) H1) : tAsg te (gName n) D σ H := h H .refl _ fun p H1 hp e h1 => k p H1 hp e h1
theorem s_asgR {n : Nat} {R : Hp → V → Hp → Prop} (h : EvR T te σ H R) (k : ∀ v H1, Ex T H H1 → R H v H1 → D.nx (σ.set n (some v)) H1) : tAsg te (gName n) D σ H := h H .refl _ fun v H1 e r => k v H1 e r
theorem s_ret (h : Ev T te σ H v) (k : ∀ H1, Ex T H H1 → D.rt v H1) : tRet te D σ H := h H .refl _ k
theorem s_retL (h : EvL T te σ H xs) (k : ∀ p H1, H p = none → Ex T H H1 → H1 p = some (.lst xs) → D.rt (.ref p) H1) : tRet te D σ H := h H .refl _ k
theorem s_retU (h : EvU T te σ H xs) (k : ∀ p H1, H p = none → Ex T H H1 → H1 p = some (.tup xs) → D.rt (.ref p) H1) : tRet te D σ H := h H .refl _ k
theorem s_retR {R : Hp → V → Hp → Prop} (h : EvR T te σ H R) (k : ∀ v H1, Ex T H H1 → R H v H1 → D.rt v H1) : tRet te D σ H := h H .refl _ k
theorem s_drop (h : Ev T te σ H v) (k : ∀ H1, Ex T H H1 → D.nx σ H1) : tDrop te D σ H := h H .refl _ k
theorem s_if {b : Bool} (h : EvT T t σ H b) (h1 : b = true → ∀ H1, Ex T H H1 → tu D σ H1) (h2 : b = false → ∀ H1, Ex T H H1 → tw D σ H1) : tIfS t tu tw D σ H := h H .refl _ fun H1 e => by
  cases b with
  | true => exact iteT (h1 rfl H1 e)
  | false => exact iteF (h2 rfl H1 e)
/-- xs.append(e) -/
theorem s_app (hl : H l = some (.lst xs)) (ha : Ev T ta σ H (.ref l)) (h : Ev T te σ H v) (hz : xs.length < 100000) (k : ∀ H1, Ex T H H1 → H1 l = some (.lst xs) → D.nx σ (upd H1 l (.lst (xs ++ [v])))) :
    tDrop (tBM K "list" rAppend ta (tCons te tNil)) D σ H := ha H .refl _ fun H1 e1 =>
  ⟨.inl ⟨rfl, xs, SqL.of (e1.lst hl)⟩, h H1 e1 _ fun H2 e2 => ⟨l, xs, v, rfl, rfl, (e1.trans e2).lst hl, Nat.lt_of_lt_of_le hz (by decide), k H2 (e1.trans e2) ((e1.trans e2).lst hl)⟩⟩
theorem s_appL (hl : H l = some (.lst xs)) (ha : Ev T ta σ H (.ref l)) (h : EvL T te σ H ys) (hz : xs.length < 100000) (k : ∀ p H1, H p = none → Ex T H H1 → H1 p = some (.lst ys) → H1 l = some (.lst xs) → D.nx σ (upd H1 l (.lst (xs ++ [.ref p])))) :
    tDrop (tBM K "list" rAppend ta (tCons te tNil)) D σ H := ha H .refl _ fun H1 e1 =>
  ⟨.inl ⟨rfl, xs, SqL.of (e1.lst hl)⟩, h H1 e1 _ fun p H2 hp e2 h2 => ⟨l, xs, .ref p, rfl, rfl, (e1.trans e2).lst hl, Nat.lt_of_lt_of_le hz (by decide), k p H2 (e1.n p hp) (e1.trans e2) h2 ((e1.trans e2).lst hl)⟩⟩
theorem s_appR {R : Hp → V → Hp → Prop} (hl : H l = some (.lst xs)) (ha : Ev T ta σ H (.ref l)) (h : EvR T te σ H R) (hz : xs.length < 100000) (k : ∀ v H1, Ex T H H1 → R H v H1 → H1 l = some (.lst xs) → D.nx σ (upd H1 l (.lst (xs ++ [v]))))
    (hR : ∀ H1 H2 v H3, Ex T H1 H2 → R H2 v H3 → R H1 v H3) :
    tDrop (tBM K "list" rAppend ta (tCons te tNil)) D σ H := ha H .refl _ fun H1 e1 =>
  ⟨.inl ⟨rfl, xs, SqL.of (e1.lst hl)⟩, h H1 e1 _ fun v H2 e2 r => ⟨l, xs, v, rfl, rfl, (e1.trans e2).lst hl, Nat.lt_of_lt_of_le hz (by decide), k v H2 (e1.trans e2) (hR _ _ _ _ e1 r) ((e1.trans e2).lst hl)⟩⟩
/-- loops: Pv of the turn, the slots, the heap -/
theorem s_forR1 {tr : TA} {n : Nat} {m : Int} (h : EvA T tr σ H [.int m]) (hm : m ≤ 1000000) (h2 : -1000000 ≤ m) (Pv : Nat → L2.St → Hp → Prop) (h0 : ∀ H1, Ex T H H1 → Pv 0 σ H1)
    (hs : ∀ (i : Nat) σ' H', (i : Int) < m → Pv i σ' H' → tu { D with nx := Pv (i + 1), ct := Pv (i + 1), bk := D.nx } (σ'.set n (some (.int (i : Int)))) H') (hd : ∀ σ' H', Pv m.toNat σ' H' → D.nx σ' H') : tFor (iRng1 tr) (gName n) tu D σ H :=
  h H .refl _ fun H1 e => ⟨m, rfl, by omega, by omega, for_range (lo := 0) (n := m.toNat) Pv (h0 H1 e) (fun i σ' H' hi q => by
    have e0 : (0 : Int) + (i : Int) = (i : Int) := Int.zero_add _
    show tu { D with nx := Pv (i + 1), ct := Pv (i + 1), bk := D.nx } (σ'.set n (some (.int ((0 : Int) + (i : Int))))) H'
    rw [e0]
    exact hs i σ' H' (by omega) q) hd⟩
theorem s_forR2 {tr : TA} {n : Nat} {lo m : Int} (h : EvA T tr σ H [.int lo, .int m]) (hm : -1000000 ≤ lo ∧ lo ≤ 1000000 ∧ -1000000 ≤ m ∧ m ≤ 1000000) (Pv : Nat → L2.St → Hp → Prop) (h0 : ∀ H1, Ex T H H1 → Pv 0 σ H1)
    (hs : ∀ (i : Nat) σ' H', lo + (i : Int) < m → Pv i σ' H' → tu { D with nx := Pv (i + 1), ct := Pv (i + 1), bk := D.nx } (σ'.set n (some (.int (lo + (i : Int))))) H') (hd : ∀ σ' H', Pv (m - lo).toNat σ' H' → D.nx σ' H') : tFor (iRng2 tr) (gName n) tu D σ H :=
  h H .refl _ fun H1 e => ⟨lo, m, rfl, ⟨by omega, by omega, by omega, by omega⟩, for_range (lo := lo) (n := (m - lo).toNat) Pv (h0 H1 e) (fun i σ' H' hi q => hs i σ' H' (by omega) q) hd⟩
theorem s_forL {n : Nat} {tl : TE} (h : Ev T tl σ H (.ref a)) (hx : SqL K H a xs) (Pv : Nat → L2.St → Hp → Prop) (h0 : ∀ H1, Ex T H H1 → Pv 0 σ H1) (hl : ∀ i σ' H', i ≤ xs.length → Pv i σ' H' → SqL K H' a xs)
    (hs : ∀ i x σ' H', xs[i]? = some x → Pv i σ' H' → tu { D with nx := Pv (i + 1), ct := Pv (i + 1), bk := D.nx } (σ'.set n (some x)) H') (hd : ∀ σ' H', Pv xs.length σ' H' → D.nx σ' H') : tFor (iList K tl) (gName n) tu D σ H :=
  h H .refl _ fun H1 e => ⟨a, rfl, ⟨xs, e.sq hx⟩, for_list Pv (h0 H1 e) hl hs hd⟩
/-- over a new list -/
theorem s_forNL {n : Nat} {tl : TE} {R : Hp → V → Hp → Prop} (h : EvR T tl σ H R) (hR : ∀ v H1, Ex T H H1 → R H v H1 → ∃ a xs, v = .ref a ∧ SqL K H1 a xs ∧ ∃ Pv : Nat → L2.St → Hp → Prop, Pv 0 σ H1 ∧ (∀ i σ' H', i ≤ xs.length → Pv i σ' H' → SqL K H' a xs) ∧
    (∀ i x σ' H', xs[i]? = some x → Pv i σ' H' → tu { D with nx := Pv (i + 1), ct := Pv (i + 1), bk := D.nx } (σ'.set n (some x)) H') ∧ (∀ σ' H', Pv xs.length σ' H' → D.nx σ' H')) : tFor (iList K tl) (gName n) tu D σ H :=
  h H .refl _ fun v H1 e r => by
    obtain ⟨a, xs, rfl, hx, Pv, h0, hl, hs, hd⟩ := hR v H1 e r
    exact ⟨a, rfl, ⟨xs, hx⟩, for_list Pv h0 hl hs hd⟩
theorem s_while (W : Nat → L2.St → Hp → Prop) (m0 : Nat) (h0 : W m0 σ H)
    (hs : ∀ m σ' H', W m σ' H' → ∃ b, EvT T t σ' H' b ∧ (b = true → ∀ H1, Ex T H' H1 → ∃ N : L2.St → Hp → Prop, (∀ σ2 H2, N σ2 H2 → ∃ m', m' < m ∧ W m' σ2 H2) ∧ tu { D with nx := N, ct := N, bk := D.nx } σ' H1) ∧ (b = false → ∀ H1, Ex T H' H1 → D.nx σ' H1)) : tWhile t tu D σ H :=
  ⟨W, ⟨m0, h0⟩, fun m σ' H' hw => by
    obtain ⟨b, hb, h1, h2⟩ := hs m σ' H' hw
    refine hb H' .refl _ fun H1 e => ?_
    cases b with
    | true => exact iteT (h1 rfl H1 e)
    | false => exact iteF (h2 rfl H1 e)⟩
theorem q_forR1 {tr : TA} {n : Nat} {m : Int} (h : EvA T tr σ H [.int m]) (hm : m ≤ 1000000) (h2 : -1000000 ≤ m) (Pv : Nat → L2.St → Hp → Prop) (h0 : ∀ H1, Ex T H H1 → Pv 0 σ H1)
    (hs : ∀ (i : Nat) σ' H', (i : Int) < m → Pv i σ' H' → tu { D with nx := Pv (i + 1), ct := Pv (i + 1), bk := tz D } (σ'.set n (some (.int (i : Int)))) H') (hd : ∀ σ' H', Pv m.toNat σ' H' → tz D σ' H') : tSeq (tFor (iRng1 tr) (gName n) tu) tz D σ H :=
  s_forR1 (D := { D with nx := tz D }) h hm h2 Pv h0 hs hd
theorem q_forR2 {tr : TA} {n : Nat} {lo m : Int} (h : EvA T tr σ H [.int lo, .int m]) (hm : -1000000 ≤ lo ∧ lo ≤ 1000000 ∧ -1000000 ≤ m ∧ m ≤ 1000000) (Pv : Nat → L2.St → Hp → Prop) (h0 : ∀ H1, Ex T H H1 → Pv 0 σ H1)
    (hs : ∀ (i : Nat) σ' H', lo + (i : Int) < m → Pv i σ' H' → tu { D with nx := Pv (i + 1), ct := Pv (i + 1), bk := tz D } (σ'.set n (some (.int (lo + (i : Int))))) H') (hd : ∀ σ' H', Pv (m - lo).toNat σ' H' → tz D σ' H') : tSeq (tFor (iRng2 tr) (gName n) tu) tz D σ H :=
  s_forR2 (D := { D with nx := tz D }) h hm Pv h0 hs hd
theorem q_forL {n : Nat} {tl : TE} (h : Ev T tl σ H (.ref a)) (hx : SqL K H a xs) (Pv : Nat → L2.St → Hp → Prop) (h0 : ∀ H1, Ex T H H1 → Pv 0 σ H1) (hl : ∀ i σ' H', i ≤ xs.length → Pv i σ' H' → SqL K H' a xs)
    (hs : ∀ i x σ' H', xs[i]? = some x → Pv i σ' H' → tu { D with nx := Pv (i + 1), ct := Pv (i + 1), bk := tz D } (σ'.set n (some x)) H') (hd : ∀ σ' H', Pv xs.length σ' H' → tz D σ' H') : tSeq (tFor (iList K tl) (gName n) tu) tz D σ H :=
  s_forL (D := { D with nx := tz D }) h hx Pv h0 hl hs hd
theorem q_forNL {n : Nat} {tl : TE} {R : Hp → V → Hp → Prop} (h : EvR T tl σ H R) (hR : ∀ v H1, Ex T H H1 → R H v H1 → ∃ a xs, v = .ref a ∧ SqL K H1 a xs ∧ ∃ Pv : Nat → L2.St → Hp → Prop, Pv 0 σ H1 ∧ (∀ i σ' H', i ≤ xs.length → Pv i σ' H' → SqL K H' a xs) ∧
    (∀ i x σ' H', xs[i]? = some x → Pv i σ' H' → tu { D with nx := Pv (i + 1), ct := Pv (i + 1), bk := tz D } (σ'.set n (some x)) H') ∧ (∀ σ' H', Pv xs.length σ' H' → tz D σ' H')) : tSeq (tFor (iList K tl) (gName n) tu) tz D σ H :=
  s_forNL (D := { D with nx := tz D }) h hR
theorem q_while (W : Nat → L2.St → Hp → Prop) (m0 : Nat) (h0 : W m0 σ H)
    (hs : ∀ m σ' H', W m σ' H' → ∃ b, EvT T t σ' H' b ∧ (b = true → ∀ H1, Ex T H' H1 → ∃ N : L2.St → Hp → Prop, (∀ σ2 H2, N σ2 H2 → ∃ m', m' < m ∧ W m' σ2 H2) ∧ tu { D with nx := N, ct := N, bk := tz D } σ' H1) ∧ (b = false → ∀ H1, Ex T H' H1 → tz D σ' H1)) : tSeq (tWhile t tu) tz D σ H :=
  s_while (D := { D with nx := tz D }) W m0 h0 hs
theorem q_asg {n : Nat} (h : Ev T te σ H v) (k : ∀ H1, Ex T H H1 → tz D (σ.set n (some v)) H1) : tSeq (tAsg te (gName n)) tz D σ H := h H .refl _ fun H1 e => k H1 e
theorem q_asgL {n : Nat} (h : EvL T te σ H xs) (k : ∀ p H1, H p = none → Ex T H H1 → H1 p = some (.lst xs) → tz D (σ.set n (some (.ref p))) H1) : tSeq (tAsg te (gName n)) tz D σ H := h H .refl _ fun p H1 hp e h1 => k p H1 hp e h1
theorem q_asgU {n : Nat} (h : EvU T te σ H xs) (k : ∀ p H1, H p = none → Ex T H H1 → H1 p = some (.tup xs) → tz D (σ.set n (some (.ref p))) H1) : tSeq (tAsg te (gName n)) tz D σ H := h H .refl _ fun p H1 hp e h1 => k p H1 hp e h1
theorem q_asgR {n : Nat} {R : Hp → V → Hp → Prop} (h : EvR T te σ H R) (k : ∀ v H1, Ex T H H1 → R H v H1 → tz D (σ.set n (some v)) H1) : tSeq (tAsg te (gName n)) tz D σ H := h H .refl _ fun v H1 e r => k v H1 e r
theorem q_drop (h : Ev T te σ H v) (k : ∀ H1, Ex T H H1 → tz D σ H1) : tSeq (tDrop te) tz D σ H := h H .refl _ k
theorem q_if {b : Bool} (h : EvT T t σ H b) (h1 : b = true → ∀ H1, Ex T H H1 → tu { D with nx := tz D } σ H1) (h2 : b = false → ∀ H1, Ex T H H1 → tw { D with nx := tz D } σ H1) : tSeq (tIfS t tu tw) tz D σ H := s_if (D := { D with nx := tz D }) h h1 h2
theorem q_cut {M : L2.St → Hp → Prop} (h : tu { D with nx := M } σ H) (k : ∀ σ' H', M σ' H' → tz D σ' H') : Evl.tCut tu tz D σ H := ⟨M, h, k⟩
theorem t_next (h : D.nx σ H) : tNext D σ H := h
theorem s_when {b : Bool} (h : EvT T t σ H b) (h1 : b = true → ∀ H1, Ex T H H1 → tu D σ H1) (h2 : b = false → ∀ H1, Ex T H H1 → D.nx σ H1) : tIfS t tu tNext D σ H := s_if h h1 h2
theorem q_when {b : Bool} (h : EvT T t σ H b) (h1 : b = true → ∀ H1, Ex T H H1 → tu { D with nx := tz D } σ H1) (h2 : b = false → ∀ H1, Ex T H H1 → tz D σ H1) : tSeq (tIfS t tu tNext) tz D σ H := s_if (D := { D with nx := tz D }) h h1 h2
theorem q_seq (h : tu { D with nx := tz D } σ H) : tSeq tu tz D σ H := h

/-! ### comprehensions over lists -/
theorem el_map {vs : List Nat} {n : Nat} {tl : TE} (h : Ev T tl σ H (.ref a)) (hx : SqL K H a xs) (hz : xs.length ≤ 40000) (hy : ys.length = xs.length) (hw : ∀ x, wipe ((wipe σ vs).set n (some x)) vs = wipe σ vs)
    (he : ∀ (i : Nat) (x y : V) H1, Ex T H H1 → xs[i]? = some x → ys[i]? = some y → Ev T te ((wipe σ vs).set n (some x)) H1 y) :
    EvL T (tLc (iList K tl) (gName n) tYes te vs) σ H ys := fun H0 e Q q => h H0 e _ fun H1 e1 => ⟨a, rfl, ⟨xs, (e.trans e1).sq hx⟩, fun D hD =>
  lc_list (xs := xs) (fun i H' => Ex T H1 H' ∧ H' D = some (.lst (ys.take i))) ⟨.new hD, upd_same⟩ (fun i H' _ p => ((e.trans e1).trans p.1).sq hx) (fun i x H' hi p => by
    have hi' := (List.getElem?_eq_some_iff.mp hi).1
    have hy' : i < ys.length := by omega
    refine ⟨hw x, ?_⟩
    dsimp only [tYes]
    rw [if_pos rfl]
    refine he i x ys[i] H' ((e.trans e1).trans p.1) hi (List.getElem?_eq_getElem hy') H' .refl _ fun H2 e2 => ⟨ys.take i, e2.lst p.2, ?_, (p.1.trans e2).mut hD (e2.lst p.2), ?_⟩
    · have : (ys.take i).length ≤ ys.length := by rw [List.length_take]; omega
      exact Nat.lt_of_lt_of_le (show (ys.take i).length < 100000 by omega) (by decide)
    · rw [upd_same, List.take_add_one, List.getElem?_eq_getElem hy']
      rfl) (fun H' p => q D H' (e1.n D hD) (e1.trans p.1) (by rw [p.2, ← hy, List.take_length]))⟩
end

/-! ### defs: what stands in the text, and what is promised -/
structure Df (K : PySem.W.Frag) (mg : Str → Option Value) (x : Str) (st : Stmt) (ps : List Str) : Prop where
  ex : ∃ (f : Addr) (fd : FuncData), Fun K x x st f fd ∧ Binds K fd ps [] ∧ mg x = some (.ref f)
structure Ca (CX : CXT) (P : Program) (w : World) (K : PySem.W.Frag) (mg : Str → Option Value) (base : Heap) (k : Nat) (x : Str) (sp : Sp) : Prop where
  ex : ∃ (f : Addr) (fd : FuncData) (ps : List Str), FnOk P w K mg base CX k f fd ps sp ∧ mg x = some (.ref f) ∧ PySem.W.keepIn K (.ref f) = true ∧ Binds K fd ps []
section
variable {P : Program} {w : World} {K : PySem.W.Frag} {mg : Str → Option Value} {base : Heap} {CX : CXT}
theorem Ca.imp {k : Nat} {x : Str} {sp sp' : Sp} (c : Ca CX P w K mg base k x sp) (h : ∀ vs H Q E, sp' vs H Q E → sp vs H Q E) : Ca CX P w K mg base k x sp' := by
  obtain ⟨f, fd, ps, F, h1, h2, h3⟩ := c.ex
  exact ⟨f, fd, ps, F.imp h, h1, h2, h3⟩
theorem Df.ca0 {x : Str} {st : Stmt} {N ps : List Str} {k : Nat} {sp : Sp} (D : Df K mg x st ps) (S : FnScope N ps (defScope st)) (len : ∀ vs H Q E, sp vs H Q E → vs.length = ps.length)
    (hbody : ∀ (cdv : Value) (A : Around) (outer : List Env) (s : Shared) (H : Hp) (vs : List V) (Q : VK) (E : XK) (f : Addr), Room k (A.deeper (envOfC x (defScope st) s.heap.objs.size f cdv)) → sp vs H Q E →
      ∃ t, PSs (cxOf CX0 P w K mg base N x (defScope st) f cdv A outer s H E).nox (defBody st) t ∧ t { nx := fun _ H' => Q .non H', rt := Q } (start N vs) H) : Ca CX0 P w K mg base (k + 1) x sp := by
  obtain ⟨f, fd, F, b, g⟩ := D.ex
  exact ⟨f, fd, ps, F.ok S len fun cdv A outer s H vs Q E hr h => hbody cdv A outer s H vs Q E f hr h, g, F.kp, b⟩
theorem Df.caX {x : Str} {st : Stmt} {N ps : List Str} {k : Nat} {sp : Sp} (D : Df K mg x st ps) (S : FnScope N ps (defScope st)) (len : ∀ vs H Q E, sp vs H Q E → vs.length = ps.length)
    (hbody : ∀ (cdv : Value) (A : Around) (outer : List Env) (s : Shared) (H : Hp) (vs : List V) (Q : VK) (E : XK) (f : Addr), Room k (A.deeper (envOfC x (defScope st) s.heap.objs.size f cdv)) → sp vs H Q E →
      ∃ t, PSs (cxOf (L2.CX P w) P w K mg base N x (defScope st) f cdv A outer s H E) (defBody st) t ∧ t { nx := fun _ H' => Q .non H', rt := Q } (start N vs) H) : Ca (L2.CX P w) P w K mg base (k + 1) x sp := by
  obtain ⟨f, fd, F, b, g⟩ := D.ex
  exact ⟨f, fd, ps, F.okX S len fun cdv A outer s H vs Q E hr h => hbody cdv A outer s H vs Q E f hr h, g, F.kp, b⟩
end
section
variable {X : Cx} {CX : CXT} {k j : Nat} {x : Str} {sp : Sp} {p pos : Pos} {e : Expr} {es : List Expr} {t : TA} {E : XK}
theorem pe_k (c : Ca CX X.prog X.w X.K X.mg X.base k x sp) (hr : Room j X.A) (hk : k ≤ j) (hx : Passes CX X E) (hg : Gl X x) (ha : PA X (e :: es) t)
    (hd : (x == ("__debug__" : Str)) = false := by decide) (he : starEach (e :: es) X.env = (false, eval e X.env) :: starEach es X.env := by rfl) (hpl : (backTo pos (starEach es X.env)).any (·.1) = false := by rfl) :
    PE X (.Call (.Name x p) (e :: es) [] pos) (tCall sp [] E t) := by
  obtain ⟨f, fd, ps, F, hm, kp, b⟩ := c.ex
  exact pe_call F (hr.mono hk) hg hm kp b .nil hx ha hd he hpl
/-- a call that raises nothing -/
theorem pe_k0 (c : Ca CX0 X.prog X.w X.K X.mg X.base k x sp) (hr : Room j X.A) (hk : k ≤ j) (hg : Gl X x) (ha : PA X (e :: es) t)
    (hd : (x == ("__debug__" : Str)) = false := by decide) (he : starEach (e :: es) X.env = (false, eval e X.env) :: starEach es X.env := by rfl) (hpl : (backTo pos (starEach es X.env)).any (·.1) = false := by rfl) :
    PE X (.Call (.Name x p) (e :: es) [] pos) (tCall sp [] E0 t) := pe_k c hr hk pass0 hg ha hd he hpl
theorem call_lenS : CallR X (.builtin "len") (rLenS X.K) := call_len_seq
theorem call_listS : CallR X (.type "list") (rListS X.K) := call_list_of
end
section
variable {X : Cx} {K : PySem.W.Frag}
theorem cr_sumK (h : X.K = K) (hc : X.calm = true) : CallR X (.builtin "sum") (rSum K) := h ▸ cr_sum hc
theorem call_lenK (h : X.K = K) : CallR X (.builtin "len") (rLenS K) := h ▸ call_lenS
theorem call_listK (h : X.K = K) : CallR X (.type "list") (rListS K) := h ▸ call_listS
theorem ix_listK (h : X.K = K) : IxR X (rIxL K) := h ▸ ix_list
theorem ix_tupK (h : X.K = K) : IxR X (rIxT K) := h ▸ ix_tup
theorem op_eqDK (h : X.K = K) (hu : X.A.units + 64 < cLine) : OpR X (compareOp .Eq) (rEqD K) := h ▸ op_eqD hu
theorem op_neDK (h : X.K = K) (hu : X.A.units + 64 < cLine) : OpR X (compareOp .NotEq) (rNeD K) := h ▸ op_neD hu
theorem cr_sortedIK (h : X.K = K) : CallR X (.builtin "sorted") (rSortedI K) := h ▸ cr_sortedI
theorem call_isiK' (h : X.K = K) : CallR X (.builtin "isinstance") (rIsi K) := h ▸ call_isi
end
/-- a promise by its arguments -/
abbrev spM {α : Type} (args : α → List V) (R : α → Hp → VK → XK → Prop) : Sp := fun vs H Q E => ∃ q, vs = args q ∧ R q H Q E
/-- what the built-in names stand for -/
structure Bi (mg : Str → Option Value) : Prop where
  len : mg "len" = none
  range : mg "range" = none
  sum : mg "sum" = none
  sorted : mg "sorted" = none
  min : mg "min" = none
  max : mg "max" = none
  isinstance : mg "isinstance" = none
  int : mg "int" = none
  bool : mg "bool" = none
  list : mg "list" = none
  tuple : mg "tuple" = none
  str : mg "str" = none
  set : mg "set" = none
  ValueError : mg "ValueError" = none
end Sm

/-! SmB: rules of its own, and what evaluates by itself. -/
namespace Sm
open PySem PySem.Spec PyProof.Rows L2
section
variable {T : Tb} {K : PySem.W.Frag} {σ : L2.St} {H H' : Hp} {ta tb te tc : TE} {t u : TT} {x y z v : V} {xs ys : List V} {a p l : Addr} {i j k : Int}
theorem decI {i j : Int} : decide (V.int i = V.int j) = decide (i = j) := by
  by_cases h : i = j
  · rw [h, decide_eq_true rfl, decide_eq_true rfl]
  · rw [decide_eq_false h, decide_eq_false fun z => h (V.int.inj z)]
theorem decB {i j : Bool} : decide (V.bl i = V.bl j) = (i == j) := by cases i <;> cases j <;> rfl
theorem ev_eqI (ha : Ev T ta σ H (.int i)) (hb : Ev T tb σ H (.int j)) : Ev T (tOp rEq ta tb) σ H (.bl (decide (i = j))) := (ev_eq ha hb rfl).is (by rw [decI])
theorem ev_neI (ha : Ev T ta σ H (.int i)) (hb : Ev T tb σ H (.int j)) : Ev T (tOp rNe ta tb) σ H (.bl (!decide (i = j))) := (ev_ne ha hb rfl).is (by rw [decI])
theorem ev_neB {b c : Bool} (ha : Ev T ta σ H (.bl b)) (hb : Ev T tb σ H (.bl c)) : Ev T (tOp rNe ta tb) σ H (.bl (!(b == c))) := (ev_ne ha hb rfl).is (by rw [decB])
theorem ev_isN (ha : Ev T ta σ H x) (hb : Ev T tb σ H .non) : Ev T (tOp (fun x y H Q => y = V.non ∧ Q (.bl (decide (x = V.non))) H) ta tb) σ H (.bl (decide (x = .non))) := fun H1 e Q q =>
  ha H1 e _ fun H2 e2 => hb H2 (e.trans e2) _ fun H3 e3 => ⟨rfl, q H3 (e2.trans e3)⟩
theorem ev_notN (ha : Ev T ta σ H x) (hb : Ev T tb σ H .non) : Ev T (tOp (fun x y H Q => y = V.non ∧ Q (.bl (!decide (x = V.non))) H) ta tb) σ H (.bl (!decide (x = .non))) := fun H1 e Q q =>
  ha H1 e _ fun H2 e2 => hb H2 (e.trans e2) _ fun H3 e3 => ⟨rfl, q H3 (e2.trans e3)⟩
/-- xs[i], the list of ints -/
theorem ev_ixI {ns : List Int} {m : Nat} {n : Int} (ha : Ev T ta σ H (.ref p)) (hb : Ev T tb σ H (.int i)) (h : SqL K H p (vz ns)) (hm : i = (m : Int)) (hn : ns[m]? = some n) : Ev T (tOp (rIxL K) ta tb) σ H (.int n) :=
  ev_ixL ha hb h (by rw [hm]; exact atI_nat (by rw [List.getElem?_map, hn]; rfl))
/-- ints at data -/
def dI (ns : List Int) : PyData := .list (ns.map .int)
theorem dp_ints {ns : List Int} : DpAll K H (vz ns) (ns.map .int) := by
  induction ns with
  | nil => exact .nil
  | cons n r ih => exact .cons (.int n) ih
theorem dp_I {ns : List Int} (h : SqL K H a (vz ns)) : Dp K H (.ref a) (dI ns) := .lst h dp_ints
theorem lay_ints : ∀ ns : List Int, PyData.canLayAll0 (ns.map .int) = true
  | [] => by simp [PyData.canLayAll0]
  | n :: r => by simp [PyData.canLayAll0, PyData.canLay0, lay_ints r]
theorem dep_ints : ∀ ns : List Int, PyData.depthAll (ns.map .int) = 0
  | [] => by simp [PyData.depthAll]
  | n :: r => by simp [PyData.depthAll, PyData.depth, dep_ints r]
theorem lay_I (ns : List Int) : PyData.canLay0 (dI ns) = true := by
  show PyData.canLay0 (.list (ns.map .int)) = true
  simp only [PyData.canLay0]
  exact lay_ints ns
theorem dep_I (ns : List Int) : PyData.depth (dI ns) = 1 := by
  show PyData.depth (.list (ns.map .int)) = 1
  simp only [PyData.depth, dep_ints ns]
theorem sh_I (ns : List Int) : SeqAt.shaped (dI ns) = true := by
  show (PyData.canLay0 (dI ns) && decide (PyData.depth (dI ns) ≤ 64)) = true
  rw [lay_I, dep_I]
  rfl
theorem eqvA_I : ∀ ns ms : List Int, PyData.eqvAll (ns.map .int) (ms.map .int) = decide (ns = ms)
  | [], [] => by simp [PyData.eqvAll]
  | [], _ :: _ => by simp [PyData.eqvAll]
  | _ :: _, [] => by simp [PyData.eqvAll]
  | n :: r, m :: s => by
    show PyData.eqvAll (.int n :: r.map .int) (.int m :: s.map .int) = decide (n :: r = m :: s)
    simp only [PyData.eqvAll, PyData.eqv, eqvA_I r s]
    by_cases h : n = m
    · by_cases h2 : r = s
      · simp [h, h2]
      · simp [h, h2]
    · simp [h]
theorem eqv_I (ns ms : List Int) : PyData.eqv (dI ns) (dI ms) = decide (ns = ms) := by
  show PyData.eqv (.list (ns.map .int)) (.list (ms.map .int)) = decide (ns = ms)
  simp only [PyData.eqv]
  exact eqvA_I ns ms
theorem ev_eqL {ns ms : List Int} {q : Addr} (ha : Ev T ta σ H (.ref p)) (hb : Ev T tb σ H (.ref q)) (h : SqL K H p (vz ns)) (h2 : SqL K H q (vz ms)) : Ev T (tOp (rEqD K) ta tb) σ H (.bl (decide (ns = ms))) := fun H1 e Q f =>
  ha H1 e _ fun H2 e2 => hb H2 (e.trans e2) _ fun H3 e3 => ⟨_, _, dp_I (((e.trans e2).trans e3).sq h), dp_I (((e.trans e2).trans e3).sq h2), sh_I _, sh_I _, by rw [eqv_I]; exact f H3 (e2.trans e3)⟩
theorem ev_neL {ns ms : List Int} {q : Addr} (ha : Ev T ta σ H (.ref p)) (hb : Ev T tb σ H (.ref q)) (h : SqL K H p (vz ns)) (h2 : SqL K H q (vz ms)) : Ev T (tOp (rNeD K) ta tb) σ H (.bl (!decide (ns = ms))) := fun H1 e Q f =>
  ha H1 e _ fun H2 e2 => hb H2 (e.trans e2) _ fun H3 e3 => ⟨_, _, dp_I (((e.trans e2).trans e3).sq h), dp_I (((e.trans e2).trans e3).sq h2), sh_I _, sh_I _, by rw [eqv_I]; exact f H3 (e2.trans e3)⟩
theorem ev_neNL {ns ms : List Int} {q : Addr} (ha : EvL T ta σ H (vz ns)) (hb : Ev T tb σ H (.ref q)) (h2 : SqL K H q (vz ms)) : Ev T (tOp (rNeD K) ta tb) σ H (.bl (!decide (ns = ms))) := fun H1 e Q f =>
  ha H1 e _ fun r H2 _ e2 hr => hb H2 (e.trans e2) _ fun H3 e3 => ⟨_, _, dp_I (e3.sq (SqL.of hr)), dp_I (((e.trans e2).trans e3).sq h2), sh_I _, sh_I _, by rw [eqv_I]; exact f H3 (e2.trans e3)⟩

/-! ### sorted of ints -/
def ins (n : Int) : List Int → List Int
  | [] => [n]
  | m :: r => if n ≤ m then n :: m :: r else m :: ins n r
def isort : List Int → List Int
  | [] => []
  | n :: r => ins n (isort r)
theorem ins_perm (n : Int) : ∀ l : List Int, (ins n l).Perm (n :: l)
  | [] => .refl _
  | m :: r => by
    unfold ins
    split
    · exact .refl _
    · exact ((ins_perm n r).cons m).trans (.swap n m r)
theorem isort_perm : ∀ l : List Int, (isort l).Perm l
  | [] => .refl _
  | n :: r => (ins_perm n _).trans ((isort_perm r).cons n)
theorem ins_sorted (n : Int) : ∀ l : List Int, l.Pairwise (· ≤ ·) → (ins n l).Pairwise (· ≤ ·)
  | [], _ => List.pairwise_singleton _ _
  | m :: r, h => by
    unfold ins
    obtain ⟨h1, h2⟩ := List.pairwise_cons.mp h
    split
    · rename_i hm
      refine List.pairwise_cons.mpr ⟨fun z hz => ?_, h⟩
      rcases List.mem_cons.mp hz with e | e
      · rw [e]; exact hm
      · exact Int.le_trans hm (h1 z e)
    · rename_i hm
      refine List.pairwise_cons.mpr ⟨fun z hz => ?_, ins_sorted n r h2⟩
      rcases List.mem_cons.mp ((ins_perm n r).subset hz) with e | e
      · rw [e]; omega
      · exact h1 z e
theorem isort_sorted : ∀ l : List Int, (isort l).Pairwise (· ≤ ·)
  | [] => .nil
  | n :: r => ins_sorted n _ (isort_sorted r)
theorem sort_one : ∀ {l m : List Int}, l.Perm m → l.Pairwise (· ≤ ·) → m.Pairwise (· ≤ ·) → l = m
  | [], m, h, _, _ => (List.nil_perm.mp h).symm
  | n :: r, m, h, hl, hm => by
    cases m with
    | nil => exact absurd (List.perm_nil.mp h) (by simp)
    | cons k s =>
      obtain ⟨l1, l2⟩ := List.pairwise_cons.mp hl
      obtain ⟨m1, m2⟩ := List.pairwise_cons.mp hm
      have e : n = k := by
        have a1 : n ∈ k :: s := h.subset List.mem_cons_self
        have a2 : k ∈ n :: r := h.symm.subset List.mem_cons_self
        rcases List.mem_cons.mp a1 with e | e
        · exact e
        · rcases List.mem_cons.mp a2 with e2 | e2
          · exact e2.symm
          · exact Int.le_antisymm (l1 k e2) (m1 n e)
      subst e
      rw [sort_one (List.perm_cons n |>.mp h) l2 m2]
theorem isort_of {l m : List Int} (h : l.Perm m) (hl : l.Pairwise (· ≤ ·)) : l = isort m := sort_one (h.trans (isort_perm m).symm) hl (isort_sorted m)
theorem isort_id {l : List Int} (hl : l.Pairwise (· ≤ ·)) : isort l = l := (isort_of (.refl l) hl).symm
theorem isort_len (l : List Int) : (isort l).length = l.length := (isort_perm l).length_eq
theorem el_sorted {ns : List Int} (ha : Ev T ta σ H (.ref p)) (h : SqL K H p (vz ns)) : EvL T (tCB (rSortedI K) (tCons ta tNil)) σ H (vz (isort ns)) := fun H1 e Q q =>
  ha H1 e _ fun H2 e2 => ⟨p, ns, rfl, (e.trans e2).sq h, fun ns' l h1 h2 hl => q l _ (e2.n l hl) (e2.trans (.new hl)) (by rw [← isort_of h1 h2]; exact upd_same)⟩
theorem el_sortedN {ns : List Int} (ha : EvL T ta σ H (vz ns)) : EvL T (tCB (rSortedI K) (tCons ta tNil)) σ H (vz (isort ns)) := fun H1 e Q q =>
  ha H1 e _ fun p H2 _ e2 hp => ⟨p, ns, rfl, SqL.of hp, fun ns' l h1 h2 hl => q l _ (e2.n l hl) (e2.trans (.new hl)) (by rw [← isort_of h1 h2]; exact upd_same)⟩
theorem ev_min {ns : List Int} {m : Int} (ha : Ev T ta σ H (.ref p)) (h : SqL K H p (vz ns)) (hm : m ∈ ns) (hl : ∀ n ∈ ns, m ≤ n) : Ev T (tCB (rMin K) (tCons ta tNil)) σ H (.int m) := fun H1 e Q q =>
  ha H1 e _ fun H2 e2 => ⟨p, ns, rfl, (e.trans e2).sq h, List.length_pos_of_mem hm, fun m' h1 h2 => by
    have : m' = m := Int.le_antisymm (h2 m hm) (hl m' h1)
    rw [this]
    exact q H2 e2⟩
theorem vz_app (a b : List Int) : vz (a ++ b) = vz a ++ vz b := List.map_append
theorem at_vz {ns : List Int} {i : Nat} {x : V} (h : (vz ns)[i]? = some x) : ∃ n, ns[i]? = some n ∧ x = .int n := by
  rw [List.getElem?_map] at h
  cases e : ns[i]? with
  | none => rw [e] at h; cases h
  | some n => rw [e] at h; exact ⟨n, rfl, (Option.some.inj h).symm⟩
theorem getD_at {ns : List Int} {i : Nat} (h : i < ns.length) : ns[i]? = some (ns.getD i 0) := by
  rw [List.getD_eq_getElem?_getD, List.getElem?_eq_getElem h]
  rfl
/-! ### isinstance -/
theorem ev_isi {c : V} {tv cv : Value} {b : Bool} (ha : Ev T ta σ H x) (hb : Ev T tb σ H c) (hc : ClsV c cv) (ht : ∀ H', Ex T H H' → TyX K H' x tv) (hk : PySem.W.kitOne K tv cv = some b) : Ev T (tCB (rIsi K) (tCons ta (tCons tb tNil))) σ H (.bl b) := fun H1 e Q q =>
  ha H1 e _ fun H2 e2 => hb H2 (e.trans e2) _ fun H3 e3 => ⟨x, c, tv, cv, b, rfl, hc, ht H3 ((e.trans e2).trans e3), hk, q H3 (e2.trans e3)⟩
theorem ev_isInt {n : Int} (ha : Ev T ta σ H (.int n)) (hb : Ev T tb σ H (.ty "int")) : Ev T (tCB (rIsi K) (tCons ta (tCons tb tNil))) σ H (.bl true) := ev_isi ha hb (.ty "int") (fun _ _ => .base (.int n)) (kit_ty (by decide +kernel))
theorem ev_isIntB {n : Int} (ha : Ev T ta σ H (.int n)) (hb : Ev T tb σ H (.ty "bool")) : Ev T (tCB (rIsi K) (tCons ta (tCons tb tNil))) σ H (.bl false) := ev_isi ha hb (.ty "bool") (fun _ _ => .base (.int n)) (kit_ty (by decide +kernel))
theorem ev_isBl {b : Bool} (ha : Ev T ta σ H (.bl b)) (hb : Ev T tb σ H (.ty "bool")) : Ev T (tCB (rIsi K) (tCons ta (tCons tb tNil))) σ H (.bl true) := ev_isi ha hb (.ty "bool") (fun _ _ => .base (.bl b)) (kit_ty (by decide +kernel))
theorem ev_isLst (ha : Ev T ta σ H (.ref p)) (hb : Ev T tb σ H (.ty "list")) (h : H p = some (.lst xs)) : Ev T (tCB (rIsi K) (tCons ta (tCons tb tNil))) σ H (.bl true) := ev_isi ha hb (.ty "list") (fun _ e => .base (.lst (e.lst h))) (kit_ty (by decide +kernel))
theorem ev_isTup (ha : Ev T ta σ H (.ref p)) (hb : Ev T tb σ H (.ty "tuple")) (h : H p = some (.tup xs)) : Ev T (tCB (rIsi K) (tCons ta (tCons tb tNil))) σ H (.bl true) := ev_isi ha hb (.ty "tuple") (fun _ e => .base (.tup (e.tup h))) (kit_ty (by decide +kernel))
theorem ev_isStr {z : Str} (ha : Ev T ta σ H (.str z)) (hb : Ev T tb σ H (.ty "str")) : Ev T (tCB (rIsi K) (tCons ta (tCons tb tNil))) σ H (.bl true) := ev_isi ha hb (.ty "str") (fun _ _ => .base (.str z)) (kit_ty (by decide +kernel))
/-! ### slices of lists of ints -/
theorem cut_take {ns : List Int} {m : Nat} (h : m ≤ ns.length) : cutV (vz ns) none (some (m : Int)) = vz (ns.take m) := by
  unfold cutV
  rw [HT.sIx_nat, HT.sIx_none, List.drop_zero, List.length_map, Nat.min_eq_left h, Nat.sub_zero]
  exact List.map_take.symm
theorem cut_drop {ns : List Int} {m : Nat} (h : m ≤ ns.length) : cutV (vz ns) (some (m : Int)) none = vz (ns.drop m) := by
  unfold cutV
  rw [HT.sIx_nat, HT.sIx_none, List.length_map, Nat.min_eq_left h]
  have e : (vz ns).drop m = vz (ns.drop m) := List.map_drop.symm
  rw [e, List.take_of_length_le (by rw [List.length_map, List.length_drop]; exact Nat.le_refl _)]
theorem el_to {ns : List Int} {m : Nat} {i : Int} (ha : Ev T ta σ H (.ref p)) (hb : Ev T tb σ H (.int i)) (h : SqL K H p (vz ns)) (hi : i = (m : Int)) (hm : m ≤ ns.length) : EvL T (tSl (rSlL K) ta tNoPart (tPart tb)) σ H (vz (ns.take m)) :=
  (el_sl ha eo_none (eo_some hb) h).is (by rw [hi, cut_take hm])
theorem el_from {ns : List Int} {m : Nat} {i : Int} (ha : Ev T ta σ H (.ref p)) (hb : Ev T tb σ H (.int i)) (h : SqL K H p (vz ns)) (hi : i = (m : Int)) (hm : m ≤ ns.length) : EvL T (tSl (rSlL K) ta (tPart tb) tNoPart) σ H (vz (ns.drop m)) :=
  (el_sl ha (eo_some hb) eo_none h).is (by rw [hi, cut_drop hm])
/-! ### several values, told by what holds of them -/
def EvP (T : Tb) (ta : TA) (σ : L2.St) (H : Hp) (R : Hp → List V → Hp → Prop) : Prop := ∀ H1, Ex T H H1 → ∀ Q : List V → Hp → Prop, (∀ vs H2, Ex T H1 H2 → R H1 vs H2 → Q vs H2) → ta σ H1 Q
/-- a pair (number, list of numbers) -/
def PairAt (H : Hp) (v : V) (q : Int × List Int) : Prop := ∃ p r, v = .ref p ∧ H p = some (.tup [.int q.1, .ref r]) ∧ H r = some (.lst (vz q.2))
theorem PairAt.ex {q : Int × List Int} (h : PairAt H v q) (e : Ex T H H') : PairAt H' v q := by
  obtain ⟨p, r, rfl, h1, h2⟩ := h
  exact ⟨p, r, rfl, e.tup h1, e.lst h2⟩
def PairsAt (H : Hp) : List V → List (Int × List Int) → Prop
  | [], [] => True
  | v :: vs, q :: qs => PairAt H v q ∧ PairsAt H vs qs
  | _, _ => False
theorem PairsAt.ex (e : Ex T H H') : ∀ {vs : List V} {qs : List (Int × List Int)}, PairsAt H vs qs → PairsAt H' vs qs
  | [], [], _ => trivial
  | _ :: _, _ :: _, h => ⟨h.1.ex e, PairsAt.ex e h.2⟩
  | [], _ :: _, h => h.elim
  | _ :: _, [], h => h.elim
theorem PairsAt.app : ∀ {vs ws : List V} {qs rs : List (Int × List Int)}, PairsAt H vs qs → PairsAt H ws rs → PairsAt H (vs ++ ws) (qs ++ rs)
  | [], _, [], _, _, h => h
  | _ :: _, _, _ :: _, _, h, h2 => ⟨h.1, PairsAt.app h.2 h2⟩
  | [], _, _ :: _, _, h, _ => h.elim
  | _ :: _, _, [], _, h, _ => h.elim
theorem PairsAt.len : ∀ {vs : List V} {qs : List (Int × List Int)}, PairsAt H vs qs → vs.length = qs.length
  | [], [], _ => rfl
  | _ :: _, _ :: _, h => congrArg (· + 1) (PairsAt.len h.2)
  | [], _ :: _, h => h.elim
  | _ :: _, [], h => h.elim
theorem PairsAt.at_ : ∀ {vs : List V} {qs : List (Int × List Int)} {i : Nat} {q : Int × List Int}, PairsAt H vs qs → qs[i]? = some q → ∃ v, vs[i]? = some v ∧ PairAt H v q
  | v :: _, _ :: _, 0, _, h, e => ⟨v, rfl, by cases e; exact h.1⟩
  | _ :: _, _ :: _, i + 1, _, h, e => PairsAt.at_ (i := i) h.2 e
  | [], _ :: _, _, _, h, _ => h.elim
  | _ :: _, [], _, _, h, _ => h.elim
  | [], [], _, _, _, e => by simp at e
theorem er_pair {tl : TA} {n : Int} {ns : List Int} (hl : EvL T (tLst tl) σ H (vz ns)) : EvR T (tTup (tCons (tC (.int n)) (tCons (tLst tl) tNil))) σ H (fun _ v H' => PairAt H' v (n, ns)) := fun H1 e Q q => by
  simp only [tTup, tCons, tC, tNil]
  refine hl H1 e _ fun r H2 hr e2 h2 => ⟨(by decide : 2 ≤ sizeLine), fun p hp => q (.ref p) _ (e2.trans (.new hp)) ⟨p, r, rfl, upd_same, ?_⟩⟩
  rw [upd_ne (ne_of_none h2 hp)]
  exact h2
theorem ep_nil : EvP T tNil σ H (fun _ vs H' => PairsAt H' vs []) := fun H1 _ _ q => q [] H1 .refl trivial
theorem ep_cons {tr : TA} {q : Int × List Int} {qs : List (Int × List Int)} (h : EvR T te σ H (fun _ v H' => PairAt H' v q)) (hr : EvP T tr σ H (fun _ vs H' => PairsAt H' vs qs)) : EvP T (tCons te tr) σ H (fun _ vs H' => PairsAt H' vs (q :: qs)) := fun H1 e Q k =>
  h H1 e _ fun v H2 e2 r => hr H2 (e.trans e2) _ fun vs H3 e3 rs => k (v :: vs) H3 (e2.trans e3) ⟨r.ex e3, rs⟩
def NewPairs (qs : List (Int × List Int)) : Hp → V → Hp → Prop := fun H v H' => ∃ p vs, v = .ref p ∧ H p = none ∧ H' p = some (.lst vs) ∧ PairsAt H' vs qs
theorem er_pairs {tr : TA} {qs : List (Int × List Int)} (h : EvP T tr σ H (fun _ vs H' => PairsAt H' vs qs)) (hl : qs.length ≤ 1000) : EvR T (tLst tr) σ H (NewPairs qs) := fun H1 e Q k =>
  h H1 e _ fun vs H2 e2 rs => ⟨Nat.le_of_lt (small1000 (by rw [rs.len]; exact hl)), fun p hp => k (.ref p) _ (e2.trans (.new hp)) ⟨p, vs, rfl, e2.n p hp, upd_same, rs.ex (T := T) (.new hp)⟩⟩
theorem er_catP {qs rs : List (Int × List Int)} (ha : Ev T ta σ H (.ref a)) (h : H a = some (.lst xs)) (hp : PairsAt H xs qs) (hb : EvR T tb σ H (NewPairs rs)) (hl : qs.length + rs.length ≤ 1000) : EvR T (tOp rCat ta tb) σ H (NewPairs (qs ++ rs)) := fun H1 e Q k =>
  ha H1 e _ fun H2 e2 => hb H2 (e.trans e2) _ fun v H3 e3 r => by
    obtain ⟨b, ys, rfl, hb0, hb3, rs'⟩ := r
    exact ⟨a, b, xs, ys, rfl, rfl, ((e.trans e2).trans e3).lst h, hb3, Nat.le_of_lt (small1000 (by rw [hp.len, rs'.len]; exact hl)), fun p hp' =>
      k (.ref p) _ ((e2.trans e3).trans (.new hp')) ⟨p, _, rfl, (e2.trans e3).n p hp', upd_same, ((hp.ex ((e.trans e2).trans e3)).app rs').ex (T := T) (.new hp')⟩⟩
/-! ### xs[i] = e on a list of one's own -/
theorem s_setL {D : Ends} {j : Nat} (hl : H l = some (.lst xs)) (h : Ev T te σ H v) (ho : Ev T ta σ H (.ref l)) (hi : Ev T tb σ H (.int i)) (hj : ixN xs.length i = some j) (k : ∀ H1, Ex T H H1 → H1 l = some (.lst xs) → D.nx σ (upd H1 l (.lst (xs.set j v)))) :
    tAsg te (gSub ta tb rSetL) D σ H := h H .refl _ fun H1 e1 => ho H1 e1 _ fun H2 e2 => hi H2 (e1.trans e2) _ fun H3 e3 =>
  ⟨l, xs, i, j, rfl, rfl, ((e1.trans e2).trans e3).lst hl, hj, k H3 ((e1.trans e2).trans e3) (((e1.trans e2).trans e3).lst hl)⟩
theorem ixN_at {n j : Nat} {i : Int} (h : i = (j : Int)) (hj : j < n) : ixN n i = some j := by
  unfold ixN
  rw [h, if_pos (by omega), if_pos (by omega)]
  simp
theorem ixN_last {n : Nat} (h : 0 < n) : ixN n (-1) = some (n - 1) := by
  unfold ixN
  rw [if_neg (by decide), if_pos (by omega)]
  congr 1
  omega
/-! ### lists of lists of ints -/
def LLs (H : Hp) : List Addr → List (List Int) → Prop
  | [], [] => True
  | a :: as, r :: rs => H a = some (.lst (vz r)) ∧ LLs H as rs
  | _, _ => False
theorem LLs.ex (e : Ex T H H') : ∀ {as : List Addr} {rs : List (List Int)}, LLs H as rs → LLs H' as rs
  | [], [], _ => trivial
  | _ :: _, _ :: _, h => ⟨e.lst h.1, LLs.ex e h.2⟩
  | [], _ :: _, h => h.elim
  | _ :: _, [], h => h.elim
theorem LLs.len : ∀ {as : List Addr} {rs : List (List Int)}, LLs H as rs → as.length = rs.length
  | [], [], _ => rfl
  | _ :: _, _ :: _, h => congrArg (· + 1) (LLs.len h.2)
  | [], _ :: _, h => h.elim
  | _ :: _, [], h => h.elim
theorem LLs.app : ∀ {as bs : List Addr} {rs ss : List (List Int)}, LLs H as rs → LLs H bs ss → LLs H (as ++ bs) (rs ++ ss)
  | [], _, [], _, _, h => h
  | _ :: _, _, _ :: _, _, h, h2 => ⟨h.1, LLs.app h.2 h2⟩
  | [], _, _ :: _, _, h, _ => h.elim
  | _ :: _, _, [], _, h, _ => h.elim
theorem LLs.at_ : ∀ {as : List Addr} {rs : List (List Int)} {i : Nat} {r : List Int}, LLs H as rs → rs[i]? = some r → ∃ a, as[i]? = some a ∧ H a = some (.lst (vz r))
  | a :: _, _ :: _, 0, _, h, e => ⟨a, rfl, by cases e; exact h.1⟩
  | _ :: _, _ :: _, i + 1, _, h, e => LLs.at_ (i := i) h.2 e
  | [], _ :: _, _, _, h, _ => h.elim
  | _ :: _, [], _, _, h, _ => h.elim
  | [], [], _, _, _, e => by simp at e
theorem LLs.at' : ∀ {as : List Addr} {rs : List (List Int)} {i : Nat} {a : Addr}, LLs H as rs → as[i]? = some a → ∃ r, rs[i]? = some r ∧ H a = some (.lst (vz r))
  | _ :: _, r :: _, 0, _, h, e => ⟨r, rfl, by cases e; exact h.1⟩
  | _ :: _, _ :: _, i + 1, _, h, e => LLs.at' (i := i) h.2 e
  | [], _ :: _, _, _, h, _ => h.elim
  | _ :: _, [], _, _, h, _ => h.elim
  | [], [], _, _, _, e => by simp at e
theorem LLs.but {D : Addr} {o : HO} : ∀ {as : List Addr} {rs : List (List Int)}, LLs H as rs → D ∉ as → LLs (upd H D o) as rs
  | [], [], _, _ => trivial
  | a :: _, _ :: _, h, hd => ⟨by rw [upd_ne (show a ≠ D from fun e => hd (by rw [e]; exact List.mem_cons_self))]; exact h.1, LLs.but h.2 fun z => hd (List.mem_cons_of_mem _ z)⟩
  | [], _ :: _, h, _ => h.elim
  | _ :: _, [], h, _ => h.elim
theorem LLs.one {r : List Int} (h : H a = some (.lst (vz r))) : LLs H [a] [r] := ⟨h, trivial⟩
/-- a new list of new lists -/
structure NewLLs (rs : List (List Int)) (H : Hp) (p : Addr) (as : List Addr) (H' : Hp) : Prop where
  p0 : H p = none
  p1 : H' p = some (.lst (as.map V.ref))
  ll : LLs H' as rs
  nw : ∀ a ∈ as, H a = none ∧ a ≠ p
  nd : as.Nodup
def NewLL (rs : List (List Int)) : Hp → V → Hp → Prop := fun H v H' => ∃ p as, v = .ref p ∧ NewLLs rs H p as H'
theorem NewLL.back {rs : List (List Int)} : ∀ H1 H2 v H3, Ex T H1 H2 → NewLL rs H2 v H3 → NewLL rs H1 v H3 := fun _ _ _ _ e ⟨p, as, ev, h⟩ => ⟨p, as, ev, e.n p h.p0, h.p1, h.ll, fun a ha => ⟨e.n a (h.nw a ha).1, (h.nw a ha).2⟩, h.nd⟩
def NewI (r : List Int) : Hp → V → Hp → Prop := fun H v H' => ∃ p, v = .ref p ∧ H p = none ∧ H' p = some (.lst (vz r))
theorem Ev.r (h : Ev T te σ H v) : EvR T te σ H (fun _ x _ => x = v) := fun H1 e _ q => h H1 e _ fun H2 e2 => q v H2 e2 rfl
theorem EvL.r {r : List Int} (h : EvL T te σ H (vz r)) : EvR T te σ H (NewI r) := fun H1 e _ q => h H1 e _ fun p H2 hp e2 h2 => q (.ref p) H2 e2 ⟨p, rfl, hp, h2⟩
theorem EvR.imp {R R' : Hp → V → Hp → Prop} (h : EvR T te σ H R) (hi : ∀ H1 v H2, Ex T H H1 → Ex T H1 H2 → R H1 v H2 → R' H1 v H2) : EvR T te σ H R' := fun H1 e _ q => h H1 e _ fun v H2 e2 r => q v H2 e2 (hi H1 v H2 e e2 r)
/-- a call of two arguments of which something is told -/
theorem ev_call2 {sp : Sp} {E : XK} {t1 t2 : TE} {R1 R2 : Hp → V → Hp → Prop} (h1 : EvR T t1 σ H R1) (h2 : EvR T t2 σ H R2)
    (hs : ∀ x y Ha Hb H1, Ex T H Ha → Ex T Ha Hb → Ex T Hb H1 → R1 Ha x Hb → R2 Hb y H1 → ∀ Q : VK, (∀ H2, Ex T H1 H2 → Q z H2) → sp [x, y] H1 Q E) : Ev T (tCall sp [] E (tCons t1 (tCons t2 tNil))) σ H z := fun H1 e Q q =>
  h1 H1 e _ fun x H2 e2 r1 => h2 H2 (e.trans e2) _ fun y H3 e3 r2 => hs x y H1 H2 H3 e e2 e3 r1 r2 Q fun H4 e4 => q H4 ((e2.trans e3).trans e4)
/-- xs[i] of what is made on the way -/
theorem er_ixLL {rs : List (List Int)} {r : List Int} {m : Nat} (ha : EvR T ta σ H (NewLL rs)) (hb : Ev T tb σ H (.int i)) (hi : i = (m : Int)) (hr : rs[m]? = some r) : EvR T (tOp (rIxL K) ta tb) σ H (NewI r) := fun H1 e Q q =>
  ha H1 e _ fun v H2 e2 ⟨p, as, ev, h⟩ => by
    subst ev
    refine hb H2 (e.trans e2) _ fun H3 e3 => ?_
    obtain ⟨a, h1, h2⟩ := h.ll.at_ hr
    exact ⟨p, as.map V.ref, i, .ref a, rfl, rfl, SqL.of (e3.lst h.p1), by rw [hi]; exact atI_nat (by rw [List.getElem?_map, h1]; rfl), q (.ref a) H3 (e2.trans e3) ⟨a, rfl, (h.nw a (List.mem_of_getElem? h1)).1, e3.lst h2⟩⟩
/-- [new list for k in range(m)] -/
theorem er_lcR1 {tr : TA} {vs : List Nat} {n : Nat} {m : Int} (h : EvA T tr σ H [.int m]) (hm : m ≤ 40000) (h0 : 0 ≤ m) (hw : ∀ x, wipe ((wipe σ vs).set n (some x)) vs = wipe σ vs) (rows : Nat → List Int)
    (he : ∀ (i : Nat) H1, Ex T H H1 → (i : Int) < m → EvL T te ((wipe σ vs).set n (some (.int (i : Int)))) H1 (vz (rows i))) :
    EvR T (tLc (iRng1 tr) (gName n) tYes te vs) σ H (NewLL ((List.range m.toNat).map rows)) := fun H0 e Q q => h H0 e _ fun H1 e1 => ⟨m, rfl, by omega, by omega, fun D hD =>
  lc_range (lo := 0) (n := m.toNat) (fun i H' => ∃ as : List Addr, Ex T H1 H' ∧ H' D = some (.lst (as.map V.ref)) ∧ LLs H' as ((List.range i).map rows) ∧ (∀ a ∈ as, H1 a = none ∧ a ≠ D) ∧ as.Nodup)
    ⟨[], .new hD, upd_same, trivial, fun _ h => (nomatch h), .nil⟩ (fun i H' hi ⟨as, p1, p2, p3, p4, p5⟩ => by
    have e0 : (0 : Int) + (i : Int) = (i : Int) := Int.zero_add _
    refine ⟨by rw [e0]; exact hw _, ?_⟩
    rw [e0]
    dsimp only [tYes]
    rw [if_pos rfl]
    refine he i H' ((e.trans e1).trans p1) (by omega) H' .refl _ fun p H2 hp e2 h2 => ⟨as.map V.ref, e2.lst p2, ?_, as ++ [p], ?_, ?_, ?_, ?_, ?_⟩
    · have hl := p3.len
      rw [List.length_map, List.length_range] at hl
      rw [List.length_map]
      exact Nat.lt_of_lt_of_le (show as.length < 100000 by omega) (by decide)
    · exact (p1.trans e2).mut hD (e2.lst p2)
    · rw [upd_same, List.map_append]
      rfl
    · have hDp : D ≠ p := ne_of_none p2 hp
      rw [List.range_succ, List.map_append]
      refine LLs.but ((p3.ex e2).app (LLs.one h2)) fun z => ?_
      rcases List.mem_append.mp z with z | z
      · exact (p4 D z).2 rfl
      · exact hDp (List.mem_singleton.mp z)
    · intro a ha
      rcases List.mem_append.mp ha with z | z
      · exact p4 a z
      · rw [List.mem_singleton.mp z]
        exact ⟨p1.n p hp, fun q => ne_of_none p2 hp q.symm⟩
    · refine List.nodup_append.mpr ⟨p5, List.nodup_cons.mpr ⟨List.not_mem_nil, .nil⟩, fun a ha b hb => ?_⟩
      rw [List.mem_singleton.mp hb]
      obtain ⟨j, hj⟩ := List.getElem?_of_mem ha
      obtain ⟨r, _, hr⟩ := p3.at' hj
      exact ne_of_none hr hp) (fun H' ⟨as, p1, p2, p3, p4, p5⟩ => q (.ref D) H' (e1.trans p1) ⟨D, as, rfl, e1.n D hD, p2, p3, fun a ha => ⟨e1.n a (p4 a ha).1, (p4 a ha).2⟩, p5⟩)⟩
/-- xs.index(n) of ints -/
theorem ev_index {ns : List Int} {n : Int} {m : Nat} (ha : Ev T ta σ H (.ref p)) (hb : Ev T tb σ H (.int n)) (h : SqL K H p (vz ns)) (hm : ns[m]? = some n) (hf : ∀ j, j < m → ns[j]? ≠ some n) :
    Ev T (tBM K "list" (rIndex K) ta (tCons tb tNil)) σ H (.int (m : Int)) := fun H1 e Q q =>
  ha H1 e _ fun H2 e2 => ⟨.inl ⟨rfl, _, (e.trans e2).sq h⟩, hb H2 (e.trans e2) _ fun H3 e3 => ⟨p, vz ns, .int n, m, .int n, rfl, rfl, ((e.trans e2).trans e3).sq h, rfl, by
    rw [List.all_eq_true]
    intro x hx
    obtain ⟨k, _, rfl⟩ := List.mem_map.mp hx
    rfl, by rw [List.getElem?_map, hm]; rfl, by show (n == n) = true; exact beq_self_eq_true n, fun j z hj hz => by
      obtain ⟨k, hk, rfl⟩ := at_vz hz
      show (k == n) = false
      exact beq_eq_false_iff_ne.mpr fun q => hf j hj (by rw [hk, q]), q H3 (e2.trans e3)⟩⟩
theorem first_at {n : Int} : ∀ {ns : List Int}, n ∈ ns → ∃ m : Nat, ns[m]? = some n ∧ ∀ j, j < m → ns[j]? ≠ some n
  | k :: r, h => by
    by_cases hk : k = n
    · exact ⟨0, by rw [hk]; rfl, fun j hj => absurd hj (Nat.not_lt_zero j)⟩
    · have hr : n ∈ r := (List.mem_cons.mp h).resolve_left fun e => hk e.symm
      obtain ⟨m, h1, h2⟩ := first_at hr
      refine ⟨m + 1, h1, fun j hj => ?_⟩
      cases j with
      | zero => intro e; exact hk (Option.some.inj e)
      | succ j => exact h2 j (by omega)
/-- a <= b < c -/
theorem ev_chain {g1 g2 : Int → Int → V} {b c : Bool} {i j k : Int} (ha : Ev T ta σ H (.int i)) (hb : Ev T tb σ H (.int j)) (hc : Ev T tc σ H (.int k)) (h1 : g1 i j = .bl b) (h2 : g2 j k = .bl c) :
    Ev T (tChain (rI0 g1) (rI0 g2) ta tb tc) σ H (.bl (b && c)) := fun H1 e Q q =>
  ha H1 e _ fun H2 e2 => hb H2 (e.trans e2) _ fun H3 e3 => ⟨i, j, rfl, rfl, b, h1, by
    cases b with
    | true => exact iteT (hc H3 ((e.trans e2).trans e3) _ fun H4 e4 => ⟨j, k, rfl, rfl, by rw [h2]; exact q H4 ((e2.trans e3).trans e4)⟩)
    | false => exact iteF (q H3 (e2.trans e3))⟩
/-- [k for k in range(m) if test] -/
theorem el_lcR1F {tr : TA} {vs : List Nat} {n : Nat} {m : Int} (f : Nat → Bool) (g : Nat → V) (h : EvA T tr σ H [.int m]) (hm : m ≤ 40000) (h0 : 0 ≤ m) (hw : ∀ x, wipe ((wipe σ vs).set n (some x)) vs = wipe σ vs)
    (ht : ∀ (i : Nat) H1, Ex T H H1 → (i : Int) < m → EvT T t ((wipe σ vs).set n (some (.int (i : Int)))) H1 (f i))
    (he : ∀ (i : Nat) H1, Ex T H H1 → (i : Int) < m → f i = true → Ev T te ((wipe σ vs).set n (some (.int (i : Int)))) H1 (g i)) :
    EvL T (tLc (iRng1 tr) (gName n) t te vs) σ H (((List.range m.toNat).filter f).map g) := fun H0 e Q q => h H0 e _ fun H1 e1 => ⟨m, rfl, by omega, by omega, fun D hD =>
  lc_range (lo := 0) (n := m.toNat) (fun i H' => Ex T H1 H' ∧ H' D = some (.lst (((List.range i).filter f).map g))) ⟨.new hD, upd_same⟩ (fun i H' hi ⟨p1, p2⟩ => by
    have e0 : (0 : Int) + (i : Int) = (i : Int) := Int.zero_add _
    refine ⟨by rw [e0]; exact hw _, ?_⟩
    rw [e0]
    refine ht i H' ((e.trans e1).trans p1) (by omega) H' .refl _ fun H2 e2 => ?_
    cases hf : f i with
    | true =>
      refine iteT (he i H2 (((e.trans e1).trans p1).trans e2) (by omega) hf H2 .refl _ fun H3 e3 => ⟨_, (e2.trans e3).lst p2, ?_, (p1.trans (e2.trans e3)).mut hD ((e2.trans e3).lst p2), ?_⟩)
      · have h1 := List.length_filter_le f (List.range i)
        rw [List.length_range] at h1
        rw [List.length_map]
        exact Nat.lt_of_lt_of_le (show ((List.range i).filter f).length < 100000 by omega) (by decide)
      · rw [upd_same, List.range_succ, List.filter_append, List.map_append]
        simp [hf]
    | false =>
      refine iteF ⟨p1.trans e2, ?_⟩
      rw [e2.lst p2, List.range_succ, List.filter_append, List.map_append]
      simp [hf]) (fun H' ⟨p1, p2⟩ => q D H' (e1.n D hD) (e1.trans p1) p2)⟩
theorem ev_eqLN {ns ms : List Int} (ha : Ev T ta σ H (.ref p)) (hb : EvL T tb σ H (vz ms)) (h : SqL K H p (vz ns)) : Ev T (tOp (rEqD K) ta tb) σ H (.bl (decide (ns = ms))) := fun H1 e Q f =>
  ha H1 e _ fun H2 e2 => hb H2 (e.trans e2) _ fun r H3 _ e3 hr => ⟨_, _, dp_I (((e.trans e2).trans e3).sq h), dp_I (SqL.of hr), sh_I _, sh_I _, by rw [eqv_I]; exact f H3 (e2.trans e3)⟩
theorem ev_neLN {ns ms : List Int} (ha : Ev T ta σ H (.ref p)) (hb : EvL T tb σ H (vz ms)) (h : SqL K H p (vz ns)) : Ev T (tOp (rNeD K) ta tb) σ H (.bl (!decide (ns = ms))) := fun H1 e Q f =>
  ha H1 e _ fun H2 e2 => hb H2 (e.trans e2) _ fun r H3 _ e3 hr => ⟨_, _, dp_I (((e.trans e2).trans e3).sq h), dp_I (SqL.of hr), sh_I _, sh_I _, by rw [eqv_I]; exact f H3 (e2.trans e3)⟩
theorem ev_eqNL {ns ms : List Int} {q : Addr} (ha : EvL T ta σ H (vz ns)) (hb : Ev T tb σ H (.ref q)) (h2 : SqL K H q (vz ms)) : Ev T (tOp (rEqD K) ta tb) σ H (.bl (decide (ns = ms))) := fun H1 e Q f =>
  ha H1 e _ fun r H2 _ e2 hr => hb H2 (e.trans e2) _ fun H3 e3 => ⟨_, _, dp_I (e3.sq (SqL.of hr)), dp_I (((e.trans e2).trans e3).sq h2), sh_I _, sh_I _, by rw [eqv_I]; exact f H3 (e2.trans e3)⟩
theorem ev_neRL {ns ms : List Int} {q : Addr} {R : Hp → V → Hp → Prop} (ha : EvR T ta σ H R) (hR : ∀ H1 v H2, Ex T H H1 → Ex T H1 H2 → R H1 v H2 → ∃ r, v = .ref r ∧ H2 r = some (.lst (vz ns))) (hb : Ev T tb σ H (.ref q)) (h2 : SqL K H q (vz ms)) : Ev T (tOp (rNeD K) ta tb) σ H (.bl (!decide (ns = ms))) := fun H1 e Q f =>
  ha H1 e _ fun v H2 e2 hv => by
    obtain ⟨r, rfl, hr⟩ := hR H1 v H2 e e2 hv
    exact hb H2 (e.trans e2) _ fun H3 e3 => ⟨_, _, dp_I (e3.sq (SqL.of hr)), dp_I (((e.trans e2).trans e3).sq h2), sh_I _, sh_I _, by rw [eqv_I]; exact f H3 (e2.trans e3)⟩
/-! ### pairs of lists of ints -/
def dP (q : List Int × List Int) : PyData := .tuple [dI q.1, dI q.2]
def Pr (H : Hp) (p : Addr) (q : List Int × List Int) : Prop := ∃ a b, H p = some (.tup [.ref a, .ref b]) ∧ H a = some (.lst (vz q.1)) ∧ H b = some (.lst (vz q.2))
theorem Pr.ex {q : List Int × List Int} (h : Pr H p q) (e : Ex T H H') : Pr H' p q := by
  obtain ⟨a, b, h1, h2, h3⟩ := h
  exact ⟨a, b, e.tup h1, e.lst h2, e.lst h3⟩
theorem Pr.dp {q : List Int × List Int} (h : Pr H p q) : Dp K H (.ref p) (dP q) := by
  obtain ⟨a, b, h1, h2, h3⟩ := h
  exact .tup (.inl (.inl h1)) (.cons (dp_I (SqL.of h2)) (.cons (dp_I (SqL.of h3)) .nil))
theorem sh_P (q : List Int × List Int) : SeqAt.shaped (dP q) = true := by
  show (PyData.canLay0 (dP q) && decide (PyData.depth (dP q) ≤ 64)) = true
  have h1 : PyData.canLay0 (dP q) = true := by
    show PyData.canLay0 (.tuple [dI q.1, dI q.2]) = true
    simp only [PyData.canLay0, PyData.canLayAll0, lay_I, Bool.and_self]
  have h2 : PyData.depth (dP q) ≤ 64 := by
    show PyData.depth (.tuple [dI q.1, dI q.2]) ≤ 64
    simp only [PyData.depth, PyData.depthAll, dep_I]
    decide
  rw [h1, decide_eq_true h2]
  rfl
theorem eqv_P (q r : List Int × List Int) : PyData.eqv (dP q) (dP r) = decide (q = r) := by
  show PyData.eqv (.tuple [dI q.1, dI q.2]) (.tuple [dI r.1, dI r.2]) = decide (q = r)
  simp only [PyData.eqv, PyData.eqvAll, eqv_I, Bool.and_true]
  obtain ⟨a, b⟩ := q
  obtain ⟨c, d⟩ := r
  by_cases h1 : a = c
  · by_cases h2 : b = d
    · simp [h1, h2]
    · simp [h1, h2]
  · simp [h1]
/-- a new pair == one that stands -/
theorem ev_eqNP {q r : List Int × List Int} {b : Addr} {R : Hp → V → Hp → Prop} (ha : EvR T ta σ H R) (hR : ∀ H1 v H2, Ex T H H1 → Ex T H1 H2 → R H1 v H2 → ∃ p, v = .ref p ∧ Pr H2 p q) (hb : Ev T tb σ H (.ref b)) (h2 : Pr H b r) : Ev T (tOp (rEqD K) ta tb) σ H (.bl (decide (q = r))) := fun H1 e Q f =>
  ha H1 e _ fun v H2 e2 hv => by
    obtain ⟨p, rfl, hp⟩ := hR H1 v H2 e e2 hv
    exact hb H2 (e.trans e2) _ fun H3 e3 => ⟨_, _, (hp.ex e3).dp, (h2.ex ((e.trans e2).trans e3)).dp, sh_P _, sh_P _, by rw [eqv_P]; exact f H3 (e2.trans e3)⟩
/-- (new list, new list) -/
def NewPr (q : List Int × List Int) : Hp → V → Hp → Prop := fun H v H' => ∃ p a b, v = .ref p ∧ H p = none ∧ H a = none ∧ H b = none ∧ H' p = some (.tup [.ref a, .ref b]) ∧ H' a = some (.lst (vz q.1)) ∧ H' b = some (.lst (vz q.2))
theorem er_tup2 {ns ms : List Int} (ha : EvL T ta σ H (vz ns)) (hb : EvL T tb σ H (vz ms)) : EvR T (tTup (tCons ta (tCons tb tNil))) σ H (NewPr (ns, ms)) := fun H1 e Q f => by
  simp only [tTup, tCons, tNil]
  refine ha H1 e _ fun a H2 ha0 e2 h2 => hb H2 (e.trans e2) _ fun b H3 hb0 e3 h3 => ⟨(by decide : 2 ≤ sizeLine), fun p hp => f (.ref p) _ ((e2.trans e3).trans (.new hp)) ⟨p, a, b, rfl, (e2.trans e3).n p hp, ha0, e2.n b hb0, upd_same, ?_, ?_⟩⟩
  · rw [upd_ne (ne_of_none (e3.lst h2) hp)]
    exact e3.lst h2
  · rw [upd_ne (ne_of_none h3 hp)]
    exact h3
/-- xs.reverse() -/
theorem s_rev {D : Ends} (hl : H l = some (.lst xs)) (ha : Ev T ta σ H (.ref l)) (k : ∀ H1, Ex T H H1 → H1 l = some (.lst xs) → D.nx σ (upd H1 l (.lst xs.reverse))) : tDrop (tBM0 K "list" rReverse ta) D σ H := ha H .refl _ fun H1 e1 =>
  ⟨.inl ⟨rfl, xs, SqL.of (e1.lst hl)⟩, l, xs, rfl, rfl, e1.lst hl, k H1 e1 (e1.lst hl)⟩
end
end Sm

/-! SmM: the numbers: rows, neighbours. -/
namespace Sm
def prd : List Int → Int
  | [] => 1
  | n :: r => n * prd r
def sqs : List Int → Int
  | [] => 0
  | n :: r => n * n + sqs r
theorem prd_app : ∀ a b : List Int, prd (a ++ b) = prd a * prd b
  | [], b => by show prd b = 1 * prd b; rw [Int.one_mul]
  | n :: r, b => by
    show n * prd (r ++ b) = n * prd r * prd b
    rw [prd_app r b, Int.mul_assoc]
theorem sqs_app : ∀ a b : List Int, sqs (a ++ b) = sqs a + sqs b
  | [], b => by show sqs b = 0 + sqs b; omega
  | n :: r, b => by
    show n * n + sqs (r ++ b) = n * n + sqs r + sqs b
    rw [sqs_app r b]; omega
theorem sum_app' (a b : List Int) : (a ++ b).sum = a.sum + b.sum := by
  induction a with
  | nil => simp
  | cons n r ih => rw [List.cons_append, List.sum_cons, List.sum_cons, ih]; omega
theorem prd_perm {a b : List Int} (h : a.Perm b) : prd a = prd b := by
  induction h with
  | nil => rfl
  | cons x _ ih => show x * _ = x * _; rw [ih]
  | swap x y l => show y * (x * prd l) = x * (y * prd l); rw [← Int.mul_assoc, ← Int.mul_assoc, Int.mul_comm y x]
  | trans _ _ i1 i2 => exact i1.trans i2
theorem sqs_perm {a b : List Int} (h : a.Perm b) : sqs a = sqs b := by
  induction h with
  | nil => rfl
  | cons x _ ih => show x * x + _ = x * x + _; rw [ih]
  | swap x y l => show y * y + (x * x + sqs l) = x * x + (y * y + sqs l); omega
  | trans _ _ i1 i2 => exact i1.trans i2
theorem sum_perm' {a b : List Int} (h : a.Perm b) : a.sum = b.sum := by
  induction h with
  | nil => rfl
  | cons x _ ih => rw [List.sum_cons, List.sum_cons, ih]
  | swap x y l => rw [List.sum_cons, List.sum_cons, List.sum_cons, List.sum_cons]; omega
  | trans _ _ i1 i2 => exact i1.trans i2
theorem sqs_map (ns : List Int) : (ns.map fun n => n * n).sum = sqs ns := by
  induction ns with
  | nil => rfl
  | cons n r ih => rw [List.map_cons, List.sum_cons, ih]; rfl
theorem sqs_nn : ∀ ns : List Int, 0 ≤ sqs ns
  | [] => Int.le_refl 0
  | n :: r => by
    have h1 := sqs_nn r
    have h2 : 0 ≤ n * n := by
      rcases Int.le_total 0 n with h | h
      · exact Int.mul_nonneg h h
      · exact Int.mul_nonneg_of_nonpos_of_nonpos h h
    show 0 ≤ n * n + sqs r
    omega
theorem sqs_ge {n : Int} : ∀ {ns : List Int}, n ∈ ns → n * n ≤ sqs ns
  | m :: r, h => by
    show n * n ≤ m * m + sqs r
    rcases List.mem_cons.mp h with e | e
    · rw [e]; have := sqs_nn r; omega
    · have h1 := sqs_ge e
      have h2 : 0 ≤ m * m := by
        rcases Int.le_total 0 m with h | h
        · exact Int.mul_nonneg h h
        · exact Int.mul_nonneg_of_nonpos_of_nonpos h h
      omega
theorem prd_pos : ∀ {ns : List Int}, (∀ n ∈ ns, 1 ≤ n) → 1 ≤ prd ns
  | [], _ => Int.le_refl 1
  | n :: r, h => by
    have h1 : 1 ≤ n := h n List.mem_cons_self
    have h2 := prd_pos (ns := r) fun m hm => h m (List.mem_cons_of_mem _ hm)
    have h3 : 1 * 1 ≤ n * prd r := Int.mul_le_mul h1 h2 (by omega) (by omega)
    exact h3
theorem sum_ge {ns : List Int} (h : ∀ n ∈ ns, 1 ≤ n) : (ns.length : Int) ≤ ns.sum := by
  induction ns with
  | nil => simp
  | cons n r ih =>
    have h1 : 1 ≤ n := h n List.mem_cons_self
    have h2 := ih fun m hm => h m (List.mem_cons_of_mem _ hm)
    rw [List.sum_cons, List.length_cons]
    omega
theorem mem_sum {ns : List Int} (h : ∀ n ∈ ns, 1 ≤ n) {n : Int} (hn : n ∈ ns) : n ≤ ns.sum := by
  induction ns with
  | nil => cases hn
  | cons m r ih =>
    have h1 : 1 ≤ m := h m List.mem_cons_self
    have h3 : ∀ m ∈ r, 1 ≤ m := fun m hm => h m (List.mem_cons_of_mem _ hm)
    have h2 := sum_ge h3
    rw [List.sum_cons]
    rcases List.mem_cons.mp hn with e | e
    · omega
    · have := ih h3 e; omega
/-- the squares' sum is at most the sum's square -/
theorem sqs_le {ns : List Int} (h : ∀ n ∈ ns, 1 ≤ n) : sqs ns ≤ ns.sum * ns.sum := by
  induction ns with
  | nil => exact Int.le_refl 0
  | cons n r ih =>
    have h1 : 1 ≤ n := h n List.mem_cons_self
    have h3 : ∀ m ∈ r, 1 ≤ m := fun m hm => h m (List.mem_cons_of_mem _ hm)
    have h2 := ih h3
    have h4 : 0 ≤ r.sum := Int.le_trans (Int.natCast_nonneg _) (sum_ge h3)
    have h5 : 0 ≤ n * r.sum := Int.mul_nonneg (by omega) h4
    rw [List.sum_cons]
    show n * n + sqs r ≤ (n + r.sum) * (n + r.sum)
    have e : (n + r.sum) * (n + r.sum) = n * n + n * r.sum + (n * r.sum + r.sum * r.sum) := by
      rw [Int.add_mul, Int.mul_add, Int.mul_add, Int.mul_comm r.sum n]
    omega

/-! ### rows -/
structure IsRow (t : Int) (ns : List Int) : Prop where
  pos : ∀ n ∈ ns, 1 ≤ n
  ord : ns.Pairwise (· ≤ ·)
  eq : sqs ns = t * prd ns
instance (t : Int) (ns : List Int) : Decidable (IsRow t ns) := decidable_of_iff ((∀ n ∈ ns, 1 ≤ n) ∧ ns.Pairwise (· ≤ ·) ∧ sqs ns = t * prd ns) ⟨fun h => ⟨h.1, h.2.1, h.2.2⟩, fun h => ⟨h.pos, h.ord, h.eq⟩⟩
/-- what the walk along a row looks at -/
def okAt (ns : List Int) (k : Nat) : Prop := 1 ≤ ns.getD k 0 ∧ (0 < k → ns.getD (k - 1) 0 ≤ ns.getD k 0)
theorem okAt_all {ns : List Int} (h : ∀ k, k < ns.length → okAt ns k) : (∀ n ∈ ns, 1 ≤ n) ∧ ns.Pairwise (· ≤ ·) := by
  constructor
  · intro n hn
    obtain ⟨k, hk, e⟩ := List.getElem_of_mem hn
    have := (h k hk).1
    rw [List.getD_eq_getElem?_getD, List.getElem?_eq_getElem hk] at this
    rw [← e]; exact this
  · rw [List.pairwise_iff_getElem]
    intro i j hi hj hij
    have g : ∀ k (hk : k < ns.length), ns.getD k 0 = ns[k] := fun k hk => by rw [List.getD_eq_getElem?_getD, List.getElem?_eq_getElem hk]; rfl
    have step : ∀ d, ∀ (hd : i + d < ns.length), ns[i] ≤ ns[i + d] := by
      intro d
      induction d with
      | zero => intro _; exact Int.le_refl _
      | succ d ih =>
        intro hd
        have h1 := ih (by omega)
        have h2 := (h (i + (d + 1)) hd).2 (by omega)
        rw [g _ hd, show i + (d + 1) - 1 = i + d by omega, g _ (by omega)] at h2
        exact Int.le_trans h1 h2
    have := step (j - i) (by omega)
    have e : i + (j - i) = j := by omega
    simp only [e] at this
    exact this
theorem IsRow.okAt {t : Int} {ns : List Int} (h : IsRow t ns) {k : Nat} (hk : k < ns.length) : okAt ns k := by
  have g : ∀ k (hk : k < ns.length), ns.getD k 0 = ns[k] := fun k hk => by rw [List.getD_eq_getElem?_getD, List.getElem?_eq_getElem hk]; rfl
  refine ⟨?_, fun h0 => ?_⟩
  · rw [g k hk]; exact h.pos _ (List.getElem_mem hk)
  · rw [g k hk, g (k - 1) (by omega)]
    exact (List.pairwise_iff_getElem.mp h.ord) (k - 1) k (by omega) hk (by omega)

/-! ### neighbours -/
def oth (ns : List Int) (p : Nat) : List Int := ns.take p ++ ns.drop (p + 1)
def new (t : Int) (ns : List Int) (p : Nat) : Int := t * prd (oth ns p) - ns.getD p 0
def near (t : Int) (ns : List Int) (p : Nat) : List Int := isort (oth ns p ++ [new t ns p])
section
variable {t : Int} {ns : List Int} {p : Nat}
theorem oth_perm (hp : p < ns.length) : ns.Perm (ns.getD p 0 :: oth ns p) := by
  have e : ns = ns.take p ++ ns.getD p 0 :: ns.drop (p + 1) := by
    rw [List.getD_eq_getElem?_getD, List.getElem?_eq_getElem hp]
    show ns = ns.take p ++ ns[p] :: ns.drop (p + 1)
    rw [← List.drop_eq_getElem_cons hp, List.take_append_drop]
  have h : (ns.take p ++ ns.getD p 0 :: ns.drop (p + 1)).Perm (ns.getD p 0 :: (ns.take p ++ ns.drop (p + 1))) := List.perm_middle
  exact (List.Perm.of_eq e).trans h
theorem near_perm : (near t ns p).Perm (new t ns p :: oth ns p) := (isort_perm _).trans (List.perm_append_comm (l₁ := oth ns p) (l₂ := [new t ns p]))
theorem near_ord : (near t ns p).Pairwise (· ≤ ·) := isort_sorted _
theorem oth_len (hp : p < ns.length) : (oth ns p).length + 1 = ns.length := by
  have := (oth_perm hp).length_eq
  rw [List.length_cons] at this
  omega
theorem near_len (hp : p < ns.length) : (near t ns p).length = ns.length := by
  rw [near_perm.length_eq, List.length_cons, oth_len hp]
theorem getD_mem {ns : List Int} {p : Nat} (hp : p < ns.length) : ns.getD p 0 ∈ ns := by
  rw [List.getD_eq_getElem?_getD, List.getElem?_eq_getElem hp]
  exact List.getElem_mem hp
theorem oth_sub {n : Int} (hp : p < ns.length) (h : n ∈ oth ns p) : n ∈ ns := (oth_perm hp).symm.subset (List.mem_cons_of_mem _ h)
theorem near_sum (hp : p < ns.length) : (near t ns p).sum = ns.sum - ns.getD p 0 + new t ns p := by
  rw [sum_perm' near_perm, sum_perm' (oth_perm hp), List.sum_cons, List.sum_cons]
  omega
theorem new_mul (h : IsRow t ns) (hp : p < ns.length) : ns.getD p 0 * new t ns p = sqs (oth ns p) := by
  have e1 := sqs_perm (oth_perm hp)
  have e2 := prd_perm (oth_perm hp)
  have e3 := h.eq
  rw [e1, e2] at e3
  have e4 : ns.getD p 0 * ns.getD p 0 + sqs (oth ns p) = t * (ns.getD p 0 * prd (oth ns p)) := e3
  have e5 : ns.getD p 0 * new t ns p = t * (ns.getD p 0 * prd (oth ns p)) - ns.getD p 0 * ns.getD p 0 := by
    unfold new
    rw [Int.mul_sub, ← Int.mul_assoc, ← Int.mul_assoc, Int.mul_comm t]
  omega
theorem new_pos (h : IsRow t ns) (hp : p < ns.length) (h2 : 2 ≤ ns.length) : 1 ≤ new t ns p := by
  have e := new_mul h hp
  have h1 : 1 ≤ ns.getD p 0 := h.pos _ (getD_mem hp)
  have ho : 0 < (oth ns p).length := by have := oth_len hp; omega
  obtain ⟨m, hm⟩ := List.exists_mem_of_length_pos ho
  have hm1 : 1 ≤ m := h.pos _ (oth_sub hp hm)
  have h3 : m * m ≤ sqs (oth ns p) := sqs_ge hm
  have h4 : 1 * 1 ≤ m * m := Int.mul_le_mul hm1 hm1 (by omega) (by omega)
  rcases Int.lt_or_le (new t ns p) 1 with h5 | h5
  · have : ns.getD p 0 * new t ns p ≤ 0 := Int.mul_nonpos_of_nonneg_of_nonpos (by omega) (by omega)
    omega
  · exact h5
theorem near_row (h : IsRow t ns) (hp : p < ns.length) (h2 : 2 ≤ ns.length) : IsRow t (near t ns p) := by
  refine ⟨fun n hn => ?_, near_ord, ?_⟩
  · rcases List.mem_cons.mp (near_perm.subset hn) with e | e
    · rw [e]; exact new_pos h hp h2
    · exact h.pos _ (oth_sub hp e)
  · rw [sqs_perm near_perm, prd_perm near_perm]
    show new t ns p * new t ns p + sqs (oth ns p) = t * (new t ns p * prd (oth ns p))
    rw [← new_mul h hp]
    have e : t * (new t ns p * prd (oth ns p)) = new t ns p * (new t ns p + ns.getD p 0) := by
      have e1 : new t ns p + ns.getD p 0 = t * prd (oth ns p) := by unfold new; omega
      rw [e1, ← Int.mul_assoc, Int.mul_comm t, Int.mul_assoc]
    rw [e, Int.mul_add, Int.mul_comm (ns.getD p 0)]
/-- back by the new number's place -/
theorem near_back (hr : ns.Pairwise (· ≤ ·)) (hp : p < ns.length) {q : Nat} (hq : q < ns.length) (e : (near t ns p).getD q 0 = new t ns p) : near t (near t ns p) q = ns := by
  have hq' : q < (near t ns p).length := by rw [near_len hp]; exact hq
  have p1 := oth_perm hq'
  rw [e] at p1
  have p2 : (oth (near t ns p) q).Perm (oth ns p) := (p1.symm.trans near_perm).cons_inv
  have e2 : new t (near t ns p) q = ns.getD p 0 := by
    unfold new
    rw [prd_perm p2, e]
    unfold new
    omega
  have p3 : (near t (near t ns p) q).Perm ns := by
    refine near_perm.trans ?_
    rw [e2]
    exact (p2.cons _).trans (oth_perm hp).symm
  exact sort_one p3 near_ord hr
/-- the last one is the greatest -/
theorem le_last (hr : ns.Pairwise (· ≤ ·)) {n : Int} (h : n ∈ ns) : n ≤ ns.getD (ns.length - 1) 0 := by
  obtain ⟨k, hk, e⟩ := List.getElem_of_mem h
  have hl : ns.length - 1 < ns.length := by omega
  have g : ns.getD (ns.length - 1) 0 = ns[ns.length - 1] := by rw [List.getD_eq_getElem?_getD, List.getElem?_eq_getElem hl]; rfl
  rw [g, ← e]
  by_cases hkl : k = ns.length - 1
  · simp only [hkl]; exact Int.le_refl _
  · exact (List.pairwise_iff_getElem.mp hr) k (ns.length - 1) hk hl (by omega)
/-- at a place ahead of the last one the new number is the greatest of all -/
theorem new_great (h : IsRow t ns) (hp : p + 1 < ns.length) (h3 : 3 ≤ ns.length) : ns.getD (ns.length - 1) 0 < new t ns p := by
  have hp' : p < ns.length := by omega
  have e := new_mul h hp'
  have h1 : 1 ≤ ns.getD p 0 := h.pos _ (getD_mem hp')
  have hl : ns.length - 1 < ns.length := by omega
  -- the others hold the last one and one more
  have hd : ns.getD (ns.length - 1) 0 ∈ ns.drop (p + 1) := by
    rw [List.getD_eq_getElem?_getD, List.getElem?_eq_getElem hl]
    show ns[ns.length - 1] ∈ _
    have : (ns.drop (p + 1))[ns.length - 1 - (p + 1)]? = some ns[ns.length - 1] := by
      rw [List.getElem?_drop, show p + 1 + (ns.length - 1 - (p + 1)) = ns.length - 1 by omega, List.getElem?_eq_getElem hl]
    exact List.mem_of_getElem? this
  have ho : ns.getD (ns.length - 1) 0 ∈ oth ns p := List.mem_append_right _ hd
  have hq := List.perm_cons_erase ho
  have e2 := sqs_perm hq
  have hlen : (oth ns p).length = ns.length - 1 := by have := oth_len hp'; omega
  have hr2 : 0 < ((oth ns p).erase (ns.getD (ns.length - 1) 0)).length := by
    have := hq.length_eq
    rw [List.length_cons] at this
    omega
  obtain ⟨m, hm⟩ := List.exists_mem_of_length_pos hr2
  have hm1 : 1 ≤ m := h.pos _ (oth_sub hp' (List.mem_of_mem_erase hm))
  have h4 : m * m ≤ sqs ((oth ns p).erase (ns.getD (ns.length - 1) 0)) := sqs_ge hm
  have h5 : 1 * 1 ≤ m * m := Int.mul_le_mul hm1 hm1 (by omega) (by omega)
  have e3 : sqs (oth ns p) = ns.getD (ns.length - 1) 0 * ns.getD (ns.length - 1) 0 + sqs ((oth ns p).erase (ns.getD (ns.length - 1) 0)) := e2
  have hle : ns.getD p 0 ≤ ns.getD (ns.length - 1) 0 := le_last h.ord (getD_mem hp')
  have hl1 : 1 ≤ ns.getD (ns.length - 1) 0 := h.pos _ (getD_mem hl)
  rcases Int.lt_or_le (ns.getD (ns.length - 1) 0) (new t ns p) with hc | hc
  · exact hc
  · have h6 : ns.getD p 0 * new t ns p ≤ ns.getD (ns.length - 1) 0 * ns.getD (ns.length - 1) 0 := Int.mul_le_mul hle hc (by have := new_pos h hp' (by omega); omega) (by omega)
    omega
/-- the new number against the size -/
theorem new_le (h : IsRow t ns) (hp : p < ns.length) (h2 : 2 ≤ ns.length) : new t ns p ≤ ns.sum * ns.sum := by
  have e := new_mul h hp
  have h1 : 1 ≤ ns.getD p 0 := h.pos _ (getD_mem hp)
  have hn := new_pos h hp h2
  have h3 : 1 * new t ns p ≤ ns.getD p 0 * new t ns p := Int.mul_le_mul_of_nonneg_right h1 (by omega)
  have e2 := sqs_perm (oth_perm hp)
  have e3 : sqs ns = ns.getD p 0 * ns.getD p 0 + sqs (oth ns p) := e2
  have h4 : 0 ≤ ns.getD p 0 * ns.getD p 0 := Int.mul_nonneg (by omega) (by omega)
  have h5 := sqs_le h.pos
  omega
theorem near_size (h : IsRow t ns) (hp : p < ns.length) (h2 : 2 ≤ ns.length) : (near t ns p).sum ≤ 2 * (ns.sum * ns.sum) := by
  have h1 : 1 ≤ ns.getD p 0 := h.pos _ (getD_mem hp)
  have h3 := new_le h hp h2
  have h4 := sum_ge h.pos
  have h5 : 1 * ns.sum ≤ ns.sum * ns.sum := Int.mul_le_mul_of_nonneg_right (by omega) (by omega)
  rw [near_sum hp]
  omega
end
/-! ### bits -/
def Bd (b : Nat) (ns : List Int) : Prop := ∀ n ∈ ns, n.natAbs < 2 ^ b
theorem Bd.app {b : Nat} {xs ys : List Int} (h : Bd b xs) (h2 : Bd b ys) : Bd b (xs ++ ys) := fun n hn => (List.mem_append.mp hn).elim (h n) (h2 n)
theorem Bd.mono {b c : Nat} {xs : List Int} (h : Bd b xs) (hc : b ≤ c) : Bd c xs := fun n hn => Nat.lt_of_lt_of_le (h n hn) (Nat.pow_le_pow_right (by decide) hc)
theorem Bd.sub {b : Nat} {xs ys : List Int} (h : Bd b ys) (hs : ∀ n ∈ xs, n ∈ ys) : Bd b xs := fun n hn => h n (hs n hn)
theorem Bd.prod {b : Nat} : ∀ {ns : List Int}, Bd b ns → (prd ns).natAbs < 2 ^ (b * ns.length + 1)
  | [], _ => by show (1 : Nat) < 2 ^ (b * 0 + 1); simp
  | n :: r, h => by
    have h1 : n.natAbs < 2 ^ b := h n List.mem_cons_self
    have h2 := Bd.prod (ns := r) fun m hm => h m (List.mem_cons_of_mem _ hm)
    show (n * Sm.prd r).natAbs < _
    rw [Int.natAbs_mul, List.length_cons, show b * (r.length + 1) + 1 = b + (b * r.length + 1) by rw [Nat.mul_add]; omega, Nat.pow_add]
    exact Nat.mul_lt_mul'' h1 h2
theorem Bd.of_sum {b : Nat} {ns : List Int} (h : ∀ n ∈ ns, 1 ≤ n) (hs : ns.sum < 2 ^ b) : Bd b ns := fun n hn => by
  have h1 := h n hn
  have h2 := mem_sum h hn
  have h3 : (n.natAbs : Int) < ((2 ^ b : Nat) : Int) := by
    rw [Int.natCast_pow]
    show (n.natAbs : Int) < 2 ^ b
    omega
  exact Int.ofNat_lt.mp h3
theorem natAbs_sub_lt {x y : Int} {a : Nat} (h1 : x.natAbs < 2 ^ a) (h2 : y.natAbs < 2 ^ a) : (x - y).natAbs < 2 ^ (a + 1) := by
  rw [Nat.pow_succ]
  omega
/-- a neighbour by a bound alone -/
theorem Bd.near {b c : Nat} {t : Int} {ns : List Int} {p : Nat} (h : Bd b ns) (ht : t.natAbs < 2 ^ c) (hp : p < ns.length) (hl : ns.length ≤ 6) : Bd (c + 5 * b + 2) (near t ns p) := by
  have ho : Bd b (oth ns p) := h.sub fun n hn => oth_sub hp hn
  intro n hn
  rcases List.mem_cons.mp (near_perm.subset hn) with e | e
  · rw [e]
    have h1 := ho.prod
    have h2 : (prd (oth ns p)).natAbs < 2 ^ (5 * b + 1) := Nat.lt_of_lt_of_le h1 (Nat.pow_le_pow_right (by decide) (by
      have := oth_len hp
      have h3 : b * (oth ns p).length ≤ b * 5 := Nat.mul_le_mul_left _ (by omega)
      omega))
    have h3 : (t * prd (oth ns p)).natAbs < 2 ^ (c + 5 * b + 1) := by
      rw [Int.natAbs_mul, show c + 5 * b + 1 = c + (5 * b + 1) by omega, Nat.pow_add]
      exact Nat.mul_lt_mul'' ht h2
    exact natAbs_sub_lt h3 (Nat.lt_of_lt_of_le (h _ (getD_mem hp)) (Nat.pow_le_pow_right (by decide) (by omega)))
  · exact Nat.lt_of_lt_of_le (ho n e) (Nat.pow_le_pow_right (by decide) (by omega))
/-- what the reckonings along a row ask -/
structure Wd (t : Int) (ns : List Int) : Prop where
  ht : t.natAbs < 2 ^ 10
  len : ns.length ≤ 6
  b : ∃ b, 1 ≤ b ∧ b ≤ 100000 ∧ Bd b ns
/-! ### what the law draws -/
/-- the greatest size after so many steps -/
def bb : Nat → Nat
  | 0 => 4
  | k + 1 => 2 * bb k + 1
structure Dr (k : Nat) (t : Int) (ns : List Int) : Prop where
  ht : 1 ≤ t ∧ t ≤ 6
  row : IsRow t ns
  len : 3 ≤ ns.length ∧ ns.length ≤ 6
  sz : ns.sum < 2 ^ bb k
theorem pow_cast (b : Nat) : ((2 ^ b : Nat) : Int) = (2 : Int) ^ b := Int.natCast_pow 2 b
theorem sq_pow {s : Int} {b : Nat} (h0 : 0 ≤ s) (h : s < 2 ^ b) : 2 * (s * s) < 2 ^ (2 * b + 1) := by
  have h1 : s * s < 2 ^ b * 2 ^ b := by
    rcases Int.lt_or_eq_of_le h0 with h2 | h2
    · exact Int.lt_of_le_of_lt (Int.mul_le_mul_of_nonneg_right (Int.le_of_lt h) h0) (Int.mul_lt_mul_of_pos_left h (by omega))
    · rw [← h2]
      have : (0 : Int) < 2 ^ b := by omega
      exact Int.lt_of_le_of_lt (by decide) (Int.mul_pos this this)
  have e : (2 : Int) ^ (2 * b + 1) = 2 * (2 ^ b * 2 ^ b) := by
    rw [Int.pow_succ, Nat.two_mul, Int.pow_add]
    omega
  rw [e]; omega
theorem Dr.near {k : Nat} {t : Int} {ns : List Int} {p : Nat} (h : Dr k t ns) (hp : p < ns.length) : Dr (k + 1) t (near t ns p) :=
  ⟨h.ht, near_row h.row hp (by have := h.len; omega), by rw [near_len hp]; exact h.len, Int.lt_of_le_of_lt (near_size h.row hp (by have := h.len; omega)) (sq_pow (Int.le_trans (Int.natCast_nonneg _) (sum_ge h.row.pos)) h.sz)⟩
theorem bb_le (k : Nat) : bb k ≤ bb (k + 1) := by
  show bb k ≤ 2 * bb k + 1
  omega
theorem bb_mono {j k : Nat} (h : j ≤ k) : bb j ≤ bb k := by
  induction h with
  | refl => exact Nat.le_refl _
  | step _ ih => exact Nat.le_trans ih (bb_le _)
theorem pow_mono {a b : Nat} (h : a ≤ b) : (2 : Int) ^ a ≤ 2 ^ b := by
  rw [← pow_cast, ← pow_cast]
  exact Int.ofNat_le.mpr (Nat.pow_le_pow_right (by decide) h)
theorem Dr.mono {j k : Nat} {t : Int} {ns : List Int} (h : Dr j t ns) (hk : j ≤ k) : Dr k t ns := ⟨h.ht, h.row, h.len, Int.lt_of_lt_of_le h.sz (pow_mono (bb_mono hk))⟩
theorem Dr.wd {k : Nat} {t : Int} {ns : List Int} (h : Dr k t ns) (hk : bb k ≤ 100000) : Wd t ns := by
  refine ⟨?_, h.len.2, bb k, ?_, hk, .of_sum h.row.pos h.sz⟩
  · have := h.ht
    have : t.natAbs ≤ 6 := by omega
    exact Nat.lt_of_le_of_lt this (by decide)
  · exact Nat.le_trans (by decide : 1 ≤ bb 0) (bb_mono (Nat.zero_le k))
def roots9 : List (Int × List Int) := [(3, [1, 1, 1]), (1, [3, 3, 3]), (4, [1, 1, 1, 1]), (1, [2, 2, 2, 2]), (5, [1, 1, 1, 1, 1]), (4, [1, 1, 1, 1, 2]), (1, [1, 1, 3, 3, 4]), (6, [1, 1, 1, 1, 1, 1]), (3, [1, 1, 1, 1, 2, 2])]
theorem roots9_dr : ∀ r ∈ roots9, Dr 0 r.1 r.2 := by
  have h : ∀ r ∈ roots9, (1 ≤ r.1 ∧ r.1 ≤ 6) ∧ IsRow r.1 r.2 ∧ (3 ≤ r.2.length ∧ r.2.length ≤ 6) ∧ r.2.sum < 2 ^ bb 0 := by decide +kernel
  exact fun r hr => ⟨(h r hr).1, (h r hr).2.1, (h r hr).2.2.1, (h r hr).2.2.2⟩
/-! ### roots -/
def rootB (t : Int) (ns : List Int) : Bool := decide (ns.sum ≤ (near t ns (ns.length - 1)).sum)
section
variable {t : Int} {ns : List Int} {p : Nat}
/-- ahead of the last place the neighbour is greater, and its last number is the new one -/
theorem near_up (h : IsRow t ns) (hp : p + 1 < ns.length) (h3 : 3 ≤ ns.length) : ns.sum < (near t ns p).sum := by
  have h1 := new_great h hp h3
  have h2 := le_last h.ord (getD_mem (show p < ns.length by omega))
  rw [near_sum (by omega)]
  omega
/-- the places with a lesser neighbour -/
theorem lesser_eq (h : IsRow t ns) (h3 : 3 ≤ ns.length) : (List.range ns.length).filter (fun i => decide ((near t ns i).sum < ns.sum)) = if rootB t ns = true then [] else [ns.length - 1] := by
  obtain ⟨m, hm⟩ : ∃ m, ns.length = m + 1 := ⟨ns.length - 1, by omega⟩
  rw [hm, List.range_succ, List.filter_append, Nat.add_sub_cancel]
  have e1 : (List.range m).filter (fun i => decide ((near t ns i).sum < ns.sum)) = [] := by
    rw [List.filter_eq_nil_iff]
    intro i hi
    have := near_up h (p := i) (by rw [List.mem_range] at hi; omega) h3
    simp
    omega
  rw [e1, List.nil_append]
  unfold rootB
  rw [hm, Nat.add_sub_cancel]
  by_cases hb : ns.sum ≤ (near t ns m).sum
  · rw [decide_eq_true hb, if_pos rfl, List.filter_cons, if_neg (by simp; omega)]
    rfl
  · rw [decide_eq_false hb, if_neg Bool.false_ne_true, List.filter_cons, if_pos (by simp; omega)]
    rfl
end
/-! ### ways -/
def walkR (t : Int) (ns : List Int) (ps : List Nat) : List Int := ps.foldl (fun r p => near t r p) ns
def leastP (t : Int) (b far : List Int) : Nat := (List.range b.length).findIdx fun p => decide (near t b p = far)
inductive Way (t : Int) : List Int → List Int → List Nat → Prop
  | root {ns : List Int} (h : rootB t ns = true) : Way t ns ns []
  | step {ns r : List Int} {ps : List Nat} (h : rootB t ns = false) (w : Way t (near t ns (ns.length - 1)) r ps) : Way t ns r (ps ++ [leastP t (near t ns (ns.length - 1)) ns])
section
variable {t : Int} {ns r : List Int} {ps : List Nat}
theorem walkR_snoc (p : Nat) : walkR t ns (ps ++ [p]) = near t (walkR t ns ps) p := by
  unfold walkR
  rw [List.foldl_append]
  rfl
theorem leastP_le (b far : List Int) : leastP t b far ≤ b.length := by
  unfold leastP
  have := List.findIdx_le_length (xs := List.range b.length) (p := fun p => decide (near t b p = far))
  rw [List.length_range] at this
  exact this
theorem leastP_of {b far : List Int} {p : Nat} (hp : p < b.length) (h : near t b p = far) : leastP t b far < b.length ∧ near t b (leastP t b far) = far := by
  unfold leastP
  have h1 : (List.range b.length).findIdx (fun p => decide (near t b p = far)) < (List.range b.length).length :=
    List.findIdx_lt_length_of_exists ⟨p, List.mem_range.mpr hp, decide_eq_true h⟩
  have h2 := List.findIdx_getElem (w := h1)
  rw [List.getElem_range] at h2
  rw [List.length_range] at h1
  exact ⟨h1, of_decide_eq_true h2⟩
theorem leastP_not {b far : List Int} {q : Nat} (h : q < leastP t b far) : near t b q ≠ far := by
  unfold leastP at h
  have h2 := List.not_of_lt_findIdx h
  rw [List.getElem_range] at h2
  exact of_decide_eq_false h2
/-- at a root's other: the neighbour at the last place is lesser, and leads back -/
theorem back_lt (h : rootB t ns = false) : (near t ns (ns.length - 1)).sum < ns.sum := by
  unfold rootB at h
  have := of_decide_eq_false h
  omega
theorem back_least (h : IsRow t ns) (h0 : 0 < ns.length) : leastP t (near t ns (ns.length - 1)) ns < ns.length ∧ near t (near t ns (ns.length - 1)) (leastP t (near t ns (ns.length - 1)) ns) = ns := by
  have hp : ns.length - 1 < ns.length := by omega
  obtain ⟨q, h1, _⟩ := first_at (near_perm.symm.subset (List.mem_cons_self (a := new t ns (ns.length - 1)) (l := oth ns (ns.length - 1))))
  have hq : q < (near t ns (ns.length - 1)).length := (List.getElem?_eq_some_iff.mp h1).1
  have hb := near_back h.ord hp (q := q) (by rw [near_len hp] at hq; exact hq) (by rw [List.getD_eq_getElem?_getD, h1]; rfl)
  have := leastP_of hq hb
  rw [near_len hp] at this
  exact this
theorem Way.some : ∀ (m : Nat) (ns : List Int), ns.sum.toNat ≤ m → IsRow t ns → 2 ≤ ns.length → ∃ r ps, Way t ns r ps
  | m, ns, hm, h, h2 => by
    cases hr : rootB t ns with
    | true => exact ⟨ns, [], .root hr⟩
    | false =>
      have hp : ns.length - 1 < ns.length := by omega
      have h1 := back_lt hr
      have hrow := near_row h hp h2
      have h3 := sum_ge hrow.pos
      rw [near_len hp] at h3
      cases m with
      | zero => omega
      | succ m =>
        obtain ⟨r, ps, w⟩ := Way.some m (near t ns (ns.length - 1)) (by omega) hrow (by rw [near_len hp]; exact h2)
        exact ⟨r, _, .step hr w⟩
theorem Way.one (w : Way t ns r ps) : ∀ {r' : List Int} {ps' : List Nat}, Way t ns r' ps' → r = r' ∧ ps = ps' := by
  induction w with
  | root h =>
    intro r' ps' w'
    cases w' with
    | root _ => exact ⟨rfl, rfl⟩
    | step h' _ => rw [h] at h'; cases h'
  | step h w ih =>
    intro r' ps' w'
    cases w' with
    | root h' => rw [h] at h'; cases h'
    | step _ w' =>
      obtain ⟨e1, e2⟩ := ih w'
      exact ⟨e1, by rw [e2]⟩
/-- what a way is worth -/
structure Good (t : Int) (ns r : List Int) (ps : List Nat) : Prop where
  root : rootB t r = true
  row : IsRow t r
  len : r.length = ns.length
  to : walkR t r ps = ns
  at_ : ∀ i, i ≤ ps.length → IsRow t (walkR t r (ps.take i)) ∧ (walkR t r (ps.take i)).length = ns.length ∧ (walkR t r (ps.take i)).sum ≤ ns.sum ∧ Way t (walkR t r (ps.take i)) r (ps.take i)
  st : ∀ i p, ps[i]? = some p → p < ns.length ∧ (walkR t r (ps.take i)).sum < (near t (walkR t r (ps.take i)) p).sum ∧ ∀ q, q < p → near t (walkR t r (ps.take i)) q ≠ near t (walkR t r (ps.take i)) p
theorem Way.good (w : Way t ns r ps) : IsRow t ns → 2 ≤ ns.length → Good t ns r ps := by
  induction w with
  | @root ns h =>
    intro hr h2
    exact ⟨h, hr, rfl, rfl, fun i hi => by
      have : i = 0 := Nat.le_zero.mp hi
      subst this
      exact ⟨hr, rfl, Int.le_refl _, .root h⟩, fun i p hp => by simp at hp⟩
  | @step ns r ps h w ih =>
    intro hr h2
    have hp : ns.length - 1 < ns.length := by omega
    have g := ih (near_row hr hp h2) (by rw [near_len hp]; exact h2)
    have h1 := back_lt h
    have h3 := back_least hr (by omega)
    have hto : walkR t r (ps ++ [leastP t (near t ns (ns.length - 1)) ns]) = ns := by rw [walkR_snoc, g.to, h3.2]
    refine ⟨g.root, g.row, by rw [g.len, near_len hp], hto, fun i hi => ?_, fun i p hi => ?_⟩
    · by_cases hil : i ≤ ps.length
      · rw [List.take_append_of_le_length hil]
        obtain ⟨a1, a2, a3, a4⟩ := g.at_ i hil
        exact ⟨a1, by rw [a2, near_len hp], by omega, a4⟩
      · rw [List.take_of_length_le (by rw [List.length_append, List.length_singleton]; omega), hto]
        exact ⟨hr, rfl, Int.le_refl _, .step h w⟩
    · have hlt := (List.getElem?_eq_some_iff.mp hi).1
      rw [List.length_append, List.length_singleton] at hlt
      by_cases hil : i < ps.length
      · rw [List.take_append_of_le_length (Nat.le_of_lt hil)]
        rw [List.getElem?_append_left hil] at hi
        have := g.st i p hi
        rw [near_len hp] at this
        exact this
      · have e : i = ps.length := by omega
        subst e
        rw [List.getElem?_append_right (Nat.le_refl _), Nat.sub_self] at hi
        cases hi
        rw [List.take_append_of_le_length (Nat.le_refl _), List.take_length, g.to]
        refine ⟨h3.1, by rw [h3.2]; exact h1, fun q hq => ?_⟩
        rw [h3.2]
        exact leastP_not hq
end
theorem leastP_sp {t : Int} {b far : List Int} (h : leastP t b far < b.length) : near t b (leastP t b far) = far := by
  unfold leastP at h ⊢
  have h1 : (List.range b.length).findIdx (fun p => decide (near t b p = far)) < (List.range b.length).length := by rw [List.length_range]; exact h
  have h2 := List.findIdx_getElem (w := h1)
  rw [List.getElem_range] at h2
  exact of_decide_eq_true h2
theorem leastP_eq {t : Int} {b far : List Int} {p : Nat} (hp : p < b.length) (h : near t b p = far) (hn : ∀ q, q < p → near t b q ≠ far) : leastP t b far = p := by
  rcases Nat.lt_trichotomy (leastP t b far) p with h1 | h1 | h1
  · exact absurd (leastP_of hp h).2 (hn _ h1)
  · exact h1
  · exact absurd h (leastP_not h1)
theorem leastP_none {t : Int} {b far : List Int} (hn : ∀ q, q < b.length → near t b q ≠ far) : leastP t b far = b.length := by
  have h1 := leastP_le (t := t) b far
  rcases Nat.lt_or_ge (leastP t b far) b.length with h2 | h2
  · exact absurd (leastP_sp h2) (hn _ h2)
  · omega
/-- a row by a row's bound -/
theorem wd_of {t : Int} {ns : List Int} {b : Nat} (ht : 1 ≤ t ∧ t ≤ 1000) (h : IsRow t ns) (hl : ns.length ≤ 6) (hs : ns.sum < 2 ^ b) (h1 : 1 ≤ b) (hb : b ≤ 100000) : Wd t ns :=
  ⟨Nat.lt_of_le_of_lt (show t.natAbs ≤ 1000 by omega) (by decide), hl, b, h1, hb, .of_sum h.pos hs⟩
/-! ### the two greatest -/
theorem two_last {ns : List Int} (h2 : 2 ≤ ns.length) : ns = ns.take (ns.length - 2) ++ [ns.getD (ns.length - 2) 0, ns.getD (ns.length - 1) 0] := by
  have h : ns.drop (ns.length - 2) = [ns.getD (ns.length - 2) 0, ns.getD (ns.length - 1) 0] := by
    have g : ∀ k (hk : k < ns.length), ns.getD k 0 = ns[k] := fun k hk => by rw [List.getD_eq_getElem?_getD, List.getElem?_eq_getElem hk]; rfl
    rw [List.drop_eq_getElem_cons (by omega), List.drop_eq_getElem_cons (by omega), List.drop_of_length_le (by omega), g _ (by omega), g _ (by omega)]
    have e : ns.length - 2 + 1 = ns.length - 1 := by omega
    simp only [e]
  exact (List.take_append_drop (ns.length - 2) ns).symm.trans (by rw [h])
section
variable {t : Int} {ns : List Int}
/-- the times times the product of all but the two greatest are three or more -/
theorem three_le (h : IsRow t ns) (h3 : 3 ≤ ns.length) : 3 ≤ t * prd (ns.take (ns.length - 2)) := by
  have e := two_last (ns := ns) (by omega)
  have e1 : sqs ns = sqs (ns.take (ns.length - 2)) + (ns.getD (ns.length - 2) 0 * ns.getD (ns.length - 2) 0 + (ns.getD (ns.length - 1) 0 * ns.getD (ns.length - 1) 0 + 0)) := by
    conv => lhs; rw [e]
    exact sqs_app _ _
  have e2 : prd ns = prd (ns.take (ns.length - 2)) * (ns.getD (ns.length - 2) 0 * (ns.getD (ns.length - 1) 0 * 1)) := by
    conv => lhs; rw [e]
    exact prd_app _ _
  have hy : 1 ≤ ns.getD (ns.length - 2) 0 := h.pos _ (getD_mem (by omega))
  have hx : 1 ≤ ns.getD (ns.length - 1) 0 := h.pos _ (getD_mem (by omega))
  have hf : 1 ≤ sqs (ns.take (ns.length - 2)) := by
    have h0 : 0 < (ns.take (ns.length - 2)).length := by rw [List.length_take]; omega
    obtain ⟨m, hm⟩ := List.exists_mem_of_length_pos h0
    have hm1 : 1 ≤ m := h.pos _ (List.mem_of_mem_take hm)
    have h4 := sqs_ge hm
    have h5 : 1 * 1 ≤ m * m := Int.mul_le_mul hm1 hm1 (by omega) (by omega)
    omega
  have e3 := h.eq
  generalize ns.getD (ns.length - 2) 0 = y at *
  generalize ns.getD (ns.length - 1) 0 = x at *
  generalize prd (ns.take (ns.length - 2)) = f at *
  rw [e1, e2] at e3
  have hxy : 1 * 1 ≤ y * x := Int.mul_le_mul hy hx (by omega) (by omega)
  have hsq : 2 * (y * x) ≤ y * y + x * x := by
    have h0 : 0 ≤ (y - x) * (y - x) := by
      rcases Int.le_total 0 (y - x) with h | h
      · exact Int.mul_nonneg h h
      · exact Int.mul_nonneg_of_nonpos_of_nonpos h h
    have e : (y - x) * (y - x) = y * y - y * x - (y * x - x * x) := by rw [Int.sub_mul, Int.mul_sub, Int.mul_sub, Int.mul_comm x y]
    omega
  have e4 : t * (f * (y * (x * 1))) = (t * f) * (y * x) := by rw [Int.mul_one, Int.mul_assoc]
  rw [e4] at e3
  rcases Int.lt_or_le (t * f) 3 with h6 | h6
  · have h7 : (t * f) * (y * x) ≤ 2 * (y * x) := Int.mul_le_mul_of_nonneg_right (by omega) (by omega)
    omega
  · exact h6
/-- the new number at the last place -/
theorem new_last (h2 : 2 ≤ ns.length) : new t ns (ns.length - 1) = t * prd (ns.take (ns.length - 2)) * ns.getD (ns.length - 2) 0 - ns.getD (ns.length - 1) 0 := by
  have e : oth ns (ns.length - 1) = ns.take (ns.length - 2) ++ [ns.getD (ns.length - 2) 0] := by
    unfold oth
    rw [List.drop_of_length_le (by omega), List.append_nil]
    have e1 : ns.take (ns.length - 1) = ns.take (ns.length - 2 + 1) := by rw [show ns.length - 2 + 1 = ns.length - 1 by omega]
    rw [e1, List.take_add_one, getD_at (by omega)]
    rfl
  unfold new
  rw [e, prd_app]
  show t * (prd (ns.take (ns.length - 2)) * (ns.getD (ns.length - 2) 0 * 1)) - _ = _
  rw [Int.mul_one, Int.mul_assoc]
theorem oth_last (h2 : 2 ≤ ns.length) : oth ns (ns.length - 1) = ns.take (ns.length - 2) ++ [ns.getD (ns.length - 2) 0] := by
  unfold oth
  rw [List.drop_of_length_le (by omega), List.append_nil]
  have e1 : ns.take (ns.length - 1) = ns.take (ns.length - 2 + 1) := by rw [show ns.length - 2 + 1 = ns.length - 1 by omega]
  rw [e1, List.take_add_one, getD_at (by omega)]
  rfl
theorem near_last_le {p : Nat} (hp : p < ns.length) {z : Int} (h1 : new t ns p ≤ z) (h2 : ∀ n ∈ oth ns p, n ≤ z) : (near t ns p).getD (ns.length - 1) 0 ≤ z := by
  have hm : (near t ns p).getD (ns.length - 1) 0 ∈ near t ns p := getD_mem (by rw [near_len hp]; omega)
  rcases List.mem_cons.mp (near_perm.subset hm) with e | e
  · rw [e]; exact h1
  · exact h2 _ e
theorem last_half (h : IsRow t ns) (h3 : 3 ≤ ns.length) (hr : rootB t ns = false) (hb : rootB t (near t ns (ns.length - 1)) = false) : 2 * (near t ns (ns.length - 1)).getD (ns.length - 1) 0 ≤ ns.getD (ns.length - 1) 0 := by
  have hp : ns.length - 1 < ns.length := by omega
  have hlen := near_len (t := t) hp
  have hy : ∀ n ∈ oth ns (ns.length - 1), n ≤ ns.getD (ns.length - 2) 0 := by
    intro n hn
    rw [oth_last (by omega)] at hn
    rcases List.mem_append.mp hn with hn | hn
    · obtain ⟨k, hk, e⟩ := List.getElem_of_mem hn
      rw [List.length_take] at hk
      rw [List.getElem_take] at e
      rw [← e]
      have h4 : ns.length - 2 < ns.length := by omega
      have g : ns.getD (ns.length - 2) 0 = ns[ns.length - 2] := by rw [List.getD_eq_getElem?_getD, List.getElem?_eq_getElem h4]; rfl
      rw [g]
      exact (List.pairwise_iff_getElem.mp h.ord) k (ns.length - 2) (by omega) h4 (by omega)
    · rw [List.mem_singleton.mp hn]
      exact Int.le_refl _
  have hnew : new t ns (ns.length - 1) ≤ ns.getD (ns.length - 2) 0 := by
    rcases Int.lt_or_le (ns.getD (ns.length - 2) 0) (new t ns (ns.length - 1)) with hc | hc
    · -- the new one is the last one there, and leads back: it is a root
      have hlast : (near t ns (ns.length - 1)).getD (ns.length - 1) 0 = new t ns (ns.length - 1) := by
        have hm : new t ns (ns.length - 1) ∈ near t ns (ns.length - 1) := near_perm.symm.subset List.mem_cons_self
        have h4 := le_last near_ord hm
        rw [hlen] at h4
        have h5 := near_last_le (t := t) hp (z := new t ns (ns.length - 1)) (Int.le_refl _) fun n hn => Int.le_trans (hy n hn) (Int.le_of_lt hc)
        omega
      have hback := near_back h.ord hp hp hlast
      unfold rootB at hb
      rw [hlen, hback] at hb
      have h6 := of_decide_eq_false hb
      have h7 := back_lt hr
      omega
    · exact hc
  have h4 := near_last_le (t := t) hp hnew hy
  have h5 := three_le h h3
  have h6 := new_last (t := t) (ns := ns) (by omega)
  have h7 : 1 ≤ ns.getD (ns.length - 2) 0 := h.pos _ (getD_mem (by omega))
  have h8 : 3 * ns.getD (ns.length - 2) 0 ≤ t * prd (ns.take (ns.length - 2)) * ns.getD (ns.length - 2) 0 := Int.mul_le_mul_of_nonneg_right h5 (by omega)
  omega
theorem Way.short {r : List Int} {ps : List Nat} (w : Way t ns r ps) : IsRow t ns → 3 ≤ ns.length → ∀ j, ns.getD (ns.length - 1) 0 < 2 ^ j → ps.length ≤ j + 1 := by
  induction w with
  | root h => intro _ _ j _; exact Nat.zero_le _
  | @step ns r ps h w ih =>
    intro hr h3 j hj
    have hp : ns.length - 1 < ns.length := by omega
    have hrow := near_row hr hp (by omega)
    have hlen := near_len (t := t) hp
    rw [List.length_append, List.length_singleton]
    cases hb : rootB t (near t ns (ns.length - 1)) with
    | true =>
      cases w with
      | root _ => simp
      | step h' _ => rw [hb] at h'; cases h'
    | false =>
      have h4 := last_half hr h3 h hb
      have h5 : 1 ≤ (near t ns (ns.length - 1)).getD (ns.length - 1) 0 := hrow.pos _ (getD_mem (by rw [hlen]; exact hp))
      cases j with
      | zero => rw [Int.pow_zero] at hj; omega
      | succ j =>
        have h6 := ih hrow (by rw [hlen]; exact h3) j (by
          rw [hlen]
          rw [Int.pow_succ] at hj
          omega)
        omega
end
theorem walkR_ok {t : Int} : ∀ {ps : List Nat} {ns : List Int}, IsRow t ns → 2 ≤ ns.length → (∀ p ∈ ps, p < ns.length) → IsRow t (walkR t ns ps) ∧ (walkR t ns ps).length = ns.length
  | [], _, h, _, _ => ⟨h, rfl⟩
  | p :: ps, ns, h, h2, hp => by
    have hp0 : p < ns.length := hp p List.mem_cons_self
    have hl := near_len (t := t) hp0
    have := walkR_ok (ps := ps) (near_row h hp0 h2) (by rw [hl]; exact h2) fun q hq => by rw [hl]; exact hp q (List.mem_cons_of_mem _ hq)
    rw [hl] at this
    exact this
theorem walkR_take {t : Int} {ns : List Int} {ps : List Nat} {i p : Nat} (h : ps[i]? = some p) : walkR t ns (ps.take (i + 1)) = near t (walkR t ns (ps.take i)) p := by
  rw [List.take_add_one, h]
  exact walkR_snoc p
theorem root_near {t : Int} {ns : List Int} (h : IsRow t ns) (h3 : 3 ≤ ns.length) (hr : rootB t ns = true) {p : Nat} (hp : p < ns.length) : ns.sum ≤ (near t ns p).sum := by
  by_cases hl : p + 1 < ns.length
  · have := near_up h hl h3; omega
  · have e : p = ns.length - 1 := by omega
    subst e
    exact of_decide_eq_true hr
theorem emod_nat (c : Int) {n : Nat} (h : 0 < n) : ∃ m, m < n ∧ c % (n : Int) = (m : Int) := by
  have h1 := Int.emod_nonneg c (show (n : Int) ≠ 0 by omega)
  have h2 := Int.emod_lt_of_pos c (show (0 : Int) < (n : Int) by omega)
  exact ⟨(c % (n : Int)).toNat, by omega, by omega⟩
end Sm

/-! SmX: texts: numbers written, words, what evaluates to a text. -/
namespace Sm
open PySem PySem.Spec PyProof.Rows L2
abbrev numT (n : Int) : Str := Str.ofString (toString n)
abbrev vs (ws : List Str) : List V := ws.map V.str
/-! ### numbers as texts -/
theorem tl_numT {n : Int} (h : 0 ≤ n) : TL.tl (numT n) = TL.numL n.toNat := by
  obtain ⟨m, rfl⟩ := Int.eq_ofNat_of_zero_le h
  exact TL.tl_num m
theorem numT_len {n : Int} {k : Nat} (h0 : 0 ≤ n) (hk : 0 < k) (h : n < 10 ^ k) : (numT n).length ≤ k := by
  obtain ⟨m, rfl⟩ := Int.eq_ofNat_of_zero_le h0
  rw [TL.len_tl, TL.tl_num]
  refine TL.numL_len hk ?_
  have e : ((10 : Int) ^ k) = ((10 ^ k : Nat) : Int) := (Int.natCast_pow 10 k).symm
  rw [e] at h
  exact Int.ofNat_lt.mp h
theorem num_log {n : Int} (h : n.natAbs < 2 ^ 1919) : n.natAbs.log2 < 1920 := by
  by_cases h0 : n.natAbs = 0
  · rw [h0]; decide
  · exact (Nat.log2_lt h0).mpr (Nat.lt_of_lt_of_le h (Nat.pow_le_pow_right (by decide) (by decide)))
/-- the first figure of a number from one on is no nought -/
theorem numL_head : ∀ n : Nat, 1 ≤ n → ∃ c r, TL.numL n = c :: r ∧ 49 ≤ c := by
  intro n
  induction n using Nat.strongRecOn with
  | _ n ih =>
    intro h
    by_cases h9 : n < 10
    · exact ⟨48 + n, [], TL.numL_lt h9, by omega⟩
    · obtain ⟨c, r, e, hc⟩ := ih (n / 10) (by omega) (by omega)
      exact ⟨c, r ++ [48 + n % 10], by rw [TL.numL_step (by omega), e]; rfl, hc⟩
/-- a word that writes a number from one on -/
structure GoodW (w : Str) : Prop where
  ne : TL.tl w ≠ []
  len : w.length ≤ 400
  hd : (TL.tl w)[0]? ≠ some 48
  all : NumText.AllDigits (TL.tl w)
instance (w : Str) : Decidable (GoodW w) := decidable_of_iff (TL.tl w ≠ [] ∧ w.length ≤ 400 ∧ (TL.tl w)[0]? ≠ some 48 ∧ ∀ c ∈ TL.tl w, 48 ≤ c ∧ c ≤ 57) ⟨fun h => ⟨h.1, h.2.1, h.2.2.1, h.2.2.2⟩, fun h => ⟨h.ne, h.len, h.hd, h.all⟩⟩
def wval (w : Str) : Int := (NumText.digitsVal (TL.tl w) : Nat)
theorem foldl_ge : ∀ (cs : List Nat) (a : Nat), a ≤ cs.foldl (fun acc c => acc * 10 + (c - 48)) a
  | [], a => Nat.le_refl a
  | c :: cs, a => Nat.le_trans (by omega) (foldl_ge cs (a * 10 + (c - 48)))
theorem GoodW.pos {w : Str} (h : GoodW w) : 1 ≤ wval w := by
  have h1 := h.ne
  have h2 := h.hd
  have h3 := h.all
  unfold wval
  generalize TL.tl w = l at h1 h2 h3
  cases l with
  | nil => exact absurd rfl h1
  | cons c r =>
    have hc : c ≠ 48 := fun e => h2 (by rw [e]; rfl)
    have hr := h3 c List.mem_cons_self
    have := foldl_ge r (0 * 10 + (c - 48))
    have h4 : NumText.digitsVal (c :: r) = r.foldl (fun acc c => acc * 10 + (c - 48)) (0 * 10 + (c - 48)) := rfl
    rw [h4]
    omega
theorem foldl_lt : ∀ (cs : List Nat) (a : Nat), (∀ c ∈ cs, c ≤ 57) → cs.foldl (fun acc c => acc * 10 + (c - 48)) a < (a + 1) * 10 ^ cs.length
  | [], a, _ => by show a < (a + 1) * 10 ^ 0; omega
  | c :: cs, a, h => by
    have h1 := foldl_lt cs (a * 10 + (c - 48)) fun d hd => h d (List.mem_cons_of_mem _ hd)
    have h2 := h c List.mem_cons_self
    rw [List.foldl_cons, List.length_cons, Nat.pow_succ]
    have h3 : (a * 10 + (c - 48) + 1) * 10 ^ cs.length ≤ ((a + 1) * 10) * 10 ^ cs.length := Nat.mul_le_mul_right _ (by omega)
    have h4 : ((a + 1) * 10) * 10 ^ cs.length = (a + 1) * (10 ^ cs.length * 10) := by rw [Nat.mul_assoc, Nat.mul_comm 10]
    omega
theorem GoodW.lt {w : Str} (h : GoodW w) : wval w < 10 ^ 400 := by
  have h1 := foldl_lt (TL.tl w) 0 fun c hc => (h.all c hc).2
  have h2 : (10 : Nat) ^ (TL.tl w).length ≤ 10 ^ 400 := Nat.pow_le_pow_right (by decide) (by have := h.len; rw [TL.len_tl] at this; exact this)
  have h3 : NumText.digitsVal (TL.tl w) < 10 ^ 400 := by
    unfold NumText.digitsVal
    omega
  have h4 : ((NumText.digitsVal (TL.tl w) : Nat) : Int) < ((10 ^ 400 : Nat) : Int) := Int.ofNat_lt.mpr h3
  rw [Int.natCast_pow] at h4
  exact h4
theorem GoodW.int {w : Str} (h : GoodW w) : intText? w = some (wval w) := intText_digits h.all h.ne (Nat.le_trans h.len (by decide))
theorem goodW_num {n : Int} (h : 1 ≤ n) (hl : n < 10 ^ 400) : GoodW (numT n) := by
  have e := tl_numT (n := n) (by omega)
  obtain ⟨c, r, hc, h9⟩ := numL_head n.toNat (by omega)
  refine ⟨by rw [e]; exact TL.numL_ne _, numT_len (by omega) (by decide) hl, ?_, by rw [e]; exact TL.numL_digits _⟩
  rw [e, hc]
  intro z
  have z2 : c = 48 := Option.some.inj z
  omega
theorem wval_num {n : Int} (h : 0 ≤ n) : wval (numT n) = n := by
  unfold wval
  rw [tl_numT h, TL.numL_val]
  omega
def figs : List Nat := [48, 49, 50, 51, 52, 53, 54, 55, 56, 57]
theorem mem_figs {c : Nat} : c ∈ figs ↔ 48 ≤ c ∧ c ≤ 57 := by
  unfold figs
  simp only [List.mem_cons, List.not_mem_nil, or_false]
  omega
theorem tl_figs : (Str.ofString "0123456789").cps.toList = figs := by decide +kernel
/-! ### the row's text -/
def wordsOf (t : Int) (ns : List Int) : List Str := numT t :: Str.ofString "x" :: ns.map numT
def shownT (t : Int) (ns : List Int) : Str := Txt.join (Str.ofString " ") (wordsOf t ns)
theorem tl_blank : TL.tl (Str.ofString " ") = [32] := by decide +kernel
theorem blank_ok : (Str.ofString " ").cps.all (· < 256) = true := by decide +kernel
theorem tl_x : TL.tl (Str.ofString "x") = [120] := by decide +kernel
theorem split_words {ws : List Str} (h : ws ≠ []) (hf : ∀ w ∈ ws, 32 ∉ TL.tl w) : Txt.split (Txt.join (Str.ofString " ") ws) (Str.ofString " ") = ws := TL.split_join tl_blank blank_ok h hf
theorem num_free {n : Int} (h : 0 ≤ n) : 32 ∉ TL.tl (numT n) := by
  rw [tl_numT h]
  exact TL.numL_free (.inl (by decide))
theorem words_free {t : Int} {ns : List Int} (ht : 0 ≤ t) (hn : ∀ n ∈ ns, 0 ≤ n) : ∀ w ∈ wordsOf t ns, 32 ∉ TL.tl w := by
  intro w hw
  unfold wordsOf at hw
  rcases List.mem_cons.mp hw with e | hw
  · rw [e]; exact num_free ht
  · rcases List.mem_cons.mp hw with e | hw
    · rw [e, tl_x]; decide
    · obtain ⟨n, h1, rfl⟩ := List.mem_map.mp hw
      exact num_free (hn n h1)
theorem joinL_snoc (S p : List Nat) : ∀ {ps : List (List Nat)}, ps ≠ [] → TL.joinL S (ps ++ [p]) = TL.joinL S ps ++ S ++ p
  | [], h => absurd rfl h
  | [q], _ => by show q ++ (S ++ p) = q ++ S ++ p; rw [List.append_assoc]
  | q :: r :: s, _ => by
    have ih := joinL_snoc S p (ps := r :: s) (by simp)
    show q ++ (S ++ TL.joinL S (r :: s ++ [p])) = q ++ (S ++ TL.joinL S (r :: s)) ++ S ++ p
    rw [ih]
    simp only [List.append_assoc]
theorem tl_joinT (y : Str) (ws : List Str) : TL.tl (Txt.join y ws) = TL.joinL (TL.tl y) (ws.map TL.tl) := by rw [TL.join_eq, TL.tl_join]
theorem join_snoc (y w : Str) {ws : List Str} (h : ws ≠ []) : Txt.join y (ws ++ [w]) = Txt.join y ws ++ y ++ w := by
  refine TL.ext_tl ?_
  rw [TL.tl_append, TL.tl_append, tl_joinT, tl_joinT, List.map_append]
  exact joinL_snoc _ _ (by simp [h])
theorem len_app (x y : Str) : (x ++ y).length = x.length + y.length := by
  rw [TL.len_tl, TL.len_tl, TL.len_tl, TL.tl_append, List.length_append]
theorem len_join (y : Str) : ∀ ws : List Str, (Txt.join y ws).length ≤ (ws.map (·.length)).sum + ws.length * y.length := by
  intro ws
  rw [TL.len_tl, tl_joinT]
  induction ws with
  | nil => show ([] : List Nat).length ≤ _; simp
  | cons w r ih =>
    cases r with
    | nil => show (TL.tl w).length ≤ _; rw [← TL.len_tl]; simp
    | cons x s =>
      show (TL.tl w ++ (TL.tl y ++ TL.joinL (TL.tl y) ((x :: s).map TL.tl))).length ≤ _
      have e1 : ((w :: x :: s).map (·.length)).sum = w.length + ((x :: s).map (·.length)).sum := by rw [List.map_cons, List.sum_cons]
      have e2 : (w :: x :: s).length * y.length = (x :: s).length * y.length + y.length := by rw [List.length_cons (a := w), Nat.succ_mul]
      rw [List.length_append, List.length_append, ← TL.len_tl, ← TL.len_tl, e1, e2]
      omega
/-! ### what evaluates to a text -/
section
variable {T : Tb} {K : PySem.W.Frag} {σ : L2.St} {H H' : Hp} {ta tb te tc : TE} {t u : TT} {a b w z : Str} {p : Addr} {ws : List Str} {i : Int}
def rJoin (K : PySem.W.Frag) : V → List V → Hp → VK → Prop := fun x xs H Q =>
  ∃ a p, ∃ ys : List Str, x = .str a ∧ xs = [.ref p] ∧ (SqL K H p (ys.map V.str) ∨ SqT K H p (ys.map V.str)) ∧ (ys.map (·.length)).sum + ys.length * a.length ≤ 16777216 ∧ Q (.str (Txt.join a ys)) H
def rSplit : V → List V → Hp → VK → Prop := fun x xs H Q =>
  ∃ a b, x = .str a ∧ xs = [.str b] ∧ (b.length == 0) = false ∧ a.length + 2 ≤ sizeLine ∧ rNewStrs (Txt.split a b) H Q
theorem ev_join (ha : Ev T ta σ H (.str a)) (hb : EvL T tb σ H (vs ws)) (hz : (ws.map (·.length)).sum + ws.length * a.length ≤ 16777216) : Ev T (tM1 (rJoin K) ta tb) σ H (.str (Txt.join a ws)) := fun H1 e Q q =>
  ha H1 e _ fun H2 e2 => ⟨⟨a, rfl⟩, hb H2 (e.trans e2) _ fun p H3 _ e3 hp => ⟨a, p, ws, rfl, rfl, .inl (SqL.of hp), hz, q H3 (e2.trans e3)⟩⟩
theorem el_split (ha : Ev T ta σ H (.str a)) (hb : Ev T tb σ H (.str b)) (h0 : (b.length == 0) = false) (hz : a.length + 2 ≤ sizeLine) : EvL T (tM1 rSplit ta tb) σ H (vs (Txt.split a b)) := fun H1 e Q q =>
  ha H1 e _ fun H2 e2 => ⟨⟨a, rfl⟩, hb H2 (e.trans e2) _ fun H3 e3 => ⟨a, b, rfl, rfl, h0, hz, fun p hp => q p _ ((e2.trans e3).n p hp) ((e2.trans e3).trans (.new hp)) upd_same⟩⟩
def rStrI : List V → Hp → VK → Prop := fun xs H Q => ∃ i : Int, xs = [.int i] ∧ i.natAbs.log2 < 1920 ∧ Q (.str (numT i)) H
theorem ev_str (ha : Ev T ta σ H (.int i)) (h : i.natAbs < 2 ^ 1919) : Ev T (tCB rStrI (tCons ta tNil)) σ H (.str (numT i)) := fun H1 e Q q =>
  ha H1 e _ fun H2 e2 => ⟨i, rfl, num_log h, q H2 e2⟩
def rIntS : List V → Hp → VK → Prop := fun xs H Q => ∃ a n, xs = [.str a] ∧ PySem.intText? a = some n ∧ a.length ≤ 640 ∧ Q (.int n) H
theorem ev_int (ha : Ev T ta σ H (.str w)) (h : GoodW w) : Ev T (tCB rIntS (tCons ta tNil)) σ H (.int (wval w)) := fun H1 e Q q =>
  ha H1 e _ fun H2 e2 => ⟨w, _, rfl, h.int, Nat.le_trans h.len (by decide), q H2 e2⟩
def rLenStr : List V → Hp → VK → Prop := fun xs H Q => ∃ z, xs = [.str z] ∧ z.length ≤ sizeLine ∧ Q (.int z.length) H
theorem ev_lenStr (ha : Ev T ta σ H (.str w)) (h : w.length ≤ sizeLine) : Ev T (tCB rLenStr (tCons ta tNil)) σ H (.int (w.length : Int)) := fun H1 e Q q =>
  ha H1 e _ fun H2 e2 => ⟨w, rfl, h, q H2 e2⟩
theorem ev_ixS {c m : Nat} (ha : Ev T ta σ H (.str w)) (hb : Ev T tb σ H (.int i)) (h : w.length ≤ sizeLine) (hi : i = (m : Int)) (hc : (TL.tl w)[m]? = some c) : Ev T (tOp rIxS ta tb) σ H (.str ⟨#[c]⟩) := fun H1 e Q q =>
  ha H1 e _ fun H2 e2 => hb H2 (e.trans e2) _ fun H3 e3 => ⟨w, i, c, rfl, rfl, h, by rw [hi]; exact atI_nat hc, q H3 (e2.trans e3)⟩
def rAddS : V → V → Hp → VK → Prop := fun x y H Q => ∃ i j, x = .str i ∧ y = .str j ∧ i.length + j.length ≤ sizeLine ∧ Q (.str (i ++ j)) H
theorem ev_addS (ha : Ev T ta σ H (.str a)) (hb : Ev T tb σ H (.str b)) (h : a.length + b.length ≤ sizeLine) : Ev T (tOp rAddS ta tb) σ H (.str (a ++ b)) := fun H1 e Q q =>
  ha H1 e _ fun H2 e2 => hb H2 (e.trans e2) _ fun H3 e3 => ⟨a, b, rfl, rfl, h, q H3 (e2.trans e3)⟩
def rNotInS : V → V → Hp → VK → Prop := fun x y H Q => ∃ (c : Nat) (z : Str), x = .str ⟨#[c]⟩ ∧ y = .str z ∧ Q (.bl (!decide (c ∈ z.cps.toList))) H
theorem ev_notInS {c : Nat} (ha : Ev T ta σ H (.str ⟨#[c]⟩)) (hb : Ev T tb σ H (.str z)) : Ev T (tOp rNotInS ta tb) σ H (.bl (!decide (c ∈ z.cps.toList))) := fun H1 e Q q =>
  ha H1 e _ fun H2 e2 => hb H2 (e.trans e2) _ fun H3 e3 => ⟨c, z, rfl, rfl, q H3 (e2.trans e3)⟩
theorem decS {a b : Str} : decide (V.str a = V.str b) = decide (a = b) := by
  by_cases h : a = b
  · rw [h, decide_eq_true rfl, decide_eq_true rfl]
  · rw [decide_eq_false h, decide_eq_false fun z => h (V.str.inj z)]
theorem ev_eqS (ha : Ev T ta σ H (.str a)) (hb : Ev T tb σ H (.str b)) : Ev T (tOp rEq ta tb) σ H (.bl (decide (a = b))) := (ev_eq ha hb rfl).is (by rw [decS])
theorem ev_neS (ha : Ev T ta σ H (.str a)) (hb : Ev T tb σ H (.str b)) : Ev T (tOp rNe ta tb) σ H (.bl (!decide (a = b))) := (ev_ne ha hb rfl).is (by rw [decS])
/-- ws[i] -/
theorem ev_ixW {m : Nat} (ha : Ev T ta σ H (.ref p)) (hb : Ev T tb σ H (.int i)) (h : SqL K H p (vs ws)) (hm : i = (m : Int)) (hn : ws[m]? = some w) : Ev T (tOp (rIxL K) ta tb) σ H (.str w) :=
  ev_ixL ha hb h (by rw [hm]; exact atI_nat (by rw [List.getElem?_map, hn]; rfl))
theorem cutW_drop {m : Nat} (h : m ≤ ws.length) : cutV (vs ws) (some (m : Int)) none = vs (ws.drop m) := by
  unfold cutV
  rw [HT.sIx_nat, HT.sIx_none, List.length_map, Nat.min_eq_left h]
  have e : (vs ws).drop m = vs (ws.drop m) := List.map_drop.symm
  rw [e, List.take_of_length_le (by rw [List.length_map, List.length_drop]; exact Nat.le_refl _)]
theorem cutW_take {m : Nat} (h : m ≤ ws.length) : cutV (vs ws) none (some (m : Int)) = vs (ws.take m) := by
  unfold cutV
  rw [HT.sIx_nat, HT.sIx_none, List.drop_zero, List.length_map, Nat.min_eq_left h, Nat.sub_zero]
  exact List.map_take.symm
theorem el_fromW {m : Nat} (ha : Ev T ta σ H (.ref p)) (hb : Ev T tb σ H (.int i)) (h : SqL K H p (vs ws)) (hi : i = (m : Int)) (hm : m ≤ ws.length) : EvL T (tSl (rSlL K) ta (tPart tb) tNoPart) σ H (vs (ws.drop m)) :=
  (el_sl ha (eo_some hb) eo_none h).is (by rw [hi, cutW_drop hm])
theorem el_toW {m : Nat} (ha : Ev T ta σ H (.ref p)) (hb : Ev T tb σ H (.int i)) (h : SqL K H p (vs ws)) (hi : i = (m : Int)) (hm : m ≤ ws.length) : EvL T (tSl (rSlL K) ta tNoPart (tPart tb)) σ H (vs (ws.take m)) :=
  (el_sl ha eo_none (eo_some hb) h).is (by rw [hi, cutW_take hm])
/-- a list made from a new one -/
theorem el_mapN {xs ys : List V} {vs : List Nat} {n : Nat} {tl : TE} (h : EvL T tl σ H xs) (hz : xs.length ≤ 40000) (hy : ys.length = xs.length) (hw : ∀ x, wipe ((wipe σ vs).set n (some x)) vs = wipe σ vs)
    (he : ∀ (i : Nat) (x y : V) H1, Ex T H H1 → xs[i]? = some x → ys[i]? = some y → Ev T te ((wipe σ vs).set n (some x)) H1 y) : EvL T (tLc (iList K tl) (gName n) tYes te vs) σ H ys := fun H0 e Q q =>
  h H0 e _ fun a H1 ha e1 h1 => el_map (T := T) (K := K) (te := te) (σ := σ) (H := H1) (tl := fun _ H Q => Q (.ref a) H) (fun H2 _ Q q => q H2 .refl) (SqL.of h1) hz hy hw (fun i x y H2 e2 hx hyy => he i x y H2 ((e.trans e1).trans e2) hx hyy) H1 .refl Q fun p H2 hp e2 h2 => q p H2 (e1.n p hp) (e1.trans e2) h2
/-- a text, sign by sign -/
theorem s_forS {D : Ends} {tu : TS} {n : Nat} (h : Ev T te σ H (.str w)) (Pv : Nat → L2.St → Hp → Prop) (h0 : ∀ H1, Ex T H H1 → Pv 0 σ H1)
    (hs : ∀ i c σ' H', (TL.tl w)[i]? = some c → Pv i σ' H' → tu { D with nx := Pv (i + 1), ct := Pv (i + 1), bk := D.nx } (σ'.set n (some (.str ⟨#[c]⟩))) H') (hd : ∀ σ' H', Pv (TL.tl w).length σ' H' → D.nx σ' H') : tFor (iStr te) (gName n) tu D σ H :=
  h H .refl _ fun H1 e => ⟨w, rfl, by
    refine ⟨fun i m σ' H' => m = (TL.tl w).length - i ∧ i ≤ (TL.tl w).length ∧ Pv i σ' H', ⟨_, rfl, Nat.zero_le _, h0 H1 e⟩, ?_⟩
    rintro i m σ' H' ⟨rfl, hi, hp⟩
    have hsz : w.cps.size = (TL.tl w).length := Array.length_toList.symm
    rcases Nat.lt_or_eq_of_le hi with hlt | heq
    · refine .inr ⟨by show i < w.cps.size; omega, Pv (i + 1), fun σ2 H2 hp2 => ⟨_, by omega, rfl, hlt, hp2⟩, fun x H2 y => ?_⟩
      obtain ⟨rfl, c, hc, rfl⟩ := y
      refine hs i c σ' H2 ?_ hp
      rw [← hc]
      exact Array.getElem?_toList
    · subst heq
      exact .inl ⟨by show w.cps.size ≤ _; omega, hd σ' H' hp⟩⟩
theorem q_forS {D : Ends} {tu tz : TS} {n : Nat} (h : Ev T te σ H (.str w)) (Pv : Nat → L2.St → Hp → Prop) (h0 : ∀ H1, Ex T H H1 → Pv 0 σ H1)
    (hs : ∀ i c σ' H', (TL.tl w)[i]? = some c → Pv i σ' H' → tu { D with nx := Pv (i + 1), ct := Pv (i + 1), bk := tz D } (σ'.set n (some (.str ⟨#[c]⟩))) H') (hd : ∀ σ' H', Pv (TL.tl w).length σ' H' → tz D σ' H') : tSeq (tFor (iStr te) (gName n) tu) tz D σ H :=
  s_forS (D := { D with nx := tz D }) h Pv h0 hs hd
end
end Sm

/-! SmL: lists of lists of ints: compared, searched; ranges' lists; slices at any ends. -/
namespace Sm
open PySem PySem.Spec PyProof.Rows L2
section
variable {T : Tb} {K : PySem.W.Frag} {σ : L2.St} {H H' : Hp} {ta tb te tc : TE} {t u : TT} {x y z v : V} {xs ys : List V} {a b p q l : Addr} {as bs : List Addr} {rs ss : List (List Int)} {i j k : Int}
theorem hu65 {k : Nat} {A : Around} (hr : Room k A) : A.units + 65 < cLine := by
  have := hr.un
  omega
/-! ### data -/
def dLL (rs : List (List Int)) : PyData := .list (rs.map dI)
theorem dp_LLs : ∀ {as : List Addr} {rs : List (List Int)}, LLs H as rs → DpAll K H (as.map V.ref) (rs.map dI)
  | [], [], _ => .nil
  | _ :: _, _ :: _, h => .cons (dp_I (SqL.of h.1)) (dp_LLs h.2)
  | [], _ :: _, h => h.elim
  | _ :: _, [], h => h.elim
theorem dp_LL (h : SqL K H p (as.map V.ref)) (hl : LLs H as rs) : Dp K H (.ref p) (dLL rs) := .lst h (dp_LLs hl)
theorem lay_LL : ∀ rs : List (List Int), PyData.canLayAll0 (rs.map dI) = true
  | [] => by simp [PyData.canLayAll0]
  | r :: rs => by
    show PyData.canLayAll0 (dI r :: rs.map dI) = true
    simp only [PyData.canLayAll0, lay_I, lay_LL rs, Bool.and_self]
theorem dep_LL : ∀ rs : List (List Int), PyData.depthAll (rs.map dI) ≤ 1
  | [] => by simp [PyData.depthAll]
  | r :: rs => by
    have := dep_LL rs
    show PyData.depthAll (dI r :: rs.map dI) ≤ 1
    simp only [PyData.depthAll, dep_I]
    omega
theorem sh_LL (rs : List (List Int)) : SeqAt.shaped (dLL rs) = true := by
  show (PyData.canLay0 (dLL rs) && decide (PyData.depth (dLL rs) ≤ 64)) = true
  have h1 : PyData.canLay0 (dLL rs) = true := by
    show PyData.canLay0 (.list (rs.map dI)) = true
    simp only [PyData.canLay0]
    exact lay_LL rs
  have h2 : PyData.depth (dLL rs) ≤ 64 := by
    have := dep_LL rs
    show PyData.depth (.list (rs.map dI)) ≤ 64
    simp only [PyData.depth]
    omega
  rw [h1, decide_eq_true h2]
  rfl
theorem eqvA_LL : ∀ rs ss : List (List Int), PyData.eqvAll (rs.map dI) (ss.map dI) = decide (rs = ss)
  | [], [] => by simp [PyData.eqvAll]
  | [], _ :: _ => by simp [PyData.eqvAll]
  | _ :: _, [] => by simp [PyData.eqvAll]
  | r :: rs, s :: ss => by
    show PyData.eqvAll (dI r :: rs.map dI) (dI s :: ss.map dI) = decide (r :: rs = s :: ss)
    simp only [PyData.eqvAll, eqv_I, eqvA_LL rs ss]
    by_cases h : r = s
    · by_cases h2 : rs = ss
      · simp [h, h2]
      · simp [h, h2]
    · simp [h]
theorem eqv_LL (rs ss : List (List Int)) : PyData.eqv (dLL rs) (dLL ss) = decide (rs = ss) := by
  show PyData.eqv (.list (rs.map dI)) (.list (ss.map dI)) = decide (rs = ss)
  simp only [PyData.eqv]
  exact eqvA_LL rs ss
theorem any_LL (r : List Int) : ∀ rs : List (List Int), ((rs.map dI).any fun z => PyData.eqv z (dI r)) = decide (r ∈ rs)
  | [] => by simp
  | s :: rs => by
    rw [List.map_cons, List.any_cons, any_LL r rs, eqv_I]
    by_cases h : r = s
    · simp [h]
    · have h' : s ≠ r := fun e => h e.symm
      simp [h, h']
theorem ev_eqLL (ha : Ev T ta σ H (.ref p)) (hb : Ev T tb σ H (.ref q)) (hp : SqL K H p (as.map V.ref)) (hl : LLs H as rs) (hq : SqL K H q (bs.map V.ref)) (hm : LLs H bs ss) : Ev T (tOp (rEqD K) ta tb) σ H (.bl (decide (rs = ss))) := fun H1 e Q f =>
  ha H1 e _ fun H2 e2 => hb H2 (e.trans e2) _ fun H3 e3 => ⟨_, _, dp_LL (((e.trans e2).trans e3).sq hp) (hl.ex ((e.trans e2).trans e3)), dp_LL (((e.trans e2).trans e3).sq hq) (hm.ex ((e.trans e2).trans e3)), sh_LL _, sh_LL _, by rw [eqv_LL]; exact f H3 (e2.trans e3)⟩
/-- beside a display of lists that stand -/
theorem ev_neLLN (ha : Ev T ta σ H (.ref p)) (hb : EvL T tb σ H (bs.map V.ref)) (hp : SqL K H p (as.map V.ref)) (hl : LLs H as rs) (hm : LLs H bs ss) : Ev T (tOp (rNeD K) ta tb) σ H (.bl (!decide (rs = ss))) := fun H1 e Q f =>
  ha H1 e _ fun H2 e2 => hb H2 (e.trans e2) _ fun q H3 _ e3 hq => ⟨_, _, dp_LL (((e.trans e2).trans e3).sq hp) (hl.ex ((e.trans e2).trans e3)), dp_LL (SqL.of hq) (hm.ex ((e.trans e2).trans e3)), sh_LL _, sh_LL _, by rw [eqv_LL]; exact f H3 (e2.trans e3)⟩
theorem ev_eqLLN (ha : Ev T ta σ H (.ref p)) (hb : EvL T tb σ H (bs.map V.ref)) (hp : SqL K H p (as.map V.ref)) (hl : LLs H as rs) (hm : LLs H bs ss) : Ev T (tOp (rEqD K) ta tb) σ H (.bl (decide (rs = ss))) := fun H1 e Q f =>
  ha H1 e _ fun H2 e2 => hb H2 (e.trans e2) _ fun q H3 _ e3 hq => ⟨_, _, dp_LL (((e.trans e2).trans e3).sq hp) (hl.ex ((e.trans e2).trans e3)), dp_LL (SqL.of hq) (hm.ex ((e.trans e2).trans e3)), sh_LL _, sh_LL _, by rw [eqv_LL]; exact f H3 (e2.trans e3)⟩
/-- a new list of lists beside one that stands; beside a display of lists that stand -/
theorem ev_eqRLL {R : Hp → V → Hp → Prop} (ha : EvR T ta σ H R) (hR : ∀ H1 v H2, Ex T H H1 → Ex T H1 H2 → R H1 v H2 → ∃ p as, v = .ref p ∧ H2 p = some (.lst (as.map V.ref)) ∧ LLs H2 as rs) (hb : Ev T tb σ H (.ref q)) (hq : SqL K H q (bs.map V.ref)) (hm : LLs H bs ss) : Ev T (tOp (rEqD K) ta tb) σ H (.bl (decide (rs = ss))) := fun H1 e Q f =>
  ha H1 e _ fun v H2 e2 hv => by
    obtain ⟨p, as, rfl, hp, hl⟩ := hR H1 v H2 e e2 hv
    exact hb H2 (e.trans e2) _ fun H3 e3 => ⟨_, _, dp_LL (SqL.of (e3.lst hp)) (hl.ex e3), dp_LL (((e.trans e2).trans e3).sq hq) (hm.ex ((e.trans e2).trans e3)), sh_LL _, sh_LL _, by rw [eqv_LL]; exact f H3 (e2.trans e3)⟩
theorem ev_neRLLN {R : Hp → V → Hp → Prop} (ha : EvR T ta σ H R) (hR : ∀ H1 v H2, Ex T H H1 → Ex T H1 H2 → R H1 v H2 → ∃ p as, v = .ref p ∧ H2 p = some (.lst (as.map V.ref)) ∧ LLs H2 as rs) (hb : EvL T tb σ H (bs.map V.ref)) (hm : LLs H bs ss) : Ev T (tOp (rNeD K) ta tb) σ H (.bl (!decide (rs = ss))) := fun H1 e Q f =>
  ha H1 e _ fun v H2 e2 hv => by
    obtain ⟨p, as, rfl, hp, hl⟩ := hR H1 v H2 e e2 hv
    exact hb H2 (e.trans e2) _ fun q H3 _ e3 hq => ⟨_, _, dp_LL (SqL.of (e3.lst hp)) (hl.ex e3), dp_LL (SqL.of hq) (hm.ex ((e.trans e2).trans e3)), sh_LL _, sh_LL _, by rw [eqv_LL]; exact f H3 (e2.trans e3)⟩
/-! ### in, not in -/
theorem ev_inLL {r : List Int} (ha : Ev T ta σ H (.ref a)) (hb : Ev T tb σ H (.ref p)) (h : SqL K H a (vz r)) (hp : SqL K H p (as.map V.ref)) (hl : LLs H as rs) : Ev T (tOp (rInD K) ta tb) σ H (.bl (decide (r ∈ rs))) := fun H1 e Q f =>
  ha H1 e _ fun H2 e2 => hb H2 (e.trans e2) _ fun H3 e3 => ⟨dI r, rs.map dI, dp_I (((e.trans e2).trans e3).sq h), dp_LL (((e.trans e2).trans e3).sq hp) (hl.ex ((e.trans e2).trans e3)), sh_I _, sh_LL _, by rw [any_LL]; exact f H3 (e2.trans e3)⟩
theorem ev_notInLL {r : List Int} (ha : Ev T ta σ H (.ref a)) (hb : Ev T tb σ H (.ref p)) (h : SqL K H a (vz r)) (hp : SqL K H p (as.map V.ref)) (hl : LLs H as rs) : Ev T (tOp (rNotInD K) ta tb) σ H (.bl (!decide (r ∈ rs))) := fun H1 e Q f =>
  ha H1 e _ fun H2 e2 => hb H2 (e.trans e2) _ fun H3 e3 => ⟨dI r, rs.map dI, dp_I (((e.trans e2).trans e3).sq h), dp_LL (((e.trans e2).trans e3).sq hp) (hl.ex ((e.trans e2).trans e3)), sh_I _, sh_LL _, by rw [any_LL]; exact f H3 (e2.trans e3)⟩
/-! ### lists of what a range gives -/
theorem tYes_ev : EvT T tYes σ H true := fun H1 _ _ q => q H1 .refl
theorem el_lcR1 {tr : TA} {vs : List Nat} {n : Nat} {m : Int} (g : Nat → V) (h : EvA T tr σ H [.int m]) (hm : m ≤ 40000) (h0 : 0 ≤ m) (hw : ∀ x, wipe ((wipe σ vs).set n (some x)) vs = wipe σ vs)
    (he : ∀ (i : Nat) H1, Ex T H H1 → (i : Int) < m → Ev T te ((wipe σ vs).set n (some (.int (i : Int)))) H1 (g i)) : EvL T (tLc (iRng1 tr) (gName n) tYes te vs) σ H ((List.range m.toNat).map g) :=
  (el_lcR1F (fun _ => true) g h hm h0 hw (fun _ _ _ _ => tYes_ev) fun i H1 e hi _ => he i H1 e hi).is (by rw [List.filter_eq_self.mpr fun _ _ => rfl])
/-! ### slices at any ends -/
theorem cut_range {ns : List Int} {m n : Nat} : cutV (vz ns) (some (m : Int)) (some (n : Int)) = vz ((ns.drop m).take (n - m)) := by
  unfold cutV
  rw [HT.sIx_nat, HT.sIx_nat, List.length_map]
  have e : ∀ l : List V, l.length = ns.length → (l.drop (min m ns.length)).take (min n ns.length - min m ns.length) = (l.drop m).take (n - m) := by
    intro l hl
    by_cases hm : m ≤ ns.length
    · rw [Nat.min_eq_left hm]
      by_cases hn : n ≤ ns.length
      · rw [Nat.min_eq_left hn]
      · rw [Nat.min_eq_right (by omega), List.take_of_length_le (by rw [List.length_drop]; omega), List.take_of_length_le (by rw [List.length_drop]; omega)]
    · rw [List.drop_of_length_le (by omega), List.drop_of_length_le (by omega), List.take_nil, List.take_nil]
  rw [e _ (List.length_map ..), ← List.map_drop, ← List.map_take]
theorem cut_to {ns : List Int} {n : Nat} : cutV (vz ns) none (some (n : Int)) = vz (ns.take n) := by
  unfold cutV
  rw [HT.sIx_nat, HT.sIx_none, List.drop_zero, List.length_map, Nat.sub_zero]
  by_cases hn : n ≤ ns.length
  · rw [Nat.min_eq_left hn, ← List.map_take]
  · rw [Nat.min_eq_right (by omega), ← List.map_take, List.take_of_length_le (Nat.le_refl _), List.take_of_length_le (by omega)]
theorem el_range {ns : List Int} {m n : Nat} (ha : Ev T ta σ H (.ref p)) (hb : Ev T tb σ H (.int (m : Int))) (hc : Ev T tc σ H (.int (n : Int))) (h : SqL K H p (vz ns)) : EvL T (tSl (rSlL K) ta (tPart tb) (tPart tc)) σ H (vz ((ns.drop m).take (n - m))) :=
  (el_sl ha (eo_some hb) (eo_some hc) h).is cut_range
theorem el_upto {ns : List Int} {n : Nat} (ha : Ev T ta σ H (.ref p)) (hc : Ev T tc σ H (.int (n : Int))) (h : SqL K H p (vz ns)) : EvL T (tSl (rSlL K) ta tNoPart (tPart tc)) σ H (vz (ns.take n)) :=
  (el_sl ha eo_none (eo_some hc) h).is cut_to
/-- [new list, new list] -/
theorem er_lst2 {ns ms : List Int} (ha : EvL T ta σ H (vz ns)) (hb : EvL T tb σ H (vz ms)) : EvR T (tLst (tCons ta (tCons tb tNil))) σ H (NewLL [ns, ms]) := fun H1 e Q f => by
  simp only [tLst, tCons, tNil]
  refine ha H1 e _ fun a H2 ha0 e2 h2 => hb H2 (e.trans e2) _ fun b H3 hb0 e3 h3 => ⟨(by decide : 2 ≤ sizeLine), fun p hp => f (.ref p) _ ((e2.trans e3).trans (.new hp)) ⟨p, [a, b], rfl, (e2.trans e3).n p hp, upd_same, ⟨?_, ?_, trivial⟩, ?_, ?_⟩⟩
  · rw [upd_ne (ne_of_none (e3.lst h2) hp)]
    exact e3.lst h2
  · rw [upd_ne (ne_of_none h3 hp)]
    exact h3
  · intro c hc
    rcases List.mem_cons.mp hc with rfl | hc
    · exact ⟨ha0, ne_of_none (e3.lst h2) hp⟩
    · rw [List.mem_singleton.mp hc]
      exact ⟨e2.n b hb0, ne_of_none h3 hp⟩
  · refine List.nodup_cons.mpr ⟨fun hm => ?_, List.nodup_cons.mpr ⟨List.not_mem_nil, .nil⟩⟩
    rw [List.mem_singleton.mp hm] at h2
    rw [h2] at hb0
    cases hb0
end
end Sm

/-! SmS: sorted(xs, key=f): xs a list of lists of ints, f's answers lists of ints. -/
namespace Sm
open PySem PySem.Spec PyProof.Rows L2
/-- the object at k is let go -/
def gone (h : Heap) (k : Addr) : Heap := h.update k fun _ => { cls := .none, data := .freed }
theorem gone_at (h : Heap) (k : Addr) : (gone h k).get? k = none := by
  obtain ⟨objs, l⟩ := h
  show (match (objs.modify k fun _ => ({ cls := .none, data := .freed } : Obj))[k]? with | some ⟨_, _, .freed, _⟩ => none | o => o) = none
  rw [Array.getElem?_modify, if_pos rfl]
  cases objs[k]? <;> rfl
theorem gone_ne {h : Heap} {k b : Addr} (n : b ≠ k) : (gone h k).get? b = h.get? b := Heap.get?_update_ne _ _ _ _ n
theorem vals_refs : ∀ {as : List Addr} {us : List Value}, Vals (as.map V.ref) us → us = as.map Value.ref
  | [], _, .nil => rfl
  | a :: as, _, .cons r t => by
    cases r
    rw [vals_refs t]
    rfl
theorem LLs.zip {H : Hp} : ∀ {as : List Addr} {rs : List (List Int)}, LLs H as rs → ∀ b ∈ as.zip rs, H b.1 = some (.lst (vz b.2))
  | [], [], _, b, hb => by cases hb
  | a :: as, r :: rs, h, b, hb => by
    rcases List.mem_cons.mp hb with e | hb
    · rw [e]; exact h.1
    · exact LLs.zip h.2 b hb
  | [], _ :: _, h, _, _ => h.elim
  | _ :: _, [], h, _, _ => h.elim
theorem LLs.of_zip {H : Hp} : ∀ {ps : List (Addr × List Int)}, (∀ b ∈ ps, H b.1 = some (.lst (vz b.2))) → LLs H (ps.map (·.1)) (ps.map (·.2))
  | [], _ => trivial
  | p :: ps, h => ⟨h p List.mem_cons_self, LLs.of_zip fun b hb => h b (List.mem_cons_of_mem _ hb)⟩
theorem zip_fst {H : Hp} : ∀ {as : List Addr} {rs : List (List Int)}, LLs H as rs → (as.zip rs).map (·.1) = as ∧ (as.zip rs).map (·.2) = rs
  | [], [], _ => ⟨rfl, rfl⟩
  | a :: as, r :: rs, h => by
    obtain ⟨h1, h2⟩ := zip_fst h.2
    exact ⟨congrArg (List.cons a) h1, congrArg (List.cons r) h2⟩
  | [], _ :: _, h => h.elim
  | _ :: _, [], h => h.elim
theorem each_refs {β : Type} {f : β → Addr} : ∀ {us : List Value} {bs : List β}, PySem.W.EachIs (fun v b => v = .ref (f b)) us bs → us = bs.map fun b => Value.ref (f b)
  | _, _, .nil => rfl
  | _, _, .cons h t => by rw [each_refs t, h]; rfl
theorem each_of_refs : ∀ (ps : List (Addr × List Int)), PySem.W.EachIs (fun v (b : Addr × List Int) => v = Value.ref b.1) (ps.map fun b => Value.ref b.1) ps
  | [] => .nil
  | p :: ps => .cons rfl (each_of_refs ps)
theorem alike_I (x y : List Int) : PySem.W.alike (dI x) (dI y) = true := PySem.W.alike_ints x y
section
variable {X : Cx} {T : Tb} {pins : List (Addr × Obj)} {σ : L2.St} {H : Hp} {s : Shared} {l fq : Addr} {as : List Addr} {rs : List (List Int)}
abbrev kOrd (key : List Int → List Int) : List Int → List Int → Bool := fun x y => decide (key x ≤ key y)
/-- what a call of the key's def gives -/
def KeyEnds (X : Cx) (T : Tb) (pins : List (Addr × Obj)) (σ : L2.St) (H : Hp) (k : List Int) (u : Value) (s' : Shared) : Prop := ∃ p H', u = .ref p ∧ Inv X pins σ H' s' ∧ Ex T H H' ∧ H' p = some (.lst (vz k))
theorem sorted_keyed {Q : Value → Shared → Prop} {E : Value → Shared → Prop} (key : List Int → List Int) (I : Inv X pins σ H s) (hl : SqL X.K H l (as.map V.ref)) (hL : LLs H as rs) (hu : X.A.units + 16 < cLine)
    (turn : ∀ (more : List (Addr × Obj)) (H1 : Hp) (s1 : Shared) (a : Addr) (r : List Int), Inv X (more ++ pins) σ H1 s1 → Ex T H H1 → H1 a = some (.lst (vz r)) → r ∈ rs →
      wpAny (model X.prog X.w) X.A.in1.in1 (call (.ref fq) [.ref a]) (KeyEnds X T (more ++ pins) σ H1 (key r)) (fun _ _ => False) s1)
    (done : ∀ (q : Addr) (as' : List Addr) (H' : Hp) (s' : Shared), Inv X pins σ H' s' → Ex T H H' → H q = none → H' q = some (.lst (as'.map V.ref)) → as'.Perm as → LLs H' as' (rs.mergeSort (kOrd key)) → Q (.ref q) s') :
    wpAny (model X.prog X.w) X.A (call (.builtin "sorted") [.ref l] [(Str.ofString "key", .ref fq)]) Q E s := by
  obtain ⟨its, rv, pl, hz⟩ := I.list hl
  have hits := vals_refs rv
  have hlen : its.length = as.length := by rw [hits, List.length_map]
  have hll := hL.len
  have hZ : its.length ≤ sizeLine := by rw [← rv.length]; exact hz
  refine PySem.W.sorted_of_sort (vs := its) pl.isList hZ (ksk_s1 _ _) (fun x => ksk_l1 _ _) fun E' => ?_
  rw [ksk_t1]
  have hA : s.heap.objs.size ≤ s.heap.objs.size + 1 := Nat.le_succ _
  have ho := PySem.W.copyHeap_at s.heap its
  have old : ∀ b o, s.heap.get? b = some o → (PySem.W.copyHeap s.heap its).get? b = some o := fun b o e => PySem.W.copyHeap_old e
  have nA : H (s.heap.objs.size + 1) = none := I.hok.fresh hA
  have fA : FpOk X pins H (s.heap.objs.size + 1) := I.fpOk hA nA
  generalize s.heap.objs.size + 1 = A0 at ho nA fA ⊢
  have I0 : Inv X pins σ H { s with heap := PySem.W.copyHeap s.heap its } := I.kept (t' := s.toks) old
  have hlt := Heap.lt_size ho
  have hsz0 : s.heap.objs.size ≤ (PySem.W.copyHeap s.heap its).objs.size := by
    unfold PySem.W.copyHeap
    rw [size_push', Heap.size_update, size_push']
    omega
  generalize PySem.W.copyHeap s.heap its = g0 at ho I0 hlt hsz0 ⊢
  obtain ⟨e1, ho1⟩ : ∃ e1, (g0.update A0 (Obj.mapSeq fun _ => (#[] : Array Value))).get? A0 = some (seqObj "list" #[] e1) := ⟨_, get?_update_seq ho fun _ => #[]⟩
  unfold ksk_tree
  refine wpAny_bind (listItems_at ho rfl ?_)
  refine wpAny_bind (listUpdate_at ho rfl ?_ (by rw [List.size_toArray]; exact hZ) (Nat.zero_le _))
  refine wpAny_bind (seqEpoch_at ho1 rfl ?_)
  refine wpAny_bind (wpAny_newTuple ?_ (by show its.length ≤ _; exact hZ))
  refine wpAny_bind (wpAny_newList ?_ (Nat.zero_le _))
  refine wpAny_holding ?_
  -- the list being sorted is empty, the keys' list is new
  have hkS : ((g0.update A0 (Obj.mapSeq fun _ => (#[] : Array Value))).push (seqObj "tuple" its.toArray 0)).objs.size = g0.objs.size + 1 := by rw [size_push', Heap.size_update]
  have hk0 : (((g0.update A0 (Obj.mapSeq fun _ => (#[] : Array Value))).push (seqObj "tuple" its.toArray 0)).push (seqObj "list" #[] 0)).get? (g0.objs.size + 1) = some (seqObj "list" #[] 0) := by
    rw [← hkS]
    exact Heap.get?_push_size _ rfl
  have ha0 : (((g0.update A0 (Obj.mapSeq fun _ => (#[] : Array Value))).push (seqObj "tuple" its.toArray 0)).push (seqObj "list" #[] 0)).get? A0 = some (seqObj "list" #[] e1) := Heap.get?_push_of_some _ (Heap.get?_push_of_some _ ho1)
  have I1 : Inv X pins σ H { s with heap := ((g0.update A0 (Obj.mapSeq fun _ => (#[] : Array Value))).push (seqObj "tuple" its.toArray 0)).push (seqObj "list" #[] 0) } := by
    obtain ⟨f0, f1, _, f3, f4, f5⟩ := fA
    exact I0.turned (t' := s.toks) (fun b o hb e => Heap.get?_push_of_some _ (Heap.get?_push_of_some _ ((Heap.get?_update_ne _ _ _ _ hb).trans e))) f0 f1 f3 f4 f5
  rw [hkS]
  have hKne : A0 ≠ g0.objs.size + 1 := Nat.ne_of_lt (Nat.lt_succ_of_lt hlt)
  have nK : H (g0.objs.size + 1) = none := I.hok.fresh (by omega)
  have fK : FpOk X pins H (g0.objs.size + 1) := I.fpOk (by omega) nK
  generalize g0.objs.size + 1 = kS at hk0 hKne nK fK ⊢
  show wpAny _ _ _ _ _ { s with heap := ((g0.update A0 (Obj.mapSeq fun _ => (#[] : Array Value))).push (seqObj "tuple" its.toArray 0)).push (seqObj "list" #[] 0) }
  obtain ⟨s4, hs4⟩ : ∃ s4 : Shared, s4 = { s with heap := ((g0.update A0 (Obj.mapSeq fun _ => (#[] : Array Value))).push (seqObj "tuple" its.toArray 0)).push (seqObj "list" #[] 0) } := ⟨_, rfl⟩
  replace hk0 : s4.heap.get? kS = some (seqObj "list" #[] 0) := by rw [hs4]; exact hk0
  replace ha0 : s4.heap.get? A0 = some (seqObj "list" #[] e1) := by rw [hs4]; exact ha0
  rw [← hs4] at I1 ⊢
  have hdA : ∀ v, (seqObj "list" #[] e1).data ≠ .cell v := fun v z => by cases z
  have pinA : Inv X ((A0, seqObj "list" #[] e1) :: pins) σ H s4 := I1.pins_of fun p hp => by
    rcases List.mem_cons.mp hp with e | hp
    · rw [e]; exact ⟨ha0, nA, fA.2.1, fA.2.2.1, hdA⟩
    · exact I1.pin p (List.mem_append_right _ hp)
  unfold ksk_rest
  refine wpAny_bind (wpAny_rule ?_)
  first
    | rw [List.forIn_toArray]
    | (rw [← Array.forIn_toList]; simp only [List.toList_toArray])
  refine wpAny_bind (ksk_fold (fun i s' => ∃ (Hi : Hp) (kA : Array Value) (e : Nat), Inv X ((A0, seqObj "list" #[] e1) :: pins) σ Hi s' ∧ Hi kS = none ∧ s'.heap.get? kS = some (seqObj "list" kA e) ∧ Ex T H Hi ∧
    PySem.W.EachIs (fun v r => ∃ p, v = .ref p ∧ Hi p = some (.lst (vz (key r)))) kA.toList (rs.take i)) its 0 s4 ⟨H, #[], 0, pinA, nK, hk0, .refl, by rw [List.take_zero]; exact .nil⟩ ?step ?fin)
  case step =>
    rintro j x s' hx ⟨Hi, kA, e, I', hn, nk', eH, hK⟩
    simp only [Nat.zero_add] at hK ⊢
    rw [hits, List.getElem?_map] at hx
    obtain ⟨a, ha, rfl⟩ : ∃ a, as[j]? = some a ∧ x = .ref a := by
      cases q : as[j]? with
      | none => rw [q] at hx; cases hx
      | some a => rw [q] at hx; exact ⟨a, rfl, (Option.some.inj hx).symm⟩
    obtain ⟨r, hr, hra⟩ := hL.at' ha
    have hj : j < rs.length := (List.getElem?_eq_some_iff.mp hr).1
    have hkz : kA.size ≤ its.length := by
      have h1 := hK.length
      rw [Array.length_toList, List.length_take] at h1
      omega
    have pinK : Inv X ([(kS, seqObj "list" kA e), (A0, seqObj "list" #[] e1)] ++ pins) σ Hi s' := I'.pins_of fun p hp => by
      rcases List.mem_cons.mp hp with q | hp
      · rw [q]; exact ⟨nk', hn, fK.2.1, fK.2.2.1, fun v z => by cases z⟩
      · exact I'.pin p (List.mem_append_right _ hp)
    refine wpAny_bind (wpAny_attempt (wpAny_mono (turn _ Hi s' a r pinK eH (eH.lst hra) (List.mem_of_getElem? hr)) (fun u s2 hq => ?_) fun _ _ hF => hF.elim))
    obtain ⟨p, H2, rfl, I2, e2, hp⟩ := hq
    try dsimp only
    obtain ⟨nk2, hn2, _⟩ := I2.pin (kS, seqObj "list" kA e) (List.mem_append_right _ List.mem_cons_self)
    have I3 : Inv X ((A0, seqObj "list" #[] e1) :: pins) σ H2 s2 := I2.pins_of fun p hp => I2.pin p (List.mem_append_right _ (List.mem_cons_of_mem _ hp))
    have sb := Heap.SameBut.update s2.heap kS (Obj.mapSeq (·.push (Value.ref p)))
    obtain ⟨c2, hc2⟩ : ∃ c2, (s2.heap.update kS (Obj.mapSeq (·.push (Value.ref p)))).get? kS = some (seqObj "list" (kA.push (.ref p)) c2) := ⟨_, get?_update_seq nk2 (·.push (Value.ref p))⟩
    refine wpAny_bind (listUpdate_at nk2 rfl ?_ (Nat.le_trans hkz hZ) (Nat.le_trans (Nat.le_of_eq (Array.size_push ..)) (Nat.succ_le_succ (Nat.le_trans hkz hZ))))
    refine wpAny_pure ⟨rfl, H2, kA.push (.ref p), c2, ?_, hn2, hc2, eH.trans e2, ?_⟩
    · exact I3.turned (t' := s2.toks) (fun b o hb q => (sb.2 b hb).trans q) hn2 fK.2.1 fK.2.2.2.1 fK.2.2.2.2.1 fun q hq z => by
        have hq' : q ∈ X.pn ++ ((A0, seqObj "list" #[] e1) :: pins) := hq
        rcases List.mem_append.mp hq' with h1 | h1
        · exact fK.2.2.2.2.2 q (List.mem_append_left _ h1) z
        · rcases List.mem_cons.mp h1 with h1 | h1
          · rw [h1] at z; exact hKne z
          · exact fK.2.2.2.2.2 q (List.mem_append_right _ h1) z
    · have ek : rs.take (j + 1) = rs.take j ++ [r] := by rw [List.take_add_one, hr]; rfl
      have ea : (kA.push (Value.ref p)).toList = kA.toList ++ [.ref p] := by simp
      rw [ek, ea]
      exact PySem.W.each_snoc (R := fun v r => ∃ p, v = Value.ref p ∧ H2 p = some (.lst (vz (key r)))) ⟨p, rfl, hp⟩ (hK.mono fun v r ⟨p, q1, q2⟩ => ⟨p, q1, e2.lst q2⟩)
  case fin =>
    rintro s' ⟨Hi, kA, e, I', hn, nk', eH, hK⟩
    have e3 : rs.take (0 + its.length) = rs := List.take_of_length_le (by omega)
    rw [e3] at hK
    have hks : kA.size = its.length := by
      have h1 := hK.length
      rw [Array.length_toList] at h1
      omega
    obtain ⟨z1, z2⟩ := zip_fst hL
    have I5 : Inv X pins σ Hi s' := I'.pins_of fun p hp => I'.pin p (List.mem_append_right _ (List.mem_cons_of_mem _ hp))
    obtain ⟨na', hna, _⟩ := I'.pin (A0, seqObj "list" #[] e1) (List.mem_append_right _ List.mem_cons_self)
    try dsimp only
    refine wpAny_bind (listItems_at nk' rfl ?_)
    have hkz : (as.zip rs).map (fun b => dI (key b.2)) = rs.map fun r => dI (key r) := by
      conv => rhs; rw [← z2]
      rw [List.map_map]
      rfl
    have hrd : PySem.W.EachIs (fun v d => ∃ as, Reads s'.heap v d as) kA.toList ((as.zip rs).map fun b => dI (key b.2)) := by
      rw [hkz]
      exact PySem.W.each_map (fun r => dI (key r)) (hK.mono fun v r ⟨p, q1, q2⟩ => by
        subst q1
        exact Dp.reads I5 (dI (key r)) (.ref p) (.ref p) (dp_I (SqL.of q2)) rfl)
    have hal : PySem.W.AllAlike ((as.zip rs).map fun b => dI (key b.2)) := PySem.W.AllAlike.of (enc := fun b : Addr × List Int => dI (key b.2)) fun b c => alike_I _ _
    have hso : PySem.W.Sortable ((as.zip rs).map fun b => dI (key b.2)) := PySem.W.Sortable.others (enc := fun b : Addr × List Int => dI (key b.2)) fun b => ⟨(fun z => by cases z), fun xs z => by cases z⟩
    refine PySem.W.keyH_end (κ := PySem.W.dataKind s'.heap ((as.zip rs).map fun b => dI (key b.2))) (h₁ := gone s'.heap kS) (vs := its) (fun b o hb q => ?_) (gone_at _ _) nk' na' hKne.symm (PySem.W.SortsAt.data hrd hal hso fun d hd => ?_) hks hZ fun h' tk c kp hA' => ⟨rfl, ?_⟩
    · by_cases hbk : b = kS
      · rw [hbk, gone_at] at q; cases q
      · rw [gone_ne hbk] at q; exact q
    · obtain ⟨b, _, rfl⟩ := List.mem_map.mp hd
      rw [dep_I]
      show X.A.units + 2 + 1 < cLine
      omega
    · have hb := hits
      have hE : PySem.W.EachIs (fun v (b : Addr × List Int) => v = Value.ref b.1) its (as.zip rs) := by
        have e4 : its = (as.zip rs).map fun b => Value.ref b.1 := by
          rw [hits]
          conv => lhs; rw [← z1]
          rw [List.map_map]
          rfl
        rw [e4]
        exact each_of_refs _
      have ko : PySem.W.KeyedOut false ((as.zip rs).map fun b => dI (key b.2)) its (PySem.W.sortVals (PySem.W.dataKind s'.heap ((as.zip rs).map fun b => dI (key b.2))) false kA.toList its) := ⟨s'.heap, kA.toList, hal, rfl, hrd⟩
      have hout := PySem.W.keyedOut_each (fun b : Addr × List Int => dI (key b.2)) ko hE
      have hle : PySem.W.dataLe false (fun b : Addr × List Int => dI (key b.2)) = fun p q => decide (key p.2 ≤ key q.2) := PySem.W.dataLe_rows fun b : Addr × List Int => key b.2
      rw [hle] at hout
      have hov := each_refs hout
      rw [hov] at hA'
      obtain ⟨ps, hps⟩ : ∃ ps, ps = (as.zip rs).mergeSort fun p q => decide (key p.2 ≤ key q.2) := ⟨_, rfl⟩
      rw [← hps] at hA'
      have hperm : ps.Perm (as.zip rs) := by rw [hps]; exact List.mergeSort_perm _ _
      have hpl : ps.length = its.length := by
        have h1 := hperm.length_eq
        have h2 := congrArg List.length z1
        rw [List.length_map] at h2
        omega
      -- both scratch objects are left
      have fA5 : FpOk X pins Hi A0 := ⟨hna, fA.2⟩
      have fK5 : FpOk X pins Hi kS := ⟨hn, fK.2⟩
      have I6 : Inv X pins σ Hi { s' with heap := h', toks := tk } := I5.turnedL (ch := [kS, A0]) (fun b o hb q => by
        have h1 : b ≠ kS := fun z => hb (by simp [z])
        have h2 : b ≠ A0 := fun z => hb (by simp [z])
        exact kp b o h2 ((gone_ne h1).trans q)) fun b hb => by
        rcases List.mem_cons.mp hb with z | hb
        · rw [z]; exact fK5
        · rw [List.mem_singleton.mp hb]; exact fA5
      have I7 : Inv X pins σ (upd Hi A0 (.lst ((ps.map (·.1)).map V.ref))) { s' with heap := h', toks := tk } := I6.take (t' := tk) (fun b o _ q => q) fA5 ⟨by rw [List.length_map, List.length_map, hpl]; exact hZ, ps.map fun b => .ref b.1, c, by
        rw [List.map_map]
        clear hA' hpl hperm hps
        induction ps with
        | nil => exact .nil
        | cons p ps ih => exact .cons rfl ih, hA'⟩
      have hnew : Ex T Hi (upd Hi A0 (.lst ((ps.map (·.1)).map V.ref))) := .new hna
      refine done A0 (ps.map (·.1)) _ _ I7 (eH.trans hnew) nA upd_same ?_ ?_
      · have := hperm.map (·.1)
        rw [z1] at this
        exact this
      · have e5 : rs.mergeSort (kOrd key) = ps.map (·.2) := by
          rw [hps, List.map_mergeSort (s := kOrd key) fun a _ b _ => rfl, z2]
        rw [e5]
        exact LLs.of_zip fun b hb => hnew.lst (eH.lst (LLs.zip hL b (hperm.subset hb)))
end
end Sm

/-! SmK: what is handed to key=: a lambda, a def; sorted(xs, key=..) as a rule. -/
namespace Sm
open PySem PySem.Spec PyProof.Rows L2
theorem clo_nil {cells : List (Str × Addr)} : ∀ {names : List (Str × NameKind)} {acc : List (Str × Addr)}, (∀ y ∈ names, y.2 ≠ .free) → cloFrom cells names acc = acc
  | [], _, _ => rfl
  | (n, k) :: r, acc, h => by
    have hk : (k == NameKind.free) = false := beq_eq_false_iff_ne.mpr (h (n, k) List.mem_cons_self)
    show (if (k == NameKind.free) = true then _ else cloFrom cells r acc) = acc
    rw [hk, if_neg Bool.false_ne_true]
    exact clo_nil fun y hy => h y (List.mem_cons_of_mem _ hy)
theorem codeO_not {c : Addr} {q : Str} : ∀ ps, LamX.CodeO c q ≠ .tbl ps := fun ps z => by
  unfold LamX.CodeO at z
  cases z
section
variable {X : Cx} {T : Tb} {pins : List (Addr × Obj)} {σ : L2.St} {H : Hp} {s : Shared}
/-- a table that grows by a new code object -/
theorem Ex.tab {P c : Addr} {q : Str} {ps : Array Value} {pos : Pos} (hP : H P = some (.tbl ps)) (hu : ∀ p ∈ T, p.1 = P → p.2 = q) (nC : H c = none) :
    Ex T H (upd (upd H P (.tbl (ps ++ #[rawInt pos.line, rawInt pos.col, .ref c]))) c (LamX.CodeO c q)) := by
  have nPc : P ≠ c := ne_of_none hP nC
  have kp : ∀ b u, H b = some u → (∀ z, u ≠ .tbl z) → (upd (upd H P (.tbl (ps ++ #[rawInt pos.line, rawInt pos.col, .ref c]))) c (LamX.CodeO c q)) b = some u := fun b u e n => by
    have h1 : b ≠ P := fun z => n ps (Option.some.inj (e.symm.trans (by rw [z]; exact hP)))
    rw [upd_ne (ne_of_none e nC), upd_ne h1]
    exact e
  have eL : (ps ++ #[rawInt pos.line, rawInt pos.col, Value.ref c]).toList = ps.toList ++ [rawInt pos.line, rawInt pos.col, .ref c] := by simp
  refine ⟨kp, fun t p hp => ?_, fun b hb => ?_⟩
  · obtain ⟨ps', t1, t2, t3⟩ := t p hp
    by_cases hpP : p.1 = P
    · have e1 : ps' = ps := by
        rw [hpP, hP] at t1
        cases t1
        rfl
      subst e1
      rw [hu p hp hpP] at t3
      rw [hu p hp hpP, hpP]
      refine ⟨_, by rw [upd_ne nPc, upd_same], by rw [eL]; exact PySem.TriplesOk_snoc _ _ _ _ t2, fun p' cv hc => ?_⟩
      rw [eL] at hc
      rcases LamX.among_app _ t2 hc with z | z
      · obtain ⟨d, z1, z2⟩ := t3 p' cv z
        exact ⟨d, z1, kp _ _ z2 codeO_not⟩
      · exact ⟨c, z, upd_same⟩
    · refine ⟨ps', by rw [upd_ne (ne_of_none t1 nC), upd_ne hpP]; exact t1, t2, fun p' cv hc => ?_⟩
      obtain ⟨d, z1, z2⟩ := t3 p' cv hc
      exact ⟨d, z1, kp _ _ z2 codeO_not⟩
  · by_cases h1 : b = c
    · rw [h1]; exact nC
    · rw [upd_ne h1] at hb
      by_cases h2 : b = P
      · rw [h2, upd_same] at hb; cases hb
      · rw [upd_ne h2] at hb; exact hb
/-- the lambda's object -/
def LamO (q : Str) (params : Arguments) (body : Expr) (scope : Scope) (pm : Value) (c : Addr) (ctv : Value) (f : Addr) : HO := .ext fun h => h.get? f = some (PySem.W.kla_obj "<lambda>" q params body scope [] pm c ctv)
def Lm (q : Str) (params : Arguments) (body : Expr) (scope : Scope) (H : Hp) (f : Addr) : Prop := ∃ c pm ctv, H f = some (LamO q params body scope pm c ctv f) ∧ H c = some (LamX.CodeO c q)
theorem lam_mk {c P : Addr} {params : Arguments} {body : Expr} {scope : Scope} {pos : Pos} {E : Value → Shared → Prop} {Q : Value → Shared → Prop} (I : Inv X pins σ H s) (TB : LamX.TabB X.base X.mg c P) (hcode : X.env.code = .ref c)
    (hm : (P, X.env.qual ++ "<lambda>") ∈ T) (hu : ∀ p ∈ T, p.1 = P → p.2 = X.env.qual ++ "<lambda>") (hT : LamX.Tabs T H) (hdef : defaultsOf params X.env = ([], [])) (hfree : ∀ y ∈ scope.names, y.2 ≠ .free)
    (h : ∀ (f : Addr) (H1 : Hp) (s1 : Shared), Inv X pins σ H1 s1 → Ex T H H1 → Lm (X.env.qual ++ "<lambda>") params body scope H1 f → Q (.ref f) s1) :
    wpAny (model X.prog X.w) X.A (eval (.Lambda params body scope pos) X.env) Q E s := by
  obtain ⟨ps, hP, ht, hamong⟩ := hT _ hm
  have hclo : closureFor scope X.env = pure [] := by
    have := closure_ok (scope := scope) (env := X.env) fun y hy e => absurd e (hfree y hy)
    rw [clo_nil hfree] at this
    exact this
  have hbuilt : s.heap.BuiltinsAt X.mg P := TB.bm.keeps I.bk
  have hraw : s.heap.get? P = some { cls := .none, data := .fields ps } := I.hok P _ hP
  refine PySem.W.kla_eval hdef ?_
  cases hc : codeAmong pos ps.toList with
  | none =>
    refine PySem.W.kla_makeFunction (mg := X.mg) (c := c) (P := P) (ps := ps) hclo I.ok.glob
      (I.mod.glob.keeps I.bk) hcode (TB.code.keeps I.bk) hraw ht hc TB.gP hbuilt fun c1 ctv g tk hx hge hlt hrec htb => ?_
    obtain ⟨c2, oc, us, t, e2, hoc, hd, hv⟩ := hrec
    cases e2
    have nC : H c1 = none := I.hok.fresh hge
    have I1 := LamX.inv_table (t' := tk) (more := #[rawInt pos.line, rawInt pos.col, .ref c1]) (h' := g) I hP hx htb hge ⟨oc, us, t, hoc, hd, hv⟩
    have e1 := Ex.tab (T := T) (pos := pos) hP hu nC
    have nF : (upd (upd H P (.tbl (ps ++ #[rawInt pos.line, rawInt pos.col, .ref c1]))) c1 (LamX.CodeO c1 (X.env.qual ++ "<lambda>"))) g.objs.size = none := I1.hok.fresh (Nat.le_refl _)
    have hpush : (g.push (PySem.W.kla_obj "<lambda>" (X.env.qual ++ "<lambda>") params body scope [] ((X.mg "__name__").getD .none) c1 ctv)).get? g.objs.size = some (PySem.W.kla_obj "<lambda>" (X.env.qual ++ "<lambda>") params body scope [] ((X.mg "__name__").getD .none) c1 ctv) := Heap.get?_push_size _ rfl
    have I2 := I1.laid (a := g.objs.size) (o := LamO (X.env.qual ++ "<lambda>") params body scope ((X.mg "__name__").getD .none) c1 ctv g.objs.size) (t' := tk) (fun b o e => Heap.get?_push_of_some _ e) (Nat.le_refl _) ⟨hpush, ⟨_, hpush⟩, fun h1 h2 q st => st _ q⟩
    have e3 : Ex T _ _ := Ex.new (T := T) (o := LamO (X.env.qual ++ "<lambda>") params body scope ((X.mg "__name__").getD .none) c1 ctv g.objs.size) nF
    refine h g.objs.size _ _ I2 (e1.trans e3) ⟨c1, (X.mg "__name__").getD .none, ctv, upd_same, e3.k _ _ upd_same codeO_not⟩
  | some cv =>
    obtain ⟨c1, e, hco⟩ := hamong pos cv hc
    subst e
    refine PySem.W.kla_makeFunctionHit (mg := X.mg) (c := c) (P := P) (ps := ps) hclo I.ok.glob
      (I.mod.glob.keeps I.bk) hcode (TB.code.keeps I.bk) hraw ht hc hbuilt fun ctv g tk hx hsz => ?_
    have nF : H g.objs.size = none := I.hok.fresh hsz
    have hpush : (g.push (PySem.W.kla_obj "<lambda>" (X.env.qual ++ "<lambda>") params body scope [] ((X.mg "__name__").getD .none) c1 ctv)).get? g.objs.size = some (PySem.W.kla_obj "<lambda>" (X.env.qual ++ "<lambda>") params body scope [] ((X.mg "__name__").getD .none) c1 ctv) := Heap.get?_push_size _ rfl
    have I2 := I.laid (a := g.objs.size) (o := LamO (X.env.qual ++ "<lambda>") params body scope ((X.mg "__name__").getD .none) c1 ctv g.objs.size) (t' := tk) (fun b o e => Heap.get?_push_of_some _ (hx b o e)) hsz ⟨hpush, ⟨_, hpush⟩, fun h1 h2 q st => st _ q⟩
    have e3 : Ex T _ _ := Ex.new (T := T) (o := LamO (X.env.qual ++ "<lambda>") params body scope ((X.mg "__name__").getD .none) c1 ctv g.objs.size) nF
    exact h g.objs.size _ _ I2 e3 ⟨c1, (X.mg "__name__").getD .none, ctv, upd_same, e3.k _ _ hco codeO_not⟩
/-- a call of the lambda, of one argument -/
theorem lam_call {q : Str} {params : Arguments} {body : Expr} {scope : Scope} {f : Addr} {N : List Str} {x : Str} {k : Nat} {A : Around} {v : V} {u : Value} {Q : VK} (I : Inv X pins σ H s) (hL : Lm q params body scope H f) (S : FnScope N [x] scope)
    (hbind : ∀ (pm cv ctv u : Value), bindArgs (PySem.W.kla_fn "<lambda>" q params body scope [] pm cv ctv) ⟨[u], []⟩ = pure [(x, u)]) (hr : Room (k + 1) A) (e0 : Env0 X.prog X.w X.K X.mg X.base A X.stack s H) (rv : RelV v u)
    (hbody : ∀ cd : Value, Room k (A.deeper (envOfC q scope s.heap.objs.size f cd)) → ∃ tb, PE (cxOf CX0 X.prog X.w X.K X.mg X.base N q scope f cd A X.stack s H E0) body tb ∧ tb (L2.start N [v]) H Q) :
    wpAny (model X.prog X.w) A (call (.ref f) [u]) (CE X.stack X.prog X.w H s Q) (fun _ _ => False) s := by
  obtain ⟨c, pm, ctv, hf, hco⟩ := hL
  obtain ⟨hraw, _, _⟩ := I.hok f _ hf
  obtain ⟨⟨oc, us, t, hoc, hdc, hvc⟩, _, _⟩ := I.hok c _ hco
  have lim : s.heap.NoLimit := I.nolimit
  have hk : ∀ y ∈ [(x, u)], scope.names.lookup y.1 = some .local ∨ (scope.names.lookup y.1 = some .cell ∧ ((cellsFrom (s.heap.objs.size + 1) scope.names []).lookup y.1).isSome = true) := fun y hy => by
    rw [List.mem_singleton.mp hy]
    rcases S.par x List.mem_cons_self with z | z
    · exact .inl z
    · exact .inr ⟨z, PySem.W.cellsFrom_some _ _ _ (.inl z)⟩
  have rc : codeAny (model X.prog X.w) A (.call (.ref f) ⟨[u], []⟩) (CR CX0 X.stack X.prog X.w H s Q E0) s := by
    refine PySem.W.kla_callFunE hr.depth hraw rfl S.co S.gen rfl ⟨c, oc, us, t, rfl, hoc, hdc, hvc⟩ ?_
    rw [hbind]
    refine wpAny_pure (wpAny_newFunctionEnv_cells S.kind hk fun env he s1 xx => ?_)
    subst he
    refine ⟨lim.keeps xx.toInCall.keep, ?_⟩
    obtain ⟨tb, hp, hq⟩ := hbody (.ref c) (hr.deeper _)
    have J : Inv (cxOf CX0 X.prog X.w X.K X.mg X.base N q scope f (.ref c) A X.stack s H E0) [] (L2.start N [v]) H s1 := inv_start S hr.hd e0 rfl (.cons rv .nil) xx
    refine PySem.W.kla_codeExpr (wpAny_mono (hp.run [] s1 _ H Q J hq) (fun w s2 hw => ?_) fun e s2 hw => hw)
    obtain ⟨z, H2, J2, rz, qz⟩ := hw
    exact ⟨z, H2, J2.os, J2.bare, J2.base, J2.hok, rz, qz⟩
  refine wpAny_call (codeAny_mono rc fun r s2 hw => ?_)
  cases r with
  | error e => exact (show False from hw).elim
  | ok fl =>
    cases fl with
    | ret u => exact hw
    | next => exact False.elim hw
    | brk => exact False.elim hw
    | cont => exact False.elim hw
/-! ### what key= may be -/
def CanKey (X : Cx) (T : Tb) (H : Hp) (f : Addr) (key : List Int → List Int) : Prop := ∀ (pins : List (Addr × Obj)) (σ : L2.St) (H1 : Hp) (s1 : Shared) (a : Addr) (r : List Int), Inv X pins σ H1 s1 → Ex T H H1 → H1 a = some (.lst (vz r)) → r.length ≤ 900 →
  wpAny (model X.prog X.w) X.A.in1.in1 (call (.ref f) [.ref a]) (KeyEnds X T pins σ H1 (key r)) (fun _ _ => False) s1
theorem KeyEnds.of {H1 : Hp} {k : List Int} {u : Value} {s1 s2 : Shared} (I : Inv X pins σ H1 s1) (h : CE X.stack X.prog X.w H1 s1 (fun v H2 => ∃ p, v = .ref p ∧ Ex T H1 H2 ∧ H2 p = some (.lst (vz k))) u s2) : KeyEnds X T pins σ H1 k u s2 := by
  obtain ⟨v, H2, I2, rv, p, rfl, e, hp⟩ := I.after h
  cases rv
  exact ⟨p, H2, rfl, I2, e, hp⟩
def tKey (X : Cx) (T : Tb) (key : List Int → List Int) : TE := fun _ H Q => LamX.Tabs T H ∧ ∀ f H1, Ex T H H1 → CanKey X T H1 f key → Q (.ref f) H1
theorem pe_lamKey {c P : Addr} {params : Arguments} {body : Expr} {scope : Scope} {pos : Pos} {N : List Str} {x : Str} {k : Nat} {tb : TE} {key : List Int → List Int} (TB : LamX.TabB X.base X.mg c P) (hcode : X.env.code = .ref c)
    (hm : (P, X.env.qual ++ "<lambda>") ∈ T) (hu : ∀ p ∈ T, p.1 = P → p.2 = X.env.qual ++ "<lambda>") (hdef : defaultsOf params X.env = ([], [])) (S : FnScope N [x] scope)
    (hbind : ∀ (q : Str) (pm cv ctv u : Value), bindArgs (PySem.W.kla_fn "<lambda>" q params body scope [] pm cv ctv) ⟨[u], []⟩ = pure [(x, u)]) (hr : Room (k + 3) X.A)
    (hbody : ∀ (q : Str) (f : Addr) (cd : Value) (A : Around) (outer : List Env) (s : Shared) (H : Hp), Room k (A.deeper (envOfC q scope s.heap.objs.size f cd)) → PE (cxOf CX0 X.prog X.w X.K X.mg X.base N q scope f cd A outer s H E0) body tb)
    (hkey : ∀ (a : Addr) (r : List Int) (H : Hp), H a = some (.lst (vz r)) → r.length ≤ 900 → EvL T tb (L2.start N [.ref a]) H (vz (key r))) :
    PE X (.Lambda params body scope pos) (tKey X T key) := by
  refine ⟨fun pins s σ H Q I h => ?_⟩
  obtain ⟨hT, h⟩ := h
  refine lam_mk I TB hcode hm hu hT hdef S.nofree fun f H1 s1 I1 e1 hL => ⟨.ref f, H1, I1, rfl, h f H1 e1 ?_⟩
  intro pins2 σ2 H2 s2 a r I2 e2 ha hl
  have hL2 : Lm (X.env.qual ++ "<lambda>") params body scope H2 f := by
    obtain ⟨c1, pm, ctv, h1, h2⟩ := hL
    exact ⟨c1, pm, ctv, e2.k _ _ h1 (fun ps z => by unfold LamO at z; cases z), e2.k _ _ h2 codeO_not⟩
  have hr2 : Room (k + 1) X.A.in1.in1 := hr.in1.in1
  refine wpAny_mono (lam_call (v := .ref a) (u := .ref a) (Q := fun v H3 => ∃ p, v = .ref p ∧ Ex T H2 H3 ∧ H3 p = some (.lst (vz (key r)))) I2 hL2 S (hbind _) hr2 I2.env0.in1.in1 rfl fun cd hr3 => ⟨tb, hbody _ f cd _ _ _ _ hr3, ?_⟩) (fun u s3 hu => KeyEnds.of I2 hu) fun _ _ z => z
  exact hkey a r H2 ha hl H2 .refl _ fun p H3 hp e3 h3 => ⟨p, rfl, e3, h3⟩
/-- a def of the program's -/
theorem canKey_def {CX : CXT} {x : Str} {k : Nat} {sp : Sp} {f : Addr} {fd : FuncData} {ps : List Str} {key : List Int → List Int} (F : FnOk X.prog X.w X.K X.mg X.base CX0 k f fd ps sp) (b : Binds X.K fd ps []) (hr : Room (k + 2) X.A)
    (hsp : ∀ (a : Addr) (r : List Int) (H : Hp) (Q : VK), H a = some (.lst (vz r)) → r.length ≤ 900 → (∀ p H', Ex T H H' → H' p = some (.lst (vz (key r))) → Q (.ref p) H') → sp [.ref a] H Q E0) : CanKey X T H f key := by
  intro pins2 σ2 H2 s2 a r I2 e2 ha hl
  have hs : sp [.ref a] H2 (fun v H3 => ∃ p, v = .ref p ∧ Ex T H2 H3 ∧ H3 p = some (.lst (vz (key r)))) E0 := hsp a r H2 _ ha hl fun p H3 e3 h3 => ⟨p, rfl, e3, h3⟩
  have hlen := F.len _ _ _ _ hs
  have hb := b s2 [.ref a] I2.kIn hlen
  rw [List.append_nil] at hb
  refine wpAny_call (codeAny_mono (F.run X.A.in1.in1 X.stack s2 H2 ⟨[.ref a], []⟩ [.ref a] [.ref a] _ E0 hr.in1.in1 I2.env0.in1.in1 hb (.cons rfl .nil) hs) fun r s3 hw => ?_)
  cases r with
  | error e => exact (show False from hw).elim
  | ok fl =>
    cases fl with
    | ret u => exact KeyEnds.of I2 hw
    | next => exact False.elim hw
    | brk => exact False.elim hw
    | cont => exact False.elim hw
/-! ### sorted(xs, key=f) -/
def rSortK (X : Cx) (T : Tb) (key : List Int → List Int) : List V → List V → Hp → VK → Prop := fun xs zs H Q => ∃ l f as rs, xs = [.ref l] ∧ zs = [.ref f] ∧ SqL X.K H l (as.map V.ref) ∧ LLs H as rs ∧ (∀ r ∈ rs, r.length ≤ 900) ∧ CanKey X T H f key ∧
  ∀ q as' H', Ex T H H' → H q = none → H' q = some (.lst (as'.map V.ref)) → as'.Perm as → LLs H' as' (rs.mergeSort (kOrd key)) → Q (.ref q) H'
theorem call_sortK {key : List Int → List Int} {k : Nat} (hr : Room k X.A) : CallRK X (.builtin "sorted") [Str.ofString "key"] (rSortK X T key) := by
  intro pins s σ H xs zs us ws Q I r1 r2 h
  obtain ⟨l, f, as, rs, rfl, rfl, hl, hL, hlen, hC, q⟩ := h
  cases r1 with
  | cons a b =>
    cases b
    cases a
    cases r2 with
    | cons a b =>
      cases b
      cases a
      exact sorted_keyed (T := T) key I hl hL (by have := hr.un; omega) (fun more H1 s1 a r I1 e1 h1 hm => hC _ _ _ _ a r I1 e1 h1 (hlen r hm)) fun p as' H' s' I' e' hp hp' hperm hL' => ⟨.ref p, H', I', rfl, q p as' H' e' hp hp' hperm hL'⟩
end
section
variable {X : Cx} {T : Tb} {K : PySem.W.Frag} {σ : L2.St} {H : Hp} {ta tk : TE} {a : Addr} {as : List Addr} {rs : List (List Int)} {key : List Int → List Int}
def EvC (X : Cx) (T : Tb) (tk : TE) (σ : L2.St) (H : Hp) (key : List Int → List Int) : Prop := ∀ H1, Ex T H H1 → ∀ Q : VK, (∀ f H2, Ex T H1 H2 → CanKey X T H2 f key → Q (.ref f) H2) → tk σ H1 Q
theorem ec_lam (hT : LamX.Tabs T H) : EvC X T (tKey X T key) σ H key := fun H1 e Q q => ⟨e.t hT, fun f H2 e2 c => q f H2 e2 c⟩
theorem ec_def {f : Addr} (hc : ∀ H1, CanKey X T H1 f key) : EvC X T (tC (.ref f)) σ H key := fun H1 _ _ q => q f H1 .refl (hc H1)
/-- the rows sorted, in a new list: the same lists by another order -/
structure SortedLL (as : List Addr) (rs : List (List Int)) (H : Hp) (q : Addr) (as' : List Addr) (H' : Hp) : Prop where
  q0 : H q = none
  q1 : H' q = some (.lst (as'.map V.ref))
  perm : as'.Perm as
  ll : LLs H' as' rs
theorem er_sortK (ha : Ev T ta σ H (.ref a)) (hk : EvC X T tk σ H key) (h : SqL X.K H a (as.map V.ref)) (hL : LLs H as rs) (hl : ∀ r ∈ rs, r.length ≤ 900) :
    EvR T (tCKw (rSortK X T key) (tCons ta tNil) (tCons tk tNil)) σ H (fun H v H' => ∃ q as', v = .ref q ∧ SortedLL as (rs.mergeSort (kOrd key)) H q as' H') := fun H1 e Q f =>
  ha H1 e _ fun H2 e2 => hk H2 (e.trans e2) _ fun g H3 e3 hc => ⟨a, g, as, rs, rfl, rfl, ((e.trans e2).trans e3).sq h, hL.ex ((e.trans e2).trans e3), hl, hc, fun q as' H' e' h0 h1 hp hL' => f (.ref q) H' ((e2.trans e3).trans e') ⟨q, as', rfl, (e2.trans e3).n q h0, h1, hp, hL'⟩⟩
end
/-! ### a def whose code object is told -/
structure FunC (K : PySem.W.Frag) (x : Str) (st : Stmt) (f : Addr) (fd : FuncData) (c : Addr) : Prop where
  ex : ∃ (oc : Value) (od : Option Addr) (kV doc pm : Value) (an : Option Addr) (ct : Value) (osl : Array (Option Value)),
    fd = PySem.W.fnOf x x (defArgs st) (defBody st) (defScope st) .none kV doc pm an (.ref c) ct ∧ K.lookup f = some ⟨oc, od, .func fd, osl⟩ ∧ PySem.W.codeIn K (.ref c) x = true
  kp : PySem.W.keepIn K (.ref f) = true
theorem funC_mk {K : PySem.W.Frag} {x : Str} {st : Stmt} {f c : Addr} {oc : Value} {od an : Option Addr} {osl : Array (Option Value)} {kV doc pm ct : Value} (l : K.lookup f = some ⟨oc, od, .func (PySem.W.fnOf x x (defArgs st) (defBody st) (defScope st) .none kV doc pm an (.ref c) ct), osl⟩)
    (h : PySem.W.codeIn K (.ref c) x = true) (k : PySem.W.keepIn K (.ref f) = true) : FunC K x st f (PySem.W.fnOf x x (defArgs st) (defBody st) (defScope st) .none kV doc pm an (.ref c) ct) c := ⟨⟨oc, od, kV, doc, pm, an, ct, osl, rfl, l, h⟩, k⟩
theorem FunC.binds {K : PySem.W.Frag} {x : Str} {st : Stmt} {f c : Addr} {fd : FuncData} {ps : List Str} (F : FunC K x st f fd c)
    (h : ∀ (kV doc pm : Value) (an : Option Addr) (cdv ct : Value) (us : List Value), us.length = ps.length → bindArgs (PySem.W.fnOf x x (defArgs st) (defBody st) (defScope st) .none kV doc pm an cdv ct) ⟨us, []⟩ = pure (ps.zip us)) : L2.Binds K fd ps [] := by
  obtain ⟨oc, od, kV, doc, pm, an, ct, osl, e, _⟩ := F.ex
  rw [e]
  exact .all (h kV doc pm an (.ref c) ct)
structure DfC (K : PySem.W.Frag) (mg : Str → Option Value) (x : Str) (st : Stmt) (ps : List Str) (c : Addr) : Prop where
  ex : ∃ (f : Addr) (fd : FuncData), FunC K x st f fd c ∧ L2.Binds K fd ps [] ∧ mg x = some (.ref f)
section
variable {P : Program} {w : World} {K : PySem.W.Frag} {mg : Str → Option Value} {base : Heap} {x : Str} {st : Stmt} {N ps : List Str} {k : Nat} {sp : Sp} {f c : Addr} {fd : FuncData}
theorem FunC.ok (F : FunC K x st f fd c) (S : FnScope N ps (defScope st)) (len : ∀ vs H Q E, sp vs H Q E → vs.length = ps.length)
    (hbody : ∀ (A : Around) (outer : List Env) (s : Shared) (H : Hp) (vs : List V) (Q : VK) (E : XK), Room k (A.deeper (envOfC x (defScope st) s.heap.objs.size f (.ref c))) → sp vs H Q E →
      ∃ t, PSs (cxOf CX0 P w K mg base N x (defScope st) f (.ref c) A outer s H E).nox (defBody st) t ∧ t { nx := fun _ H' => Q .non H', rt := Q } (L2.start N vs) H) : FnOk P w K mg base CX0 (k + 1) f fd ps sp := by
  obtain ⟨oc, od, kV, doc, pm, an, ct, osl, rfl, lk, hcd⟩ := F.ex
  refine fn_of lk hcd S len fun A outer s H vs Q E hr h => ?_
  obtain ⟨t, ht, q⟩ := hbody A outer s H vs Q E hr h
  exact ⟨t, ht.nox, q⟩
theorem DfC.ca0 (D : DfC K mg x st ps c) (S : FnScope N ps (defScope st)) (len : ∀ vs H Q E, sp vs H Q E → vs.length = ps.length)
    (hbody : ∀ (A : Around) (outer : List Env) (s : Shared) (H : Hp) (vs : List V) (Q : VK) (E : XK) (f : Addr), Room k (A.deeper (envOfC x (defScope st) s.heap.objs.size f (.ref c))) → sp vs H Q E →
      ∃ t, PSs (cxOf CX0 P w K mg base N x (defScope st) f (.ref c) A outer s H E).nox (defBody st) t ∧ t { nx := fun _ H' => Q .non H', rt := Q } (L2.start N vs) H) : Ca CX0 P w K mg base (k + 1) x sp := by
  obtain ⟨f, fd, F, b, g⟩ := D.ex
  exact ⟨f, fd, ps, F.ok S len fun A outer s H vs Q E hr h => hbody A outer s H vs Q E f hr h, g, F.kp, b⟩
theorem DfC.caX (D : DfC K mg x st ps c) (S : FnScope N ps (defScope st)) (len : ∀ vs H Q E, sp vs H Q E → vs.length = ps.length)
    (hbody : ∀ (A : Around) (outer : List Env) (s : Shared) (H : Hp) (vs : List V) (Q : VK) (E : XK) (f : Addr), Room k (A.deeper (envOfC x (defScope st) s.heap.objs.size f (.ref c))) → sp vs H Q E →
      ∃ t, PSs (cxOf (L2.CX P w) P w K mg base N x (defScope st) f (.ref c) A outer s H E) (defBody st) t ∧ t { nx := fun _ H' => Q .non H', rt := Q } (L2.start N vs) H) : Ca (L2.CX P w) P w K mg base (k + 1) x sp := by
  obtain ⟨f, fd, F, b, g⟩ := D.ex
  obtain ⟨oc, od, kV, doc, pm, an, ct, osl, rfl, lk, hcd⟩ := F.ex
  exact ⟨f, _, ps, fn_of lk hcd S len fun A outer s H vs Q E hr h => hbody A outer s H vs Q E f hr h, g, F.kp, b⟩
/-- the table of a def's code object -/
theorem tab_is {oc ec : Value} {od dc : Option Addr} {osl slc : Array (Option Value)} {vs : Array Value} {T : Addr} (a : PySem.W.nsIn K mainGlobals x = some (some (.ref f))) (l : K.lookup f = some ⟨oc, od, .func fd, osl⟩) (hc : fd.code = .ref c) (lc : K.lookup c = some ⟨ec, dc, .fields vs, slc⟩) (vt : vs[11]? = some (.ref T)) : PySem.W.tabIn K x = some (c, T) := by
  unfold PySem.W.tabIn
  rw [a]
  dsimp only
  rw [l]
  dsimp only
  rw [hc]
  dsimp only
  rw [lc]
  dsimp only
  rw [vt]
end
/-- what the end tells of tables -/
def TabsTold (q : Program) (K : PySem.W.Frag) (h : Heap) : Prop := ∀ (y : Str) (c P : Addr), ((recsOf q).any fun e => e.name == y) = true → PySem.W.tabIn K y = some (c, P) → PySem.W.CodeHd h c P ∧ h.get? P = some { cls := .none, data := .fields #[] }
theorem walk_tab {l : PySem.W.OpenLaw} {n k : Nat} {q : Program} {loose : List Str} {XP : (Str → Option Value) → Heap → Prop} {YP : World → Heap → Prop} {d : DefRec} {K : Params → PySem.W.Frag} {CX : World → CXT} {x : Str}
    (hn : l.most = some n) (hn2 : n ≤ sizeLine) (hdf : d.params.defaults = []) (hr : Room k callerA) (hY : ∀ (w : World) (h : Heap), YP w h → (K w.params).In h)
    (F : ∀ (w : World) (mg : Str → Option Value) (fa : Addr) (h : Heap), YP w h → (K w.params).In h → h.Ns mainGlobals mg → mg d.name = some (.ref fa) → TabsTold q (K w.params) h → LamX.LawAtS l w (K w.params) (CX w) k n x mg fa h)
    (hCX : ∀ (w : World) (H : Hp) (s : Shared) (e : Value) (s' : Shared), CX w [] H s (fun _ _ _ => False) e s' → False) :
    PySem.W.WalkO q loose XP YP l.row.toRowW d [] (fun f us => PySem.call f us) := by
  refine Att.attach_callB hn hdf fun w s₀ s₁ mg mb fa o pm cd doc a us ns G Y ho hd hcd hmg hobj hints hlen hbits hg => ?_
  have KX := hY w _ Y
  have told : TabsTold q (K w.params) s₁.heap := fun y c P h1 h2 => by
    cases hf : (recsOf q).find? fun e => e.name == y with
    | some r => exact PySem.W.tab_of G.T KX hf h2
    | none =>
      obtain ⟨r, hm, hy⟩ := List.any_eq_true.mp h1
      exact absurd hy (List.find?_eq_none.mp hf r hm)
  obtain ⟨fd, cs, sp, hT, nT, C, hb, hsp, hF⟩ := F w mg fa _ Y KX G.T.g hmg told
  exact LamX.law_callTs KX G.T.g G.T.b G.T.builtins G.T.nolimit hg hT nT C G.T.bmain hobj hints (Nat.le_trans hlen hn2) hr hF hb
    (fun H hH hS => hsp H a ns hlen hbits hH hS) fun H e s' => hCX w H s₁ e s'
theorem ev_callR3 {T : Tb} {σ : L2.St} {H : Hp} {sp : Sp} {E : XK} {t1 t2 t3 : TE} {R : Hp → V → Hp → Prop} {y w z : V} (h1 : EvR T t1 σ H R) (h2 : Ev T t2 σ H y) (h3 : Ev T t3 σ H w)
    (hs : ∀ x Ha Hb H1, Ex T H Ha → Ex T Ha Hb → Ex T Hb H1 → R Ha x Hb → ∀ Q : VK, (∀ H2, Ex T H1 H2 → Q z H2) → sp [x, y, w] H1 Q E) : Ev T (tCall sp [] E (tCons t1 (tCons t2 (tCons t3 tNil)))) σ H z := fun H1 e Q q =>
  h1 H1 e _ fun x H2 e2 r => h2 H2 (e.trans e2) _ fun H3 e3 => h3 H3 (e.trans (e2.trans e3)) _ fun H4 e4 => hs x H1 H2 H4 e e2 (e3.trans e4) r Q fun H5 e5 => q H5 (e2.trans (e3.trans (e4.trans e5)))
/-! ### lists of ints in order -/
theorem lt_I (ns ms : List Int) : PySem.W.dataLt (dI ns) (dI ms) = decide (ns < ms) := by
  unfold dI
  rw [PySem.W.dataLt_list]
  exact PySem.W.dataLt_ints ns ms
def rLtI (K : PySem.W.Frag) : R2 := fun x y H Q => ∃ a b ns ms, x = .ref a ∧ y = .ref b ∧ SqL K H a (vz ns) ∧ SqL K H b (vz ms) ∧ Q (.bl (decide (ns < ms))) H
def rGtI (K : PySem.W.Frag) : R2 := fun x y H Q => ∃ a b ns ms, x = .ref a ∧ y = .ref b ∧ SqL K H a (vz ns) ∧ SqL K H b (vz ms) ∧ Q (.bl (decide (ms < ns))) H
def rGeI (K : PySem.W.Frag) : R2 := fun x y H Q => ∃ a b ns ms, x = .ref a ∧ y = .ref b ∧ SqL K H a (vz ns) ∧ SqL K H b (vz ms) ∧ Q (.bl (!decide (ns < ms))) H
section
variable {X : Cx} {T : Tb} {K : PySem.W.Frag} {σ : L2.St} {H : Hp} {ta tb : TE} {ns ms : List Int}
theorem op_ltI (hu : X.A.units + 64 < cLine) : OpR X (compareOp .Lt) (rLtI X.K) := by
  intro pins s σ H x y v u Q I rx ry h
  obtain ⟨a, b, ns, ms, rfl, rfl, ha, hb, q⟩ := h
  obtain ⟨as, ra⟩ := Dp.reads I (dI ns) _ v (dp_I ha) rx
  obtain ⟨bs, rb⟩ := Dp.reads I (dI ms) _ u (dp_I hb) ry
  exact PySem.W.lt_data ra rb (alike_I ns ms) (fun z => by cases z) (by rw [dep_I, dep_I]; show X.A.units + 1 < cLine; omega) ⟨.bl (decide (ns < ms)), H, I, by rw [lt_I]; rfl, q⟩
theorem op_gtI (hu : X.A.units + 64 < cLine) : OpR X (compareOp .Gt) (rGtI X.K) := by
  intro pins s σ H x y v u Q I rx ry h
  obtain ⟨a, b, ns, ms, rfl, rfl, ha, hb, q⟩ := h
  obtain ⟨as, ra⟩ := Dp.reads I (dI ns) _ v (dp_I ha) rx
  obtain ⟨bs, rb⟩ := Dp.reads I (dI ms) _ u (dp_I hb) ry
  exact PySem.W.gt_data ra rb (alike_I ns ms) (fun z => by cases z) (by rw [dep_I, dep_I]; show X.A.units + 1 < cLine; omega) ⟨.bl (decide (ms < ns)), H, I, by rw [lt_I]; rfl, q⟩
theorem op_geI (hu : X.A.units + 64 < cLine) : OpR X (compareOp .GtE) (rGeI X.K) := by
  intro pins s σ H x y v u Q I rx ry h
  obtain ⟨a, b, ns, ms, rfl, rfl, ha, hb, q⟩ := h
  obtain ⟨as, ra⟩ := Dp.reads I (dI ns) _ v (dp_I ha) rx
  obtain ⟨bs, rb⟩ := Dp.reads I (dI ms) _ u (dp_I hb) ry
  exact PySem.W.ge_data ra rb (alike_I ns ms) (fun z => by cases z) (by rw [dep_I, dep_I]; show X.A.units + 1 < cLine; omega) ⟨.bl (!decide (ns < ms)), H, I, by rw [lt_I]; rfl, q⟩
theorem ev_ltNN (ha : EvL T ta σ H (vz ns)) (hb : EvL T tb σ H (vz ms)) : Ev T (tOp (rLtI K) ta tb) σ H (.bl (decide (ns < ms))) := fun H1 e Q q =>
  ha H1 e _ fun a H2 _ e2 h2 => hb H2 (e.trans e2) _ fun b H3 _ e3 h3 => ⟨a, b, ns, ms, rfl, rfl, SqL.of (e3.lst h2), SqL.of h3, q H3 (e2.trans e3)⟩
theorem ev_gtNN (ha : EvL T ta σ H (vz ns)) (hb : EvL T tb σ H (vz ms)) : Ev T (tOp (rGtI K) ta tb) σ H (.bl (decide (ms < ns))) := fun H1 e Q q =>
  ha H1 e _ fun a H2 _ e2 h2 => hb H2 (e.trans e2) _ fun b H3 _ e3 h3 => ⟨a, b, ns, ms, rfl, rfl, SqL.of (e3.lst h2), SqL.of h3, q H3 (e2.trans e3)⟩
theorem ev_geNN (ha : EvL T ta σ H (vz ns)) (hb : EvL T tb σ H (vz ms)) : Ev T (tOp (rGeI K) ta tb) σ H (.bl (!decide (ns < ms))) := fun H1 e Q q =>
  ha H1 e _ fun a H2 _ e2 h2 => hb H2 (e.trans e2) _ fun b H3 _ e3 h3 => ⟨a, b, ns, ms, rfl, rfl, SqL.of (e3.lst h2), SqL.of h3, q H3 (e2.trans e3)⟩
end
/-- the key of a row -/
theorem el_keyLam {T : Tb} {K : PySem.W.Frag} {σ : L2.St} {H : Hp} {a : Addr} {r : List Int} {i : Nat} (hi : σ[i]? = some (some (.ref a))) (ha : H a = some (.lst (vz r))) (hl : r.length ≤ 900) :
    EvL T (tOp rCat (tLst (tCons (tCB (rSum K) (tCons (tVar i) tNil)) tNil)) (tVar i)) σ H (vz (r.sum :: r)) :=
  el_catNL (xs := [.int r.sum]) (el_lst (ea_cons (ev_sum (ev_var hi) (SqL.of ha)) ea_nil) (show 1 ≤ 1000 by decide)) (ev_var hi) ha (by rw [List.length_map]; show 1 + r.length ≤ 1000; omega)
abbrev rowKey (r : List Int) : List Int := r.sum :: r
abbrev ksort (rs : List (List Int)) : List (List Int) := rs.mergeSort (kOrd rowKey)
end Sm

/-! SmR: the numbers: parts, roots. -/
namespace Sm
/-! ### lists of so many numbers in order with a product of at most so much -/
def partsL : Nat → Nat → Nat → List (List Int)
  | 0, _, _ => [[]]
  | k + 1, l, M => (List.range (M + 1 - l)).flatMap fun i => (partsL k (l + i) (M / (l + i))).map fun tl => ((l + i : Nat) : Int) :: tl
theorem mem_partsL : ∀ {k l M : Nat} {f : List Int}, 1 ≤ l → (f ∈ partsL k l M ↔ f.length = k ∧ (∀ n ∈ f, (l : Int) ≤ n) ∧ f.Pairwise (· ≤ ·) ∧ (k = 0 ∨ prd f ≤ (M : Int)))
  | 0, l, M, f, hl => by
    show f ∈ [[]] ↔ _
    rw [List.mem_singleton]
    constructor
    · rintro rfl
      exact ⟨rfl, (fun _ h => nomatch h), .nil, .inl rfl⟩
    · rintro ⟨h, _⟩
      exact List.length_eq_zero_iff.mp h
  | k + 1, l, M, f, hl => by
    unfold partsL
    rw [List.mem_flatMap]
    constructor
    · rintro ⟨i, hi, hf⟩
      rw [List.mem_range] at hi
      obtain ⟨tl, htl, rfl⟩ := List.mem_map.mp hf
      obtain ⟨h1, h2, h3, h4⟩ := (mem_partsL (by omega)).mp htl
      refine ⟨by rw [List.length_cons, h1], fun n hn => ?_, List.pairwise_cons.mpr ⟨fun n hn => h2 n hn, h3⟩, .inr ?_⟩
      · rcases List.mem_cons.mp hn with e | hn
        · rw [e]; omega
        · have := h2 n hn; omega
      · show ((l + i : Nat) : Int) * prd tl ≤ M
        rcases h4 with h4 | h4
        · subst h4
          rw [List.length_eq_zero_iff.mp h1]
          show ((l + i : Nat) : Int) * 1 ≤ M
          omega
        · have h5 : ((M / (l + i) : Nat) : Int) * ((l + i : Nat) : Int) ≤ (M : Int) := by
            rw [← Int.natCast_mul]
            exact Int.ofNat_le.mpr (Nat.div_mul_le_self M (l + i))
          have h6 : prd tl * ((l + i : Nat) : Int) ≤ ((M / (l + i) : Nat) : Int) * ((l + i : Nat) : Int) := Int.mul_le_mul_of_nonneg_right h4 (by omega)
          rw [Int.mul_comm]
          omega
    · rintro ⟨h1, h2, h3, h4⟩
      cases f with
      | nil => cases h1
      | cons n tl =>
        have hn := h2 n List.mem_cons_self
        obtain ⟨h5, h6⟩ := List.pairwise_cons.mp h3
        have hp : n * prd tl ≤ (M : Int) := by
          rcases h4 with h4 | h4
          · omega
          · exact h4
        obtain ⟨N, rfl⟩ := Int.eq_ofNat_of_zero_le (show 0 ≤ n by omega)
        have htp : 1 ≤ prd tl := prd_pos fun m hm => by have := h5 m hm; omega
        have hN : (N : Int) ≤ M := by
          have : (N : Int) * 1 ≤ (N : Int) * prd tl := Int.mul_le_mul_of_nonneg_left htp (by omega)
          omega
        refine ⟨N - l, by rw [List.mem_range]; omega, List.mem_map.mpr ⟨tl, ?_, by rw [show l + (N - l) = N by omega]⟩⟩
        have e : l + (N - l) = N := by omega
        rw [e]
        refine (mem_partsL (by omega)).mpr ⟨by rw [List.length_cons] at h1; omega, fun m hm => h5 m hm, h6, .inr ?_⟩
        have hd : ((M / N : Nat) : Int) = (M : Int) / (N : Int) := Int.natCast_ediv M N
        rw [hd]
        exact Int.le_ediv_of_mul_le (by omega) (by rw [Int.mul_comm]; exact hp)
theorem partsL_len : ∀ {k l M : Nat}, 1 ≤ l → M ≤ 6 → (partsL k l M).length ≤ 6 ^ k
  | 0, _, _, _, _ => Nat.le_refl 1
  | k + 1, l, M, hl, hM => by
    unfold partsL
    have h : ∀ n, (∀ i, i < n → l + i ≤ M) → ((List.range n).flatMap fun i => (partsL k (l + i) (M / (l + i))).map fun tl => ((l + i : Nat) : Int) :: tl).length ≤ n * 6 ^ k := by
      intro n
      induction n with
      | zero => intro _; simp
      | succ n ih =>
        intro hn
        have h1 := ih fun i hi => hn i (by omega)
        have h2 := partsL_len (k := k) (l := l + n) (M := M / (l + n)) (by omega) (Nat.le_trans (Nat.div_le_self _ _) hM)
        rw [List.range_succ, List.flatMap_append, List.length_append, Nat.succ_mul]
        simp only [List.flatMap_cons, List.flatMap_nil, List.append_nil, List.length_map]
        omega
    have h1 := h (M + 1 - l) fun i hi => by omega
    have h2 : (M + 1 - l) * 6 ^ k ≤ 6 * 6 ^ k := Nat.mul_le_mul_right _ (by omega)
    rw [Nat.pow_succ, Nat.mul_comm (6 ^ k)]
    omega
/-! ### whole roots -/
def wrtF : Nat → Int → Int → Int → Int
  | 0, l, _, _ => l
  | k + 1, l, h, n => if 1 < h - l then (if (l + h) / 2 * ((l + h) / 2) ≤ n then wrtF k ((l + h) / 2) h n else wrtF k l ((l + h) / 2) n) else l
def wrt (n : Int) : Option Int := if wrtF 40 0 (n + 1) n * wrtF 40 0 (n + 1) n = n then some (wrtF 40 0 (n + 1) n) else none
theorem sq_le {a b : Int} (h0 : 0 ≤ a) (h : a ≤ b) : a * a ≤ b * b := Int.mul_le_mul h h h0 (by omega)
theorem sq_lt {a b : Int} (h0 : 0 ≤ a) (h : a < b) : a * a < b * b := by
  have h1 : a * b ≤ b * b := Int.mul_le_mul_of_nonneg_right (by omega) (by omega)
  have h2 : a * a ≤ a * b := Int.mul_le_mul_of_nonneg_left (by omega) h0
  rcases Int.lt_or_eq_of_le h0 with h3 | h3
  · have h4 : a * a < a * b := Int.mul_lt_mul_of_pos_left h h3
    omega
  · subst h3
    have : 0 < b * b := Int.mul_pos h h
    omega
theorem wrtF_spec : ∀ (k : Nat) (l h n : Int), 0 ≤ l → l < h → l * l ≤ n → n < h * h → h - l ≤ 2 ^ k → 0 ≤ wrtF k l h n ∧ wrtF k l h n * wrtF k l h n ≤ n ∧ n < (wrtF k l h n + 1) * (wrtF k l h n + 1)
  | 0, l, h, n, h0, hl, h1, h2, h3 => by
    have e : h = l + 1 := by
      rw [Int.pow_zero] at h3
      omega
    subst e
    exact ⟨h0, h1, h2⟩
  | k + 1, l, h, n, h0, hl, h1, h2, h3 => by
    unfold wrtF
    rw [Int.pow_succ] at h3
    by_cases hc : 1 < h - l
    · rw [if_pos hc]
      by_cases hm : (l + h) / 2 * ((l + h) / 2) ≤ n
      · rw [if_pos hm]
        exact wrtF_spec k _ h n (by omega) (by omega) hm h2 (by omega)
      · rw [if_neg hm]
        exact wrtF_spec k l _ n h0 (by omega) h1 (by omega) (by omega)
    · rw [if_neg hc]
      have e : h = l + 1 := by omega
      subst e
      exact ⟨h0, h1, h2⟩
theorem wrt_spec {n : Int} (hn : n < 2 ^ 39) {r : Int} : wrt n = some r ↔ 0 ≤ r ∧ r * r = n := by
  have h2 : (2 : Int) ^ 40 = 2 * 2 ^ 39 := by decide
  unfold wrt
  by_cases h0 : 0 ≤ n
  · have hs := wrtF_spec 40 0 (n + 1) n (Int.le_refl 0) (by omega) (by omega) (by
      have : (n + 1) * 1 ≤ (n + 1) * (n + 1) := Int.mul_le_mul_of_nonneg_left (by omega) (by omega)
      omega) (by omega)
    generalize wrtF 40 0 (n + 1) n = z at hs
    constructor
    · intro h
      split at h
      · rename_i hz
        cases h
        exact ⟨hs.1, hz⟩
      · cases h
    · rintro ⟨hr, e⟩
      have ez : z = r := by
        rcases Int.lt_trichotomy z r with h | h | h
        · have := sq_le (a := z + 1) (b := r) (by omega) (by omega)
          omega
        · exact h
        · have := sq_lt hr h
          omega
      rw [ez, if_pos e]
  · have hw : wrtF 40 0 (n + 1) n = 0 := by
      show (if 1 < n + 1 - 0 then _ else (0 : Int)) = 0
      rw [if_neg (by omega)]
    rw [hw]
    constructor
    · intro h
      split at h
      · omega
      · cases h
    · rintro ⟨hr, e⟩
      have : 0 ≤ r * r := Int.mul_nonneg hr hr
      omega
/-! ### the two greatest numbers of a root -/
def disc (a r s : Int) : Int := a * a * s * s - 4 * (s * s + r)
def oneEnd (a r : Int) (few : List Int) (s : Int) : List (List Int) := match wrt (disc a r s) with
  | some far => if (a * s - far) % 2 = 0 ∧ s ≤ (a * s - far) / 2 then [few ++ [s, (a * s - far) / 2]] else []
  | none => []
def endsF (a r : Int) (few : List Int) : Nat → Int → List (List Int)
  | 0, _ => []
  | k + 1, s => if (a - 2) * s * s ≤ r then oneEnd a r few s ++ endsF a r few k (s + 1) else []
def lastD (few : List Int) : Int := few.getD (few.length - 1) 0
def endsL (t : Int) (few : List Int) : List (List Int) := endsF (t * prd few) (sqs few) few (sqs few + 1 - lastD few).toNat (lastD few)
theorem mem_oneEnd {a r s : Int} {few x : List Int} (hb : disc a r s < 2 ^ 39) : x ∈ oneEnd a r few s ↔ ∃ g far, 0 ≤ far ∧ far * far = disc a r s ∧ a * s - far = 2 * g ∧ s ≤ g ∧ x = few ++ [s, g] := by
  unfold oneEnd
  constructor
  · intro h
    split at h
    · rename_i far hw
      obtain ⟨h0, h1⟩ := (wrt_spec hb).mp hw
      split at h
      · rename_i hc
        rw [List.mem_singleton] at h
        exact ⟨(a * s - far) / 2, far, h0, h1, by omega, hc.2, h⟩
      · cases h
    · cases h
  · rintro ⟨g, far, h0, h1, h2, h3, rfl⟩
    have hw := (wrt_spec hb).mpr ⟨h0, h1⟩
    rw [hw]
    dsimp only
    have hg : (a * s - far) / 2 = g := by omega
    rw [hg, if_pos ⟨by omega, h3⟩]
    exact List.mem_singleton_self _
theorem mul_assoc3 (a b : Int) : a * b * b = a * (b * b) := Int.mul_assoc a b b
theorem mem_endsF {a r : Int} {few x : List Int} (ha : 3 ≤ a) : ∀ (k : Nat) (s0 : Int), 1 ≤ s0 → (r + 1 - s0).toNat ≤ k → (x ∈ endsF a r few k s0 ↔ ∃ s, s0 ≤ s ∧ (a - 2) * (s * s) ≤ r ∧ x ∈ oneEnd a r few s)
  | 0, s0, h1, hk => by
    constructor
    · intro h; cases h
    · rintro ⟨s, hs, hc, _⟩
      have h2 : 1 * (s * s) ≤ (a - 2) * (s * s) := Int.mul_le_mul_of_nonneg_right (by omega) (Int.mul_nonneg (by omega) (by omega))
      have h3 : 1 * s ≤ s * s := Int.mul_le_mul_of_nonneg_right (by omega) (by omega)
      omega
  | k + 1, s0, h1, hk => by
    unfold endsF
    rw [mul_assoc3]
    by_cases hc : (a - 2) * (s0 * s0) ≤ r
    · rw [if_pos hc, List.mem_append, mem_endsF ha k (s0 + 1) (by omega) (by omega)]
      constructor
      · rintro (h | ⟨s, hs, h2, h3⟩)
        · exact ⟨s0, Int.le_refl _, hc, h⟩
        · exact ⟨s, by omega, h2, h3⟩
      · rintro ⟨s, hs, h2, h3⟩
        by_cases he : s = s0
        · subst he; exact .inl h3
        · exact .inr ⟨s, by omega, h2, h3⟩
    · rw [if_neg hc]
      constructor
      · intro h; cases h
      · rintro ⟨s, hs, h2, _⟩
        have h3 := sq_le (a := s0) (b := s) (by omega) hs
        have h4 : (a - 2) * (s0 * s0) ≤ (a - 2) * (s * s) := Int.mul_le_mul_of_nonneg_left h3 (by omega)
        omega
/-! ### all roots -/
def rawRoots (t : Int) (m : Nat) : List (List Int) := (partsL (m - 2) 1 ((m : Int) / t).toNat).flatMap fun few => if 2 < t * prd few then endsL t few else []
def rootsL (t : Int) (m : Nat) : List (List Int) := ksort (rawRoots t m)
/-- what stands in the beginning of a root -/
structure Few (t : Int) (m : Nat) (few : List Int) : Prop where
  len : few.length = m - 2
  pos : ∀ n ∈ few, 1 ≤ n
  ord : few.Pairwise (· ≤ ·)
  ge : 3 ≤ t * prd few
  le : t * prd few ≤ m
theorem few_mem {t : Int} {m : Nat} {few : List Int} (ht : 1 ≤ t) (hm : 3 ≤ m) : few ∈ partsL (m - 2) 1 ((m : Int) / t).toNat ∧ 2 < t * prd few ↔ Few t m few := by
  have h0 : 0 ≤ (m : Int) / t := Int.ediv_nonneg (by omega) (by omega)
  rw [mem_partsL (Nat.le_refl 1), Int.toNat_of_nonneg h0]
  constructor
  · rintro ⟨⟨h1, h2, h3, h4⟩, h5⟩
    refine ⟨h1, fun n hn => h2 n hn, h3, by omega, ?_⟩
    rcases h4 with h4 | h4
    · omega
    · have h6 : prd few * t ≤ (m : Int) / t * t := Int.mul_le_mul_of_nonneg_right h4 (by omega)
      have h7 := Int.ediv_mul_le (m : Int) (show t ≠ 0 by omega)
      rw [Int.mul_comm]
      omega
  · intro h
    refine ⟨⟨h.len, fun n hn => h.pos n hn, h.ord, .inr (Int.le_ediv_of_mul_le (by omega) (by rw [Int.mul_comm]; exact h.le))⟩, by have := h.ge; omega⟩
theorem mem_raw {t : Int} {m : Nat} {x : List Int} (ht : 1 ≤ t) (hm : 3 ≤ m) : x ∈ rawRoots t m ↔ ∃ few, Few t m few ∧ x ∈ endsL t few := by
  unfold rawRoots
  rw [List.mem_flatMap]
  constructor
  · rintro ⟨few, h1, h2⟩
    by_cases hc : 2 < t * prd few
    · rw [if_pos hc] at h2
      exact ⟨few, (few_mem ht hm).mp ⟨h1, hc⟩, h2⟩
    · rw [if_neg hc] at h2
      cases h2
  · rintro ⟨few, h1, h2⟩
    have h3 := (few_mem ht hm).mpr h1
    exact ⟨few, h3.1, by rw [if_pos h3.2]; exact h2⟩
theorem mem_roots {t : Int} {m : Nat} {x : List Int} : x ∈ rootsL t m ↔ x ∈ rawRoots t m := by
  unfold rootsL
  exact List.mem_mergeSort
section
variable {t : Int} {m : Nat} {few : List Int}
theorem Few.each (h : Few t m few) (ht : 1 ≤ t) (hm : m ≤ 6) {n : Int} (hn : n ∈ few) : n ≤ 6 := by
  have hq := List.perm_cons_erase hn
  have e := prd_perm hq
  have h1 : 1 ≤ prd (few.erase n) := prd_pos fun k hk => h.pos k (List.mem_of_mem_erase hk)
  have h2 := h.pos n hn
  have h3 : 1 ≤ prd few := prd_pos h.pos
  have h4 : n * 1 ≤ n * prd (few.erase n) := Int.mul_le_mul_of_nonneg_left h1 (by omega)
  have h5 : 1 * prd few ≤ t * prd few := Int.mul_le_mul_of_nonneg_right ht (by omega)
  have h6 := h.le
  have e2 : prd few = n * prd (few.erase n) := e
  omega
theorem sqs_small : ∀ {ns : List Int}, (∀ n ∈ ns, 0 ≤ n ∧ n ≤ 6) → sqs ns ≤ 36 * ns.length
  | [], _ => by show (0 : Int) ≤ 36 * ((0 : Nat) : Int); omega
  | n :: r, h => by
    have h1 := h n List.mem_cons_self
    have h2 := sqs_small (ns := r) fun k hk => h k (List.mem_cons_of_mem _ hk)
    have h3 := sq_le h1.1 h1.2
    show n * n + sqs r ≤ 36 * ((r.length + 1 : Nat) : Int)
    omega
theorem Few.sq (h : Few t m few) (ht : 1 ≤ t) (hm : m ≤ 6) : sqs few ≤ 144 := by
  have h1 := sqs_small (ns := few) fun n hn => ⟨by have := h.pos n hn; omega, h.each ht hm hn⟩
  have := h.len
  omega
theorem Few.ne (h : Few t m few) (hm : 3 ≤ m) : 0 < few.length := by
  have := h.len
  omega
theorem Few.last (h : Few t m few) (hm : 3 ≤ m) : lastD few ∈ few := getD_mem (by have := h.ne hm; omega)
/-- the numbers that come into question are small -/
theorem sec_small {a r s : Int} (ha : 3 ≤ a) (hs : 1 ≤ s) (h : (a - 2) * (s * s) ≤ r) (hr : r ≤ 144) : s ≤ 12 := by
  have h1 : 1 * (s * s) ≤ (a - 2) * (s * s) := Int.mul_le_mul_of_nonneg_right (by omega) (Int.mul_nonneg (by omega) (by omega))
  rcases Int.lt_or_le 12 s with h2 | h2
  · have := sq_le (a := 13) (b := s) (by omega) (by omega)
    omega
  · exact h2
theorem disc_lt {a r s : Int} (ha : 3 ≤ a) (h6 : a ≤ 6) (hs : 1 ≤ s) (h12 : s ≤ 12) (hr : 0 ≤ r) : disc a r s < 10000 := by
  unfold disc
  have h1 := sq_le (a := a) (b := 6) (by omega) h6
  have h2 := sq_le (a := s) (b := 12) (by omega) h12
  have h0 : 0 ≤ s * s := Int.mul_nonneg (by omega) (by omega)
  have h3 : a * a * (s * s) ≤ 36 * 144 := Int.mul_le_mul (by omega) (by omega) h0 (by omega)
  rw [mul_assoc3]
  omega
theorem mem_ends (h : Few t m few) (ht : 1 ≤ t) (hm : 3 ≤ m ∧ m ≤ 6) {x : List Int} : x ∈ endsL t few ↔ ∃ s g far, lastD few ≤ s ∧ (t * prd few - 2) * (s * s) ≤ sqs few ∧ 0 ≤ far ∧ far * far = disc (t * prd few) (sqs few) s ∧ t * prd few * s - far = 2 * g ∧ s ≤ g ∧ x = few ++ [s, g] := by
  have hl := h.pos _ (h.last hm.1)
  have hr := h.sq ht hm.2
  have hr0 := sqs_nn few
  unfold endsL
  rw [mem_endsF h.ge _ _ hl (Nat.le_refl _)]
  constructor
  · rintro ⟨s, hs, hc, hx⟩
    have h12 := sec_small h.ge (by omega) hc hr
    obtain ⟨g, far, h1, h2, h3, h4, h5⟩ := (mem_oneEnd (Int.lt_trans (disc_lt h.ge (by have := h.le; omega) (by omega) h12 hr0) (by decide))).mp hx
    exact ⟨s, g, far, hs, hc, h1, h2, h3, h4, h5⟩
  · rintro ⟨s, g, far, hs, hc, h1, h2, h3, h4, h5⟩
    have h12 := sec_small h.ge (by omega) hc hr
    exact ⟨s, hs, hc, (mem_oneEnd (Int.lt_trans (disc_lt h.ge (by have := h.le; omega) (by omega) h12 hr0) (by decide))).mpr ⟨g, far, h1, h2, h3, h4, h5⟩⟩
theorem sq_expand (x y : Int) : (x - y) * (x - y) = x * x - 2 * (x * y) + y * y := by
  rw [Int.sub_mul, Int.mul_sub, Int.mul_sub, Int.mul_comm y x]
  omega
theorem four_sq (g : Int) : 2 * g * (2 * g) = 4 * (g * g) := by
  rw [Int.mul_assoc, Int.mul_left_comm g 2 g]
  omega
theorem prd_two (few : List Int) (s g : Int) : prd (few ++ [s, g]) = prd few * (s * g) := by
  rw [prd_app]
  show prd few * (s * (g * 1)) = _
  rw [Int.mul_one]
theorem sqs_two (few : List Int) (s g : Int) : sqs (few ++ [s, g]) = sqs few + s * s + g * g := by
  rw [sqs_app]
  show sqs few + (s * s + (g * g + 0)) = _
  omega
theorem le_lastD {few : List Int} (h : few.Pairwise (· ≤ ·)) {n : Int} (hn : n ∈ few) : n ≤ lastD few := le_last h hn
/-- what the ends are -/
theorem ends_root (h : Few t m few) (ht : 1 ≤ t) (hm : 3 ≤ m ∧ m ≤ 6) {x : List Int} (hx : x ∈ endsL t few) : IsRow t x ∧ x.length = m ∧ rootB t x = true ∧ x.take (m - 2) = few ∧ ∀ n ∈ x, n ≤ 36 := by
  obtain ⟨s, g, far, hs, hc, h0, h1, h2, h3, rfl⟩ := (mem_ends h ht hm).mp hx
  have hl := h.pos _ (h.last hm.1)
  have h12 := sec_small h.ge (by omega) hc (h.sq ht hm.2)
  have hlen : (few ++ [s, g]).length = m := by
    rw [List.length_append, h.len]
    show m - 2 + 2 = m
    omega
  have hge := h.ge
  have hle := h.le
  have hmem : ∀ n ∈ few ++ [s, g], n ∈ few ∨ n = s ∨ n = g := fun n hn => by
    rcases List.mem_append.mp hn with hn | hn
    · exact .inl hn
    · rcases List.mem_cons.mp hn with e | hn
      · exact .inr (.inl e)
      · exact .inr (.inr (List.mem_singleton.mp hn))
  have has : t * prd few * s ≤ 6 * 12 := Int.mul_le_mul (by omega) h12 (by omega) (by omega)
  -- the equation
  have heq : sqs few + s * s + g * g = t * prd few * (s * g) := by
    have e1 : far = t * prd few * s - 2 * g := by omega
    have e2 := h1
    rw [e1, sq_expand, four_sq] at e2
    unfold disc at e2
    have e3 : t * prd few * s * (2 * g) = 2 * (t * prd few * (s * g)) := by rw [Int.mul_left_comm, Int.mul_assoc (t * prd few) s g]
    have e4 : t * prd few * s * (t * prd few * s) = t * prd few * (t * prd few) * s * s := by
      rw [Int.mul_assoc (t * prd few * (t * prd few)), Int.mul_assoc (t * prd few) s, Int.mul_left_comm s, ← Int.mul_assoc (t * prd few)]
    rw [e3, e4] at e2
    omega
  have hrow : IsRow t (few ++ [s, g]) := by
    refine ⟨fun n hn => ?_, ?_, ?_⟩
    · rcases hmem n hn with h4 | h4 | h4
      · exact h.pos n h4
      · omega
      · omega
    · refine List.pairwise_append.mpr ⟨h.ord, ?_, fun n hn k hk => ?_⟩
      · exact List.pairwise_cons.mpr ⟨fun k hk => by rw [List.mem_singleton.mp hk]; exact h3, List.pairwise_singleton _ _⟩
      · have h4 := le_lastD h.ord hn
        rcases List.mem_cons.mp hk with e | hk
        · omega
        · rw [List.mem_singleton.mp hk]; omega
    · rw [sqs_two, prd_two, heq, Int.mul_assoc]
  have htake : (few ++ [s, g]).take (m - 2) = few := by rw [← h.len]; exact List.take_left
  have hx1 : (few ++ [s, g]).getD (m - 1) 0 = g := by
    rw [List.getD_eq_getElem?_getD, List.getElem?_append_right (by rw [h.len]; omega), h.len, show m - 1 - (m - 2) = 1 by omega]
    rfl
  have hx2 : (few ++ [s, g]).getD (m - 2) 0 = s := by
    rw [List.getD_eq_getElem?_getD, List.getElem?_append_right (by rw [h.len]; omega), h.len, show m - 2 - (m - 2) = 0 by omega]
    rfl
  refine ⟨hrow, hlen, ?_, htake, fun n hn => ?_⟩
  · have hp : m - 1 < (few ++ [s, g]).length := by omega
    have hnew := new_last (t := t) (ns := few ++ [s, g]) (by omega)
    unfold rootB
    rw [hlen] at hnew ⊢
    rw [near_sum hp]
    rw [htake, hx1, hx2] at hnew
    rw [hnew, hx1]
    exact decide_eq_true (by omega)
  · rcases hmem n hn with h4 | h4 | h4
    · have := h.each ht hm.2 h4; omega
    · omega
    · omega
theorem roots_root {t : Int} {m : Nat} {x : List Int} (ht : 1 ≤ t) (hm : 3 ≤ m ∧ m ≤ 6) (hx : x ∈ rootsL t m) : IsRow t x ∧ x.length = m ∧ rootB t x = true ∧ (3 ≤ t * prd (x.take (m - 2)) ∧ t * prd (x.take (m - 2)) ≤ m) ∧ ∀ n ∈ x, n ≤ 36 := by
  obtain ⟨few, h1, h2⟩ := (mem_raw ht hm.1).mp (mem_roots.mp hx)
  obtain ⟨a1, a2, a3, a4, a5⟩ := ends_root h1 ht hm h2
  exact ⟨a1, a2, a3, by rw [a4]; exact ⟨h1.ge, h1.le⟩, a5⟩
theorem sqs_max : ∀ {ns : List Int} {y : Int}, (∀ n ∈ ns, 0 ≤ n ∧ n ≤ y) → sqs ns ≤ ns.length * (y * y)
  | [], y, _ => by
    show (0 : Int) ≤ ((0 : Nat) : Int) * (y * y)
    rw [show ((0 : Nat) : Int) = 0 from rfl, Int.zero_mul]
    exact Int.le_refl 0
  | n :: r, y, h => by
    have h1 := h n List.mem_cons_self
    have h2 := sqs_max (ns := r) (y := y) fun k hk => h k (List.mem_cons_of_mem _ hk)
    have h3 := sq_le h1.1 h1.2
    show n * n + sqs r ≤ ((r.length + 1 : Nat) : Int) * (y * y)
    rw [Int.natCast_add, Int.add_mul]
    show n * n + sqs r ≤ (r.length : Int) * (y * y) + 1 * (y * y)
    omega
/-- every root is told -/
theorem roots_all {t : Int} {m : Nat} {x : List Int} (ht : 1 ≤ t) (hm : 3 ≤ m ∧ m ≤ 6) (h : IsRow t x) (hl : x.length = m) (hr : rootB t x = true) : x ∈ rootsL t m := by
  have e := two_last (ns := x) (by omega)
  rw [hl] at e
  have hnew := new_last (t := t) (ns := x) (by omega)
  have h3 := three_le h (by omega)
  have hy : 1 ≤ x.getD (m - 2) 0 := h.pos _ (getD_mem (by omega))
  have hx1 : 1 ≤ x.getD (m - 1) 0 := h.pos _ (getD_mem (by omega))
  have hyx : x.getD (m - 2) 0 ≤ x.getD (m - 1) 0 := by
    have := le_last h.ord (n := x.getD (m - 2) 0) (getD_mem (by omega))
    rw [hl] at this
    exact this
  have hroot : x.getD (m - 1) 0 ≤ new t x (m - 1) := by
    unfold rootB at hr
    have h5 := of_decide_eq_true hr
    rw [near_sum (by omega), hl] at h5
    omega
  have hfy : ∀ n ∈ x.take (m - 2), n ≤ x.getD (m - 2) 0 := fun n hn => by
    obtain ⟨k, hk, e⟩ := List.getElem_of_mem hn
    rw [List.length_take] at hk
    rw [List.getElem_take] at e
    have h4 : m - 2 < x.length := by omega
    have g : x.getD (m - 2) 0 = x[m - 2] := by rw [List.getD_eq_getElem?_getD, List.getElem?_eq_getElem h4]; rfl
    rw [← e, g]
    exact (List.pairwise_iff_getElem.mp h.ord) k (m - 2) (by omega) h4 (by omega)
  have hfp : ∀ n ∈ x.take (m - 2), 1 ≤ n := fun n hn => h.pos n (List.mem_of_mem_take hn)
  have hflen : (x.take (m - 2)).length = m - 2 := by rw [List.length_take]; omega
  have hford : (x.take (m - 2)).Pairwise (· ≤ ·) := h.ord.sublist (List.take_sublist _ _)
  have hsq := sqs_max (ns := x.take (m - 2)) (y := x.getD (m - 2) 0) fun n hn => ⟨by have := hfp n hn; omega, hfy n hn⟩
  have heq := h.eq
  rw [hl] at hnew h3
  rw [hflen] at hsq
  generalize hf : x.take (m - 2) = few at *
  generalize hgy : x.getD (m - 2) 0 = y at *
  generalize hgx : x.getD (m - 1) 0 = z at *
  rw [e, sqs_two, prd_two, ← Int.mul_assoc] at heq
  rw [hnew] at hroot
  generalize ha : t * prd few = a at *
  -- (a - 2) y² ≤ the squares of the few
  have hp : 0 ≤ (z - y) * (a * y - z - y) := Int.mul_nonneg (by omega) (by omega)
  have e1 : (z - y) * (a * y - z - y) = a * (y * z) - z * z - a * (y * y) + y * y := by
    rw [Int.sub_mul, Int.mul_sub, Int.mul_sub, Int.mul_sub, Int.mul_sub, Int.mul_left_comm z a y, Int.mul_left_comm y a y, Int.mul_comm z y]
    omega
  rw [e1] at hp
  have hc : (a - 2) * (y * y) ≤ sqs few := by
    rw [Int.sub_mul]
    omega
  have hyy : 1 * 1 ≤ y * y := Int.mul_le_mul hy hy (by omega) (by omega)
  have ham : a ≤ m := by
    rcases Int.lt_or_le (m : Int) a with h5 | h5
    · have h6 : ((m : Int) - 1) * (y * y) ≤ (a - 2) * (y * y) := Int.mul_le_mul_of_nonneg_right (by omega) (by omega)
      have h7 : ((m - 2 : Nat) : Int) * (y * y) = ((m : Int) - 1) * (y * y) - y * y := by
        have : ((m - 2 : Nat) : Int) = ((m : Int) - 1) - 1 := by omega
        rw [this, Int.sub_mul ((m : Int) - 1) 1, Int.one_mul]
      omega
    · exact h5
  have hF : Few t m few := ⟨hflen, hfp, hford, by rw [ha]; exact h3, by rw [ha]; exact ham⟩
  refine mem_roots.mpr ((mem_raw ht hm.1).mpr ⟨few, hF, (mem_ends hF ht hm).mpr ⟨y, z, a * y - 2 * z, hfy _ (hF.last hm.1), by rw [ha]; exact hc, by omega, ?_, by rw [ha]; omega, hyx, e⟩⟩)
  rw [ha]
  have e3 : a * y * (2 * z) = 2 * (a * (y * z)) := by rw [Int.mul_left_comm, Int.mul_assoc a y z]
  have e4 : a * y * (a * y) = a * a * y * y := by
    rw [Int.mul_assoc (a * a), Int.mul_assoc a y, Int.mul_left_comm y, ← Int.mul_assoc a a]
  rw [sq_expand, four_sq, e3, e4]
  unfold disc
  omega
end
/-- so many there are, none twice -/
theorem raw_few : ∀ m ∈ [3, 4, 5, 6], ∀ t ∈ [(1 : Int), 2, 3, 4, 5, 6], (rawRoots t m).length ≤ 20 ∧ (rawRoots t m).Nodup := by decide +kernel
theorem raw_none {t : Int} {m : Nat} (hm : 3 ≤ m) (ht : (m : Int) < t) : rawRoots t m = [] := by
  unfold rawRoots
  have e : ((m : Int) / t).toNat = 0 := by
    rw [Int.ediv_eq_zero_of_lt (by omega) ht]
    rfl
  obtain ⟨k, hk⟩ : ∃ k, m - 2 = k + 1 := ⟨m - 3, by omega⟩
  rw [e, hk]
  rfl
theorem roots_few {t : Int} {m : Nat} (ht : 1 ≤ t) (hm : 3 ≤ m ∧ m ≤ 6) : (rootsL t m).length ≤ 20 ∧ (rootsL t m).Nodup := by
  have h : (rawRoots t m).length ≤ 20 ∧ (rawRoots t m).Nodup := by
    by_cases hc : t ≤ m
    · have hmm : m ∈ [3, 4, 5, 6] := by
        have : m = 3 ∨ m = 4 ∨ m = 5 ∨ m = 6 := by omega
        rcases this with rfl | rfl | rfl | rfl <;> decide
      have htt : t ∈ [(1 : Int), 2, 3, 4, 5, 6] := by
        have : t = 1 ∨ t = 2 ∨ t = 3 ∨ t = 4 ∨ t = 5 ∨ t = 6 := by omega
        rcases this with rfl | rfl | rfl | rfl | rfl | rfl <;> decide
      exact raw_few m hmm t htt
    · rw [raw_none hm.1 (by omega)]
      exact ⟨Nat.zero_le _, .nil⟩
  unfold rootsL
  have hp := List.mergeSort_perm (rawRoots t m) (kOrd rowKey)
  exact ⟨by rw [hp.length_eq]; exact h.1, hp.symm.nodup h.2⟩
/-! ### sorted by keys -/
theorem kOrd_trans (a b c : List Int) : kOrd rowKey a b = true → kOrd rowKey b c = true → kOrd rowKey a c = true := fun h1 h2 => decide_eq_true (List.le_trans (of_decide_eq_true h1) (of_decide_eq_true h2))
theorem kOrd_total (a b : List Int) : (kOrd rowKey a b || kOrd rowKey b a) = true := by
  rcases List.le_total (rowKey a) (rowKey b) with h | h
  · rw [Bool.or_eq_true]; exact .inl (decide_eq_true h)
  · rw [Bool.or_eq_true]; exact .inr (decide_eq_true h)
theorem rowKey_inj {a b : List Int} (h : rowKey a = rowKey b) : a = b := (List.cons.inj h).2
/-- in strict order -/
def KS (rs : List (List Int)) : Prop := rs.Pairwise fun a b => rowKey a < rowKey b
theorem ksort_ks {rs : List (List Int)} (h : rs.Nodup) : KS (ksort rs) := by
  have h1 := List.pairwise_mergeSort (le := kOrd rowKey) kOrd_trans kOrd_total rs
  have h2 : (ksort rs).Nodup := (List.mergeSort_perm rs (kOrd rowKey)).symm.nodup h
  unfold KS
  refine (h1.and h2).imp fun {a b} ⟨x, y⟩ => ?_
  have hx : rowKey a ≤ rowKey b := of_decide_eq_true x
  rcases List.le_iff_lt_or_eq.mp hx with z | z
  · exact z
  · exact absurd (rowKey_inj z) y
theorem roots_ks {t : Int} {m : Nat} (ht : 1 ≤ t) (hm : 3 ≤ m ∧ m ≤ 6) : KS (rootsL t m) := by
  have h := (roots_few ht hm).2
  unfold rootsL at h ⊢
  exact ksort_ks ((List.mergeSort_perm _ _).nodup h)
end Sm

/-! SmG: lists of lists that grow. -/
namespace Sm
open PySem PySem.Spec PyProof.Rows L2
section
variable {T : Tb} {K : PySem.W.Frag} {σ : L2.St} {H H1 H2 H3 : Hp} {ta tb te tc : TE} {t u : TT} {v : V} {xs ys : List V} {a b c p l : Addr} {as bs : List Addr} {rs ss : List (List Int)} {r : List Int} {D : Ends} {tu tz : TS}
theorem NewLLs.ex (h : NewLLs rs H p as H1) (e : Ex T H1 H2) : NewLLs rs H p as H2 := ⟨h.p0, e.lst h.p1, h.ll.ex e, h.nw, h.nd⟩
theorem NewLLs.from_ (h : NewLLs rs H1 p as H2) (e : Ex T H H1) : NewLLs rs H p as H2 := ⟨e.n p h.p0, h.p1, h.ll, fun c hc => ⟨e.n c (h.nw c hc).1, (h.nw c hc).2⟩, h.nd⟩
theorem NewLLs.empty (h0 : H l = none) (h1 : H1 l = some (.lst [])) : NewLLs [] H l [] H1 := ⟨h0, h1, trivial, (fun _ h => nomatch h), .nil⟩
theorem NewLLs.not_mem (h : NewLLs rs H l as H1) : l ∉ as := fun z => (h.nw l z).2 rfl
theorem LLs.some_ (h : LLs H as rs) {c : Addr} (hc : c ∈ as) : ∃ r, H c = some (.lst (vz r)) := by
  obtain ⟨j, hj⟩ := List.getElem?_of_mem hc
  obtain ⟨r, _, hr⟩ := h.at' hj
  exact ⟨r, hr⟩
theorem LLs.apart (h : LLs H as rs) (hb : ∀ c ∈ bs, H c = none) : ∀ c ∈ as, ∀ d ∈ bs, c ≠ d := fun c hc d hd => by
  obtain ⟨r, hr⟩ := h.some_ hc
  exact ne_of_none hr (hb d hd)
theorem NewLLs.len (h : NewLLs rs H l as H1) : as.length = rs.length := h.ll.len
/-- one new list more -/
theorem NewLLs.more (h : NewLLs rs H l as H1) (e : Ex T H H1) (hp : H1 p = none) (e2 : Ex T H1 H2) (h2 : H2 p = some (.lst (vz r))) (hl : H2 l = some (.lst (as.map V.ref))) : NewLLs (rs ++ [r]) H l (as ++ [p]) (upd H2 l (.lst (as.map V.ref ++ [.ref p]))) := by
  have hpl : p ≠ l := fun z => by rw [z, h.p1] at hp; cases hp
  refine ⟨h.p0, by rw [upd_same, List.map_append]; rfl, LLs.but ((h.ll.ex e2).app (LLs.one h2)) fun z => ?_, fun c hc => ?_, List.nodup_append.mpr ⟨h.nd, List.nodup_cons.mpr ⟨List.not_mem_nil, .nil⟩, fun c hc d hd => ?_⟩⟩
  · rcases List.mem_append.mp z with z | z
    · exact h.not_mem z
    · exact hpl (List.mem_singleton.mp z).symm
  · rcases List.mem_append.mp hc with z | z
    · exact h.nw c z
    · rw [List.mem_singleton.mp z]
      exact ⟨e.n p hp, hpl⟩
  · rw [List.mem_singleton.mp hd]
    obtain ⟨r', hr⟩ := h.ll.some_ hc
    exact ne_of_none hr hp
theorem s_appG (hG : NewLLs rs H l as H1) (e : Ex T H H1) (ha : Ev T ta σ H1 (.ref l)) (h : EvL T te σ H1 (vz r)) (hz : rs.length < 100000)
    (k : ∀ as' H2, (∀ B, Ex T B H1 → B l = none → Ex T B H2) → NewLLs (rs ++ [r]) H l as' H2 → D.nx σ H2) : tDrop (tBM K "list" rAppend ta (tCons te tNil)) D σ H1 :=
  s_appL hG.p1 ha h (by rw [List.length_map, hG.len]; exact hz) fun p H2 hp e2 h2 hl => k (as ++ [p]) _ (fun B f hB => (f.trans e2).mut hB hl) (hG.more e hp e2 h2 hl)
/-- xs.extend(new lists) -/
theorem s_extG (hG : NewLLs rs H l as H1) (e : Ex T H H1) (ha : Ev T ta σ H1 (.ref l)) (h : EvR T te σ H1 (NewLL ss)) (hz : rs.length + ss.length < 100000)
    (k : ∀ as' H2, (∀ B, Ex T B H1 → B l = none → Ex T B H2) → NewLLs (rs ++ ss) H l as' H2 → D.nx σ H2) : tDrop (tBM K "list" rExtend ta (tCons te tNil)) D σ H1 := ha H1 .refl _ fun H2 e2 =>
  ⟨.inl ⟨rfl, _, SqL.of (e2.lst hG.p1)⟩, h H2 e2 _ fun v H3 e3 r => by
    obtain ⟨q, bs, rfl, hN⟩ := r
    have E3 := e2.trans e3
    have hl3 := E3.lst hG.p1
    have hlen := hG.len
    have hlen2 := hN.len
    refine ⟨l, q, as.map V.ref, bs.map V.ref, rfl, rfl, hl3, hN.p1, ?_, k (as ++ bs) _ (fun B f hB => (f.trans E3).mut hB hl3) ⟨hG.p0, by rw [upd_same, List.map_append], ?_, ?_, ?_⟩⟩
    · rw [List.length_map, List.length_map]
      exact Nat.le_trans (by omega : as.length + bs.length ≤ 100000) (by decide)
    · refine LLs.but ((hG.ll.ex E3).app hN.ll) fun z => ?_
      rcases List.mem_append.mp z with z | z
      · exact hG.not_mem z
      · have := (hN.nw l z).1
        rw [e2.lst hG.p1] at this
        cases this
    · intro c hc
      rcases List.mem_append.mp hc with z | z
      · exact hG.nw c z
      · exact ⟨(e.trans e2).n c (hN.nw c z).1, fun q => by
          have := (hN.nw c z).1
          rw [q, e2.lst hG.p1] at this
          cases this⟩
    · exact List.nodup_append.mpr ⟨hG.nd, hN.nd, fun c hc d hd => (hG.ll.ex e2).apart (bs := bs) (fun d hd => (hN.nw d hd).1) c hc d hd⟩⟩
theorem NewLLs.sorted {q : Addr} (hG : NewLLs rs H l as H1) (e : Ex T H H1) (hs : SortedLL as ss H1 q bs H2) : NewLLs ss H q bs H2 := ⟨e.n q hs.q0, hs.q1, hs.ll, fun c hc => ⟨(hG.nw c (hs.perm.subset hc)).1, fun z => by
  obtain ⟨r, hr⟩ := hG.ll.some_ (hs.perm.subset hc)
  rw [z, hs.q0] at hr
  cases hr⟩, hs.perm.symm.nodup hG.nd⟩
/-- [new list for x in xs] -/
theorem er_lcL {vs : List Nat} {n : Nat} {tl : TE} (h : Ev T tl σ H (.ref a)) (hx : SqL K H a xs) (hz : xs.length ≤ 40000) (hy : rs.length = xs.length) (hw : ∀ x, wipe ((wipe σ vs).set n (some x)) vs = wipe σ vs)
    (he : ∀ (i : Nat) (x : V) (r : List Int) H1, Ex T H H1 → xs[i]? = some x → rs[i]? = some r → EvL T te ((wipe σ vs).set n (some x)) H1 (vz r)) : EvR T (tLc (iList K tl) (gName n) tYes te vs) σ H (NewLL rs) := fun H0 e Q q => h H0 e _ fun H1 e1 => ⟨a, rfl, ⟨xs, (e.trans e1).sq hx⟩, fun D hD =>
  lc_list (xs := xs) (fun i H' => ∃ as, Ex T H1 H' ∧ NewLLs (rs.take i) H1 D as H') ⟨[], .new hD, by rw [List.take_zero]; exact .empty hD upd_same⟩ (fun i H' _ ⟨as, p, _⟩ => ((e.trans e1).trans p).sq hx) (fun i x H' hi ⟨as, p1, p2⟩ => by
    have hi' := (List.getElem?_eq_some_iff.mp hi).1
    have hr : rs[i]? = some rs[i] := List.getElem?_eq_getElem (by omega)
    refine ⟨hw x, ?_⟩
    dsimp only [tYes]
    rw [if_pos rfl]
    refine he i x _ H' ((e.trans e1).trans p1) hi hr H' .refl _ fun p H2 hp e2 h2 => ⟨as.map V.ref, e2.lst p2.p1, ?_, as ++ [p], (p1.trans e2).mut hD (e2.lst p2.p1), ?_⟩
    · have := p2.len
      rw [List.length_take] at this
      rw [List.length_map]
      exact Nat.lt_of_lt_of_le (show as.length < 100000 by omega) (by decide)
    · rw [List.take_add_one, hr]
      exact p2.more p1 hp e2 h2 (e2.lst p2.p1)) (fun H' ⟨as, p1, p2⟩ => q (.ref D) H' (e1.trans p1) ⟨D, as, rfl, by
        rw [← hy, List.take_length] at p2
        exact p2.from_ e1⟩)⟩
/-- xs[i] of a display -/
theorem ev_ixN {i : Int} (ha : EvL T ta σ H xs) (hb : Ev T tb σ H (.int i)) (hv : atI xs i = some v) : Ev T (tOp (rIxL K) ta tb) σ H v := fun H1 e Q q =>
  ha H1 e _ fun p H2 _ e2 h2 => hb H2 (e.trans e2) _ fun H3 e3 => ⟨p, xs, i, v, rfl, rfl, SqL.of (e3.lst h2), hv, q H3 (e2.trans e3)⟩
/-! ### the heap without one list of one's own -/
theorem rm_ex : Ex T (rm H l) H := by
  have kp : ∀ b u, rm H l b = some u → H b = some u := fun b u q => by
    by_cases hb : b = l
    · rw [hb, rm_at] at q; cases q
    · rw [rm_ne hb] at q; exact q
  refine ⟨fun b u q _ => kp b u q, fun t => t.ext kp, fun b q => ?_⟩
  by_cases hb : b = l
  · rw [hb, rm_at]
  · rw [rm_ne hb]; exact q
theorem rm_lst (h : H a = some (.lst xs)) (n : a ≠ l) : rm H l a = some (.lst xs) := by rw [rm_ne n]; exact h
theorem LLs.rm : ∀ {as : List Addr} {rs : List (List Int)}, LLs H as rs → l ∉ as → LLs (Sm.rm H l) as rs
  | [], [], _, _ => trivial
  | a :: as, r :: rs, h, n => ⟨rm_lst h.1 fun z => n (by rw [z]; exact List.mem_cons_self), LLs.rm h.2 fun z => n (List.mem_cons_of_mem _ z)⟩
  | [], _ :: _, h, _ => h.elim
  | _ :: _, [], h, _ => h.elim
theorem tabs_rm (t : LamX.Tabs T H) (h : H l = some (.lst xs)) : LamX.Tabs T (rm H l) := fun p hp => by
  obtain ⟨ps, t1, t2, t3⟩ := t p hp
  refine ⟨ps, by rw [rm_ne (ne_of t1 h (by intro z; cases z))]; exact t1, t2, fun pos cv hc => ?_⟩
  obtain ⟨c, c1, c2⟩ := t3 pos cv hc
  exact ⟨c, c1, by rw [rm_ne (ne_of c2 h (by intro z; unfold LamX.CodeO at z; cases z))]; exact c2⟩
end
end Sm

/-! SmC: the children of a row. -/
namespace Sm
open PySem PySem.Spec PyProof.Rows L2
/-- the greater neighbours, each once, by the first so many places -/
def ups (t : Int) (ns : List Int) : Nat → List (List Int)
  | 0 => []
  | i + 1 => if ns.sum < (near t ns i).sum ∧ near t ns i ∉ ups t ns i then ups t ns i ++ [near t ns i] else ups t ns i
theorem mem_ups {t : Int} {ns r : List Int} : ∀ {m : Nat}, r ∈ ups t ns m ↔ ∃ i, i < m ∧ r = near t ns i ∧ ns.sum < r.sum
  | 0 => ⟨fun h => absurd h (List.not_mem_nil), fun ⟨i, h, _⟩ => absurd h (Nat.not_lt_zero i)⟩
  | m + 1 => by
    have ih := mem_ups (t := t) (ns := ns) (r := r) (m := m)
    unfold ups
    split
    · rename_i hc
      rw [List.mem_append, List.mem_singleton, ih]
      constructor
      · rintro (⟨i, h1, h2, h3⟩ | rfl)
        · exact ⟨i, by omega, h2, h3⟩
        · exact ⟨m, by omega, rfl, hc.1⟩
      · rintro ⟨i, h1, h2, h3⟩
        by_cases him : i < m
        · exact .inl ⟨i, him, h2, h3⟩
        · have : i = m := by omega
          subst this
          exact .inr h2
    · rename_i hc
      rw [ih]
      constructor
      · rintro ⟨i, h1, h2, h3⟩
        exact ⟨i, by omega, h2, h3⟩
      · rintro ⟨i, h1, h2, h3⟩
        by_cases him : i < m
        · exact ⟨i, him, h2, h3⟩
        · have : i = m := by omega
          subst this
          subst h2
          have h4 : near t ns i ∈ ups t ns i := Classical.byContradiction fun z => hc ⟨h3, z⟩
          exact ih.mp h4
theorem ups_nodup (t : Int) (ns : List Int) : ∀ m, (ups t ns m).Nodup
  | 0 => .nil
  | m + 1 => by
    unfold ups
    split
    · rename_i hc
      exact List.nodup_append.mpr ⟨ups_nodup t ns m, List.nodup_cons.mpr ⟨List.not_mem_nil, .nil⟩, fun a ha b hb => by
        rw [List.mem_singleton.mp hb]
        intro e
        rw [e] at ha
        exact hc.2 ha⟩
    · exact ups_nodup t ns m
def childL (t : Int) (ns : List Int) : List (List Int) := ksort (ups t ns ns.length)
theorem mem_childL {t : Int} {ns r : List Int} : r ∈ childL t ns ↔ ∃ i, i < ns.length ∧ r = near t ns i ∧ ns.sum < r.sum := by
  unfold childL
  rw [List.mem_mergeSort]
  exact mem_ups
theorem ups_len (t : Int) (ns : List Int) : ∀ m, (ups t ns m).length ≤ m
  | 0 => Nat.le_refl 0
  | m + 1 => by
    have ih := ups_len t ns m
    unfold ups
    split
    · rw [List.length_append, List.length_singleton]; omega
    · omega
theorem childL_len (t : Int) (ns : List Int) : (childL t ns).length ≤ ns.length := by
  unfold childL
  rw [List.length_mergeSort]
  exact ups_len t ns _
/-- what a child comes from -/
theorem child_back {t : Int} {ns : List Int} {p : Nat} (h : IsRow t ns) (h3 : 3 ≤ ns.length) (hp : p < ns.length) (hs : ns.sum < (near t ns p).sum) : rootB t (near t ns p) = false ∧ near t (near t ns p) ((near t ns p).length - 1) = ns := by
  have hl := near_len (t := t) hp
  have hr := near_row h hp (by omega)
  obtain ⟨q, hq, _⟩ := first_at (near_perm.symm.subset (List.mem_cons_self (a := new t ns p) (l := oth ns p)))
  have hq1 := (List.getElem?_eq_some_iff.mp hq).1
  have hb := near_back h.ord hp (q := q) (by rw [hl] at hq1; exact hq1) (by rw [List.getD_eq_getElem?_getD, hq]; rfl)
  have hql : q = (near t ns p).length - 1 := by
    rcases Nat.lt_or_ge (q + 1) (near t ns p).length with h1 | h1
    · have h2 := near_up hr h1 (by omega)
      rw [hb] at h2
      omega
    · omega
  subst hql
  refine ⟨?_, hb⟩
  unfold rootB
  rw [hb]
  exact decide_eq_false (by omega)
end Sm

/-! SmF: the first rows, as plain lists. -/
namespace Sm
open PySem PySem.Spec PyProof.Rows L2
/-- a row put in its place, the last one first -/
def putL : List (List Int) → List Int → List (List Int)
  | [], r => [r]
  | x :: w, r => if rowKey r < rowKey x then x :: putL w r else r :: x :: w
theorem putL_perm (r : List Int) : ∀ w, (putL w r).Perm (r :: w)
  | [] => .refl _
  | x :: w => by
    unfold putL
    split
    · exact ((putL_perm r w).cons x).trans (.swap r x w)
    · exact .refl _
theorem mem_putL {w : List (List Int)} {r x : List Int} : x ∈ putL w r ↔ x = r ∨ x ∈ w := by rw [(putL_perm r w).mem_iff, List.mem_cons]
theorem putL_len (w : List (List Int)) (r : List Int) : (putL w r).length = w.length + 1 := by rw [(putL_perm r w).length_eq, List.length_cons]
theorem putL_split (r : List Int) : ∀ (w : List (List Int)) (k : Nat), k ≤ w.length → (∀ i x, i < k → w[i]? = some x → rowKey r < rowKey x) → (∀ x, w[k]? = some x → ¬ rowKey r < rowKey x) → w.take k ++ [r] ++ w.drop k = putL w r
  | [], k, hk, _, _ => by
    have : k = 0 := Nat.le_zero.mp hk
    subst this
    rfl
  | x :: w, 0, _, _, h2 => by
    unfold putL
    rw [if_neg (h2 x rfl)]
    rfl
  | x :: w, k + 1, hk, h1, h2 => by
    unfold putL
    rw [if_pos (h1 0 x (by omega) rfl), ← putL_split r w k (by rw [List.length_cons] at hk; omega) (fun i y hi hy => h1 (i + 1) y (by omega) hy) fun y hy => h2 y hy]
    rfl
/-- the last one first -/
def Desc (w : List (List Int)) : Prop := w.Pairwise fun a b => rowKey b < rowKey a
theorem key_lt_of_ne {a b : List Int} (h : ¬ rowKey a < rowKey b) (n : b ≠ a) : rowKey b < rowKey a := by
  have h1 : rowKey b ≤ rowKey a := h
  exact Classical.byContradiction fun z => n (rowKey_inj (List.le_antisymm h1 z))
theorem putL_desc {r : List Int} : ∀ {w : List (List Int)}, Desc w → r ∉ w → Desc (putL w r)
  | [], _, _ => List.pairwise_singleton _ _
  | x :: w, h, hn => by
    obtain ⟨h1, h2⟩ := List.pairwise_cons.mp h
    have hx : r ≠ x := fun e => hn (e ▸ List.mem_cons_self ..)
    unfold putL
    split
    · rename_i hc
      refine List.pairwise_cons.mpr ⟨fun y hy => ?_, putL_desc h2 fun z => hn (List.mem_cons_of_mem _ z)⟩
      rcases mem_putL.mp hy with e | e
      · rw [e]; exact hc
      · exact h1 y e
    · rename_i hc
      have hc' := key_lt_of_ne hc hx.symm
      refine List.pairwise_cons.mpr ⟨fun y hy => ?_, h⟩
      rcases List.mem_cons.mp hy with e | e
      · rw [e]; exact hc'
      · exact List.lt_trans (h1 y e) hc'
theorem put_all : ∀ {cs W : List (List Int)}, Desc W → (∀ c ∈ cs, c ∉ W) → cs.Nodup → Desc (cs.foldl putL W)
  | [], W, h, _, _ => h
  | c :: cs, W, h, hn, hd => by
    obtain ⟨h1, h2⟩ := List.nodup_cons.mp hd
    refine put_all (cs := cs) (W := putL W c) (putL_desc h (hn c (List.mem_cons_self ..))) (fun x hx z => ?_) h2
    rcases mem_putL.mp z with e | e
    · exact h1 (e ▸ hx)
    · exact hn x (List.mem_cons_of_mem _ hx) e
theorem mem_put : ∀ {cs W : List (List Int)} {x : List Int}, x ∈ cs.foldl putL W ↔ x ∈ cs ∨ x ∈ W
  | [], W, x => by simp
  | c :: cs, W, x => by
    show x ∈ cs.foldl putL (putL W c) ↔ _
    rw [mem_put, mem_putL, List.mem_cons]
    constructor
    · rintro (h | h | h)
      · exact .inl (.inr h)
      · exact .inl (.inl h)
      · exact .inr h
    · rintro ((h | h) | h)
      · exact .inr (.inl h)
      · exact .inl h
      · exact .inr (.inr h)
theorem put_len : ∀ (cs W : List (List Int)), (cs.foldl putL W).length = W.length + cs.length
  | [], W => rfl
  | c :: cs, W => by
    show (cs.foldl putL (putL W c)).length = _
    rw [put_len, putL_len, List.length_cons]
    omega
/-- the walk's states: those that wait, those that are found -/
def runF (t : Int) (m : Nat) : Nat → List (List Int) × List (List Int)
  | 0 => ((rootsL t m).foldl putL [], [])
  | n + 1 => match (runF t m n).1.getLast? with
    | none => runF t m n
    | some r => ((childL t r).foldl putL (runF t m n).1.dropLast, (runF t m n).2 ++ [r])
def firstL (t : Int) (m n : Nat) : List (List Int) := (runF t m n).2
structure InvF (t : Int) (m n : Nat) (W F : List (List Int)) : Prop where
  desc : Desc W
  ks : KS F
  wrow : ∀ x ∈ W, IsRow t x ∧ x.length = m
  frow : ∀ x ∈ F, IsRow t x ∧ x.length = m
  sep : ∀ a ∈ F, ∀ x ∈ W, rowKey a < rowKey x
  root : ∀ r ∈ rootsL t m, r ∈ F ∨ r ∈ W
  chi : ∀ a ∈ F, ∀ c ∈ childL t a, c ∈ F ∨ c ∈ W
  par : ∀ x, x ∈ F ∨ x ∈ W → rootB t x = true ∨ near t x (x.length - 1) ∈ F
  small : (W = [] ∧ F = [] ∧ rootsL t m = []) ∨ ∃ x ∈ W, t * prd (x.take (m - 2)) ≤ 6 ∧ ∀ e ∈ x, e ≤ 36 * 6 ^ n
  fsum : ∀ a ∈ F, a.sum ≤ 216 * 6 ^ n
  len : F.length = n ∨ W = []
  le : F.length ≤ n
  wlen : W.length ≤ 20 + 6 * n
theorem sum_le_mul {x : List Int} {b : Int} (h : ∀ e ∈ x, e ≤ b) : x.sum ≤ x.length * b := by
  induction x with
  | nil => simp
  | cons a x ih =>
    have h1 := h a (List.mem_cons_self ..)
    have h2 := ih fun e he => h e (List.mem_cons_of_mem _ he)
    rw [List.sum_cons, List.length_cons, show (((x.length + 1 : Nat) : Int)) = (x.length : Int) + 1 by omega, Int.add_mul]
    omega
theorem key_sum {a b : List Int} (h : a.sum < b.sum) : rowKey a < rowKey b := by
  unfold rowKey
  exact List.cons_lt_cons_iff.mpr (.inl h)
theorem sum_key {a b : List Int} (h : rowKey a < rowKey b) : a.sum ≤ b.sum := by
  unfold rowKey at h
  rcases List.cons_lt_cons_iff.mp h with h | h
  · omega
  · omega
theorem childL_ks (t : Int) (ns : List Int) : KS (childL t ns) := ksort_ks (ups_nodup t ns _)
theorem ks_nodup {rs : List (List Int)} (h : KS rs) : rs.Nodup := h.imp fun {a b} hl e => by
  rw [e] at hl
  exact List.lt_irrefl _ hl
theorem desc_last {W : List (List Int)} {r : List Int} (h : Desc (W ++ [r])) : ∀ x ∈ W, rowKey r < rowKey x := fun x hx => (List.pairwise_append.mp h).2.2 x hx r (List.mem_singleton.mpr rfl)
theorem invF_step {t : Int} {m n : Nat} {W F : List (List Int)} {r : List Int} (ht : 1 ≤ t) (hm : 3 ≤ m ∧ m ≤ 6) (I : InvF t m n (W ++ [r]) F) : InvF t m (n + 1) ((childL t r).foldl putL W) (F ++ [r]) ∧ (∀ c ∈ childL t r, c ∉ W) := by
  have hrW : r ∈ W ++ [r] := List.mem_append.mpr (.inr (List.mem_singleton.mpr rfl))
  have hsub : ∀ x ∈ W, x ∈ W ++ [r] := fun x hx => List.mem_append.mpr (.inl hx)
  obtain ⟨hrow, hrl⟩ := I.wrow r hrW
  have hl := desc_last I.desc
  have hchild : ∀ c ∈ childL t r, IsRow t c ∧ c.length = m ∧ rowKey r < rowKey c ∧ rootB t c = false ∧ near t c (c.length - 1) = r := fun c hc => by
    obtain ⟨i, hi, rfl, hs⟩ := mem_childL.mp hc
    obtain ⟨h1, h2⟩ := child_back hrow (by omega) hi hs
    exact ⟨near_row hrow hi (by omega), (near_len hi).trans hrl, key_sum hs, h1, h2⟩
  have hrF : r ∉ F := fun z => List.lt_irrefl _ (I.sep r z r hrW)
  have hnew : ∀ c ∈ childL t r, c ∉ W := fun c hc z => by
    obtain ⟨_, _, _, h3, h4⟩ := hchild c hc
    rcases I.par c (.inr (hsub c z)) with h | h
    · rw [h3] at h; cases h
    · rw [h4] at h
      exact hrF h
  have hW : Desc W := (List.pairwise_append.mp I.desc).1
  have pw : (6 : Int) ^ (n + 1) = 6 ^ n * 6 := Int.pow_succ 6 n
  have pp : (0 : Int) < 6 ^ n := Int.pow_pos (by decide)
  refine ⟨⟨put_all hW hnew (ks_nodup (childL_ks t r)), ?_, ?_, ?_, ?_, ?_, ?_, ?_, ?_, ?_, ?_, ?_, ?_⟩, hnew⟩
  · refine List.pairwise_append.mpr ⟨I.ks, List.pairwise_singleton _ _, fun a ha b hb => ?_⟩
    rw [List.mem_singleton.mp hb]
    exact I.sep a ha r hrW
  · intro x hx
    rcases mem_put.mp hx with h | h
    · exact ⟨(hchild x h).1, (hchild x h).2.1⟩
    · exact I.wrow x (hsub x h)
  · intro x hx
    rcases List.mem_append.mp hx with h | h
    · exact I.frow x h
    · rw [List.mem_singleton.mp h]
      exact ⟨hrow, hrl⟩
  · intro a ha x hx
    have har : rowKey a < rowKey r ∨ a = r := by
      rcases List.mem_append.mp ha with h | h
      · exact .inl (I.sep a h r hrW)
      · exact .inr (List.mem_singleton.mp h)
    have hrx : rowKey r < rowKey x := by
      rcases mem_put.mp hx with h | h
      · exact (hchild x h).2.2.1
      · exact hl x h
    rcases har with h | h
    · exact List.lt_trans h hrx
    · rw [h]; exact hrx
  · intro q hq
    rcases I.root q hq with h | h
    · exact .inl (List.mem_append.mpr (.inl h))
    · rcases List.mem_append.mp h with h | h
      · exact .inr (mem_put.mpr (.inr h))
      · exact .inl (List.mem_append.mpr (.inr h))
  · intro a ha c hc
    rcases List.mem_append.mp ha with h | h
    · rcases I.chi a h c hc with h | h
      · exact .inl (List.mem_append.mpr (.inl h))
      · rcases List.mem_append.mp h with h | h
        · exact .inr (mem_put.mpr (.inr h))
        · exact .inl (List.mem_append.mpr (.inr h))
    · rw [List.mem_singleton.mp h] at hc
      exact .inr (mem_put.mpr (.inl hc))
  · intro x hx
    have old : x ∈ F ∨ x ∈ W ++ [r] → rootB t x = true ∨ near t x (x.length - 1) ∈ F ++ [r] := fun h => (I.par x h).imp id fun h => List.mem_append.mpr (.inl h)
    rcases hx with h | h
    · rcases List.mem_append.mp h with h | h
      · exact old (.inl h)
      · exact old (.inr (List.mem_append.mpr (.inr h)))
    · rcases mem_put.mp h with h | h
      · rw [(hchild x h).2.2.2.2]
        exact .inr (List.mem_append.mpr (.inr (List.mem_singleton.mpr rfl)))
      · exact old (.inr (hsub x h))
  · right
    rcases I.small with ⟨h, _⟩ | ⟨x, hx, h1, h2⟩
    · exact absurd h (by simp)
    rcases List.mem_append.mp hx with h | h
    · exact ⟨x, mem_put.mpr (.inr h), h1, fun e he => by have := h2 e he; omega⟩
    · have e := List.mem_singleton.mp h
      subst e
      have hp : m - 2 + 1 < x.length := by omega
      have hg := new_great hrow hp (by omega)
      have ho : oth x (m - 2) = x.take (m - 2) ++ [x.getD (m - 1) 0] := by
        unfold oth
        rw [show m - 2 + 1 = m - 1 by omega, List.drop_eq_getElem_cons (show m - 1 < x.length by omega), List.drop_of_length_le (by omega), List.getD_eq_getElem?_getD, List.getElem?_eq_getElem (show m - 1 < x.length by omega)]
        rfl
      have hsort : (oth x (m - 2) ++ [new t x (m - 2)]).Pairwise (· ≤ ·) := by
        refine List.pairwise_append.mpr ⟨?_, List.pairwise_singleton _ _, fun a ha b hb => ?_⟩
        · rw [oth]
          have hs : (x.take (m - 2) ++ x.drop (m - 2 + 1)).Sublist (x.take (m - 2) ++ x.drop (m - 2)) := (List.Sublist.refl _).append (List.drop_sublist_drop_left x (Nat.le_succ _))
          rw [List.take_append_drop] at hs
          exact hrow.ord.sublist hs
        · rw [List.mem_singleton.mp hb]
          have := le_last hrow.ord (oth_sub (by omega) ha)
          omega
      have hnear : near t x (m - 2) = x.take (m - 2) ++ [x.getD (m - 1) 0, new t x (m - 2)] := by
        unfold near
        rw [isort_id hsort, ho, List.append_assoc]
        rfl
      have hlast : x.getD (m - 1) 0 ≤ 36 * 6 ^ n := h2 _ (getD_mem (by omega))
      have hlast1 : 1 ≤ x.getD (m - 1) 0 := hrow.pos _ (getD_mem (by omega))
      have h2nd : 1 ≤ x.getD (m - 2) 0 := hrow.pos _ (getD_mem (by omega))
      have hnew2 : new t x (m - 2) ≤ 36 * 6 ^ (n + 1) := by
        unfold new
        have hprd : prd (oth x (m - 2)) = prd (x.take (m - 2)) * x.getD (m - 1) 0 := by
          rw [ho, prd_app]
          show _ * prd [_] = _
          unfold prd
          simp [prd]
        rw [hprd, ← Int.mul_assoc]
        have : t * prd (x.take (m - 2)) * x.getD (m - 1) 0 ≤ 6 * x.getD (m - 1) 0 := Int.mul_le_mul_of_nonneg_right h1 (by omega)
        omega
      refine ⟨near t x (m - 2), mem_put.mpr (.inl (mem_childL.mpr ⟨m - 2, by omega, rfl, near_up hrow hp (by omega)⟩)), ?_, fun e he => ?_⟩
      · rw [hnear, List.take_left' (by rw [List.length_take]; omega)]
        exact h1
      · rw [hnear] at he
        rcases List.mem_append.mp he with h | h
        · have := h2 e (List.mem_of_mem_take h)
          omega
        · rcases List.mem_cons.mp h with h | h
          · rw [h]; omega
          · rw [List.mem_singleton.mp h]; exact hnew2
  · intro a ha
    rcases List.mem_append.mp ha with h | h
    · have := I.fsum a h
      omega
    · rw [List.mem_singleton.mp h]
      rcases I.small with ⟨h, _⟩ | ⟨x, hx, h1, h2⟩
      · exact absurd h (by simp)
      have h3 := sum_le_mul h2
      have h4 : (x.length : Int) * (36 * 6 ^ n) ≤ 6 * (36 * 6 ^ n) := Int.mul_le_mul_of_nonneg_right (by have := (I.wrow x hx).2; omega) (by omega)
      have h5 : r.sum ≤ x.sum := by
        rcases List.mem_append.mp hx with h | h
        · exact sum_key (hl x h)
        · rw [List.mem_singleton.mp h]; exact Int.le_refl _
      omega
  · left
    rw [List.length_append, List.length_singleton]
    rcases I.len with h | h
    · omega
    · exact absurd h (by simp)
  · rw [List.length_append, List.length_singleton]
    have := I.le
    omega
  · rw [put_len]
    have h1 := I.wlen
    have h2 := childL_len t r
    rw [List.length_append, List.length_singleton] at h1
    omega
theorem invF_zero {t : Int} {m : Nat} (ht : 1 ≤ t) (hm : 3 ≤ m ∧ m ≤ 6) : InvF t m 0 ((rootsL t m).foldl putL []) [] := by
  have hK := roots_ks ht hm
  have hin : ∀ x, x ∈ (rootsL t m).foldl putL [] → x ∈ rootsL t m := fun x hx => by
    rcases mem_put.mp hx with h | h
    · exact h
    · cases h
  refine ⟨put_all .nil (fun _ _ z => nomatch z) (ks_nodup hK), .nil, fun x hx => ?_, (fun _ z => nomatch z), (fun _ z => nomatch z), fun r hr => .inr (mem_put.mpr (.inl hr)), (fun _ z => nomatch z), fun x hx => ?_, ?_, (fun _ z => nomatch z), .inl rfl, Nat.le_refl 0, ?_⟩
  · have h := roots_root ht hm (hin x hx)
    exact ⟨h.1, h.2.1⟩
  · rcases hx with h | h
    · cases h
    · exact .inl (roots_root ht hm (hin x h)).2.2.1
  · cases e : rootsL t m with
    | nil => exact .inl ⟨rfl, rfl, rfl⟩
    | cons x xs =>
      have hx : x ∈ rootsL t m := by rw [e]; exact List.mem_cons_self ..
      have h := roots_root ht hm hx
      refine .inr ⟨x, mem_put.mpr (.inl (List.mem_cons_self ..)), by have := h.2.2.2.1.2; omega, fun n hn => by have := h.2.2.2.2 n hn; show n ≤ 36 * 1; omega⟩
  · rw [put_len]
    have := (roots_few ht hm).1
    show 0 + _ ≤ _
    omega
theorem last_split {W : List (List Int)} {r : List Int} (h : W.getLast? = some r) : W = W.dropLast ++ [r] := by
  obtain ⟨ys, rfl⟩ := List.getLast?_eq_some_iff.mp h
  rw [List.dropLast_concat]
theorem invF_run {t : Int} {m : Nat} (ht : 1 ≤ t) (hm : 3 ≤ m ∧ m ≤ 6) : ∀ n, InvF t m n (runF t m n).1 (runF t m n).2
  | 0 => invF_zero ht hm
  | n + 1 => by
    have I := invF_run ht hm n
    unfold runF
    split
    · rename_i h
      have hW : (runF t m n).1 = [] := List.getLast?_eq_none_iff.mp h
      have pw : (6 : Int) ^ (n + 1) = 6 ^ n * 6 := Int.pow_succ 6 n
      have pp : (0 : Int) < 6 ^ n := Int.pow_pos (by decide)
      refine { I with small := ?_, fsum := fun a ha => by have := I.fsum a ha; omega, len := .inr hW, le := by have := I.le; omega, wlen := by have := I.wlen; omega }
      rcases I.small with h | ⟨x, hx, _⟩
      · exact .inl h
      · rw [hW] at hx; cases hx
    · rename_i r h
      have e := last_split h
      rw [e] at I
      exact (invF_step ht hm I).1
theorem first_take {t : Int} {m : Nat} (ht : 1 ≤ t) (hm : 3 ≤ m ∧ m ≤ 6) {k : Nat} : ∀ {n : Nat}, k ≤ n → (firstL t m n).take k = firstL t m k
  | 0, h => by
    have : k = 0 := Nat.le_zero.mp h
    subst this
    rfl
  | n + 1, h => by
    by_cases hk : k = n + 1
    · subst hk
      exact List.take_of_length_le (invF_run ht hm (n + 1)).le
    · have ih := first_take ht hm (k := k) (n := n) (by omega)
      have I := invF_run ht hm n
      rw [← ih]
      unfold firstL
      rw [show (runF t m (n + 1)) = match (runF t m n).1.getLast? with | none => runF t m n | some r => ((childL t r).foldl putL (runF t m n).1.dropLast, (runF t m n).2 ++ [r]) from rfl]
      split
      · rfl
      · rename_i r h
        have hl : (runF t m n).2.length = n := by
          rcases I.len with h1 | h1
          · exact h1
          · rw [h1] at h; cases h
        exact List.take_append_of_le_length (by omega)
/-- what is not found is not ahead of all that wait -/
theorem first_all {t : Int} {m n : Nat} {W F : List (List Int)} (ht : 1 ≤ t) (hm : 3 ≤ m ∧ m ≤ 6) (I : InvF t m n W F) : ∀ (k : Nat) (x : List Int), x.sum.toNat ≤ k → IsRow t x → x.length = m → x ∉ F → ∃ y ∈ W, y = x ∨ rowKey y < rowKey x
  | k, x, hk, hr, hl, hF => by
    cases hb : rootB t x with
    | true => exact ⟨x, (I.root x (roots_all ht hm hr hl hb)).resolve_left hF, .inl rfl⟩
    | false =>
      have h1 := back_lt hb
      have hp : x.length - 1 < x.length := by omega
      have hrow := near_row hr hp (by omega)
      have hln := near_len (t := t) hp
      obtain ⟨hq, he⟩ := back_least hr (by omega)
      by_cases hc : near t x (x.length - 1) ∈ F
      · have hch : x ∈ childL t (near t x (x.length - 1)) := mem_childL.mpr ⟨_, by rw [hln]; exact hq, he.symm, h1⟩
        exact ⟨x, (I.chi _ hc x hch).resolve_left hF, .inl rfl⟩
      · have h3 := sum_ge hrow.pos
        have h4 : (near t x (x.length - 1)).sum.toNat < k := by omega
        obtain ⟨y, hy, h⟩ := first_all ht hm I (near t x (x.length - 1)).sum.toNat _ (Nat.le_refl _) hrow (hln.trans hl) hc
        refine ⟨y, hy, .inr ?_⟩
        have hk2 := key_sum h1
        rcases h with h | h
        · rw [h]; exact hk2
        · exact List.lt_trans h hk2
  termination_by k => k
end Sm

/-! SmW: lists that grow and shrink: insert, pop, a test for emptiness. -/
namespace Sm
open PySem PySem.Spec PyProof.Rows L2
section
variable {T : Tb} {K : PySem.W.Frag} {σ : L2.St} {H H1 H2 H3 : Hp} {ta tb te tc ti : TE} {t u : TT} {v y : V} {xs ys : List V} {a b c p l : Addr} {as bs : List Addr} {rs ss : List (List Int)} {r : List Int} {D : Ends} {tu tz : TS}
theorem at_refs {as : List Addr} {i : Nat} {x : V} (h : (as.map V.ref)[i]? = some x) : ∃ c, as[i]? = some c ∧ x = .ref c := by
  rw [List.getElem?_map] at h
  cases q : as[i]? with
  | none => rw [q] at h; cases h
  | some c => rw [q] at h; exact ⟨c, rfl, (Option.some.inj h).symm⟩
/-- xs.insert(i, y) -/
abbrev rIns : V → List V → Hp → VK → Prop := fun x vs H Q => ∃ (l : Addr) (xs : List V) (i : Int) (y : V), x = .ref l ∧ vs = [.int i, y] ∧ H l = some (.lst xs) ∧ xs.length < sizeLine ∧ 0 ≤ i ∧ i < 2 ^ 63 ∧ Q .non (upd H l (.lst (xs.take i.toNat ++ [y] ++ xs.drop i.toNat)))
theorem s_ins {i : Nat} (hl : H l = some (.lst xs)) (ha : Ev T ta σ H (.ref l)) (hi : Ev T ti σ H (.int (i : Int))) (h : Ev T te σ H v) (hz : xs.length < 100000) (hi2 : i ≤ 100000) (k : ∀ H1, Ex T H H1 → H1 l = some (.lst xs) → D.nx σ (upd H1 l (.lst (xs.take i ++ [v] ++ xs.drop i)))) :
    tDrop (tBM K "list" rIns ta (tCons ti (tCons te tNil))) D σ H := ha H .refl _ fun H1 e1 =>
  ⟨.inl ⟨rfl, xs, SqL.of (e1.lst hl)⟩, hi H1 e1 _ fun H2 e2 => h H2 (e1.trans e2) _ fun H3 e3 => ⟨l, xs, (i : Int), v, rfl, rfl, ((e1.trans e2).trans e3).lst hl, Nat.lt_of_lt_of_le hz (by decide), by omega, by omega, k H3 ((e1.trans e2).trans e3) (((e1.trans e2).trans e3).lst hl)⟩⟩
/-- y = xs.pop() -/
theorem q_pop {n : Nat} (hl : H l = some (.lst (xs ++ [y]))) (ha : Ev T ta σ H (.ref l)) (k : ∀ H1, Ex T H H1 → H1 l = some (.lst (xs ++ [y])) → tz D (σ.set n (some y)) (upd H1 l (.lst xs))) : tSeq (tAsg (tBM0 K "list" rPop ta) (gName n)) tz D σ H := ha H .refl _ fun H1 e1 =>
  ⟨.inl ⟨rfl, _, SqL.of (e1.lst hl)⟩, l, xs ++ [y], y, rfl, rfl, e1.lst hl, by rw [List.length_append, List.length_singleton, Nat.add_sub_cancel, List.getElem?_append_right (Nat.le_refl _), Nat.sub_self]; rfl, by
    rw [List.dropLast_concat]
    exact k H1 e1 (e1.lst hl)⟩
theorem et_truth (ha : Ev T ta σ H (.ref p)) (h : SqL K H p xs) : EvT T (fun σ H Q => ta σ H fun x H' => ∃ k, TruV K x H' k ∧ Q k H') σ H (!xs.isEmpty) := fun H1 e Q q =>
  ha H1 e _ fun H2 e2 => ⟨_, .inl ⟨xs, (e.trans e2).sq h, rfl⟩, q H2 e2⟩
theorem LLs.take : ∀ {as : List Addr} {rs : List (List Int)} (k : Nat), LLs H as rs → LLs H (as.take k) (rs.take k)
  | [], [], k, _ => by rw [List.take_nil, List.take_nil]; trivial
  | a :: as, r :: rs, 0, _ => trivial
  | a :: as, r :: rs, k + 1, h => ⟨h.1, LLs.take k h.2⟩
  | [], _ :: _, _, h => h.elim
  | _ :: _, [], _, h => h.elim
theorem LLs.drop : ∀ {as : List Addr} {rs : List (List Int)} (k : Nat), LLs H as rs → LLs H (as.drop k) (rs.drop k)
  | [], [], k, _ => by rw [List.drop_nil, List.drop_nil]; trivial
  | a :: as, r :: rs, 0, h => h
  | a :: as, r :: rs, k + 1, h => LLs.drop k h.2
  | [], _ :: _, _, h => h.elim
  | _ :: _, [], _, h => h.elim
theorem LLs.nodup : ∀ {as : List Addr} {rs : List (List Int)}, LLs H as rs → rs.Nodup → as.Nodup
  | [], _, _, _ => .nil
  | a :: as, [], h, _ => h.elim
  | a :: as, r :: rs, h, hn => by
    obtain ⟨h1, h2⟩ := List.nodup_cons.mp hn
    refine List.nodup_cons.mpr ⟨fun z => ?_, LLs.nodup h.2 h2⟩
    obtain ⟨j, hj⟩ := List.getElem?_of_mem z
    obtain ⟨r', hr', hr⟩ := h.2.at' hj
    rw [h.1] at hr
    have e : r = r' := by
      have e1 := HO.lst.inj (Option.some.inj hr)
      exact List.map_inj_right (fun _ _ q => V.int.inj q) |>.mp e1
    exact h1 (e ▸ List.mem_of_getElem? hr')
theorem LLs.snoc : ∀ {as : List Addr} {rs : List (List Int)} {r : List Int}, LLs H as (rs ++ [r]) → ∃ bs c, as = bs ++ [c] ∧ LLs H bs rs ∧ H c = some (.lst (vz r))
  | [], [], _, h => h.elim
  | [], _ :: _, _, h => h.elim
  | [a], [], _, h => ⟨[], a, rfl, trivial, h.1⟩
  | a :: b :: as, [], _, h => h.2.elim
  | a :: as, r0 :: rs, _, h => by
    obtain ⟨bs, c, e, h1, h2⟩ := LLs.snoc h.2
    exact ⟨a :: bs, c, by rw [e]; rfl, ⟨h.1, h1⟩, h2⟩
/-- a list of lists of one's own -/
structure Own (rs : List (List Int)) (H : Hp) (l : Addr) (as : List Addr) (H1 : Hp) : Prop where
  p0 : H l = none
  p1 : H1 l = some (.lst (as.map V.ref))
  ll : LLs H1 as rs
  nw : ∀ c ∈ as, H c = none ∧ c ≠ l
theorem Own.ex (h : Own rs H p as H1) (e : Ex T H1 H2) : Own rs H p as H2 := ⟨h.p0, e.lst h.p1, h.ll.ex e, h.nw⟩
theorem Own.mut (h : Own rs H p as H1) {l : Addr} {o : HO} (hp : p ≠ l) (hl : l ∉ as) : Own rs H p as (upd H1 l o) := ⟨h.p0, by rw [upd_ne hp]; exact h.p1, h.ll.but hl, h.nw⟩
theorem Own.not_mem (h : Own rs H p as H1) : p ∉ as := fun z => (h.nw p z).2 rfl
end
end Sm

/-! SmY: all rows of at most a size, as plain lists; a comprehension that chooses lists. -/
namespace Sm
open PySem PySem.Spec PyProof.Rows L2
section
variable {T : Tb} {K : PySem.W.Frag} {σ : L2.St} {H H' H1 H2 : Hp} {ta tb te tc tl : TE} {tt : TT} {x y z v : V} {xs ys : List V} {a b d p l : Addr} {as bs : List Addr} {rs ss : List (List Int)} {r : List Int}
def OwnR (rs : List (List Int)) : Hp → V → Hp → Prop := fun H v H' => ∃ p as, v = .ref p ∧ Own rs H p as H'
/-- [r for r in xs if test], xs a new list of lists -/
theorem er_lcNLF {vs : List Nat} {n : Nat} (f : List Int → Bool) (h : EvR T tl σ H (NewLL rs)) (hz : rs.length ≤ 60000) (hw : ∀ x, wipe ((wipe σ vs).set n (some x)) vs = wipe σ vs)
    (ht : ∀ (c : Addr) (r : List Int) H1, Ex T H H1 → r ∈ rs → H1 c = some (.lst (vz r)) → EvT T tt ((wipe σ vs).set n (some (.ref c))) H1 (f r)) (hv : ∀ (c : Addr) H1, Ev T te ((wipe σ vs).set n (some (.ref c))) H1 (.ref c)) : EvR T (tLc (iList K tl) (gName n) tt te vs) σ H (OwnR (rs.filter f)) := fun H0 e Q q => h H0 e _ fun v H1 e1 ⟨a, as, ev, hN⟩ => by
  subst ev
  refine ⟨a, rfl, ⟨as.map V.ref, SqL.of hN.p1⟩, fun D hD => lc_list (xs := as.map V.ref) (fun i H' => ∃ bs, Ex T H1 H' ∧ H' D = some (.lst (bs.map V.ref)) ∧ LLs H' bs ((rs.take i).filter f) ∧ ∀ c ∈ bs, c ∈ as) ⟨[], .new hD, upd_same, by rw [List.take_zero]; exact trivial, fun _ h => nomatch h⟩ (fun i H' _ ⟨bs, p, _⟩ => p.sq (SqL.of hN.p1)) (fun i x H' hi ⟨bs, p1, p2, p3, p4⟩ => ?_) (fun H' ⟨bs, p1, p2, p3, p4⟩ => ?_)⟩
  · obtain ⟨c, hc, rfl⟩ := at_refs hi
    obtain ⟨r, hr, hcr⟩ := hN.ll.at' hc
    refine ⟨hw _, ?_⟩
    refine ht c r H' ((e.trans e1).trans p1) (List.mem_of_getElem? hr) (p1.lst hcr) H' .refl _ fun H2 e2 => ?_
    have hbl : bs.length ≤ i := by
      have h1 := p3.len
      have h2 := List.length_filter_le f (rs.take i)
      rw [List.length_take] at h2
      omega
    have hDb : ∀ c ∈ as, c ≠ D := fun c hc z => by
      obtain ⟨r, hr⟩ := hN.ll.some_ hc
      rw [z, hD] at hr
      cases hr
    have hi' := (List.getElem?_eq_some_iff.mp hr).1
    cases hf : f r with
    | true =>
      refine iteT (hv c H2 H2 .refl _ fun H3 e3 => ⟨bs.map V.ref, (e2.trans e3).lst p2, ?_, bs ++ [c], (p1.trans (e2.trans e3)).mut hD ((e2.trans e3).lst p2), by rw [upd_same, List.map_append]; rfl, ?_, fun d hd => ?_⟩)
      · rw [List.length_map]
        exact Nat.lt_of_lt_of_le (show bs.length < 100000 by omega) (by decide)
      · rw [List.take_add_one, hr, List.filter_append]
        have e5 : (some r).toList.filter f = [r] := by simp [hf]
        rw [e5]
        refine LLs.but (LLs.app (p3.ex (e2.trans e3)) (LLs.one ((p1.trans (e2.trans e3)).lst hcr))) fun z => ?_
        rcases List.mem_append.mp z with z | z
        · exact hDb D (p4 D z) rfl
        · exact hDb c (List.mem_of_getElem? hc) (List.mem_singleton.mp z).symm
      · rcases List.mem_append.mp hd with z | z
        · exact p4 d z
        · rw [List.mem_singleton.mp z]
          exact List.mem_of_getElem? hc
    | false =>
      refine iteF ⟨bs, p1.trans e2, e2.lst p2, ?_, p4⟩
      rw [List.take_add_one, hr, List.filter_append]
      have e5 : (some r).toList.filter f = [] := by simp [hf]
      rw [e5, List.append_nil]
      exact p3.ex e2
  · rw [List.length_map, hN.len, List.take_length] at p3
    exact q (.ref D) H' (e1.trans p1) ⟨D, bs, rfl, e1.n D hD, p2, p3, fun c hc => ⟨(hN.nw c (p4 c hc)).1, fun z => by
      obtain ⟨r, hr⟩ := hN.ll.some_ (p4 c hc)
      rw [z, hD] at hr
      cases hr⟩⟩
end
theorem nodup_len : ∀ {xs ys : List (List Int)}, xs.Nodup → (∀ x ∈ xs, x ∈ ys) → xs.length ≤ ys.length
  | [], _, _, _ => Nat.zero_le _
  | a :: xs, ys, h, hs => by
    obtain ⟨h1, h2⟩ := List.nodup_cons.mp h
    have ha := hs a (List.mem_cons_self ..)
    have ih := nodup_len (xs := xs) (ys := ys.erase a) h2 fun x hx => (List.mem_erase_of_ne fun (e : x = a) => h1 (by rw [← e]; exact hx)).mpr (hs x (List.mem_cons_of_mem _ hx))
    have h3 := List.length_erase_of_mem ha
    have h4 := List.length_pos_of_mem ha
    rw [List.length_cons]
    omega
theorem ks_eq : ∀ {xs ys : List (List Int)}, KS xs → KS ys → (∀ k, k ∈ xs ↔ k ∈ ys) → xs = ys
  | [], [], _, _, _ => rfl
  | [], b :: bs, _, _, h => absurd ((h b).mpr (List.mem_cons_self ..)) List.not_mem_nil
  | a :: as, [], _, _, h => absurd ((h a).mp (List.mem_cons_self ..)) List.not_mem_nil
  | a :: as, b :: bs, h1, h2, h => by
    obtain ⟨ha, has⟩ := List.pairwise_cons.mp h1
    obtain ⟨hb, hbs⟩ := List.pairwise_cons.mp h2
    have e : a = b := by
      rcases List.mem_cons.mp ((h a).mp (List.mem_cons_self ..)) with e | e
      · exact e
      rcases List.mem_cons.mp ((h b).mpr (List.mem_cons_self ..)) with e2 | e2
      · exact e2.symm
      exact absurd (List.lt_trans (ha b e2) (hb a e)) (List.lt_irrefl _)
    subst e
    rw [ks_eq has hbs fun k => ⟨fun z => ?_, fun z => ?_⟩]
    · rcases List.mem_cons.mp ((h k).mp (List.mem_cons_of_mem _ z)) with e | e
      · have := ha k z
        rw [e] at this
        exact absurd this (List.lt_irrefl _)
      · exact e
    · rcases List.mem_cons.mp ((h k).mpr (List.mem_cons_of_mem _ z)) with e | e
      · have := hb k z
        rw [e] at this
        exact absurd this (List.lt_irrefl _)
      · exact e
/-- all rows of at most a size, in order -/
structure AllUp (t : Int) (m : Nat) (S : Int) (rs : List (List Int)) : Prop where
  ks : KS rs
  mem : ∀ x, x ∈ rs ↔ IsRow t x ∧ x.length = m ∧ x.sum ≤ S
  few : rs.length ≤ 50000
structure InvU (t : Int) (m : Nat) (S : Int) (W F : List (List Int)) : Prop where
  nd : (F ++ W).Nodup
  row : ∀ x, x ∈ F ++ W → IsRow t x ∧ x.length = m ∧ x.sum ≤ S
  root : ∀ r ∈ rootsL t m, r.sum ≤ S → r ∈ F ++ W
  chi : ∀ a ∈ F, ∀ c ∈ childL t a, c.sum ≤ S → c ∈ F ++ W
  par : ∀ x ∈ F ++ W, rootB t x = true ∨ near t x (x.length - 1) ∈ F
theorem invU_zero {t : Int} {m : Nat} {S : Int} (ht : 1 ≤ t) (hm : 3 ≤ m ∧ m ≤ 6) : InvU t m S ((rootsL t m).filter fun r => decide (r.sum ≤ S)) [] := by
  refine ⟨?_, fun x hx => ?_, fun r hr hs => ?_, (fun _ h => nomatch h), fun x hx => ?_⟩
  · rw [List.nil_append]
    exact (roots_few ht hm).2.filter _
  · rw [List.nil_append] at hx
    obtain ⟨h1, h2⟩ := List.mem_filter.mp hx
    have h := roots_root ht hm h1
    exact ⟨h.1, h.2.1, of_decide_eq_true h2⟩
  · rw [List.nil_append]
    exact List.mem_filter.mpr ⟨hr, decide_eq_true hs⟩
  · rw [List.nil_append] at hx
    exact .inl (roots_root ht hm (List.mem_filter.mp hx).1).2.2.1
theorem invU_step {t : Int} {m : Nat} {S : Int} {W F : List (List Int)} {r : List Int} (ht : 1 ≤ t) (hm : 3 ≤ m ∧ m ≤ 6) (I : InvU t m S (W ++ [r]) F) : InvU t m S (W ++ (childL t r).filter fun c => decide (c.sum ≤ S)) (F ++ [r]) := by
  have hin : r ∈ F ++ (W ++ [r]) := List.mem_append.mpr (.inr (List.mem_append.mpr (.inr (List.mem_singleton.mpr rfl))))
  obtain ⟨hrow, hrl, hrs⟩ := I.row r hin
  obtain ⟨nF, nW, nFW⟩ := List.nodup_append.mp I.nd
  obtain ⟨nW0, _, nWr⟩ := List.nodup_append.mp nW
  have hrF : r ∉ F := fun z => nFW r z r (List.mem_append.mpr (.inr (List.mem_singleton.mpr rfl))) rfl
  have hchild : ∀ c ∈ childL t r, IsRow t c ∧ c.length = m ∧ r.sum < c.sum ∧ rootB t c = false ∧ near t c (c.length - 1) = r := fun c hc => by
    obtain ⟨i, hi, rfl, hs⟩ := mem_childL.mp hc
    obtain ⟨h1, h2⟩ := child_back hrow (by omega) hi hs
    exact ⟨near_row hrow hi (by omega), (near_len hi).trans hrl, hs, h1, h2⟩
  have hnew : ∀ c ∈ childL t r, c ∉ F ++ (W ++ [r]) := fun c hc z => by
    obtain ⟨_, _, _, h3, h4⟩ := hchild c hc
    rcases I.par c z with h | h
    · rw [h3] at h; cases h
    · rw [h4] at h
      exact hrF h
  have hre : ∀ x, x ∈ F ++ (W ++ [r]) → x ∈ (F ++ [r]) ++ (W ++ (childL t r).filter fun c => decide (c.sum ≤ S)) := fun x hx => by
    simp only [List.mem_append] at hx ⊢
    rcases hx with h | h | h
    · exact .inl (.inl h)
    · exact .inr (.inl h)
    · exact .inl (.inr h)
  refine ⟨?_, fun x hx => ?_, fun q hq hs => hre q (I.root q hq hs), fun a ha c hc hs => ?_, fun x hx => ?_⟩
  · have hperm : ((F ++ [r]) ++ (W ++ (childL t r).filter fun c => decide (c.sum ≤ S))).Perm ((F ++ (W ++ [r])) ++ (childL t r).filter fun c => decide (c.sum ≤ S)) := by
      rw [List.append_assoc F, List.append_assoc F]
      refine List.Perm.append_left F ?_
      rw [← List.append_assoc]
      exact List.Perm.append_right _ List.perm_append_comm
    refine hperm.symm.nodup (List.nodup_append.mpr ⟨I.nd, (ks_nodup (childL_ks t r)).filter _, fun x hx y hy e => ?_⟩)
    rw [e] at hx
    exact hnew y (List.mem_filter.mp hy).1 hx
  · simp only [List.mem_append] at hx
    rcases hx with (h | h) | (h | h)
    · exact I.row x (List.mem_append.mpr (.inl h))
    · rw [List.mem_singleton.mp h]
      exact ⟨hrow, hrl, hrs⟩
    · exact I.row x (List.mem_append.mpr (.inr (List.mem_append.mpr (.inl h))))
    · obtain ⟨h1, h2⟩ := List.mem_filter.mp h
      exact ⟨(hchild x h1).1, (hchild x h1).2.1, of_decide_eq_true h2⟩
  · rcases List.mem_append.mp ha with h | h
    · exact hre c (I.chi a h c hc hs)
    · rw [List.mem_singleton.mp h] at hc
      exact List.mem_append.mpr (.inr (List.mem_append.mpr (.inr (List.mem_filter.mpr ⟨hc, decide_eq_true hs⟩))))
  · have old : x ∈ F ++ (W ++ [r]) → rootB t x = true ∨ near t x (x.length - 1) ∈ F ++ [r] := fun h => (I.par x h).imp id fun h => List.mem_append.mpr (.inl h)
    simp only [List.mem_append] at hx
    rcases hx with (h | h) | (h | h)
    · exact old (List.mem_append.mpr (.inl h))
    · exact old (by rw [List.mem_singleton.mp h]; exact hin)
    · exact old (List.mem_append.mpr (.inr (List.mem_append.mpr (.inl h))))
    · rw [(hchild x (List.mem_filter.mp h).1).2.2.2.2]
      exact .inr (List.mem_append.mpr (.inr (List.mem_singleton.mpr rfl)))
theorem invU_all {t : Int} {m : Nat} {S : Int} {F : List (List Int)} (ht : 1 ≤ t) (hm : 3 ≤ m ∧ m ≤ 6) (I : InvU t m S [] F) : ∀ (k : Nat) (x : List Int), x.sum.toNat ≤ k → IsRow t x → x.length = m → x.sum ≤ S → x ∈ F
  | k, x, hk, hr, hl, hs => by
    have nil : ∀ {x}, x ∈ F ++ [] → x ∈ F := fun h => by rwa [List.append_nil] at h
    cases hb : rootB t x with
    | true => exact nil (I.root x (roots_all ht hm hr hl hb) hs)
    | false =>
      have h1 := back_lt hb
      have hp : x.length - 1 < x.length := by omega
      have hrow := near_row hr hp (by omega)
      have hln := near_len (t := t) hp
      obtain ⟨hq, he⟩ := back_least hr (by omega)
      have h3 := sum_ge hrow.pos
      have h4 : (near t x (x.length - 1)).sum.toNat < k := by omega
      have hp := invU_all ht hm I (near t x (x.length - 1)).sum.toNat _ (Nat.le_refl _) hrow (hln.trans hl) (by omega)
      exact nil (I.chi _ hp x (mem_childL.mpr ⟨_, by rw [hln]; exact hq, he.symm, h1⟩) hs)
  termination_by k => k
theorem invU_len {t : Int} {m : Nat} {S : Int} {W F rs : List (List Int)} (I : InvU t m S W F) (A : AllUp t m S rs) : F.length + W.length ≤ rs.length := by
  have := nodup_len I.nd fun x hx => (A.mem x).mpr (I.row x hx)
  rw [List.length_append] at this
  exact this
theorem invU_end {t : Int} {m : Nat} {S : Int} {F rs : List (List Int)} (ht : 1 ≤ t) (hm : 3 ≤ m ∧ m ≤ 6) (I : InvU t m S [] F) (A : AllUp t m S rs) : ksort F = rs := by
  have hnd := I.nd
  rw [List.append_nil] at hnd
  refine ks_eq (ksort_ks hnd) A.ks fun k => ?_
  rw [List.mem_mergeSort]
  constructor
  · intro h
    exact (A.mem k).mpr (I.row k (List.mem_append.mpr (.inl h)))
  · intro h
    obtain ⟨h1, h2, h3⟩ := (A.mem k).mp h
    exact invU_all ht hm I k.sum.toNat k (Nat.le_refl _) h1 h2 h3
end Sm

/-! SmE: refusals: classes, raising, the law's try. -/
namespace Sm
open PySem PySem.Spec PyProof.Rows L2
/-- where the classes of refusals stand -/
structure Ze where
  row : Addr
  noRow : Addr
  noPlace : Addr
  noSuch : Addr
  badText : Addr
/-- a class x at C that may be raised, one of those under the class at R -/
structure Xc (K : PySem.W.Frag) (mg : Str → Option Value) (x : Str) (C R : Addr) : Prop where
  g : mg x = some (.ref C)
  x : PySem.W.excIn K C [.type "ValueError", .type "Exception", .type "BaseException", .type "object"] "ValueError.__new__" = true
  k : PySem.W.keepIn K (.ref C) = true
  b : PySem.W.subIn K (.ref C) (.type "BaseException") = some true
  t : PySem.W.typeIn K (.ref C) = some (.type "type")
  e : PySem.W.exmOne K (.ref C) (.ref R) = some true
  i : ExcC K C
section
variable {X : Cx} {x : Str} {C R : Addr}
theorem Xc.make (c : Xc X.K X.mg x C R) {m : Str} {j : Nat} {p p2 pos : Pos} (hg : Gl X x) (hdb : (x == ("__debug__" : Str)) = false := by decide) : PMk X (.Call (.Name x p) [.Constant (.str m) j p2] [] pos) (fun _ H Q => Q (.ref C) none H) :=
  pmk_own PySem.F.excBase_ValueError c.x c.g c.k (raises_own c.b c.t) hg hdb
/-- isinstance(e, c), e what the suite holds, of whatever class -/
def rIsX (K : PySem.W.Frag) (a : Addr) (cls : Value) (d : Option Addr) : List V → Hp → VK → Prop := fun xs H Q => ∃ D, cls = .ref D ∧ d = none ∧ ExcC K D ∧ rIsE K D a xs H Q
theorem call_isX {K : PySem.W.Frag} {a : Addr} {oe : Obj} {cls : Value} {d : Option Addr} {pn : List (Addr × Obj)} (hK : X.K = K) (hz : Zc cls d oe) (hf : ∃ vs, oe.data = .fields vs) : CallR (X.suite a ((a, oe) :: pn)) (.builtin "isinstance") (rIsX K a cls d) := by
  subst hK
  intro pins s σ H xs us Q I r h
  obtain ⟨D, rfl, rfl, hE, h⟩ := h
  exact call_isE hE hz hf pins s σ H xs us Q I r h
variable {CX : CXT} {k j : Nat} {sp : Sp} {p pos : Pos} {e : Expr} {es : List Expr} {t : TA} {E : L2.St → XK}
theorem pe_kS (c : Ca CX X.prog X.w X.K X.mg X.base k x sp) (hr : Room j X.A) (hk : k ≤ j) (hx : ∀ σ, PassesAt CX X σ (E σ)) (hg : Gl X x) (ha : PA X (e :: es) t)
    (hd : (x == ("__debug__" : Str)) = false := by decide) (he : starEach (e :: es) X.env = (false, eval e X.env) :: starEach es X.env := by rfl) (hpl : (backTo pos (starEach es X.env)).any (·.1) = false := by rfl) :
    PE X (.Call (.Name x p) (e :: es) [] pos) (tCallS sp E t) := by
  obtain ⟨f, fd, ps, F, hm, kp, b⟩ := c.ex
  exact pe_callS F (hr.mono hk) hg hm kp b hx ha hd he hpl
end
section
variable {T : Tb} {K : PySem.W.Frag} {σ : L2.St} {H H' : Hp} {ta tb te tc : TE}
theorem ev_isX {a D : Addr} {cls : Value} {d : Option Addr} {c : V} {cv : Value} {b : Bool} (ha : Ev T ta σ H (.ref a)) (hb : Ev T tb σ H c) (h1 : cls = .ref D) (h2 : d = none) (hE : ExcC K D) (hc : ∀ u, RelV c u → u = cv) (hk : PySem.W.kitOne K (.ref D) cv = some b) :
    Ev T (tCB (rIsX K a cls d) (tCons ta (tCons tb tNil))) σ H (.bl b) := fun H1 e Q q => ha H1 e _ fun H2 e2 => hb H2 (e.trans e2) _ fun H3 e3 => ⟨D, h1, h2, hE, c, cv, b, rfl, hc, hk, q H3 (e2.trans e3)⟩
/-- a call that raises -/
theorem call_raise {sp : Sp} {E : XK} {tr : TA} {vs : List V} {Q : VK} (h : EvA T tr σ H vs) (hs : ∀ H1, Ex T H H1 → ∀ Q : VK, sp vs H1 Q E) : tCall sp [] E tr σ H Q := h H .refl _ fun H1 e1 => by
  show sp (vs ++ []) H1 Q E
  rw [List.append_nil]
  exact hs H1 e1 Q
theorem call_raiseS {sp : Sp} {E : L2.St → XK} {tr : TA} {vs : List V} {Q : VK} (h : EvA T tr σ H vs) (hs : ∀ H1, Ex T H H1 → ∀ Q : VK, sp vs H1 Q (E σ)) : tCallS sp E tr σ H Q := h H .refl _ fun H1 e1 => hs H1 e1 Q
theorem ev_callS {sp : Sp} {E : L2.St → XK} {tr : TA} {vs : List V} {z : V} (h : EvA T tr σ H vs) (hs : ∀ H1, Ex T H H1 → ∀ Q : VK, (∀ H2, Ex T H1 H2 → Q z H2) → sp vs H1 Q (E σ)) : Ev T (tCallS sp E tr) σ H z := fun H1 e Q q =>
  h H1 e _ fun H2 e2 => hs H2 (e.trans e2) Q fun H3 e3 => q H3 (e2.trans e3)
theorem el_callS {sp : Sp} {E : L2.St → XK} {tr : TA} {vs xs : List V} (h : EvA T tr σ H vs) (hs : ∀ H1, Ex T H H1 → ∀ Q : VK, (∀ p H2, H1 p = none → Ex T H1 H2 → H2 p = some (.lst xs) → Q (.ref p) H2) → sp vs H1 Q (E σ)) : EvL T (tCallS sp E tr) σ H xs := fun H1 e Q q =>
  h H1 e _ fun H2 e2 => hs H2 (e.trans e2) Q fun p H3 hp e3 h3 => q p H3 (e2.n p hp) (e2.trans e3) h3
theorem er_callS {sp : Sp} {E : L2.St → XK} {tr : TA} {vs : List V} {R : Hp → V → Hp → Prop} (h : EvA T tr σ H vs) (hs : ∀ H1, Ex T H H1 → ∀ Q : VK, (∀ v H2, Ex T H1 H2 → R H1 v H2 → Q v H2) → sp vs H1 Q (E σ))
    (hR : ∀ H1 H2 v H3, Ex T H1 H2 → R H2 v H3 → R H1 v H3) : EvR T (tCallS sp E tr) σ H R := fun H1 e Q q =>
  h H1 e _ fun H2 e2 => hs H2 (e.trans e2) Q fun v H3 e3 r => q v H3 (e2.trans e3) (hR H1 H2 v H3 e2 r)
/-! ### isinstance of an own class -/
theorem kit_self {C : Addr} (h : (Value.ref C == Value.ref C) = true) : PySem.W.kitOne K (.ref C) (.ref C) = some true := if_pos h
theorem kit_ref {C D : Addr} {b : Bool} (hd : PySem.W.hasDictIn K D = true) (ht : PySem.W.typeIn K (.ref D) = some (.type "type")) (hs : PySem.W.subIn K (.ref C) (.ref D) = some b) (hq : (Value.ref C == Value.ref D) = false) : PySem.W.kitOne K (.ref C) (.ref D) = some b := by
  obtain ⟨cd, hc, _⟩ := PySem.W.any_some hd
  have e2 : ((PySem.W.clsIn K D).isSome && PySem.W.typeIn K (.ref D) == some (.type "type")) = true := by rw [hc, ht] <;> rfl
  show (if (Value.ref C == Value.ref D) = true then some true else (if ((PySem.W.clsIn K D).isSome && PySem.W.typeIn K (.ref D) == some (.type "type")) = true then PySem.W.subIn K (.ref C) (.ref D) else none)) = some b
  rw [hq, if_neg Bool.false_ne_true, if_pos e2, hs]
theorem kit_VE {C : Addr} (hs : PySem.W.subIn K (.ref C) (.type "ValueError") = some true) : PySem.W.kitOne K (.ref C) (.type "ValueError") = some true := by
  have e1 : PySem.W.kitMeta "ValueError" = true := by decide +kernel
  show (if (Value.ref C == Value.type "ValueError") = true then some true else (if PySem.W.kitMeta "ValueError" = true then PySem.W.subIn K (.ref C) (.type "ValueError") else none)) = some true
  have e0 : (Value.ref C == Value.type "ValueError") = false := rfl
  rw [e0, if_neg Bool.false_ne_true, if_pos e1, hs]
/-! ### what is compared: bools, none -/
def dB (bs : List Bool) : PyData := .list (bs.map .bool)
abbrev vb (bs : List Bool) : List V := bs.map V.bl
theorem dp_bools {bs : List Bool} : DpAll K H (vb bs) (bs.map .bool) := by
  induction bs with
  | nil => exact .nil
  | cons b r ih => exact .cons (.bl b) ih
theorem lay_bools : ∀ bs : List Bool, PyData.canLayAll0 (bs.map .bool) = true
  | [] => by simp [PyData.canLayAll0]
  | b :: r => by simp [PyData.canLayAll0, PyData.canLay0, lay_bools r]
theorem dep_bools : ∀ bs : List Bool, PyData.depthAll (bs.map .bool) = 0
  | [] => by simp [PyData.depthAll]
  | b :: r => by simp [PyData.depthAll, PyData.depth, dep_bools r]
theorem eqvA_B : ∀ bs cs : List Bool, PyData.eqvAll (bs.map .bool) (cs.map .bool) = decide (bs = cs)
  | [], [] => by simp [PyData.eqvAll]
  | [], _ :: _ => by simp [PyData.eqvAll]
  | _ :: _, [] => by simp [PyData.eqvAll]
  | b :: r, c :: s => by
    show PyData.eqvAll (.bool b :: r.map .bool) (.bool c :: s.map .bool) = decide (b :: r = c :: s)
    simp only [PyData.eqvAll, PyData.eqv, eqvA_B r s]
    cases b <;> cases c <;> simp
end
/-- (None, [..]) at data -/
def dNB (bs : List Bool) : PyData := .tuple [.none, dB bs]
theorem sh_NB (bs : List Bool) : SeqAt.shaped (dNB bs) = true := by
  show (PyData.canLay0 (dNB bs) && decide (PyData.depth (dNB bs) ≤ 64)) = true
  have h1 : PyData.canLay0 (dNB bs) = true := by
    show PyData.canLay0 (.tuple [.none, .list (bs.map .bool)]) = true
    simp only [PyData.canLay0, PyData.canLayAll0, lay_bools, Bool.and_self]
  have h2 : PyData.depth (dNB bs) ≤ 64 := by
    show PyData.depth (.tuple [.none, .list (bs.map .bool)]) ≤ 64
    simp only [PyData.depth, PyData.depthAll, dep_bools]
    decide
  rw [h1, decide_eq_true h2]
  rfl
theorem eqv_NB (bs cs : List Bool) : PyData.eqv (dNB bs) (dNB cs) = decide (bs = cs) := by
  show PyData.eqv (.tuple [.none, .list (bs.map .bool)]) (.tuple [.none, .list (cs.map .bool)]) = decide (bs = cs)
  simp only [PyData.eqv, PyData.eqvAll, eqvA_B, Bool.and_true, Bool.true_and]
theorem ev_eqNB {T : Tb} {K : PySem.W.Frag} {σ : L2.St} {H : Hp} {ta tl : TE} {p l : Addr} {bs cs : List Bool} (ha : Ev T ta σ H (.ref p)) (hp : H p = some (.tup [.non, .ref l])) (hl : H l = some (.lst (vb bs))) (hb : EvL T tl σ H (vb cs)) :
    Ev T (tOp (rEqD K) ta (tTup (tCons (tC .non) (tCons tl tNil)))) σ H (.bl (decide (bs = cs))) := fun H1 e Q f =>
  ha H1 e _ fun H2 e2 => by
    simp only [tTup, tCons, tC, tNil]
    refine hb H2 (e.trans e2) _ fun m H3 hm e3 h3 => ⟨(by decide : 2 ≤ sizeLine), fun q hq => ⟨dNB bs, dNB cs, ?_, ?_, sh_NB _, sh_NB _, ?_⟩⟩
    · have E := (e.trans (e2.trans e3)).trans (Ex.new (T := T) (o := .tup [.non, .ref m]) hq)
      exact .tup (.inl (.inl (E.tup hp))) (.cons .non (.cons (.lst (SqL.of (E.lst hl)) dp_bools) .nil))
    · refine .tup (.inl (.inl upd_same)) (.cons .non (.cons (.lst (SqL.of ?_) dp_bools) .nil))
      rw [upd_ne (ne_of_none h3 hq)]
      exact h3
    · rw [eqv_NB]
      exact f _ ((e2.trans e3).trans (.new hq))
end Sm

/-! SmZ: one call by two promises; refusals of what is no row; rows of small sizes. -/
namespace Sm
open PySem PySem.Spec PyProof.Rows L2
def tOrE (t u : TE) : TE := fun σ H Q => t σ H Q ∨ u σ H Q
theorem pe_or {X : Cx} {e : Expr} {t u : TE} (h1 : PE X e t) (h2 : PE X e u) : PE X e (tOrE t u) := ⟨fun pins s σ H Q I h => h.elim (h1.run pins s σ H Q I) (h2.run pins s σ H Q I)⟩
/-- refused, for it is no row -/
def spR (Z : Ze) (T : Tb) (K : PySem.W.Frag) : Sp := spM (α := Int × Addr × List Int) (fun q => [.int q.1, .ref q.2.1]) fun q H _ E => SqL K H q.2.1 (vz q.2.2) ∧ Wd q.1 q.2.2 ∧ ¬ IsRow q.1 q.2.2 ∧ ∀ H', Ex T H H' → E (.ref Z.noRow) none H'
section
variable {T : Tb} {σ : L2.St} {H : Hp} {t : TT} {tu tz : TS} {D : Ends}
/-- one case of more -/
theorem q_opt {b : Bool} {C : Prop} (h : EvT T t σ H b) (h1 : b = true → (C → ∀ H1, Ex T H H1 → tz D σ H1) → ∀ H1, Ex T H H1 → tu { D with nx := tz D } σ H1) (h2 : b = false → C) (k : C → ∀ H1, Ex T H H1 → tz D σ H1) : tSeq (tIfS t tu tNext) tz D σ H :=
  q_when h (fun hb H1 e1 => h1 hb k H1 e1) fun hb H1 e1 => k (h2 hb) H1 e1
end
/-! ### all rows of a small size -/
def growL (t : Int) (m : Nat) (S : Int) : Nat → List (List Int) → List (List Int) → List (List Int)
  | 0, _, F => F
  | _ + 1, [], F => F
  | n + 1, r :: W, F => if F.contains r then growL t m S n W F else growL t m S n (((List.range m).map fun i => near t r i).filter (fun c => decide (c.sum ≤ S)) ++ W) (F ++ [r])
def closedB (t : Int) (m : Nat) (S : Int) (C : List (List Int)) : Bool := (rawRoots t m).all (fun r => decide (S < r.sum) || C.contains r) && C.all (fun a => (List.range m).all fun i => decide (S < (near t a i).sum) || C.contains (near t a i)) && decide C.Nodup && decide (C.length ≤ 50000)
theorem grown : ∀ m ∈ [3, 4, 5, 6], ∀ t ∈ [(1 : Int), 2, 3, 4, 5, 6], closedB t m 400 (growL t m 400 3000 (rawRoots t m) []) = true := by decide +kernel
theorem closed_in {t : Int} {m : Nat} {S : Int} {C : List (List Int)} (ht : 1 ≤ t) (hm : 3 ≤ m ∧ m ≤ 6) (hC : closedB t m S C = true) : ∀ (k : Nat) (x : List Int), x.sum.toNat ≤ k → IsRow t x → x.length = m → x.sum ≤ S → x ∈ C
  | k, x, hk, hr, hl, hs => by
    have hC' := hC
    unfold closedB at hC'
    simp only [Bool.and_eq_true] at hC'
    obtain ⟨⟨⟨h1, h2⟩, _⟩, _⟩ := hC'
    cases hb : rootB t x with
    | true =>
      have h := List.all_eq_true.mp h1 x (mem_roots.mp (roots_all ht hm hr hl hb))
      rw [Bool.or_eq_true] at h
      rcases h with h | h
      · have := of_decide_eq_true h
        omega
      · exact List.contains_iff_mem.mp h
    | false =>
      have h3 := back_lt hb
      have hp : x.length - 1 < x.length := by omega
      have hrow := near_row hr hp (by omega)
      have hln := near_len (t := t) hp
      obtain ⟨hq, he⟩ := back_least hr (by omega)
      have h5 := sum_ge hrow.pos
      have h4 : (near t x (x.length - 1)).sum.toNat < k := by omega
      have hpC := closed_in ht hm hC (near t x (x.length - 1)).sum.toNat _ (Nat.le_refl _) hrow (hln.trans hl) (by omega)
      have h := List.all_eq_true.mp (List.all_eq_true.mp h2 _ hpC) _ (List.mem_range.mpr (show leastP t (near t x (x.length - 1)) x < m by omega))
      rw [he, Bool.or_eq_true] at h
      rcases h with h | h
      · have := of_decide_eq_true h
        omega
      · exact List.contains_iff_mem.mp h
  termination_by k => k
theorem small_up {t : Int} {m : Nat} {x : List Int} (ht : 1 ≤ t) (hm : 3 ≤ m ∧ m ≤ 6) (hr : IsRow t x) (hl : x.length = m) (hs : x.sum ≤ 400) : ∃ (rs : List (List Int)) (j : Nat), AllUp t m x.sum rs ∧ rs[j]? = some x := by
  have htm : t ≤ m := by
    obtain ⟨q, ps, w⟩ := Way.some _ x (Nat.le_refl _) hr (by omega)
    have g := w.good hr (by omega)
    have h := roots_all ht hm g.row (g.len.trans hl) g.root
    refine Classical.byContradiction fun z => ?_
    have h2 := mem_roots.mp h
    rw [raw_none hm.1 (by omega)] at h2
    cases h2
  have hC : closedB t m 400 (growL t m 400 3000 (rawRoots t m) []) = true := by
    have hmm : m ∈ [3, 4, 5, 6] := by
      have : m = 3 ∨ m = 4 ∨ m = 5 ∨ m = 6 := by omega
      rcases this with rfl | rfl | rfl | rfl <;> decide
    have htt : t ∈ [(1 : Int), 2, 3, 4, 5, 6] := by
      have : t = 1 ∨ t = 2 ∨ t = 3 ∨ t = 4 ∨ t = 5 ∨ t = 6 := by omega
      rcases this with rfl | rfl | rfl | rfl | rfl | rfl <;> decide
    exact grown m hmm t htt
  generalize growL t m 400 3000 (rawRoots t m) [] = C at hC
  have hin := closed_in ht hm hC
  unfold closedB at hC
  simp only [Bool.and_eq_true] at hC
  obtain ⟨⟨_, h3⟩, h4⟩ := hC
  have hmem : ∀ y, y ∈ ksort (C.filter fun r => decide (IsRow t r) && decide (r.length = m) && decide (r.sum ≤ x.sum)) ↔ IsRow t y ∧ y.length = m ∧ y.sum ≤ x.sum := fun y => by
    rw [List.mem_mergeSort, List.mem_filter, Bool.and_eq_true, Bool.and_eq_true, decide_eq_true_iff, decide_eq_true_iff, decide_eq_true_iff]
    constructor
    · rintro ⟨_, ⟨h1, h2⟩, h5⟩
      exact ⟨h1, h2, h5⟩
    · rintro ⟨h1, h2, h5⟩
      exact ⟨hin y.sum.toNat y (Nat.le_refl _) h1 h2 (by omega), ⟨h1, h2⟩, h5⟩
  obtain ⟨j, hj⟩ := List.getElem?_of_mem ((hmem x).mpr ⟨hr, hl, Int.le_refl _⟩)
  refine ⟨_, j, ⟨ksort_ks ((of_decide_eq_true h3).filter _), hmem, ?_⟩, hj⟩
  rw [List.length_mergeSort]
  have h5 := List.length_filter_le (fun r => decide (IsRow t r) && decide (r.length = m) && decide (r.sum ≤ x.sum)) C
  have h6 := of_decide_eq_true h4
  omega
section
variable {T : Tb} {σ : L2.St} {H : Hp} {D : Ends} {sp sp2 : Sp} {E : XK} {ES : L2.St → XK} {tr t1 t2 t3 : TE} {ta tb : TA} {u : TE} {vs zs : List V} {x y : V}
theorem drop_call (h : EvA T ta σ H vs) (hs : ∀ H1, Ex T H H1 → sp vs H1 (fun _ H2 => D.nx σ H2) E) : tDrop (tCall sp [] E ta) D σ H := by
  refine (show ta σ H (fun vs H1 => sp (vs ++ []) H1 (fun _ H2 => D.nx σ H2) E) from h H .refl _ fun H1 e1 => ?_)
  rw [List.append_nil]
  exact hs H1 e1
theorem drop_callS (h : EvA T ta σ H vs) (hs : ∀ H1, Ex T H H1 → sp vs H1 (fun _ H2 => D.nx σ H2) (ES σ)) : tDrop (tCallS sp ES ta) D σ H := h H .refl _ fun H1 e1 => hs H1 e1
theorem drop_l (h : tDrop tr D σ H) : tDrop (tOrE tr u) D σ H := .inl h
theorem drop_r (h : tDrop u D σ H) : tDrop (tOrE tr u) D σ H := .inr h
theorem drop_call3L (h1 : Ev T t1 σ H x) (h2 : Ev T t2 σ H y) (h3 : EvL T t3 σ H zs) (hs : ∀ p H1, Ex T H H1 → H1 p = some (.lst zs) → sp [x, y, .ref p] H1 (fun _ H2 => D.nx σ H2) E) : tDrop (tCall sp [] E (tCons t1 (tCons t2 (tCons t3 tNil)))) D σ H := by
  refine (show tCons t1 (tCons t2 (tCons t3 tNil)) σ H (fun vs H1 => sp (vs ++ []) H1 (fun _ H2 => D.nx σ H2) E) from h1 H .refl _ fun H2 e2 => h2 H2 e2 _ fun H3 e3 => h3 H3 (e2.trans e3) _ fun p H4 hp e4 h4 => ?_)
  exact hs p H4 (e2.trans (e3.trans e4)) h4
end
end Sm

namespace Sm
open PySem PySem.Spec PyProof.Rows L2
/-! ### what goes by itself -/
local macro_rules | `(tactic| walk_at "sq") => `(tactic| first | assumption | (refine SqL.of ?_; assumption) | (refine Ex.sq (by assumption) ?_; walk_at "sq"))
local macro_rules | `(tactic| walk_at "lst") => `(tactic| first | assumption | (refine Ex.lst (by assumption) ?_; walk_at "lst"))
local macro_rules | `(tactic| walk_at "ev") => `(tactic| first
  | exact ev_var rfl
  | exact ev_c
  | (refine ev_I0 ?_ ?_ <;> walk_at "ev")
  | (refine ev_eqI ?_ ?_ <;> walk_at "ev")
  | (refine ev_neI ?_ ?_ <;> walk_at "ev")
  | (refine ev_neB ?_ ?_ <;> walk_at "ev")
  | (refine ev_un ?_ <;> walk_at "ev")
  | (refine ev_len ?h1 ?h2; (case h1 => walk_at "ev"); (case h2 => walk_at "sq"))
  | (refine ev_sum ?h1 ?h2; (case h1 => walk_at "ev"); (case h2 => walk_at "sq"))
  | (refine ev_eqL ?h1 ?h2 ?h3 ?h4; (case h1 => walk_at "ev"); (case h2 => walk_at "ev"); (case h3 => walk_at "sq"); (case h4 => walk_at "sq"))
  | (refine ev_neL ?h1 ?h2 ?h3 ?h4; (case h1 => walk_at "ev"); (case h2 => walk_at "ev"); (case h3 => walk_at "sq"); (case h4 => walk_at "sq"))
  | (refine et_test ?_; walk_at "ev")
  | (refine et_B ?_; walk_at "ev")
  | (refine et_not ?_; walk_at "ev")
  | exact ea_nil
  | (refine ea_cons ?_ ?_ <;> walk_at "ev")
  | exact eo_none
  | (refine eo_some ?_; walk_at "ev"))

/-! ### the text by its places -/
def topS (i : Nat) : Stmt := PySem.Challenge.pw_sumtimes_k03_no_rows.main.body.getD i (.Pass ⟨0, 0, 0, 0⟩)
abbrev s_product : Stmt := topS 7
theorem sc_product : FnScope ["numbers", "made", "number"] ["numbers"] (defScope s_product) := ⟨rfl, rfl, rfl, by decide +kernel, rfl, by decide +kernel, by decide +kernel⟩
abbrev s_holds : Stmt := topS 8
theorem sc_holds : FnScope ["times", "row", "k", "number"] ["times", "row"] (defScope s_holds) := ⟨rfl, rfl, rfl, by decide +kernel, rfl, by decide +kernel, by decide +kernel⟩
abbrev s_see_row : Stmt := topS 9
theorem sc_see_row : FnScope ["times", "row"] ["times", "row"] (defScope s_see_row) := ⟨rfl, rfl, rfl, by decide +kernel, rfl, by decide +kernel, by decide +kernel⟩
abbrev s_at_place : Stmt := topS 10
theorem sc_at_place : FnScope ["times", "row", "place", "others"] ["times", "row", "place"] (defScope s_at_place) := ⟨rfl, rfl, rfl, by decide +kernel, rfl, by decide +kernel, by decide +kernel⟩
abbrev s_neighbour : Stmt := topS 11
theorem sc_neighbour : FnScope ["times", "row", "place"] ["times", "row", "place"] (defScope s_neighbour) := ⟨rfl, rfl, rfl, by decide +kernel, rfl, by decide +kernel, by decide +kernel⟩
abbrev s_neighbours : Stmt := topS 12
theorem sc_neighbours : FnScope ["times", "row", "place"] ["times", "row"] (defScope s_neighbours) := ⟨rfl, rfl, rfl, by decide +kernel, rfl, by decide +kernel, by decide +kernel⟩
abbrev s_is_root : Stmt := topS 14
theorem sc_is_root : FnScope ["times", "row"] ["times", "row"] (defScope s_is_root) := ⟨rfl, rfl, rfl, by decide +kernel, rfl, by decide +kernel, by decide +kernel⟩
abbrev s_parts : Stmt := topS 15
theorem sc_parts : FnScope ["many", "least", "most", "found", "first", "tail"] ["many", "least", "most"] (defScope s_parts) := ⟨rfl, rfl, rfl, by decide +kernel, rfl, by decide +kernel, by decide +kernel⟩
abbrev s_whole_root : Stmt := topS 16
theorem sc_whole_root : FnScope ["number", "low", "high", "middle"] ["number"] (defScope s_whole_root) := ⟨rfl, rfl, rfl, by decide +kernel, rfl, by decide +kernel, by decide +kernel⟩
abbrev s_ends : Stmt := topS 17
theorem sc_ends : FnScope ["times", "few", "found", "ahead", "rest", "second", "far", "greatest", "number"] ["times", "few"] (defScope s_ends) := ⟨rfl, rfl, rfl, by decide +kernel, rfl, by decide +kernel, by decide +kernel⟩
abbrev s_roots : Stmt := topS 18
theorem sc_roots : FnScope ["times", "many", "found", "few"] ["times", "many"] (defScope s_roots) := ⟨rfl, rfl, rfl, by decide +kernel, rfl, by decide +kernel, by decide +kernel⟩
abbrev s_comes_from : Stmt := topS 20
theorem sc_comes_from : FnScope ["times", "row"] ["times", "row"] (defScope s_comes_from) := ⟨rfl, rfl, rfl, by decide +kernel, rfl, by decide +kernel, by decide +kernel⟩
abbrev s_children : Stmt := topS 21
theorem sc_children : FnScope ["times", "row", "found", "place", "far"] ["times", "row"] (defScope s_children) := ⟨rfl, rfl, rfl, by decide +kernel, rfl, by decide +kernel, by decide +kernel⟩
abbrev s_least_place : Stmt := topS 22
theorem sc_least_place : FnScope ["times", "row", "far", "place"] ["times", "row", "far"] (defScope s_least_place) := ⟨rfl, rfl, rfl, by decide +kernel, rfl, by decide +kernel, by decide +kernel⟩
abbrev s_way : Stmt := topS 23
theorem sc_way : FnScope ["times", "row", "places", "here", "back"] ["times", "row"] (defScope s_way) := ⟨rfl, rfl, rfl, by decide +kernel, rfl, by decide +kernel, by decide +kernel⟩
abbrev s_led : Stmt := topS 24
theorem sc_led : FnScope ["times", "row", "places", "here", "place"] ["times", "row", "places"] (defScope s_led) := ⟨rfl, rfl, rfl, by decide +kernel, rfl, by decide +kernel, by decide +kernel⟩
abbrev s_key_of : Stmt := topS 26
theorem sc_key_of : FnScope ["row"] ["row"] (defScope s_key_of) := ⟨rfl, rfl, rfl, by decide +kernel, rfl, by decide +kernel, by decide +kernel⟩
abbrev s_up_to : Stmt := topS 27
theorem sc_up_to : FnScope ["times", "many", "size", "row", "waiting", "found", "far"] ["times", "many", "size"] (defScope s_up_to) := ⟨rfl, rfl, rfl, by decide +kernel, rfl, by decide +kernel, by decide +kernel⟩
abbrev s_place_of : Stmt := topS 28
theorem sc_place_of : FnScope ["times", "row"] ["times", "row"] (defScope s_place_of) := ⟨rfl, rfl, rfl, by decide +kernel, rfl, by decide +kernel, by decide +kernel⟩
abbrev s_shown : Stmt := topS 30
theorem sc_shown : FnScope ["times", "row", "number"] ["times", "row"] (defScope s_shown) := ⟨rfl, rfl, rfl, by decide +kernel, rfl, by decide +kernel, by decide +kernel⟩
abbrev s__law_cell_at : Stmt := topS 32
theorem sc__law_cell_at : FnScope ["script", "k"] ["script", "k"] (defScope s__law_cell_at) := ⟨rfl, rfl, rfl, by decide +kernel, rfl, by decide +kernel, by decide +kernel⟩
abbrev s__law_whole : Stmt := topS 33
theorem sc__law_whole : FnScope ["found"] ["found"] (defScope s__law_whole) := ⟨rfl, rfl, rfl, by decide +kernel, rfl, by decide +kernel, by decide +kernel⟩
abbrev s__law_product : Stmt := topS 34
theorem sc__law_product : FnScope ["numbers", "made", "number"] ["numbers"] (defScope s__law_product) := ⟨rfl, rfl, rfl, by decide +kernel, rfl, by decide +kernel, by decide +kernel⟩
abbrev s__law_near : Stmt := topS 35
theorem sc__law_near : FnScope ["times", "row", "place", "others"] ["times", "row", "place"] (defScope s__law_near) := ⟨rfl, rfl, rfl, by decide +kernel, rfl, by decide +kernel, by decide +kernel⟩
abbrev s__law_is_row : Stmt := topS 36
theorem sc__law_is_row : FnScope ["times", "row", "number"] ["times", "row"] (defScope s__law_is_row) := ⟨rfl, rfl, rfl, by decide +kernel, rfl, by decide +kernel, by decide +kernel⟩
abbrev s__law_alike : Stmt := topS 37
theorem sc__law_alike : FnScope ["found", "due", "k"] ["found", "due"] (defScope s__law_alike) := ⟨rfl, rfl, rfl, by decide +kernel, rfl, by decide +kernel, by decide +kernel⟩
abbrev s__law_root_by : Stmt := topS 38
theorem sc__law_root_by : FnScope ["cell", "some"] ["cell"] (defScope s__law_root_by) := ⟨rfl, rfl, rfl, by decide +kernel, rfl, by decide +kernel, by decide +kernel⟩
abbrev s__law_drawn : Stmt := topS 39
theorem sc__law_drawn : FnScope ["script", "root", "row", "k", "far"] ["script"] (defScope s__law_drawn) := ⟨rfl, rfl, rfl, by decide +kernel, rfl, by decide +kernel, by decide +kernel⟩
abbrev s__law_call : Stmt := topS 40
theorem sc__law_call : FnScope ["call", "times", "row", "place"] ["call", "times", "row", "place"] (defScope s__law_call) := ⟨rfl, rfl, rfl, by decide +kernel, rfl, by decide +kernel, by decide +kernel⟩
abbrev s__law_kinds : Stmt := topS 41
theorem sc__law_kinds : FnScope ["call", "times", "row", "place", "kinds", "e"] ["call", "times", "row", "place"] (defScope s__law_kinds) := ⟨rfl, rfl, rfl, by decide +kernel, rfl, by decide +kernel, by decide +kernel⟩
abbrev s_law : Stmt := topS 42
theorem sc_law : FnScope ["script", "drawn", "times", "row", "cell", "place", "call", "due", "handed"] ["script"] (defScope s_law) := ⟨rfl, rfl, rfl, by decide +kernel, rfl, by decide +kernel, by decide +kernel⟩
section
variable {P : Program} {w : World} {K : PySem.W.Frag} {mg : Str → Option Value} {base : Heap} {T : Tb}
/-! ### product -/
def sp_product (T : Tb) (K : PySem.W.Frag) : Sp := spM (α := Addr × List Int) (fun q => [.ref q.1]) fun q H Q _ => SqL K H q.1 (vz q.2) ∧ q.2.length ≤ 6 ∧ (∃ b, b ≤ 100000 ∧ Bd b q.2) ∧ ∀ H', Ex T H H' → Q (.int (prd q.2)) H'
theorem ok_product {P : Program} {w : World} {K : PySem.W.Frag} {mg : Str → Option Value} {base : Heap} {T : Tb} (B : Bi mg) {Z : Ze} (Z_RowError : Xc K mg "RowError" Z.row Z.row) (Z_NoRow : Xc K mg "NoRow" Z.noRow Z.row) (Z_NoPlace : Xc K mg "NoPlace" Z.noPlace Z.row) (Z_NoSuch : Xc K mg "NoSuch" Z.noSuch Z.row) (Z_BadText : Xc K mg "BadText" Z.badText Z.row) (kk_noRow_noRow : PySem.W.kitOne K (.ref Z.noRow) (.ref Z.noRow) = some true) (kk_noRow_noPlace : PySem.W.kitOne K (.ref Z.noRow) (.ref Z.noPlace) = some false) (kk_noRow_noSuch : PySem.W.kitOne K (.ref Z.noRow) (.ref Z.noSuch) = some false) (kk_noRow_badText : PySem.W.kitOne K (.ref Z.noRow) (.ref Z.badText) = some false) (kk_noRow_VE : PySem.W.kitOne K (.ref Z.noRow) (.type "ValueError") = some true) (kk_noPlace_noRow : PySem.W.kitOne K (.ref Z.noPlace) (.ref Z.noRow) = some false) (kk_noPlace_noPlace : PySem.W.kitOne K (.ref Z.noPlace) (.ref Z.noPlace) = some true) (kk_noPlace_noSuch : PySem.W.kitOne K (.ref Z.noPlace) (.ref Z.noSuch) = some false) (kk_noPlace_badText : PySem.W.kitOne K (.ref Z.noPlace) (.ref Z.badText) = some false) (kk_noPlace_VE : PySem.W.kitOne K (.ref Z.noPlace) (.type "ValueError") = some true) (kk_noSuch_noRow : PySem.W.kitOne K (.ref Z.noSuch) (.ref Z.noRow) = some false) (kk_noSuch_noPlace : PySem.W.kitOne K (.ref Z.noSuch) (.ref Z.noPlace) = some false) (kk_noSuch_noSuch : PySem.W.kitOne K (.ref Z.noSuch) (.ref Z.noSuch) = some true) (kk_noSuch_badText : PySem.W.kitOne K (.ref Z.noSuch) (.ref Z.badText) = some false) (kk_noSuch_VE : PySem.W.kitOne K (.ref Z.noSuch) (.type "ValueError") = some true) (kk_badText_noRow : PySem.W.kitOne K (.ref Z.badText) (.ref Z.noRow) = some false) (kk_badText_noPlace : PySem.W.kitOne K (.ref Z.badText) (.ref Z.noPlace) = some false) (kk_badText_noSuch : PySem.W.kitOne K (.ref Z.badText) (.ref Z.noSuch) = some false) (kk_badText_badText : PySem.W.kitOne K (.ref Z.badText) (.ref Z.badText) = some true) (kk_badText_VE : PySem.W.kitOne K (.ref Z.badText) (.type "ValueError") = some true)  (D : Df K mg "product" s_product ["numbers"]) : Ca CX0 P w K mg base 1 "product" (sp_product T K) := by
  refine D.ca0 sc_product (fun vs H Q E ⟨q, e, _⟩ => by rw [e]; rfl) (fun cdv A outer s H vs Q E f hr h => ?_)
  obtain ⟨⟨a, ns⟩, hv, h⟩ := h
  dsimp only at hv h
  subst hv
  obtain ⟨hS, hl, ⟨b, hb, hB⟩, k⟩ := h
  refine ⟨_, (pss_cons (ps_set (i := 1) sc_product.nd rfl (.inl rfl) pe_int)
      (pss_cons (ps_for PassesOwn.never rfl (pi_list (pv 0)) (pg_name (i := 2) sc_product.nd rfl (.inl rfl))
      (pss_one (ps_set (i := 1) sc_product.nd rfl (.inl rfl) (pe_op op_mulW (pv 1) (pv 2)))))
      (pss_one (ps_ret (pv 1))))), ?_⟩
  refine q_asg (T := T) ev_c fun H1 e1 => q_forL (T := T) (ev_var rfl) (e1.sq hS) (fun i σ H' => ∃ y, σ = [some (.ref a), some (.int (prd (ns.take i))), y] ∧ Ex T H H') (fun H2 e2 => ⟨none, rfl, e1.trans e2⟩) (fun i σ H' _ ⟨y, _, e⟩ => e.sq hS) ?_ ?_
  · rintro i x σ H' hx ⟨y, rfl, e⟩
    obtain ⟨n, hn, rfl⟩ := at_vz hx
    have hi := (List.getElem?_eq_some_iff.mp hn).1
    have h1 : (prd (ns.take i)).natAbs < 2 ^ (b * 6 + 1) := Nat.lt_of_lt_of_le (hB.sub fun m hm => List.mem_of_mem_take hm).prod (Nat.pow_le_pow_right (by decide) (by
      have : b * (ns.take i).length ≤ b * 6 := Nat.mul_le_mul_left _ (by rw [List.length_take]; omega)
      omega))
    have h2 : n.natAbs < 2 ^ (b + 1) := Nat.lt_of_lt_of_le (hB n (List.mem_of_getElem? hn)) (Nat.pow_le_pow_right (by decide) (by omega))
    refine s_asg (T := T) (ev_I (ev_var rfl) (ev_var rfl) (wide_mul h1 h2 (by omega) (by omega) (by omega))) fun H2 e2 => ⟨some (.int n), ?_, e.trans e2⟩
    rw [List.take_add_one, hn, prd_app]
    show _ = [some (V.ref a), some (V.int (prd (List.take i ns) * (n * 1))), some (V.int n)]
    rw [Int.mul_one]
    rfl
  · rintro σ H' ⟨y, rfl, e⟩
    rw [List.length_map, List.take_length]
    exact s_ret (T := T) (ev_var rfl) fun H2 e2 => k H2 (e.trans e2)

/-! ### holds -/
def sp_holds (T : Tb) (K : PySem.W.Frag) : Sp := spM (α := Int × Addr × List Int) (fun q => [.int q.1, .ref q.2.1]) fun q H Q _ => SqL K H q.2.1 (vz q.2.2) ∧ Wd q.1 q.2.2 ∧ ∀ H', Ex T H H' → Q (.bl (decide (IsRow q.1 q.2.2))) H'
theorem ok_holds {P : Program} {w : World} {K : PySem.W.Frag} {mg : Str → Option Value} {base : Heap} {T : Tb} (B : Bi mg) {Z : Ze} (Z_RowError : Xc K mg "RowError" Z.row Z.row) (Z_NoRow : Xc K mg "NoRow" Z.noRow Z.row) (Z_NoPlace : Xc K mg "NoPlace" Z.noPlace Z.row) (Z_NoSuch : Xc K mg "NoSuch" Z.noSuch Z.row) (Z_BadText : Xc K mg "BadText" Z.badText Z.row) (kk_noRow_noRow : PySem.W.kitOne K (.ref Z.noRow) (.ref Z.noRow) = some true) (kk_noRow_noPlace : PySem.W.kitOne K (.ref Z.noRow) (.ref Z.noPlace) = some false) (kk_noRow_noSuch : PySem.W.kitOne K (.ref Z.noRow) (.ref Z.noSuch) = some false) (kk_noRow_badText : PySem.W.kitOne K (.ref Z.noRow) (.ref Z.badText) = some false) (kk_noRow_VE : PySem.W.kitOne K (.ref Z.noRow) (.type "ValueError") = some true) (kk_noPlace_noRow : PySem.W.kitOne K (.ref Z.noPlace) (.ref Z.noRow) = some false) (kk_noPlace_noPlace : PySem.W.kitOne K (.ref Z.noPlace) (.ref Z.noPlace) = some true) (kk_noPlace_noSuch : PySem.W.kitOne K (.ref Z.noPlace) (.ref Z.noSuch) = some false) (kk_noPlace_badText : PySem.W.kitOne K (.ref Z.noPlace) (.ref Z.badText) = some false) (kk_noPlace_VE : PySem.W.kitOne K (.ref Z.noPlace) (.type "ValueError") = some true) (kk_noSuch_noRow : PySem.W.kitOne K (.ref Z.noSuch) (.ref Z.noRow) = some false) (kk_noSuch_noPlace : PySem.W.kitOne K (.ref Z.noSuch) (.ref Z.noPlace) = some false) (kk_noSuch_noSuch : PySem.W.kitOne K (.ref Z.noSuch) (.ref Z.noSuch) = some true) (kk_noSuch_badText : PySem.W.kitOne K (.ref Z.noSuch) (.ref Z.badText) = some false) (kk_noSuch_VE : PySem.W.kitOne K (.ref Z.noSuch) (.type "ValueError") = some true) (kk_badText_noRow : PySem.W.kitOne K (.ref Z.badText) (.ref Z.noRow) = some false) (kk_badText_noPlace : PySem.W.kitOne K (.ref Z.badText) (.ref Z.noPlace) = some false) (kk_badText_noSuch : PySem.W.kitOne K (.ref Z.badText) (.ref Z.noSuch) = some false) (kk_badText_badText : PySem.W.kitOne K (.ref Z.badText) (.ref Z.badText) = some true) (kk_badText_VE : PySem.W.kitOne K (.ref Z.badText) (.type "ValueError") = some true) (c_product : Ca CX0 P w K mg base 1 "product" (sp_product T K)) (D : Df K mg "holds" s_holds ["times", "row"]) : Ca CX0 P w K mg base 2 "holds" (sp_holds T K) := by
  refine D.ca0 sc_holds (fun vs H Q E ⟨q, e, _⟩ => by rw [e]; rfl) (fun cdv A outer s H vs Q E f hr h => ?_)
  obtain ⟨⟨t, a, ns⟩, hv, h⟩ := h
  dsimp only at hv h
  subst hv
  obtain ⟨hS, hW, k⟩ := h
  obtain ⟨b, hb1, hb, hB⟩ := hW.b
  have hl := hW.len
  refine ⟨_, (pss_cons (ps_for PassesOwn.never rfl (pi_range1 (by rfl) B.range (pa_cons (pe_callB call_lenS (by rfl) B.len boot_len (pa_cons (pv 1) pa_nil)) pa_nil)) (pg_name (i := 2) sc_holds.nd rfl (.inl rfl))
      (pss_one (ps_if (PW.pt (pw_or (pt_cmpR op_lt (pe_ix ix_list (pv 1) (pv 2) (fun _ _ => rfl)) pe_int (nomark _)) (pw_or1 (PW.pt (pw_and (pt_cmpR op_gt (pv 2) pe_int (nomark _)) (pw_and1 (pt_cmpR op_gt (pe_ix ix_list (pv 1) (pe_op op_sub (pv 2) pe_int) (fun _ _ => rfl)) (pe_ix ix_list (pv 1) (pv 2) (fun _ _ => rfl)) (nomark _)))))))) (pss_one (ps_ret pe_bl)) pss_nil)))
      (pss_one (ps_ret (pe_cmpR op_eq (pe_callB (cr_sum rfl) (by rfl) B.sum boot_sum (pa_cons (pe_lc (own := [("number", 3)]) (g := gName 3) (tt := tYes) rfl sc_holds.nd (pi_list (pv 1)) (blkOk_by (N := ["times", "row", "k", "number"]) (sc := defScope s_holds) (by decide +kernel)) (fun _ _ _ _ _ => pg_name (i := 3) sc_holds.nd rfl (Or.inl rfl)) (fun _ _ _ _ _ => by exact pts_nil) (fun _ _ _ _ _ => by exact (pe_op op_mulW (pv 3) (pv 3)))) pa_nil)) (pe_op op_mulW (pv 0) (pe_k0 c_product hr (by decide) (by rfl) (pa_cons (pv 1) pa_nil))) (nomark _))))), ?_⟩
  refine q_forR1 (T := T) (m := (ns.length : Int)) (ea_cons ((ev_len (ev_var rfl) hS).is (by rw [List.length_map])) ea_nil) (by omega) (by omega)
    (fun i σ H' => ∃ y, σ = [some (.int t), some (.ref a), y, none] ∧ Ex T H H' ∧ ∀ j, j < i → okAt ns j) (fun H1 e1 => ⟨none, rfl, e1, fun j hj => absurd hj (Nat.not_lt_zero j)⟩) ?_ ?_
  · rintro i σ H' hi ⟨y, rfl, e, hok⟩
    have hi' : i < ns.length := by omega
    have hS' := e.sq hS
    have g1 : ns[i]? = some (ns.getD i 0) := getD_at hi'
    refine s_if (T := T) (b := decide (ns.getD i 0 < 1) || (decide ((0 : Int) < (i : Int)) && decide (ns.getD i 0 < ns.getD (i - 1) 0))) (et_or (et_test (ev_I0 (ev_ixI (ev_var rfl) (ev_var rfl) hS' rfl g1) ev_c)) fun _ =>
      et_and (et_test (ev_I0 (ev_var rfl) ev_c)) fun h0 => et_test (ev_I0 (ev_ixI (ev_var rfl) (ev_I0 (ev_var rfl) ev_c) hS' (m := i - 1) (by have := of_decide_eq_true h0; omega) (getD_at (by omega))) (ev_ixI (ev_var rfl) (ev_var rfl) hS' rfl g1))) (fun hb H1 e1 => ?_) (fun hb H1 e1 => ?_)
    · refine s_ret (T := T) ev_c fun H2 e2 => ?_
      have hn : ¬ IsRow t ns := fun hr => by
        have h1 := hr.okAt hi'
        rw [Bool.or_eq_true, Bool.and_eq_true] at hb
        rcases hb with hb | hb
        · have := of_decide_eq_true hb; have := h1.1; omega
        · have := of_decide_eq_true hb.1; have h3 := of_decide_eq_true hb.2; have := h1.2 (by omega); omega
      have := k H2 ((e.trans e1).trans e2)
      rw [decide_eq_false hn] at this
      exact this
    · refine ⟨_, rfl, e.trans e1, fun j hj => ?_⟩
      by_cases hji : j < i
      · exact hok j hji
      · have : j = i := by omega
        subst this
        rw [Bool.or_eq_false_iff, Bool.and_eq_false_iff] at hb
        obtain ⟨b1, b2⟩ := hb
        have := of_decide_eq_false b1
        refine ⟨by omega, fun h0 => ?_⟩
        rcases b2 with b2 | b2
        · have := of_decide_eq_false b2; omega
        · have := of_decide_eq_false b2; omega
  · rintro σ H' ⟨y, rfl, e, hok⟩
    have hS' := e.sq hS
    have hall := okAt_all (ns := ns) (fun j hj => hok j (by omega))
    refine s_ret (T := T) (ev_eqI (ev_sumN (el_map (ys := vz (ns.map fun n => n * n)) (ev_var rfl) hS' (by rw [List.length_map]; omega) (by simp) (fun _ => rfl) fun i x y H1 e1 hx hy => ?_)) (ev_I (ev_var rfl) (ev_call (ea_cons (ev_var rfl) ea_nil) fun H1 e1 Q q => ⟨(a, ns), rfl, e1.sq hS', hl, ⟨b, hb, hB⟩, q⟩) ?_)) fun H1 e1 => ?_
    · obtain ⟨n, hn, rfl⟩ := at_vz hx
      have hy' : y = V.int (n * n) := by
        rw [List.getElem?_map, List.getElem?_map, hn] at hy
        exact (Option.some.inj hy).symm
      rw [hy']
      have h2 := hB n (List.mem_of_getElem? hn)
      exact ev_I (ev_var rfl) (ev_var rfl) (wide_mul h2 h2 (by omega) (by omega) (by omega))
    · have h1 := hB.prod
      have : b * ns.length ≤ b * 6 := Nat.mul_le_mul_left _ hl
      exact wide_mul hW.ht h1 (by omega) (by omega) (by omega)
    · have := k H1 (e.trans e1)
      rw [sqs_map]
      have e2 : decide (IsRow t ns) = decide (sqs ns = t * prd ns) := decide_eq_decide.mpr ⟨fun h => h.eq, fun h => ⟨hall.1, hall.2, h⟩⟩
      rw [e2] at this
      exact this

/-! ### see_row -/
def sp_see_row (T : Tb) (K : PySem.W.Frag) : Sp := spM (α := Int × Addr × List Int) (fun q => [.int q.1, .ref q.2.1]) fun q H Q _ => SqL K H q.2.1 (vz q.2.2) ∧ Wd q.1 q.2.2 ∧ IsRow q.1 q.2.2 ∧ ∀ H', Ex T H H' → Q .non H'
theorem ok_see_row {P : Program} {w : World} {K : PySem.W.Frag} {mg : Str → Option Value} {base : Heap} {T : Tb} (B : Bi mg) {Z : Ze} (Z_RowError : Xc K mg "RowError" Z.row Z.row) (Z_NoRow : Xc K mg "NoRow" Z.noRow Z.row) (Z_NoPlace : Xc K mg "NoPlace" Z.noPlace Z.row) (Z_NoSuch : Xc K mg "NoSuch" Z.noSuch Z.row) (Z_BadText : Xc K mg "BadText" Z.badText Z.row) (kk_noRow_noRow : PySem.W.kitOne K (.ref Z.noRow) (.ref Z.noRow) = some true) (kk_noRow_noPlace : PySem.W.kitOne K (.ref Z.noRow) (.ref Z.noPlace) = some false) (kk_noRow_noSuch : PySem.W.kitOne K (.ref Z.noRow) (.ref Z.noSuch) = some false) (kk_noRow_badText : PySem.W.kitOne K (.ref Z.noRow) (.ref Z.badText) = some false) (kk_noRow_VE : PySem.W.kitOne K (.ref Z.noRow) (.type "ValueError") = some true) (kk_noPlace_noRow : PySem.W.kitOne K (.ref Z.noPlace) (.ref Z.noRow) = some false) (kk_noPlace_noPlace : PySem.W.kitOne K (.ref Z.noPlace) (.ref Z.noPlace) = some true) (kk_noPlace_noSuch : PySem.W.kitOne K (.ref Z.noPlace) (.ref Z.noSuch) = some false) (kk_noPlace_badText : PySem.W.kitOne K (.ref Z.noPlace) (.ref Z.badText) = some false) (kk_noPlace_VE : PySem.W.kitOne K (.ref Z.noPlace) (.type "ValueError") = some true) (kk_noSuch_noRow : PySem.W.kitOne K (.ref Z.noSuch) (.ref Z.noRow) = some false) (kk_noSuch_noPlace : PySem.W.kitOne K (.ref Z.noSuch) (.ref Z.noPlace) = some false) (kk_noSuch_noSuch : PySem.W.kitOne K (.ref Z.noSuch) (.ref Z.noSuch) = some true) (kk_noSuch_badText : PySem.W.kitOne K (.ref Z.noSuch) (.ref Z.badText) = some false) (kk_noSuch_VE : PySem.W.kitOne K (.ref Z.noSuch) (.type "ValueError") = some true) (kk_badText_noRow : PySem.W.kitOne K (.ref Z.badText) (.ref Z.noRow) = some false) (kk_badText_noPlace : PySem.W.kitOne K (.ref Z.badText) (.ref Z.noPlace) = some false) (kk_badText_noSuch : PySem.W.kitOne K (.ref Z.badText) (.ref Z.noSuch) = some false) (kk_badText_badText : PySem.W.kitOne K (.ref Z.badText) (.ref Z.badText) = some true) (kk_badText_VE : PySem.W.kitOne K (.ref Z.badText) (.type "ValueError") = some true) (c_holds : Ca CX0 P w K mg base 2 "holds" (sp_holds T K)) (D : Df K mg "see_row" s_see_row ["times", "row"]) : Ca CX0 P w K mg base 3 "see_row" (sp_see_row T K) := by
  refine D.ca0 sc_see_row (fun vs H Q E ⟨q, e, _⟩ => by rw [e]; rfl) (fun cdv A outer s H vs Q E f hr h => ?_)
  obtain ⟨⟨t, a, ns⟩, hv, h⟩ := h
  dsimp only at hv h
  subst hv
  obtain ⟨hS, hW, hR, k⟩ := h
  refine ⟨_, (pss_one (ps_if (pt_not (pt_val (pe_k0 c_holds hr (by decide) (by rfl) (pa_cons (pv 0) (pa_cons (pv 1) pa_nil))))) (pss_one ps_never) pss_nil)), ?_⟩
  refine s_when (T := T) (et_not (et_B (ev_call (ea_cons (ev_var rfl) (ea_cons (ev_var rfl) ea_nil)) fun H1 e1 Q' q => ⟨(t, a, ns), rfl, e1.sq hS, hW, q⟩))) (fun hb H1 e1 => ?_) (fun hb H1 e1 => k H1 e1)
  rw [decide_eq_true hR] at hb
  cases hb

def spX_see_row (Z : Ze) (T : Tb) (K : PySem.W.Frag) : Sp := spM (α := Int × Addr × List Int) (fun q => [.int q.1, .ref q.2.1]) fun q H Q E => SqL K H q.2.1 (vz q.2.2) ∧ Wd q.1 q.2.2 ∧ (IsRow q.1 q.2.2 → ∀ H', Ex T H H' → Q .non H') ∧ (¬ IsRow q.1 q.2.2 → ∀ H', Ex T H H' → E (.ref Z.noRow) none H')
theorem okX_see_row {P : Program} {w : World} {K : PySem.W.Frag} {mg : Str → Option Value} {base : Heap} {T : Tb} (B : Bi mg) {Z : Ze} (Z_RowError : Xc K mg "RowError" Z.row Z.row) (Z_NoRow : Xc K mg "NoRow" Z.noRow Z.row) (Z_NoPlace : Xc K mg "NoPlace" Z.noPlace Z.row) (Z_NoSuch : Xc K mg "NoSuch" Z.noSuch Z.row) (Z_BadText : Xc K mg "BadText" Z.badText Z.row) (kk_noRow_noRow : PySem.W.kitOne K (.ref Z.noRow) (.ref Z.noRow) = some true) (kk_noRow_noPlace : PySem.W.kitOne K (.ref Z.noRow) (.ref Z.noPlace) = some false) (kk_noRow_noSuch : PySem.W.kitOne K (.ref Z.noRow) (.ref Z.noSuch) = some false) (kk_noRow_badText : PySem.W.kitOne K (.ref Z.noRow) (.ref Z.badText) = some false) (kk_noRow_VE : PySem.W.kitOne K (.ref Z.noRow) (.type "ValueError") = some true) (kk_noPlace_noRow : PySem.W.kitOne K (.ref Z.noPlace) (.ref Z.noRow) = some false) (kk_noPlace_noPlace : PySem.W.kitOne K (.ref Z.noPlace) (.ref Z.noPlace) = some true) (kk_noPlace_noSuch : PySem.W.kitOne K (.ref Z.noPlace) (.ref Z.noSuch) = some false) (kk_noPlace_badText : PySem.W.kitOne K (.ref Z.noPlace) (.ref Z.badText) = some false) (kk_noPlace_VE : PySem.W.kitOne K (.ref Z.noPlace) (.type "ValueError") = some true) (kk_noSuch_noRow : PySem.W.kitOne K (.ref Z.noSuch) (.ref Z.noRow) = some false) (kk_noSuch_noPlace : PySem.W.kitOne K (.ref Z.noSuch) (.ref Z.noPlace) = some false) (kk_noSuch_noSuch : PySem.W.kitOne K (.ref Z.noSuch) (.ref Z.noSuch) = some true) (kk_noSuch_badText : PySem.W.kitOne K (.ref Z.noSuch) (.ref Z.badText) = some false) (kk_noSuch_VE : PySem.W.kitOne K (.ref Z.noSuch) (.type "ValueError") = some true) (kk_badText_noRow : PySem.W.kitOne K (.ref Z.badText) (.ref Z.noRow) = some false) (kk_badText_noPlace : PySem.W.kitOne K (.ref Z.badText) (.ref Z.noPlace) = some false) (kk_badText_noSuch : PySem.W.kitOne K (.ref Z.badText) (.ref Z.noSuch) = some false) (kk_badText_badText : PySem.W.kitOne K (.ref Z.badText) (.ref Z.badText) = some true) (kk_badText_VE : PySem.W.kitOne K (.ref Z.badText) (.type "ValueError") = some true) (c_holds : Ca CX0 P w K mg base 2 "holds" (sp_holds T K)) (D : Df K mg "see_row" s_see_row ["times", "row"]) : Ca (L2.CX P w) P w K mg base 3 "see_row" (spX_see_row Z T K) := by
  refine D.caX sc_see_row (fun vs H Q E ⟨q, e, _⟩ => by rw [e]; rfl) (fun cdv A outer s H vs Q E f hr h => ?_)
  obtain ⟨⟨t, a, ns⟩, hv, h⟩ := h
  dsimp only at hv h
  subst hv
  obtain ⟨hS, hW, k, kx⟩ := h
  refine ⟨_, (pss_one (ps_if (pt_not (pt_val (pe_k0 c_holds hr (by decide) (by rfl) (pa_cons (pv 0) (pa_cons (pv 1) pa_nil))))) (pss_one (ps_raise rfl (takes_of rfl rfl rfl rfl) (Xc.make Z_NoRow (by rfl)))) pss_nil)), ?_⟩
  refine s_when (T := T) (et_not (et_B (ev_call (ea_cons (ev_var rfl) (ea_cons (ev_var rfl) ea_nil)) fun H1 e1 Q' q => ⟨(t, a, ns), rfl, e1.sq hS, hW, q⟩))) (fun hb H1 e1 => ?_) (fun hb H1 e1 => ?_)
  · exact kx (fun hR => by rw [decide_eq_true hR] at hb; cases hb) H1 e1
  · refine k ?_ H1 e1
    cases hd : decide (IsRow t ns) with
    | true => exact of_decide_eq_true hd
    | false => rw [hd] at hb; cases hb

/-! ### at_place -/
def sp_at_place (T : Tb) (K : PySem.W.Frag) : Sp := spM (α := Int × Addr × List Int × Nat) (fun q => [.int q.1, .ref q.2.1, .int (q.2.2.2 : Int)]) fun q H Q _ => SqL K H q.2.1 (vz q.2.2.1) ∧ Wd q.1 q.2.2.1 ∧ q.2.2.2 < q.2.2.1.length ∧
  ∀ p H', H p = none → Ex T H H' → H' p = some (.lst (vz (near q.1 q.2.2.1 q.2.2.2))) → Q (.ref p) H'
theorem ok_at_place {P : Program} {w : World} {K : PySem.W.Frag} {mg : Str → Option Value} {base : Heap} {T : Tb} (B : Bi mg) {Z : Ze} (Z_RowError : Xc K mg "RowError" Z.row Z.row) (Z_NoRow : Xc K mg "NoRow" Z.noRow Z.row) (Z_NoPlace : Xc K mg "NoPlace" Z.noPlace Z.row) (Z_NoSuch : Xc K mg "NoSuch" Z.noSuch Z.row) (Z_BadText : Xc K mg "BadText" Z.badText Z.row) (kk_noRow_noRow : PySem.W.kitOne K (.ref Z.noRow) (.ref Z.noRow) = some true) (kk_noRow_noPlace : PySem.W.kitOne K (.ref Z.noRow) (.ref Z.noPlace) = some false) (kk_noRow_noSuch : PySem.W.kitOne K (.ref Z.noRow) (.ref Z.noSuch) = some false) (kk_noRow_badText : PySem.W.kitOne K (.ref Z.noRow) (.ref Z.badText) = some false) (kk_noRow_VE : PySem.W.kitOne K (.ref Z.noRow) (.type "ValueError") = some true) (kk_noPlace_noRow : PySem.W.kitOne K (.ref Z.noPlace) (.ref Z.noRow) = some false) (kk_noPlace_noPlace : PySem.W.kitOne K (.ref Z.noPlace) (.ref Z.noPlace) = some true) (kk_noPlace_noSuch : PySem.W.kitOne K (.ref Z.noPlace) (.ref Z.noSuch) = some false) (kk_noPlace_badText : PySem.W.kitOne K (.ref Z.noPlace) (.ref Z.badText) = some false) (kk_noPlace_VE : PySem.W.kitOne K (.ref Z.noPlace) (.type "ValueError") = some true) (kk_noSuch_noRow : PySem.W.kitOne K (.ref Z.noSuch) (.ref Z.noRow) = some false) (kk_noSuch_noPlace : PySem.W.kitOne K (.ref Z.noSuch) (.ref Z.noPlace) = some false) (kk_noSuch_noSuch : PySem.W.kitOne K (.ref Z.noSuch) (.ref Z.noSuch) = some true) (kk_noSuch_badText : PySem.W.kitOne K (.ref Z.noSuch) (.ref Z.badText) = some false) (kk_noSuch_VE : PySem.W.kitOne K (.ref Z.noSuch) (.type "ValueError") = some true) (kk_badText_noRow : PySem.W.kitOne K (.ref Z.badText) (.ref Z.noRow) = some false) (kk_badText_noPlace : PySem.W.kitOne K (.ref Z.badText) (.ref Z.noPlace) = some false) (kk_badText_noSuch : PySem.W.kitOne K (.ref Z.badText) (.ref Z.noSuch) = some false) (kk_badText_badText : PySem.W.kitOne K (.ref Z.badText) (.ref Z.badText) = some true) (kk_badText_VE : PySem.W.kitOne K (.ref Z.badText) (.type "ValueError") = some true) (c_product : Ca CX0 P w K mg base 1 "product" (sp_product T K)) (D : Df K mg "at_place" s_at_place ["times", "row", "place"]) : Ca CX0 P w K mg base 2 "at_place" (sp_at_place T K) := by
  refine D.ca0 sc_at_place (fun vs H Q E ⟨q, e, _⟩ => by rw [e]; rfl) (fun cdv A outer s H vs Q E f hr h => ?_)
  obtain ⟨⟨t, a, ns, m⟩, hv, h⟩ := h
  dsimp only at hv h
  subst hv
  obtain ⟨hS, hW, hm, k⟩ := h
  obtain ⟨b, hb1, hb, hB⟩ := hW.b
  have hl := hW.len
  refine ⟨_, (pss_cons (ps_set (i := 3) sc_at_place.nd rfl (.inl rfl) (pe_op op_cat (pe_slice sl_list (pv 1) po_none (po_some (pv 2))) (pe_slice sl_list (pv 1) (po_some (pe_op op_add (pv 2) pe_int)) po_none)))
      (pss_one (ps_ret (pe_callB cr_sortedI (by rfl) B.sorted boot_sorted (pa_cons (pe_op op_cat (pv 3) (pe_lst (pa_cons (pe_op op_sub (pe_op op_mulW (pv 0) (pe_k0 c_product hr (by decide) (by rfl) (pa_cons (pv 3) pa_nil))) (pe_ix ix_list (pv 1) (pv 2) (fun _ _ => rfl))) pa_nil))) pa_nil))))), ?_⟩
  refine q_asgL (T := T) (el_catNN (el_to (ev_var rfl) (ev_var rfl) hS rfl (Nat.le_of_lt hm)) (el_from (m := m + 1) (ev_var rfl) (ev_I0 (ev_var rfl) ev_c) hS rfl hm) (by rw [List.length_map, List.length_map, List.length_take, List.length_drop]; omega)) fun o H1 ho e1 h1 => ?_
  have h1' : H1 o = some (.lst (vz (oth ns m))) := by rw [h1]; unfold oth; rw [vz_app]
  have hol := oth_len hm
  have hoB : Bd b (oth ns m) := hB.sub fun n hn => oth_sub hm hn
  refine s_retL (T := T) (el_sortedN ((el_catN (ev_var rfl) h1' (el_lst (ea_cons (ev_I0 (ev_I (ev_var rfl) (ev_call (ea_cons (ev_var rfl) ea_nil) fun H2 e2 Q q => ⟨(o, oth ns m), rfl, e2.sq (SqL.of h1'), by show (oth ns m).length ≤ 6; omega, ⟨b, hb, hoB⟩, q⟩) ?_) (ev_ixI (ev_var rfl) (ev_var rfl) (e1.sq hS) rfl (getD_at hm))) ea_nil) (show 1 ≤ 1000 by decide)) ?_).is (ys := vz (oth ns m ++ [new t ns m])) ?_)) fun p H2 hp e2 h2 => k p H2 (e1.n p hp) (e1.trans e2) h2
  · have h2 := hoB.prod
    have : b * (oth ns m).length ≤ b * 6 := Nat.mul_le_mul_left _ (by omega)
    exact wide_mul hW.ht h2 (by omega) (by omega) (by omega)
  · rw [List.length_map]
    show (oth ns m).length + 1 ≤ 1000
    omega
  · rw [vz_app]
    rfl

/-! ### neighbour -/
def sp_neighbour (Z : Ze) (T : Tb) (K : PySem.W.Frag) : Sp := spM (α := Int × Addr × List Int × Int) (fun q => [.int q.1, .ref q.2.1, .int q.2.2.2]) fun q H Q E => SqL K H q.2.1 (vz q.2.2.1) ∧ Wd q.1 q.2.2.1 ∧ (¬ IsRow q.1 q.2.2.1 → ∀ H', Ex T H H' → E (.ref Z.noRow) none H') ∧
  (IsRow q.1 q.2.2.1 → ¬ (0 ≤ q.2.2.2 ∧ q.2.2.2 < q.2.2.1.length) → ∀ H', Ex T H H' → E (.ref Z.noPlace) none H') ∧
  (IsRow q.1 q.2.2.1 → ∀ m : Nat, q.2.2.2 = (m : Int) → m < q.2.2.1.length → ∀ p H', H p = none → Ex T H H' → H' p = some (.lst (vz (near q.1 q.2.2.1 m))) → Q (.ref p) H')
theorem ok_neighbour {P : Program} {w : World} {K : PySem.W.Frag} {mg : Str → Option Value} {base : Heap} {T : Tb} (B : Bi mg) {Z : Ze} (Z_RowError : Xc K mg "RowError" Z.row Z.row) (Z_NoRow : Xc K mg "NoRow" Z.noRow Z.row) (Z_NoPlace : Xc K mg "NoPlace" Z.noPlace Z.row) (Z_NoSuch : Xc K mg "NoSuch" Z.noSuch Z.row) (Z_BadText : Xc K mg "BadText" Z.badText Z.row) (kk_noRow_noRow : PySem.W.kitOne K (.ref Z.noRow) (.ref Z.noRow) = some true) (kk_noRow_noPlace : PySem.W.kitOne K (.ref Z.noRow) (.ref Z.noPlace) = some false) (kk_noRow_noSuch : PySem.W.kitOne K (.ref Z.noRow) (.ref Z.noSuch) = some false) (kk_noRow_badText : PySem.W.kitOne K (.ref Z.noRow) (.ref Z.badText) = some false) (kk_noRow_VE : PySem.W.kitOne K (.ref Z.noRow) (.type "ValueError") = some true) (kk_noPlace_noRow : PySem.W.kitOne K (.ref Z.noPlace) (.ref Z.noRow) = some false) (kk_noPlace_noPlace : PySem.W.kitOne K (.ref Z.noPlace) (.ref Z.noPlace) = some true) (kk_noPlace_noSuch : PySem.W.kitOne K (.ref Z.noPlace) (.ref Z.noSuch) = some false) (kk_noPlace_badText : PySem.W.kitOne K (.ref Z.noPlace) (.ref Z.badText) = some false) (kk_noPlace_VE : PySem.W.kitOne K (.ref Z.noPlace) (.type "ValueError") = some true) (kk_noSuch_noRow : PySem.W.kitOne K (.ref Z.noSuch) (.ref Z.noRow) = some false) (kk_noSuch_noPlace : PySem.W.kitOne K (.ref Z.noSuch) (.ref Z.noPlace) = some false) (kk_noSuch_noSuch : PySem.W.kitOne K (.ref Z.noSuch) (.ref Z.noSuch) = some true) (kk_noSuch_badText : PySem.W.kitOne K (.ref Z.noSuch) (.ref Z.badText) = some false) (kk_noSuch_VE : PySem.W.kitOne K (.ref Z.noSuch) (.type "ValueError") = some true) (kk_badText_noRow : PySem.W.kitOne K (.ref Z.badText) (.ref Z.noRow) = some false) (kk_badText_noPlace : PySem.W.kitOne K (.ref Z.badText) (.ref Z.noPlace) = some false) (kk_badText_noSuch : PySem.W.kitOne K (.ref Z.badText) (.ref Z.noSuch) = some false) (kk_badText_badText : PySem.W.kitOne K (.ref Z.badText) (.ref Z.badText) = some true) (kk_badText_VE : PySem.W.kitOne K (.ref Z.badText) (.type "ValueError") = some true) (c_see_row : Ca CX0 P w K mg base 3 "see_row" (sp_see_row T K)) (c_at_place : Ca CX0 P w K mg base 2 "at_place" (sp_at_place T K)) (r_see_row : Ca (L2.CX P w) P w K mg base 3 "see_row" (spX_see_row Z T K)) (D : Df K mg "neighbour" s_neighbour ["times", "row", "place"]) : Ca (L2.CX P w) P w K mg base 4 "neighbour" (sp_neighbour Z T K) := by
  refine D.caX sc_neighbour (fun vs H Q E ⟨q, e, _⟩ => by rw [e]; rfl) (fun cdv A outer s H vs Q E f hr h => ?_)
  obtain ⟨⟨t, a, ns, p⟩, hv, h⟩ := h
  dsimp only at hv h
  subst hv
  obtain ⟨hS, hW, kx, kp, k⟩ := h
  refine ⟨_, (pss_cons (ps_expr (pe_k r_see_row hr (by decide) (passes_call (takes_of rfl rfl rfl rfl) fun _ _ _ _ h => h) (by rfl) (pa_cons (pv 0) (pa_cons (pv 1) pa_nil))))
      (pss_cons (ps_if (pt_not (pt_chain op_le op_lt pe_int (pv 2) (pe_callB call_lenS (by rfl) B.len boot_len (pa_cons (pv 1) pa_nil)))) (pss_one (ps_raise rfl (takes_of rfl rfl rfl rfl) (Xc.make Z_NoPlace (by rfl)))) pss_nil)
      (pss_one (ps_ret (pe_k0 c_at_place hr (by decide) (by rfl) (pa_cons (pv 0) (pa_cons (pv 1) (pa_cons (pv 2) pa_nil)))))))), ?_⟩
  by_cases hR : IsRow t ns
  case neg => exact call_raise (T := T) (ea_cons (ev_var rfl) (ea_cons (ev_var rfl) ea_nil)) fun H1 e1 Q' => ⟨(t, a, ns), rfl, e1.sq hS, hW, fun h => absurd h hR, fun _ H' e' => kx hR H' (e1.trans e')⟩
  refine q_drop (T := T) (ev_call (ea_cons (ev_var rfl) (ea_cons (ev_var rfl) ea_nil)) fun H1 e1 Q' q => ⟨(t, a, ns), rfl, e1.sq hS, hW, fun _ => q, fun h => absurd hR h⟩) fun H1 e1 => ?_
  by_cases hp : 0 ≤ p ∧ p < (ns.length : Int)
  case neg =>
    refine q_when (T := T) (et_not (et_test (ev_chain (b := decide ((0 : Int) ≤ p)) (c := decide (p < (ns.length : Int))) ev_c (ev_var rfl) ((ev_len (ev_var rfl) (e1.sq hS)).is (by rw [List.length_map])) rfl rfl))) (fun hb H2 e2 => kp hR hp H2 (e1.trans e2)) (fun hb H2 e2 => ?_)
    exfalso
    rw [Bool.not_eq_false', Bool.and_eq_true] at hb
    exact hp ⟨of_decide_eq_true hb.1, of_decide_eq_true hb.2⟩
  obtain ⟨m, rfl⟩ := Int.eq_ofNat_of_zero_le hp.1
  have hm : m < ns.length := by omega
  refine q_when (T := T) (et_not (et_test (ev_chain (b := true) (c := true) ev_c (ev_var rfl) ((ev_len (ev_var rfl) (e1.sq hS)).is (by rw [List.length_map])) (congrArg V.bl (decide_eq_true (show (0 : Int) ≤ (m : Int) by omega))) (congrArg V.bl (decide_eq_true (show (m : Int) < (ns.length : Int) by omega)))))) (fun hb H2 e2 => by cases hb) (fun hb H2 e2 => ?_)
  exact s_retL (T := T) (el_call (ea_cons (ev_var rfl) (ea_cons (ev_var rfl) (ea_cons (ev_var rfl) ea_nil))) fun H3 e3 Q' q => ⟨(t, a, ns, m), rfl, ((e1.trans e2).trans e3).sq hS, hW, hm, q⟩) fun p H3 hp e3 h3 => k hR m rfl hm p H3 ((e1.trans e2).n p hp) ((e1.trans e2).trans e3) h3

/-! ### neighbours -/
def nears (t : Int) (ns : List Int) : List (List Int) := (List.range ns.length).map (near t ns)
def sp_neighbours (T : Tb) (K : PySem.W.Frag) : Sp := spM (α := Int × Addr × List Int) (fun q => [.int q.1, .ref q.2.1]) fun q H Q _ => SqL K H q.2.1 (vz q.2.2) ∧ Wd q.1 q.2.2 ∧ IsRow q.1 q.2.2 ∧
  ∀ p as H', Ex T H H' → NewLLs (nears q.1 q.2.2) H p as H' → Q (.ref p) H'
theorem ok_neighbours {P : Program} {w : World} {K : PySem.W.Frag} {mg : Str → Option Value} {base : Heap} {T : Tb} (B : Bi mg) {Z : Ze} (Z_RowError : Xc K mg "RowError" Z.row Z.row) (Z_NoRow : Xc K mg "NoRow" Z.noRow Z.row) (Z_NoPlace : Xc K mg "NoPlace" Z.noPlace Z.row) (Z_NoSuch : Xc K mg "NoSuch" Z.noSuch Z.row) (Z_BadText : Xc K mg "BadText" Z.badText Z.row) (kk_noRow_noRow : PySem.W.kitOne K (.ref Z.noRow) (.ref Z.noRow) = some true) (kk_noRow_noPlace : PySem.W.kitOne K (.ref Z.noRow) (.ref Z.noPlace) = some false) (kk_noRow_noSuch : PySem.W.kitOne K (.ref Z.noRow) (.ref Z.noSuch) = some false) (kk_noRow_badText : PySem.W.kitOne K (.ref Z.noRow) (.ref Z.badText) = some false) (kk_noRow_VE : PySem.W.kitOne K (.ref Z.noRow) (.type "ValueError") = some true) (kk_noPlace_noRow : PySem.W.kitOne K (.ref Z.noPlace) (.ref Z.noRow) = some false) (kk_noPlace_noPlace : PySem.W.kitOne K (.ref Z.noPlace) (.ref Z.noPlace) = some true) (kk_noPlace_noSuch : PySem.W.kitOne K (.ref Z.noPlace) (.ref Z.noSuch) = some false) (kk_noPlace_badText : PySem.W.kitOne K (.ref Z.noPlace) (.ref Z.badText) = some false) (kk_noPlace_VE : PySem.W.kitOne K (.ref Z.noPlace) (.type "ValueError") = some true) (kk_noSuch_noRow : PySem.W.kitOne K (.ref Z.noSuch) (.ref Z.noRow) = some false) (kk_noSuch_noPlace : PySem.W.kitOne K (.ref Z.noSuch) (.ref Z.noPlace) = some false) (kk_noSuch_noSuch : PySem.W.kitOne K (.ref Z.noSuch) (.ref Z.noSuch) = some true) (kk_noSuch_badText : PySem.W.kitOne K (.ref Z.noSuch) (.ref Z.badText) = some false) (kk_noSuch_VE : PySem.W.kitOne K (.ref Z.noSuch) (.type "ValueError") = some true) (kk_badText_noRow : PySem.W.kitOne K (.ref Z.badText) (.ref Z.noRow) = some false) (kk_badText_noPlace : PySem.W.kitOne K (.ref Z.badText) (.ref Z.noPlace) = some false) (kk_badText_noSuch : PySem.W.kitOne K (.ref Z.badText) (.ref Z.noSuch) = some false) (kk_badText_badText : PySem.W.kitOne K (.ref Z.badText) (.ref Z.badText) = some true) (kk_badText_VE : PySem.W.kitOne K (.ref Z.badText) (.type "ValueError") = some true) (c_see_row : Ca CX0 P w K mg base 3 "see_row" (sp_see_row T K)) (c_at_place : Ca CX0 P w K mg base 2 "at_place" (sp_at_place T K)) (D : Df K mg "neighbours" s_neighbours ["times", "row"]) : Ca CX0 P w K mg base 4 "neighbours" (sp_neighbours T K) := by
  refine D.ca0 sc_neighbours (fun vs H Q E ⟨q, e, _⟩ => by rw [e]; rfl) (fun cdv A outer s H vs Q E f hr h => ?_)
  obtain ⟨⟨t, a, ns⟩, hv, h⟩ := h
  dsimp only at hv h
  subst hv
  obtain ⟨hS, hW, hR, k⟩ := h
  have hl := hW.len
  refine ⟨_, (pss_cons (ps_expr (pe_k0 c_see_row hr (by decide) (by rfl) (pa_cons (pv 0) (pa_cons (pv 1) pa_nil))))
      (pss_one (ps_ret (pe_lc (own := [("place", 2)]) (g := gName 2) (tt := tYes) rfl sc_neighbours.nd (pi_range1 (by rfl) B.range (pa_cons (pe_callB call_lenS (by rfl) B.len boot_len (pa_cons (pv 1) pa_nil)) pa_nil)) (blkOk_by (N := ["times", "row", "place"]) (sc := defScope s_neighbours) (by decide +kernel)) (fun _ _ _ _ _ => pg_name (i := 2) sc_neighbours.nd rfl (Or.inl rfl)) (fun _ _ _ _ _ => by exact pts_nil) (fun _ _ _ _ _ => by exact (pe_k0 c_at_place hr (by decide) (by rfl) (pa_cons (pv 0) (pa_cons (pv 1) (pa_cons (pv 2) pa_nil))))))))), ?_⟩
  refine q_drop (T := T) (ev_call (ea_cons (ev_var rfl) (ea_cons (ev_var rfl) ea_nil)) fun H1 e1 Q' q => ⟨(t, a, ns), rfl, e1.sq hS, hW, hR, q⟩) fun H1 e1 => ?_
  refine s_retR (T := T) (R := NewLL (nears t ns)) (EvR.imp (er_lcR1 (m := (ns.length : Int)) (ea_cons ((ev_len (ev_var rfl) (e1.sq hS)).is (by rw [List.length_map])) ea_nil) (by omega) (by omega) (fun _ => rfl) (near t ns) fun i H2 e2 hi => el_call (ea_cons (ev_var rfl) (ea_cons (ev_var rfl) (ea_cons (ev_var rfl) ea_nil))) fun H3 e3 Q' q => ⟨(t, a, ns, i), rfl, ((e1.trans e2).trans e3).sq hS, hW, by show i < ns.length; omega, q⟩) fun _ _ _ _ _ h => h) fun v H2 e2 r => ?_
  obtain ⟨p, as, rfl, hN⟩ := r
  exact k p as H2 (e1.trans e2) ⟨e1.n p hN.p0, hN.p1, hN.ll, fun a ha => ⟨e1.n a (hN.nw a ha).1, (hN.nw a ha).2⟩, hN.nd⟩

theorem okR_neighbours {P : Program} {w : World} {K : PySem.W.Frag} {mg : Str → Option Value} {base : Heap} {T : Tb} (B : Bi mg) {Z : Ze} (Z_RowError : Xc K mg "RowError" Z.row Z.row) (Z_NoRow : Xc K mg "NoRow" Z.noRow Z.row) (Z_NoPlace : Xc K mg "NoPlace" Z.noPlace Z.row) (Z_NoSuch : Xc K mg "NoSuch" Z.noSuch Z.row) (Z_BadText : Xc K mg "BadText" Z.badText Z.row) (kk_noRow_noRow : PySem.W.kitOne K (.ref Z.noRow) (.ref Z.noRow) = some true) (kk_noRow_noPlace : PySem.W.kitOne K (.ref Z.noRow) (.ref Z.noPlace) = some false) (kk_noRow_noSuch : PySem.W.kitOne K (.ref Z.noRow) (.ref Z.noSuch) = some false) (kk_noRow_badText : PySem.W.kitOne K (.ref Z.noRow) (.ref Z.badText) = some false) (kk_noRow_VE : PySem.W.kitOne K (.ref Z.noRow) (.type "ValueError") = some true) (kk_noPlace_noRow : PySem.W.kitOne K (.ref Z.noPlace) (.ref Z.noRow) = some false) (kk_noPlace_noPlace : PySem.W.kitOne K (.ref Z.noPlace) (.ref Z.noPlace) = some true) (kk_noPlace_noSuch : PySem.W.kitOne K (.ref Z.noPlace) (.ref Z.noSuch) = some false) (kk_noPlace_badText : PySem.W.kitOne K (.ref Z.noPlace) (.ref Z.badText) = some false) (kk_noPlace_VE : PySem.W.kitOne K (.ref Z.noPlace) (.type "ValueError") = some true) (kk_noSuch_noRow : PySem.W.kitOne K (.ref Z.noSuch) (.ref Z.noRow) = some false) (kk_noSuch_noPlace : PySem.W.kitOne K (.ref Z.noSuch) (.ref Z.noPlace) = some false) (kk_noSuch_noSuch : PySem.W.kitOne K (.ref Z.noSuch) (.ref Z.noSuch) = some true) (kk_noSuch_badText : PySem.W.kitOne K (.ref Z.noSuch) (.ref Z.badText) = some false) (kk_noSuch_VE : PySem.W.kitOne K (.ref Z.noSuch) (.type "ValueError") = some true) (kk_badText_noRow : PySem.W.kitOne K (.ref Z.badText) (.ref Z.noRow) = some false) (kk_badText_noPlace : PySem.W.kitOne K (.ref Z.badText) (.ref Z.noPlace) = some false) (kk_badText_noSuch : PySem.W.kitOne K (.ref Z.badText) (.ref Z.noSuch) = some false) (kk_badText_badText : PySem.W.kitOne K (.ref Z.badText) (.ref Z.badText) = some true) (kk_badText_VE : PySem.W.kitOne K (.ref Z.badText) (.type "ValueError") = some true) (r_see_row : Ca (L2.CX P w) P w K mg base 3 "see_row" (spX_see_row Z T K)) (D : Df K mg "neighbours" s_neighbours ["times", "row"]) : Ca (L2.CX P w) P w K mg base 4 "neighbours" (spR Z T K) := by
  refine D.caX sc_neighbours (fun vs H Q E ⟨q, e, _⟩ => by rw [e]; rfl) (fun cdv A outer s H vs Q E f hr h => ?_)
  obtain ⟨⟨t, a, ns⟩, hv, h⟩ := h
  dsimp only at hv h
  subst hv
  obtain ⟨hS, hW, hR, kx⟩ := h
  refine ⟨_, (pss_cons (ps_expr (pe_k r_see_row hr (by decide) (passes_call (takes_of rfl rfl rfl rfl) fun _ _ _ _ h => h) (by rfl) (pa_cons (pv 0) (pa_cons (pv 1) pa_nil)))) pss_never), ?_⟩
  exact call_raise (T := T) (ea_cons (ev_var rfl) (ea_cons (ev_var rfl) ea_nil)) fun H1 e1 Q' => ⟨(t, a, ns), rfl, e1.sq hS, hW, fun h => absurd h hR, fun _ H' e' => kx H' (e1.trans e')⟩

/-! ### is_root -/
def sp_is_root (T : Tb) (K : PySem.W.Frag) : Sp := spM (α := Int × Addr × List Int) (fun q => [.int q.1, .ref q.2.1]) fun q H Q _ => SqL K H q.2.1 (vz q.2.2) ∧ Wd q.1 q.2.2 ∧ IsRow q.1 q.2.2 ∧ 0 < q.2.2.length ∧ ∀ H', Ex T H H' → Q (.bl (rootB q.1 q.2.2)) H'
theorem last_ix {n : Nat} (h : 0 < n) : (n : Int) - 1 = ((n - 1 : Nat) : Int) := by omega
theorem ok_is_root {P : Program} {w : World} {K : PySem.W.Frag} {mg : Str → Option Value} {base : Heap} {T : Tb} (B : Bi mg) {Z : Ze} (Z_RowError : Xc K mg "RowError" Z.row Z.row) (Z_NoRow : Xc K mg "NoRow" Z.noRow Z.row) (Z_NoPlace : Xc K mg "NoPlace" Z.noPlace Z.row) (Z_NoSuch : Xc K mg "NoSuch" Z.noSuch Z.row) (Z_BadText : Xc K mg "BadText" Z.badText Z.row) (kk_noRow_noRow : PySem.W.kitOne K (.ref Z.noRow) (.ref Z.noRow) = some true) (kk_noRow_noPlace : PySem.W.kitOne K (.ref Z.noRow) (.ref Z.noPlace) = some false) (kk_noRow_noSuch : PySem.W.kitOne K (.ref Z.noRow) (.ref Z.noSuch) = some false) (kk_noRow_badText : PySem.W.kitOne K (.ref Z.noRow) (.ref Z.badText) = some false) (kk_noRow_VE : PySem.W.kitOne K (.ref Z.noRow) (.type "ValueError") = some true) (kk_noPlace_noRow : PySem.W.kitOne K (.ref Z.noPlace) (.ref Z.noRow) = some false) (kk_noPlace_noPlace : PySem.W.kitOne K (.ref Z.noPlace) (.ref Z.noPlace) = some true) (kk_noPlace_noSuch : PySem.W.kitOne K (.ref Z.noPlace) (.ref Z.noSuch) = some false) (kk_noPlace_badText : PySem.W.kitOne K (.ref Z.noPlace) (.ref Z.badText) = some false) (kk_noPlace_VE : PySem.W.kitOne K (.ref Z.noPlace) (.type "ValueError") = some true) (kk_noSuch_noRow : PySem.W.kitOne K (.ref Z.noSuch) (.ref Z.noRow) = some false) (kk_noSuch_noPlace : PySem.W.kitOne K (.ref Z.noSuch) (.ref Z.noPlace) = some false) (kk_noSuch_noSuch : PySem.W.kitOne K (.ref Z.noSuch) (.ref Z.noSuch) = some true) (kk_noSuch_badText : PySem.W.kitOne K (.ref Z.noSuch) (.ref Z.badText) = some false) (kk_noSuch_VE : PySem.W.kitOne K (.ref Z.noSuch) (.type "ValueError") = some true) (kk_badText_noRow : PySem.W.kitOne K (.ref Z.badText) (.ref Z.noRow) = some false) (kk_badText_noPlace : PySem.W.kitOne K (.ref Z.badText) (.ref Z.noPlace) = some false) (kk_badText_noSuch : PySem.W.kitOne K (.ref Z.badText) (.ref Z.noSuch) = some false) (kk_badText_badText : PySem.W.kitOne K (.ref Z.badText) (.ref Z.badText) = some true) (kk_badText_VE : PySem.W.kitOne K (.ref Z.badText) (.type "ValueError") = some true) (c_see_row : Ca CX0 P w K mg base 3 "see_row" (sp_see_row T K)) (c_at_place : Ca CX0 P w K mg base 2 "at_place" (sp_at_place T K)) (D : Df K mg "is_root" s_is_root ["times", "row"]) : Ca CX0 P w K mg base 4 "is_root" (sp_is_root T K) := by
  refine D.ca0 sc_is_root (fun vs H Q E ⟨q, e, _⟩ => by rw [e]; rfl) (fun cdv A outer s H vs Q E f hr h => ?_)
  obtain ⟨⟨t, a, ns⟩, hv, h⟩ := h
  dsimp only at hv h
  subst hv
  obtain ⟨hS, hW, hR, h0, k⟩ := h
  refine ⟨_, (pss_cons (ps_expr (pe_k0 c_see_row hr (by decide) (by rfl) (pa_cons (pv 0) (pa_cons (pv 1) pa_nil))))
      (pss_one (ps_ret (pe_cmpR op_ge (pe_callB (cr_sum rfl) (by rfl) B.sum boot_sum (pa_cons (pe_k0 c_at_place hr (by decide) (by rfl) (pa_cons (pv 0) (pa_cons (pv 1) (pa_cons (pe_op op_sub (pe_callB call_lenS (by rfl) B.len boot_len (pa_cons (pv 1) pa_nil)) pe_int) pa_nil)))) pa_nil)) (pe_callB (cr_sum rfl) (by rfl) B.sum boot_sum (pa_cons (pv 1) pa_nil)) (nomark _))))), ?_⟩
  refine q_drop (T := T) (ev_call (ea_cons (ev_var rfl) (ea_cons (ev_var rfl) ea_nil)) fun H1 e1 Q' q => ⟨(t, a, ns), rfl, e1.sq hS, hW, hR, q⟩) fun H1 e1 => ?_
  exact s_ret (T := T) (ev_I0 (ev_sumN (ns := near t ns (ns.length - 1)) (el_call (vs := [.int t, .ref a, .int ((ns.length - 1 : Nat) : Int)]) (ea_cons (ev_var rfl) (ea_cons (ev_var rfl) (ea_cons (Ev.as (by rw [List.length_map, last_ix h0]) (ev_I0 (ev_len (ev_var rfl) (e1.sq hS)) ev_c)) ea_nil))) fun H2 e2 Q' q => ⟨(t, a, ns, ns.length - 1), rfl, (e1.trans e2).sq hS, hW, by show ns.length - 1 < ns.length; omega, q⟩)) (ev_sum (ev_var rfl) (e1.sq hS))) fun H2 e2 => k H2 (e1.trans e2)

theorem okR_is_root {P : Program} {w : World} {K : PySem.W.Frag} {mg : Str → Option Value} {base : Heap} {T : Tb} (B : Bi mg) {Z : Ze} (Z_RowError : Xc K mg "RowError" Z.row Z.row) (Z_NoRow : Xc K mg "NoRow" Z.noRow Z.row) (Z_NoPlace : Xc K mg "NoPlace" Z.noPlace Z.row) (Z_NoSuch : Xc K mg "NoSuch" Z.noSuch Z.row) (Z_BadText : Xc K mg "BadText" Z.badText Z.row) (kk_noRow_noRow : PySem.W.kitOne K (.ref Z.noRow) (.ref Z.noRow) = some true) (kk_noRow_noPlace : PySem.W.kitOne K (.ref Z.noRow) (.ref Z.noPlace) = some false) (kk_noRow_noSuch : PySem.W.kitOne K (.ref Z.noRow) (.ref Z.noSuch) = some false) (kk_noRow_badText : PySem.W.kitOne K (.ref Z.noRow) (.ref Z.badText) = some false) (kk_noRow_VE : PySem.W.kitOne K (.ref Z.noRow) (.type "ValueError") = some true) (kk_noPlace_noRow : PySem.W.kitOne K (.ref Z.noPlace) (.ref Z.noRow) = some false) (kk_noPlace_noPlace : PySem.W.kitOne K (.ref Z.noPlace) (.ref Z.noPlace) = some true) (kk_noPlace_noSuch : PySem.W.kitOne K (.ref Z.noPlace) (.ref Z.noSuch) = some false) (kk_noPlace_badText : PySem.W.kitOne K (.ref Z.noPlace) (.ref Z.badText) = some false) (kk_noPlace_VE : PySem.W.kitOne K (.ref Z.noPlace) (.type "ValueError") = some true) (kk_noSuch_noRow : PySem.W.kitOne K (.ref Z.noSuch) (.ref Z.noRow) = some false) (kk_noSuch_noPlace : PySem.W.kitOne K (.ref Z.noSuch) (.ref Z.noPlace) = some false) (kk_noSuch_noSuch : PySem.W.kitOne K (.ref Z.noSuch) (.ref Z.noSuch) = some true) (kk_noSuch_badText : PySem.W.kitOne K (.ref Z.noSuch) (.ref Z.badText) = some false) (kk_noSuch_VE : PySem.W.kitOne K (.ref Z.noSuch) (.type "ValueError") = some true) (kk_badText_noRow : PySem.W.kitOne K (.ref Z.badText) (.ref Z.noRow) = some false) (kk_badText_noPlace : PySem.W.kitOne K (.ref Z.badText) (.ref Z.noPlace) = some false) (kk_badText_noSuch : PySem.W.kitOne K (.ref Z.badText) (.ref Z.noSuch) = some false) (kk_badText_badText : PySem.W.kitOne K (.ref Z.badText) (.ref Z.badText) = some true) (kk_badText_VE : PySem.W.kitOne K (.ref Z.badText) (.type "ValueError") = some true) (r_see_row : Ca (L2.CX P w) P w K mg base 3 "see_row" (spX_see_row Z T K)) (D : Df K mg "is_root" s_is_root ["times", "row"]) : Ca (L2.CX P w) P w K mg base 4 "is_root" (spR Z T K) := by
  refine D.caX sc_is_root (fun vs H Q E ⟨q, e, _⟩ => by rw [e]; rfl) (fun cdv A outer s H vs Q E f hr h => ?_)
  obtain ⟨⟨t, a, ns⟩, hv, h⟩ := h
  dsimp only at hv h
  subst hv
  obtain ⟨hS, hW, hR, kx⟩ := h
  refine ⟨_, (pss_cons (ps_expr (pe_k r_see_row hr (by decide) (passes_call (takes_of rfl rfl rfl rfl) fun _ _ _ _ h => h) (by rfl) (pa_cons (pv 0) (pa_cons (pv 1) pa_nil)))) pss_never), ?_⟩
  exact call_raise (T := T) (ea_cons (ev_var rfl) (ea_cons (ev_var rfl) ea_nil)) fun H1 e1 Q' => ⟨(t, a, ns), rfl, e1.sq hS, hW, fun h => absurd h hR, fun _ H' e' => kx H' (e1.trans e')⟩

/-! ### parts -/
def spAt_parts (T : Tb) (K : PySem.W.Frag) : Nat → Sp
  | 0 => fun _ _ _ _ => False
  | d + 1 => spM (α := Nat × Nat × Nat) (fun q => [.int (q.1 : Int), .int (q.2.1 : Int), .int (q.2.2 : Int)]) fun q H Q _ => q.1 ≤ d ∧ 1 ≤ q.2.1 ∧ q.2.1 ≤ 1000 ∧ q.2.2 ≤ 6 ∧ ∀ p as H', Ex T H H' → NewLLs (partsL q.1 q.2.1 q.2.2) H p as H' → Q (.ref p) H'
abbrev sp_parts (T : Tb) (K : PySem.W.Frag) : Sp := spAt_parts T K 5
theorem parts_level {P : Program} {w : World} {K : PySem.W.Frag} {mg : Str → Option Value} {base : Heap} {T : Tb} (B : Bi mg)  (D : Df K mg "parts" s_parts ["many", "least", "most"]) : ∀ d, d ≤ 5 → Ca CX0 P w K mg base d "parts" (spAt_parts T K d)
  | 0, _ => by
    obtain ⟨f, fd, F, b, g⟩ := D.ex
    exact ⟨f, fd, _, ⟨fun _ _ _ _ h => h.elim, fun _ _ _ _ _ _ _ _ _ _ _ _ _ h => h.elim⟩, g, F.kp, b⟩
  | d + 1, hd5 => by
    have c_parts : Ca CX0 P w K mg base d "parts" (spAt_parts T K d) := parts_level B D d (by omega)
    refine D.ca0 sc_parts (fun vs H Q E ⟨q, e, _⟩ => by rw [e]; rfl) (fun cdv A outer s H vs Q E f hr h => ?_)
    obtain ⟨⟨m, l, M⟩, hv, h⟩ := h
    dsimp only at hv h
    subst hv
    obtain ⟨hm, hl, hl2, hM, k⟩ := h
    refine ⟨_, (pss_cons (ps_if (pt_cmpR op_eq (pv 0) pe_int (nomark _)) (pss_one (ps_ret (pe_lst (pa_cons (pe_lst pa_nil) pa_nil)))) pss_nil)
      (pss_cons (ps_set (i := 3) sc_parts.nd rfl (.inl rfl) (pe_lst pa_nil))
      (pss_cons (ps_for PassesOwn.never rfl (pi_range2 (by rfl) B.range (pa_cons (pv 1) (pa_cons (pe_op op_add (pv 2) pe_int) pa_nil))) (pg_name (i := 4) sc_parts.nd rfl (.inl rfl))
      (pss_one (ps_for PassesOwn.never rfl (pi_list (pe_k0 c_parts hr (Nat.le_refl _) (by rfl) (pa_cons (pe_op op_sub (pv 0) pe_int) (pa_cons (pv 4) (pa_cons (pe_op op_fdiv (pv 2) (pv 4)) pa_nil))))) (pg_name (i := 5) sc_parts.nd rfl (.inl rfl))
      (pss_one (ps_expr (pe_bm PySem.F.plainAttrs_list PySem.F.slot_list_append PySem.F.type_list_append mt_append (pv 3) (pa_cons (pe_op op_cat (pe_lst (pa_cons (pv 4) pa_nil)) (pv 5)) pa_nil)))))))
      (pss_one (ps_ret (pv 3)))))), ?_⟩
    refine q_when (T := T) (et_test (ev_eqI (ev_var rfl) ev_c)) (fun hb H1 e1 => ?_) (fun hb H1 e1 => ?_)
    · have hm0 : m = 0 := by have := of_decide_eq_true hb; omega
      subst hm0
      refine s_retR (T := T) (R := NewLL [[]]) ?_ fun v H2 e2 r2 => ?_
      · intro H2 e2 Q' q'
        simp only [tLst, tCons, tNil]
        refine ⟨Nat.zero_le _, fun a ha => ⟨(by decide : 1 ≤ sizeLine), fun p hp => q' (.ref p) _ ((Ex.new ha).trans (.new hp)) ⟨p, [a], rfl, ?_, upd_same, ⟨?_, trivial⟩, fun c hc => ?_, List.nodup_cons.mpr ⟨List.not_mem_nil, .nil⟩⟩⟩⟩
        · have := (Ex.new (T := T) (o := .lst []) ha).n p hp
          exact this
        · rw [upd_ne (ne_of_none upd_same hp), upd_same]
          rfl
        · rw [List.mem_singleton.mp hc]
          exact ⟨ha, ne_of_none upd_same hp⟩
      · obtain ⟨p, as, rfl, hN⟩ := r2
        exact k p as H2 (e1.trans e2) (hN.from_ e1)
    have hm0 : m ≠ 0 := fun z => by
      subst z
      simp at hb
    obtain ⟨n, rfl⟩ : ∃ n, m = n + 1 := ⟨m - 1, by omega⟩
    obtain ⟨d', rfl⟩ : ∃ d', d = d' + 1 := ⟨d - 1, by omega⟩
    have hlen : (partsL (n + 1) l M).length ≤ 6 ^ 5 := Nat.le_trans (partsL_len hl hM) (Nat.pow_le_pow_right (by decide) (by omega))
    have e65 : (6 : Nat) ^ 5 = 7776 := by decide
    -- what is made by the first so many
    obtain ⟨pre, hpre⟩ : ∃ pre : Nat → List (List Int), ∀ i, pre i = (List.range i).flatMap fun j => (partsL n (l + j) (M / (l + j))).map fun tl => ((l + j : Nat) : Int) :: tl := ⟨_, fun _ => rfl⟩
    have hstep : ∀ i, pre (i + 1) = pre i ++ (partsL n (l + i) (M / (l + i))).map fun tl => ((l + i : Nat) : Int) :: tl := fun i => by
      rw [hpre, hpre, List.range_succ, List.flatMap_append]
      simp only [List.flatMap_cons, List.flatMap_nil, List.append_nil]
    have hfull : pre (M + 1 - l) = partsL (n + 1) l M := hpre _
    have hmono : ∀ i j, i ≤ j → (pre i).length ≤ (pre j).length := fun i j hij => by
      induction hij with
      | refl => exact Nat.le_refl _
      | step _ ih => rw [hstep, List.length_append]; omega
    refine q_asgL (T := T) (xs := []) (el_lst ea_nil (Nat.zero_le _)) fun o H2 ho e2 h2 => ?_
    refine q_forR2 (T := T) (lo := (l : Int)) (m := (M : Int) + 1) (ea_cons (ev_var rfl) (ea_cons (ev_I0 (ev_var rfl) ev_c) ea_nil)) (by omega)
      (fun i σ H' => ∃ y z as, σ = [some (.int ((n + 1 : Nat) : Int)), some (.int (l : Int)), some (.int (M : Int)), some (.ref o), y, z] ∧ Ex T H H' ∧ NewLLs (pre i) H o as H')
      (fun H3 e3 => ⟨none, none, [], rfl, e1.trans (e2.trans e3), by rw [hpre]; exact .empty (e1.n o ho) (e3.lst h2)⟩) ?_ ?_
    · rintro i σ H3 hi ⟨y, z, as, rfl, e3, hG⟩
      have hiM : l + i ≤ M := by omega
      have hdiv : ((M : Int)) / ((l : Int) + (i : Int)) = ((M / (l + i) : Nat) : Int) := by
        rw [Int.natCast_ediv]
        rfl
      refine s_forNL (T := T) (R := NewLL (partsL n (l + i) (M / (l + i)))) (er_call (ea_cons ((ev_I0 (ev_var rfl) ev_c).is (w := .int (n : Int)) (congrArg V.int (by omega))) (ea_cons ((ev_var rfl).is (w := .int ((l + i : Nat) : Int)) (congrArg V.int (by omega))) (ea_cons ((ev_I (ev_var rfl) (ev_var rfl) ⟨by omega, by omega⟩).is (w := .int ((M / (l + i) : Nat) : Int)) (congrArg V.int hdiv)) ea_nil)))
        (fun H4 e4 Q' q' => ⟨(n, l + i, M / (l + i)), rfl, by show n ≤ d'; omega, by show 1 ≤ l + i; omega, by show l + i ≤ 1000; omega, by show M / (l + i) ≤ 6; exact Nat.le_trans (Nat.div_le_self _ _) hM, fun p as' H' e' hN => q' (.ref p) H' e' ⟨p, as', rfl, hN⟩⟩) NewLL.back) fun v H4 e4 r4 => ?_
      obtain ⟨pt, ps, rfl, hN⟩ := r4
      have hG4 := hG.ex e4
      have hop : pt ≠ o := fun q => by rw [q] at hN; exact nomatch (hN.p0.symm.trans hG.p1)
      have hps : o ∉ ps := fun q => nomatch ((hN.nw o q).1.symm.trans hG.p1)
      refine ⟨pt, ps.map V.ref, rfl, SqL.of hN.p1, fun j σ H' => ∃ z as, σ = [some (.int ((n + 1 : Nat) : Int)), some (.int (l : Int)), some (.int (M : Int)), some (.ref o), some (.int ((l : Int) + (i : Int))), z] ∧ Ex T H H' ∧ Ex T (rm H4 o) H' ∧ NewLLs (pre i ++ ((partsL n (l + i) (M / (l + i))).take j).map fun tl => ((l + i : Nat) : Int) :: tl) H o as H', ⟨_, as, rfl, e3.trans e4, rm_ex, by simpa using hG4⟩, fun j σ H' _ ⟨z, as, _, _, e, _⟩ => SqL.of (e.lst (rm_lst hN.p1 hop)), ?_, ?_⟩
      · rintro j x σ H5 hx ⟨z, as, rfl, e5, f5, hG5⟩
        rw [List.getElem?_map] at hx
        obtain ⟨c, hc, rfl⟩ : ∃ c, ps[j]? = some c ∧ x = .ref c := by
          cases q : ps[j]? with
          | none => rw [q] at hx; cases hx
          | some c => rw [q] at hx; exact ⟨c, rfl, (Option.some.inj hx).symm⟩
        obtain ⟨tl, htl, hc0⟩ := (hN.ll.rm hps).at' hc
        have hjl := (List.getElem?_eq_some_iff.mp htl).1
        have htl4 : tl.length ≤ 5 := by
          have := ((mem_partsL (by omega)).mp (List.mem_of_getElem? htl)).1
          omega
        have hnext : pre i ++ ((partsL n (l + i) (M / (l + i))).take (j + 1)).map (fun tl => ((l + i : Nat) : Int) :: tl) = (pre i ++ ((partsL n (l + i) (M / (l + i))).take j).map fun tl => ((l + i : Nat) : Int) :: tl) ++ [((l + i : Nat) : Int) :: tl] := by
          rw [List.take_add_one, htl, List.map_append, List.append_assoc]
          rfl
        have hsz : (pre i ++ ((partsL n (l + i) (M / (l + i))).take j).map fun tl => ((l + i : Nat) : Int) :: tl).length < 100000 := by
          have h1 := hmono (i + 1) (M + 1 - l) (by omega)
          rw [hfull, hstep, List.length_append, List.length_map] at h1
          rw [List.length_append, List.length_map, List.length_take]
          omega
        refine s_appG (T := T) (r := ((l + i : Nat) : Int) :: tl) hG5 e5 (ev_var rfl) (el_catNL (xs := [.int ((l + i : Nat) : Int)]) (el_lst (ea_cons ((ev_var rfl).is (congrArg V.int (by omega))) ea_nil) (show 1 ≤ 1000 by decide)) (ev_var rfl) (f5.lst hc0) (by rw [List.length_map]; show 1 + tl.length ≤ 1000; omega)) hsz fun as' H6 m6 hG6 => ⟨_, as', rfl, m6 H e5 (e1.n o ho), m6 _ f5 rm_at, by rw [hnext]; exact hG6⟩
      · rintro σ H5 ⟨z, as, rfl, e5, f5, hG5⟩
        refine ⟨_, _, as, rfl, e5, ?_⟩
        rw [hstep]
        have hl5 := hN.len
        rw [List.length_map, hl5, List.take_length] at hG5
        exact hG5
    · rintro σ H3 ⟨y, z, as, rfl, e3, hG⟩
      have e4 : ((M : Int) + 1 - (l : Int)).toNat = M + 1 - l := by omega
      rw [e4, hfull] at hG
      exact s_ret (T := T) (ev_var rfl) fun H4 e4 => k o as H4 (e3.trans e4) (hG.ex e4)
theorem ok_parts {P : Program} {w : World} {K : PySem.W.Frag} {mg : Str → Option Value} {base : Heap} {T : Tb} (B : Bi mg) {Z : Ze} (Z_RowError : Xc K mg "RowError" Z.row Z.row) (Z_NoRow : Xc K mg "NoRow" Z.noRow Z.row) (Z_NoPlace : Xc K mg "NoPlace" Z.noPlace Z.row) (Z_NoSuch : Xc K mg "NoSuch" Z.noSuch Z.row) (Z_BadText : Xc K mg "BadText" Z.badText Z.row) (kk_noRow_noRow : PySem.W.kitOne K (.ref Z.noRow) (.ref Z.noRow) = some true) (kk_noRow_noPlace : PySem.W.kitOne K (.ref Z.noRow) (.ref Z.noPlace) = some false) (kk_noRow_noSuch : PySem.W.kitOne K (.ref Z.noRow) (.ref Z.noSuch) = some false) (kk_noRow_badText : PySem.W.kitOne K (.ref Z.noRow) (.ref Z.badText) = some false) (kk_noRow_VE : PySem.W.kitOne K (.ref Z.noRow) (.type "ValueError") = some true) (kk_noPlace_noRow : PySem.W.kitOne K (.ref Z.noPlace) (.ref Z.noRow) = some false) (kk_noPlace_noPlace : PySem.W.kitOne K (.ref Z.noPlace) (.ref Z.noPlace) = some true) (kk_noPlace_noSuch : PySem.W.kitOne K (.ref Z.noPlace) (.ref Z.noSuch) = some false) (kk_noPlace_badText : PySem.W.kitOne K (.ref Z.noPlace) (.ref Z.badText) = some false) (kk_noPlace_VE : PySem.W.kitOne K (.ref Z.noPlace) (.type "ValueError") = some true) (kk_noSuch_noRow : PySem.W.kitOne K (.ref Z.noSuch) (.ref Z.noRow) = some false) (kk_noSuch_noPlace : PySem.W.kitOne K (.ref Z.noSuch) (.ref Z.noPlace) = some false) (kk_noSuch_noSuch : PySem.W.kitOne K (.ref Z.noSuch) (.ref Z.noSuch) = some true) (kk_noSuch_badText : PySem.W.kitOne K (.ref Z.noSuch) (.ref Z.badText) = some false) (kk_noSuch_VE : PySem.W.kitOne K (.ref Z.noSuch) (.type "ValueError") = some true) (kk_badText_noRow : PySem.W.kitOne K (.ref Z.badText) (.ref Z.noRow) = some false) (kk_badText_noPlace : PySem.W.kitOne K (.ref Z.badText) (.ref Z.noPlace) = some false) (kk_badText_noSuch : PySem.W.kitOne K (.ref Z.badText) (.ref Z.noSuch) = some false) (kk_badText_badText : PySem.W.kitOne K (.ref Z.badText) (.ref Z.badText) = some true) (kk_badText_VE : PySem.W.kitOne K (.ref Z.badText) (.type "ValueError") = some true)  (D : Df K mg "parts" s_parts ["many", "least", "most"]) : Ca CX0 P w K mg base 5 "parts" (sp_parts T K) := parts_level B D 5 (Nat.le_refl 5)

/-! ### whole_root -/
def sp_whole_root (T : Tb) (K : PySem.W.Frag) : Sp := spM (α := Int) (fun n => [.int n]) fun n H Q _ => n < 2 ^ 39 ∧ -(2 ^ 39) < n ∧ (∀ r, wrt n = some r → ∀ H', Ex T H H' → Q (.int r) H') ∧ (wrt n = none → ∀ H', Ex T H H' → Q .non H')
theorem abs_lt {x : Int} {b : Nat} (h : -(2 ^ b) < x) (h2 : x < 2 ^ b) : x.natAbs < 2 ^ b := by
  have e := pow_cast b
  have h1 : (x.natAbs : Int) < ((2 ^ b : Nat) : Int) := by
    rw [e]
    omega
  exact Int.ofNat_lt.mp h1
theorem ok_whole_root {P : Program} {w : World} {K : PySem.W.Frag} {mg : Str → Option Value} {base : Heap} {T : Tb} (B : Bi mg) {Z : Ze} (Z_RowError : Xc K mg "RowError" Z.row Z.row) (Z_NoRow : Xc K mg "NoRow" Z.noRow Z.row) (Z_NoPlace : Xc K mg "NoPlace" Z.noPlace Z.row) (Z_NoSuch : Xc K mg "NoSuch" Z.noSuch Z.row) (Z_BadText : Xc K mg "BadText" Z.badText Z.row) (kk_noRow_noRow : PySem.W.kitOne K (.ref Z.noRow) (.ref Z.noRow) = some true) (kk_noRow_noPlace : PySem.W.kitOne K (.ref Z.noRow) (.ref Z.noPlace) = some false) (kk_noRow_noSuch : PySem.W.kitOne K (.ref Z.noRow) (.ref Z.noSuch) = some false) (kk_noRow_badText : PySem.W.kitOne K (.ref Z.noRow) (.ref Z.badText) = some false) (kk_noRow_VE : PySem.W.kitOne K (.ref Z.noRow) (.type "ValueError") = some true) (kk_noPlace_noRow : PySem.W.kitOne K (.ref Z.noPlace) (.ref Z.noRow) = some false) (kk_noPlace_noPlace : PySem.W.kitOne K (.ref Z.noPlace) (.ref Z.noPlace) = some true) (kk_noPlace_noSuch : PySem.W.kitOne K (.ref Z.noPlace) (.ref Z.noSuch) = some false) (kk_noPlace_badText : PySem.W.kitOne K (.ref Z.noPlace) (.ref Z.badText) = some false) (kk_noPlace_VE : PySem.W.kitOne K (.ref Z.noPlace) (.type "ValueError") = some true) (kk_noSuch_noRow : PySem.W.kitOne K (.ref Z.noSuch) (.ref Z.noRow) = some false) (kk_noSuch_noPlace : PySem.W.kitOne K (.ref Z.noSuch) (.ref Z.noPlace) = some false) (kk_noSuch_noSuch : PySem.W.kitOne K (.ref Z.noSuch) (.ref Z.noSuch) = some true) (kk_noSuch_badText : PySem.W.kitOne K (.ref Z.noSuch) (.ref Z.badText) = some false) (kk_noSuch_VE : PySem.W.kitOne K (.ref Z.noSuch) (.type "ValueError") = some true) (kk_badText_noRow : PySem.W.kitOne K (.ref Z.badText) (.ref Z.noRow) = some false) (kk_badText_noPlace : PySem.W.kitOne K (.ref Z.badText) (.ref Z.noPlace) = some false) (kk_badText_noSuch : PySem.W.kitOne K (.ref Z.badText) (.ref Z.noSuch) = some false) (kk_badText_badText : PySem.W.kitOne K (.ref Z.badText) (.ref Z.badText) = some true) (kk_badText_VE : PySem.W.kitOne K (.ref Z.badText) (.type "ValueError") = some true)  (D : Df K mg "whole_root" s_whole_root ["number"]) : Ca CX0 P w K mg base 1 "whole_root" (sp_whole_root T K) := by
  refine D.ca0 sc_whole_root (fun vs H Q E ⟨q, e, _⟩ => by rw [e]; rfl) (fun cdv A outer s H vs Q E f hr h => ?_)
  obtain ⟨n, hv, h⟩ := h
  dsimp only at hv h
  subst hv
  obtain ⟨hn, hn2, k, kn⟩ := h
  have e40 : (2 : Int) ^ 40 = 2 * 2 ^ 39 := by decide
  refine ⟨_, (pss_cons (ps_set (i := 1) sc_whole_root.nd rfl (.inl rfl) pe_int)
      (pss_cons (ps_set (i := 2) sc_whole_root.nd rfl (.inl rfl) (pe_op op_add (pv 0) pe_int))
      (pss_cons (ps_while PassesOwn.never (pt_cmpR op_gt (pe_op op_sub (pv 2) (pv 1)) pe_int (nomark _))
      (pss_cons (ps_set (i := 3) sc_whole_root.nd rfl (.inl rfl) (pe_op op_fdiv (pe_op op_add (pv 1) (pv 2)) pe_int))
      (pss_one (ps_if (pt_cmpR op_le (pe_op op_mulW (pv 3) (pv 3)) (pv 0) (nomark _)) (pss_one (ps_set (i := 1) sc_whole_root.nd rfl (.inl rfl) (pv 3))) (pss_one (ps_set (i := 2) sc_whole_root.nd rfl (.inl rfl) (pv 3)))))))
      (pss_cons (ps_if (pt_cmpR op_eq (pe_op op_mulW (pv 1) (pv 1)) (pv 0) (nomark _)) (pss_one (ps_ret (pv 1))) pss_nil)
      (pss_one (ps_ret pe_non)))))), ?_⟩
  refine q_asg (T := T) ev_c fun H1 e1 => q_asg (T := T) (ev_I0 (ev_var rfl) ev_c) fun H2 e2 => ?_
  refine q_while (T := T) (fun m σ H' => ∃ l h y, σ = [some (.int n), some (.int l), some (.int h), y] ∧ Ex T H H' ∧ h - l ≤ 2 ^ m ∧ wrtF m l h n = wrtF 40 0 (n + 1) n ∧ (0 ≤ l ∧ l ≤ 2 ^ 39 ∧ h ≤ 2 ^ 39)) 40 ⟨0, n + 1, none, rfl, e1.trans e2, by omega, rfl, by omega⟩ ?_
  rintro m σ H3 ⟨l, h, y, rfl, e3, hp, hw, hb⟩
  refine ⟨_, et_test (ev_I0 (ev_I0 (ev_var rfl) (ev_var rfl)) ev_c), fun hb1 H4 e4 => ?_, fun hb1 H4 e4 => ?_⟩
  · have hc : 1 < h - l := of_decide_eq_true hb1
    obtain ⟨j, rfl⟩ : ∃ j, m = j + 1 := by
      cases m with
      | zero => rw [Int.pow_zero] at hp; omega
      | succ j => exact ⟨j, rfl⟩
    rw [Int.pow_succ] at hp
    have hm0 : 0 ≤ (l + h) / 2 := by omega
    have hm1 : (l + h) / 2 ≤ 2 ^ 39 := by omega
    have hw' : (if (l + h) / 2 * ((l + h) / 2) ≤ n then wrtF j ((l + h) / 2) h n else wrtF j l ((l + h) / 2) n) = wrtF 40 0 (n + 1) n := by
      rw [← hw]
      exact (if_pos hc).symm
    refine ⟨fun σ H' => ∃ l h y, σ = [some (.int n), some (.int l), some (.int h), y] ∧ Ex T H H' ∧ h - l ≤ 2 ^ j ∧ wrtF j l h n = wrtF 40 0 (n + 1) n ∧ (0 ≤ l ∧ l ≤ 2 ^ 39 ∧ h ≤ 2 ^ 39), fun σ2 H5 h5 => ⟨j, by omega, h5⟩, ?_⟩
    refine q_asg (T := T) (ev_I (ev_I0 (ev_var rfl) (ev_var rfl)) ev_c ⟨by decide, by decide⟩) fun H5 e5 => ?_
    have hab : ((l + h) / 2).natAbs < 2 ^ 40 := abs_lt (by omega) (by omega)
    refine s_if (T := T) (et_test (ev_I0 (ev_I (ev_var rfl) (ev_var rfl) (wide_mul hab hab (by omega) (by omega) (by omega))) (ev_var rfl))) (fun hb2 H6 e6 => ?_) (fun hb2 H6 e6 => ?_)
    · rw [if_pos (of_decide_eq_true hb2)] at hw'
      exact s_asg (T := T) (ev_var rfl) fun H7 e7 => ⟨_, _, _, rfl, e3.trans (e4.trans (e5.trans (e6.trans e7))), by omega, hw', by omega⟩
    · rw [if_neg (of_decide_eq_false hb2)] at hw'
      exact s_asg (T := T) (ev_var rfl) fun H7 e7 => ⟨_, _, _, rfl, e3.trans (e4.trans (e5.trans (e6.trans e7))), by omega, hw', by omega⟩
  · have hc : ¬ 1 < h - l := of_decide_eq_false hb1
    have hz : wrtF m l h n = l := by
      cases m with
      | zero => rfl
      | succ j => exact if_neg hc
    rw [hz] at hw
    have hab : l.natAbs < 2 ^ 40 := abs_lt (by omega) (by omega)
    refine q_when (T := T) (et_test (ev_eqI (ev_I (ev_var rfl) (ev_var rfl) (wide_mul hab hab (by omega) (by omega) (by omega))) (ev_var rfl))) (fun hb2 H5 e5 => ?_) (fun hb2 H5 e5 => ?_)
    · refine s_ret (T := T) (ev_var rfl) fun H6 e6 => k l ?_ H6 (e3.trans (e4.trans (e5.trans e6)))
      unfold wrt
      rw [← hw, if_pos (of_decide_eq_true hb2)]
    · refine s_ret (T := T) ev_c fun H6 e6 => kn ?_ H6 (e3.trans (e4.trans (e5.trans e6)))
      unfold wrt
      rw [← hw, if_neg (of_decide_eq_false hb2)]

/-! ### ends -/
theorem atI_end {ns : List Int} (h : 0 < ns.length) : atI (vz ns) (-1) = some (.int (lastD ns)) := by
  have e : ns = ns.take (ns.length - 1) ++ [lastD ns] := by
    have h1 : ns[ns.length - 1]? = some (lastD ns) := getD_at (by omega)
    have h2 := List.take_add_one (l := ns) (i := ns.length - 1)
    rw [h1, show ns.length - 1 + 1 = ns.length by omega, List.take_length] at h2
    exact h2
  have e2 : vz ns = vz (ns.take (ns.length - 1)) ++ [V.int (lastD ns)] := by
    conv => lhs; rw [e]
    exact vz_app _ _
  rw [e2]
  exact atI_last _ _
theorem one_len (a r : Int) (few : List Int) (s : Int) : (oneEnd a r few s).length ≤ 1 := by
  unfold oneEnd
  split
  · split <;> simp
  · simp
theorem small_abs {x : Int} (h : 0 ≤ x) (h2 : x < 100000) : x.natAbs < 2 ^ 40 := by
  have e : (2 : Nat) ^ 40 = 1099511627776 := by decide
  omega
def sp_ends (T : Tb) (K : PySem.W.Frag) : Sp := spM (α := Int × Addr × List Int) (fun q => [.int q.1, .ref q.2.1]) fun q H Q _ => H q.2.1 = some (.lst (vz q.2.2)) ∧ (1 ≤ q.1 ∧ q.1 ≤ 1000) ∧ (∃ m, 3 ≤ m ∧ m ≤ 6 ∧ Few q.1 m q.2.2) ∧ ∀ p as H', Ex T H H' → NewLLs (endsL q.1 q.2.2) H p as H' → Q (.ref p) H'
theorem ok_ends {P : Program} {w : World} {K : PySem.W.Frag} {mg : Str → Option Value} {base : Heap} {T : Tb} (B : Bi mg) {Z : Ze} (Z_RowError : Xc K mg "RowError" Z.row Z.row) (Z_NoRow : Xc K mg "NoRow" Z.noRow Z.row) (Z_NoPlace : Xc K mg "NoPlace" Z.noPlace Z.row) (Z_NoSuch : Xc K mg "NoSuch" Z.noSuch Z.row) (Z_BadText : Xc K mg "BadText" Z.badText Z.row) (kk_noRow_noRow : PySem.W.kitOne K (.ref Z.noRow) (.ref Z.noRow) = some true) (kk_noRow_noPlace : PySem.W.kitOne K (.ref Z.noRow) (.ref Z.noPlace) = some false) (kk_noRow_noSuch : PySem.W.kitOne K (.ref Z.noRow) (.ref Z.noSuch) = some false) (kk_noRow_badText : PySem.W.kitOne K (.ref Z.noRow) (.ref Z.badText) = some false) (kk_noRow_VE : PySem.W.kitOne K (.ref Z.noRow) (.type "ValueError") = some true) (kk_noPlace_noRow : PySem.W.kitOne K (.ref Z.noPlace) (.ref Z.noRow) = some false) (kk_noPlace_noPlace : PySem.W.kitOne K (.ref Z.noPlace) (.ref Z.noPlace) = some true) (kk_noPlace_noSuch : PySem.W.kitOne K (.ref Z.noPlace) (.ref Z.noSuch) = some false) (kk_noPlace_badText : PySem.W.kitOne K (.ref Z.noPlace) (.ref Z.badText) = some false) (kk_noPlace_VE : PySem.W.kitOne K (.ref Z.noPlace) (.type "ValueError") = some true) (kk_noSuch_noRow : PySem.W.kitOne K (.ref Z.noSuch) (.ref Z.noRow) = some false) (kk_noSuch_noPlace : PySem.W.kitOne K (.ref Z.noSuch) (.ref Z.noPlace) = some false) (kk_noSuch_noSuch : PySem.W.kitOne K (.ref Z.noSuch) (.ref Z.noSuch) = some true) (kk_noSuch_badText : PySem.W.kitOne K (.ref Z.noSuch) (.ref Z.badText) = some false) (kk_noSuch_VE : PySem.W.kitOne K (.ref Z.noSuch) (.type "ValueError") = some true) (kk_badText_noRow : PySem.W.kitOne K (.ref Z.badText) (.ref Z.noRow) = some false) (kk_badText_noPlace : PySem.W.kitOne K (.ref Z.badText) (.ref Z.noPlace) = some false) (kk_badText_noSuch : PySem.W.kitOne K (.ref Z.badText) (.ref Z.noSuch) = some false) (kk_badText_badText : PySem.W.kitOne K (.ref Z.badText) (.ref Z.badText) = some true) (kk_badText_VE : PySem.W.kitOne K (.ref Z.badText) (.type "ValueError") = some true) (c_product : Ca CX0 P w K mg base 1 "product" (sp_product T K)) (c_whole_root : Ca CX0 P w K mg base 1 "whole_root" (sp_whole_root T K)) (D : Df K mg "ends" s_ends ["times", "few"]) : Ca CX0 P w K mg base 2 "ends" (sp_ends T K) := by
  refine D.ca0 sc_ends (fun vs H Q E ⟨q, e, _⟩ => by rw [e]; rfl) (fun cdv A outer s H vs Q E f hr h => ?_)
  obtain ⟨⟨t, a, few⟩, hv, h⟩ := h
  dsimp only at hv h
  subst hv
  obtain ⟨ha, ht, ⟨m, hm3, hm6, hF⟩, k⟩ := h
  have hS : SqL K H a (vz few) := SqL.of ha
  have hfl := hF.len
  have hsq := hF.sq ht.1 hm6
  have hsq0 := sqs_nn few
  have hge := hF.ge
  have hle := hF.le
  have hl1 := hF.pos _ (hF.last hm3)
  have hl6 := hF.each ht.1 hm6 (hF.last hm3)
  have hB : Bd 3 few := fun n hn => by
    have h1 := hF.pos n hn
    have h2 := hF.each ht.1 hm6 hn
    show n.natAbs < 8
    omega
  have htb : t.natAbs < 2 ^ 10 := by
    show t.natAbs < 1024
    omega
  have hpp := prd_pos hF.pos
  have hprd : prd few ≤ 6 := by
    have : 1 * prd few ≤ t * prd few := Int.mul_le_mul_of_nonneg_right ht.1 (by omega)
    omega
  refine ⟨_, (pss_cons (ps_set (i := 2) sc_ends.nd rfl (.inl rfl) (pe_lst pa_nil))
      (pss_cons (ps_set (i := 3) sc_ends.nd rfl (.inl rfl) (pe_op op_mulW (pv 0) (pe_k0 c_product hr (by decide) (by rfl) (pa_cons (pv 1) pa_nil))))
      (pss_cons (ps_set (i := 4) sc_ends.nd rfl (.inl rfl) (pe_callB (cr_sum rfl) (by rfl) B.sum boot_sum (pa_cons (pe_lc (own := [("number", 8)]) (g := gName 8) (tt := tYes) rfl sc_ends.nd (pi_list (pv 1)) (blkOk_by (N := ["times", "few", "found", "ahead", "rest", "second", "far", "greatest", "number"]) (sc := defScope s_ends) (by decide +kernel)) (fun _ _ _ _ _ => pg_name (i := 8) sc_ends.nd rfl (Or.inl rfl)) (fun _ _ _ _ _ => by exact pts_nil) (fun _ _ _ _ _ => by exact (pe_op op_mulW (pv 8) (pv 8)))) pa_nil)))
      (pss_cons (ps_set (i := 5) sc_ends.nd rfl (.inl rfl) (pe_ix ix_list (pv 1) (pe_un un_neg pe_int) (fun _ _ => rfl)))
      (pss_cons (ps_while PassesOwn.never (pt_cmpR op_le (pe_op op_mulW (pe_op op_mulW (pe_op op_sub (pv 3) pe_int) (pv 5)) (pv 5)) (pv 4) (nomark _))
      (pss_cons (ps_set (i := 6) sc_ends.nd rfl (.inl rfl) (pe_k0 c_whole_root hr (by decide) (by rfl) (pa_cons (pe_op op_sub (pe_op op_mulW (pe_op op_mulW (pe_op op_mulW (pv 3) (pv 3)) (pv 5)) (pv 5)) (pe_op op_mulW pe_int (pe_op op_add (pe_op op_mulW (pv 5) (pv 5)) (pv 4)))) pa_nil)))
      (Evl.pss_cut (ps_if (PW.pt (pw_and (pt_cmpR op_notN (pv 6) pe_non (nomark _)) (pw_and1 (pt_cmpR op_eq (pe_op op_mod (pe_op op_sub (pe_op op_mulW (pv 3) (pv 5)) (pv 6)) pe_int) pe_int (nomark _))))) (pss_cons (ps_set (i := 7) sc_ends.nd rfl (.inl rfl) (pe_op op_fdiv (pe_op op_sub (pe_op op_mulW (pv 3) (pv 5)) (pv 6)) pe_int))
      (pss_one (ps_if (pt_cmpR op_ge (pv 7) (pv 5) (nomark _)) (pss_one (ps_expr (pe_bm PySem.F.plainAttrs_list PySem.F.slot_list_append PySem.F.type_list_append mt_append (pv 2) (pa_cons (pe_op op_cat (pv 1) (pe_lst (pa_cons (pv 5) (pa_cons (pv 7) pa_nil)))) pa_nil)))) pss_nil))) pss_nil)
      (pss_one (ps_set (i := 5) sc_ends.nd rfl (.inl rfl) (pe_op op_add (pv 5) pe_int))))))
      (pss_one (ps_ret (pv 2)))))))), ?_⟩
  refine q_asgL (T := T) (xs := []) (el_lst ea_nil (Nat.zero_le _)) fun o H1 ho e1 h1 => ?_
  refine q_asg (T := T) (ev_I (ev_var rfl) (ev_call (ea_cons (ev_var rfl) ea_nil) fun H2 e2 Q' q => ⟨(a, few), rfl, (e1.trans e2).sq hS, by show few.length ≤ 6; omega, ⟨3, by decide, hB⟩, q⟩) (wide_mul htb (small_abs (x := prd few) (by omega) (by omega)) (by omega) (by omega) (by omega))) fun H2 e2 => ?_
  have E2 := e1.trans e2
  refine q_asg (T := T) (v := .int (sqs few)) ((ev_sumN (ns := few.map fun n => n * n) (el_map (ys := vz (few.map fun n => n * n)) (ev_var rfl) (E2.sq hS) (by rw [List.length_map]; omega) (by simp) (fun _ => rfl) fun i x y H3 e3 hx hy => ?_)).is (by rw [sqs_map])) fun H3 e3 => ?_
  · obtain ⟨n, hn, rfl⟩ := at_vz hx
    have hy' : y = V.int (n * n) := by
      rw [List.getElem?_map, List.getElem?_map, hn] at hy
      exact (Option.some.inj hy).symm
    rw [hy']
    have h2 := hB n (List.mem_of_getElem? hn)
    exact ev_I (ev_var rfl) (ev_var rfl) (wide_mul h2 h2 (by omega) (by omega) (by omega))
  refine q_asg (T := T) (v := .int (lastD few)) (ev_ixL (ev_var rfl) (ev_un (i := 1) (g := fun i => .int (-i)) ev_c) ((E2.trans e3).sq hS) (atI_end (by omega))) fun H4 e4 => ?_
  have E4 := E2.trans (e3.trans e4)
  obtain ⟨A', hA⟩ : ∃ A', A' = t * prd few := ⟨_, rfl⟩
  have hA3 : 3 ≤ A' ∧ A' ≤ 6 := by rw [hA]; omega
  rw [← hA]
  obtain ⟨full, hfull⟩ : ∃ full, full = endsL t few := ⟨_, rfl⟩
  refine q_while (T := T) (fun j σ H' => ∃ s y z as pre, σ = [some (.int t), some (.ref a), some (.ref o), some (.int A'), some (.int (sqs few)), some (.int s), y, z, none] ∧ Ex T H H' ∧ NewLLs pre H o as H' ∧ pre ++ endsF A' (sqs few) few j s = full ∧ 1 ≤ s ∧ s ≤ 13 ∧ (sqs few + 1 - s).toNat ≤ j ∧ (pre.length : Int) + 1 ≤ s) (sqs few + 1 - lastD few).toNat
    ⟨lastD few, none, none, [], [], rfl, E4, .empty ho ((e2.trans (e3.trans e4)).lst h1), by rw [hfull, hA]; rfl, hl1, by omega, Nat.le_refl _, by simpa using hl1⟩ ?_
  rintro j σ H5 ⟨s, y, z, as, pre, rfl, e5, hG, hpre, hs1, hs13, hj, hlen⟩
  have ass : (A' - 2) * s * s = (A' - 2) * (s * s) := mul_assoc3 _ _
  have hss := sq_le (a := s) (b := 13) (by omega) hs13
  have hss0 : 0 ≤ s * s := Int.mul_nonneg (by omega) (by omega)
  have hA2 : (A' - 2) * s ≤ 4 * 13 := Int.mul_le_mul (by omega) hs13 (by omega) (by omega)
  have hA20 : 0 ≤ (A' - 2) * s := Int.mul_nonneg (by omega) (by omega)
  have hAs : A' * s ≤ 6 * 13 := Int.mul_le_mul (by omega) hs13 (by omega) (by omega)
  have hAs0 : 0 ≤ A' * s := Int.mul_nonneg (by omega) (by omega)
  have hAA := sq_le (a := A') (b := 6) (by omega) hA3.2
  have hAA0 : 0 ≤ A' * A' := Int.mul_nonneg (by omega) (by omega)
  have hAAs : A' * A' * s ≤ 36 * 13 := Int.mul_le_mul (by omega) hs13 (by omega) (by omega)
  have hAAs0 : 0 ≤ A' * A' * s := Int.mul_nonneg hAA0 (by omega)
  have hAAss : A' * A' * s * s ≤ 468 * 13 := Int.mul_le_mul (by omega) hs13 (by omega) (by omega)
  have hAAss0 : 0 ≤ A' * A' * s * s := Int.mul_nonneg hAAs0 (by omega)
  have bs := small_abs (x := s) (by omega) (by omega)
  have bA := small_abs (x := A') (by omega) (by omega)
  refine ⟨_, et_test (ev_I0 (ev_I (ev_I (ev_I0 (ev_var rfl) ev_c) (ev_var rfl) (wide_mul (small_abs (x := A' - 2) (by omega) (by omega)) bs (by omega) (by omega) (by omega))) (ev_var rfl) (wide_mul (small_abs hA20 (by omega)) bs (by omega) (by omega) (by omega))) (ev_var rfl)), fun hb1 H6 e6 => ?_, fun hb1 H6 e6 => ?_⟩
  case refine_2 =>
    have hc : ¬ (A' - 2) * s * s ≤ sqs few := of_decide_eq_false hb1
    have hend : endsF A' (sqs few) few j s = [] := by
      cases j with
      | zero => rfl
      | succ j => exact if_neg hc
    rw [hend, List.append_nil, hfull] at hpre
    rw [hpre] at hG
    exact s_ret (T := T) (ev_var rfl) fun H7 e7 => k o as H7 (e5.trans (e6.trans e7)) (hG.ex (e6.trans e7))
  have hc : (A' - 2) * s * s ≤ sqs few := of_decide_eq_true hb1
  have hs12 : s ≤ 12 := sec_small hA3.1 hs1 (by rw [← ass]; exact hc) hsq
  have hsr : s ≤ sqs few := by
    have h1 : 1 * (s * s) ≤ (A' - 2) * (s * s) := Int.mul_le_mul_of_nonneg_right (by omega) hss0
    have h2 : 1 * s ≤ s * s := Int.mul_le_mul_of_nonneg_right (by omega) (by omega)
    omega
  obtain ⟨i, rfl⟩ : ∃ i, j = i + 1 := ⟨j - 1, by omega⟩
  have hone : endsF A' (sqs few) few (i + 1) s = oneEnd A' (sqs few) few s ++ endsF A' (sqs few) few i (s + 1) := if_pos hc
  have h1len := one_len A' (sqs few) few s
  refine ⟨fun σ H' => ∃ s' y z as pre, σ = [some (.int t), some (.ref a), some (.ref o), some (.int A'), some (.int (sqs few)), some (.int s'), y, z, none] ∧ Ex T H H' ∧ NewLLs pre H o as H' ∧ pre ++ endsF A' (sqs few) few i s' = full ∧ 1 ≤ s' ∧ s' ≤ 13 ∧ (sqs few + 1 - s').toNat ≤ i ∧ (pre.length : Int) + 1 ≤ s', fun σ2 H7 h7 => ⟨i, by omega, h7⟩, ?_⟩
  have hDis : disc A' (sqs few) s = A' * A' * s * s - 4 * (s * s + sqs few) := rfl
  have e39 : (2 : Int) ^ 39 = 549755813888 := by decide
  -- what whole_root is asked
  have arg : ∀ {H' : Hp} {σ' : L2.St}, σ'[3]? = some (some (.int A')) → σ'[4]? = some (some (.int (sqs few))) → σ'[5]? = some (some (.int s)) → Ev T (tOp (rI0 fun i j => .int (i - j)) (tOp (rI CMulW fun i j => .int (i * j)) (tOp (rI CMulW fun i j => .int (i * j)) (tOp (rI CMulW fun i j => .int (i * j)) (tVar 3) (tVar 3)) (tVar 5)) (tVar 5)) (tOp (rI CMulW fun i j => .int (i * j)) (tC (.int 4)) (tOp (rI0 fun i j => .int (i + j)) (tOp (rI CMulW fun i j => .int (i * j)) (tVar 5) (tVar 5)) (tVar 4)))) σ' H' (.int (disc A' (sqs few) s)) := fun h3 h4 h5 =>
    ev_I0 (ev_I (ev_I (ev_I (ev_var h3) (ev_var h3) (wide_mul bA bA (by omega) (by omega) (by omega))) (ev_var h5) (wide_mul (small_abs hAA0 (by omega)) bs (by omega) (by omega) (by omega))) (ev_var h5) (wide_mul (small_abs hAAs0 (by omega)) bs (by omega) (by omega) (by omega)))
      (ev_I ev_c (ev_I0 (ev_I (ev_var h5) (ev_var h5) (wide_mul bs bs (by omega) (by omega) (by omega))) (ev_var h4)) (wide_mul (small_abs (x := 4) (by omega) (by omega)) (small_abs (x := s * s + sqs few) (by omega) (by omega)) (by omega) (by omega) (by omega)))
  have mulAs : ∀ {H' : Hp} {σ' : L2.St}, σ'[3]? = some (some (.int A')) → σ'[5]? = some (some (.int s)) → Ev T (tOp (rI CMulW fun i j => .int (i * j)) (tVar 3) (tVar 5)) σ' H' (.int (A' * s)) := fun h3 h5 => ev_I (ev_var h3) (ev_var h5) (wide_mul bA bs (by omega) (by omega) (by omega))
  have fin : ∀ {H8 : Hp} {y' z' : Option V} {as' : List Addr}, Ex T H H8 → NewLLs (pre ++ oneEnd A' (sqs few) few s) H o as' H8 → tAsg (tOp (rI0 fun i j => .int (i + j)) (tVar 5) (tC (.int 1))) (gName 5) { nx := fun σ H' => ∃ s' y z as pre, σ = [some (.int t), some (.ref a), some (.ref o), some (.int A'), some (.int (sqs few)), some (.int s'), y, z, none] ∧ Ex T H H' ∧ NewLLs pre H o as H' ∧ pre ++ endsF A' (sqs few) few i s' = full ∧ 1 ≤ s' ∧ s' ≤ 13 ∧ (sqs few + 1 - s').toNat ≤ i ∧ (pre.length : Int) + 1 ≤ s', rt := Q } [some (.int t), some (.ref a), some (.ref o), some (.int A'), some (.int (sqs few)), some (.int s), y', z', none] H8 := fun e8 hG8 =>
    s_asg (T := T) (ev_I0 (ev_var rfl) ev_c) fun H9 e9 => ⟨s + 1, _, _, _, _, rfl, e8.trans e9, hG8.ex e9, by rw [List.append_assoc, ← hone]; exact hpre, by omega, by omega, by omega, by rw [List.length_append]; omega⟩
  cases hw : wrt (disc A' (sqs few) s) with
  | none =>
    have hnil : oneEnd A' (sqs few) few s = [] := by unfold oneEnd; rw [hw]
    refine q_asg (T := T) (v := .non) (ev_call (ea_cons (arg rfl rfl rfl) ea_nil) fun H7 e7 Q' q => ⟨disc A' (sqs few) s, rfl, by omega, by omega, (fun r h => by rw [hw] at h; cases h), fun _ => q⟩) fun H7 e7 => ?_
    refine q_cut (M := fun σ H' => ∃ y' z' as', σ = [some (.int t), some (.ref a), some (.ref o), some (.int A'), some (.int (sqs few)), some (.int s), y', z', none] ∧ Ex T H H' ∧ NewLLs (pre ++ oneEnd A' (sqs few) few s) H o as' H') ?_ ?_
    · refine s_when (T := T) (b := false) ((et_and (c := false) (et_test (ev_notN (ev_var rfl) ev_c)) fun hb => by simp at hb).is (by simp)) (fun hb => by cases hb) (fun hb H8 e8 => ⟨_, _, as, rfl, e5.trans (e6.trans (e7.trans e8)), by rw [hnil, List.append_nil]; exact hG.ex (e6.trans (e7.trans e8))⟩)
    · rintro σ H8 ⟨y', z', as', rfl, e8, hG8⟩
      exact fin e8 hG8
  | some far =>
    obtain ⟨hf0, hf2⟩ := (wrt_spec (by omega)).mp hw
    have hfar : far ≤ 100 := by
      rcases Int.lt_or_le 100 far with h9 | h9
      · have := sq_le (a := 101) (b := far) (by omega) (by omega)
        omega
      · exact h9
    refine q_asg (T := T) (v := .int far) (ev_call (ea_cons (arg rfl rfl rfl) ea_nil) fun H7 e7 Q' q => ⟨disc A' (sqs few) s, rfl, by omega, by omega, (fun r h => by rw [hw] at h; cases h; exact q), fun h => by rw [hw] at h; cases h⟩) fun H7 e7 => ?_
    refine q_cut (M := fun σ H' => ∃ y' z' as', σ = [some (.int t), some (.ref a), some (.ref o), some (.int A'), some (.int (sqs few)), some (.int s), y', z', none] ∧ Ex T H H' ∧ NewLLs (pre ++ oneEnd A' (sqs few) few s) H o as' H') ?_ ?_
    · refine s_when (T := T) (b := decide ((A' * s - far) % 2 = 0)) ((et_and (et_test (ev_notN (ev_var rfl) ev_c)) fun _ => et_test (ev_eqI (ev_I (ev_I0 (mulAs rfl rfl) (ev_var rfl)) ev_c (by show (0 : Int) < 2; decide)) ev_c)).is (by simp)) (fun hb H8 e8 => ?_) (fun hb H8 e8 => ?_)
      · have heven := of_decide_eq_true hb
        refine q_asg (T := T) (v := .int ((A' * s - far) / 2)) (ev_I (ev_I0 (mulAs rfl rfl) (ev_var rfl)) ev_c ⟨by decide, by decide⟩) fun H9 e9 => ?_
        have E9 := e6.trans (e7.trans (e8.trans e9))
        refine s_when (T := T) (et_test (ev_I0 (ev_var rfl) (ev_var rfl))) (fun hb2 H10 e10 => ?_) (fun hb2 H10 e10 => ?_)
        · have hyes : oneEnd A' (sqs few) few s = [few ++ [s, (A' * s - far) / 2]] := by
            unfold oneEnd
            rw [hw]
            exact if_pos ⟨heven, of_decide_eq_true hb2⟩
          refine s_appG (T := T) (hG.ex (E9.trans e10)) (e5.trans (E9.trans e10)) (ev_var rfl) (r := few ++ [s, (A' * s - far) / 2]) ((el_catN (ev_var rfl) ((e5.trans (E9.trans e10)).lst ha) (el_lst (vs := vz [s, (A' * s - far) / 2]) (ea_cons (ev_var rfl) (ea_cons (ev_var rfl) ea_nil)) (show 2 ≤ 1000 by decide)) (by rw [List.length_map]; show few.length + 2 ≤ 1000; omega)).is (vz_app _ _).symm) (by omega) fun as' H11 m11 hG11 => ⟨_, _, as', rfl, m11 H (e5.trans (E9.trans e10)) ho, by rw [hyes]; exact hG11⟩
        · have hno : oneEnd A' (sqs few) few s = [] := by
            unfold oneEnd
            rw [hw]
            exact if_neg fun z => of_decide_eq_false hb2 z.2
          exact ⟨_, _, as, rfl, e5.trans (E9.trans e10), by rw [hno, List.append_nil]; exact hG.ex (E9.trans e10)⟩
      · have hno : oneEnd A' (sqs few) few s = [] := by
          unfold oneEnd
          rw [hw]
          exact if_neg fun z => of_decide_eq_false hb z.1
        exact ⟨_, _, as, rfl, e5.trans (e6.trans (e7.trans e8)), by rw [hno, List.append_nil]; exact hG.ex (e6.trans (e7.trans e8))⟩
    · rintro σ H8 ⟨y', z', as', rfl, e8, hG8⟩
      exact fin e8 hG8

/-! ### roots -/
theorem parts_small {k M : Nat} {f : List Int} (h : f ∈ partsL k 1 M) : ∀ n ∈ f, 1 ≤ n ∧ n ≤ M := fun n hn => by
  obtain ⟨h1, h2, h3, h4⟩ := (mem_partsL (Nat.le_refl 1)).mp h
  have h5 : 1 ≤ n := h2 n hn
  refine ⟨h5, ?_⟩
  rcases h4 with h4 | h4
  · rw [h4] at h1
    rw [List.length_eq_zero_iff.mp h1] at hn
    cases hn
  · have hq := List.perm_cons_erase hn
    have e : prd f = n * prd (f.erase n) := prd_perm hq
    have h6 : 1 ≤ prd (f.erase n) := prd_pos fun k hk => h2 k (List.mem_of_mem_erase hk)
    have h7 : n * 1 ≤ n * prd (f.erase n) := Int.mul_le_mul_of_nonneg_left h6 (by omega)
    omega
theorem raw_len {t : Int} {m : Nat} (ht : 1 ≤ t) (hm : 3 ≤ m ∧ m ≤ 6) : (rawRoots t m).length ≤ 20 := by
  have h := (roots_few ht hm).1
  unfold rootsL at h
  rw [List.length_mergeSort] at h
  exact h
theorem root_len {t : Int} {m : Nat} {x : List Int} (ht : 1 ≤ t) (hm : 3 ≤ m ∧ m ≤ 6) (hx : x ∈ rawRoots t m) : x.length = m := (roots_root ht hm (mem_roots.mpr hx)).2.1
def sp_roots (T : Tb) (K : PySem.W.Frag) : Sp := spM (α := Int × Nat) (fun q => [.int q.1, .int (q.2 : Int)]) fun q H Q _ => (1 ≤ q.1 ∧ q.1 ≤ 1000) ∧ (3 ≤ q.2 ∧ q.2 ≤ 6) ∧ LamX.Tabs T H ∧ ∀ p as H', Ex T H H' → NewLLs (rootsL q.1 q.2) H p as H' → Q (.ref p) H'
theorem ok_roots {P : Program} {w : World} {K : PySem.W.Frag} {mg : Str → Option Value} {base : Heap} {T : Tb} (B : Bi mg) {Z : Ze} (Z_RowError : Xc K mg "RowError" Z.row Z.row) (Z_NoRow : Xc K mg "NoRow" Z.noRow Z.row) (Z_NoPlace : Xc K mg "NoPlace" Z.noPlace Z.row) (Z_NoSuch : Xc K mg "NoSuch" Z.noSuch Z.row) (Z_BadText : Xc K mg "BadText" Z.badText Z.row) (kk_noRow_noRow : PySem.W.kitOne K (.ref Z.noRow) (.ref Z.noRow) = some true) (kk_noRow_noPlace : PySem.W.kitOne K (.ref Z.noRow) (.ref Z.noPlace) = some false) (kk_noRow_noSuch : PySem.W.kitOne K (.ref Z.noRow) (.ref Z.noSuch) = some false) (kk_noRow_badText : PySem.W.kitOne K (.ref Z.noRow) (.ref Z.badText) = some false) (kk_noRow_VE : PySem.W.kitOne K (.ref Z.noRow) (.type "ValueError") = some true) (kk_noPlace_noRow : PySem.W.kitOne K (.ref Z.noPlace) (.ref Z.noRow) = some false) (kk_noPlace_noPlace : PySem.W.kitOne K (.ref Z.noPlace) (.ref Z.noPlace) = some true) (kk_noPlace_noSuch : PySem.W.kitOne K (.ref Z.noPlace) (.ref Z.noSuch) = some false) (kk_noPlace_badText : PySem.W.kitOne K (.ref Z.noPlace) (.ref Z.badText) = some false) (kk_noPlace_VE : PySem.W.kitOne K (.ref Z.noPlace) (.type "ValueError") = some true) (kk_noSuch_noRow : PySem.W.kitOne K (.ref Z.noSuch) (.ref Z.noRow) = some false) (kk_noSuch_noPlace : PySem.W.kitOne K (.ref Z.noSuch) (.ref Z.noPlace) = some false) (kk_noSuch_noSuch : PySem.W.kitOne K (.ref Z.noSuch) (.ref Z.noSuch) = some true) (kk_noSuch_badText : PySem.W.kitOne K (.ref Z.noSuch) (.ref Z.badText) = some false) (kk_noSuch_VE : PySem.W.kitOne K (.ref Z.noSuch) (.type "ValueError") = some true) (kk_badText_noRow : PySem.W.kitOne K (.ref Z.badText) (.ref Z.noRow) = some false) (kk_badText_noPlace : PySem.W.kitOne K (.ref Z.badText) (.ref Z.noPlace) = some false) (kk_badText_noSuch : PySem.W.kitOne K (.ref Z.badText) (.ref Z.noSuch) = some false) (kk_badText_badText : PySem.W.kitOne K (.ref Z.badText) (.ref Z.badText) = some true) (kk_badText_VE : PySem.W.kitOne K (.ref Z.badText) (.type "ValueError") = some true) {Cd Tb_ : Addr} (TB : LamX.TabB base mg Cd Tb_) (hmT : (Tb_, (("roots" : Str) ++ ".<locals>." ++ "<lambda>" : Str)) ∈ T) (huT : ∀ p ∈ T, p.1 = Tb_ → p.2 = (("roots" : Str) ++ ".<locals>." ++ "<lambda>" : Str)) (c_parts : Ca CX0 P w K mg base 5 "parts" (sp_parts T K)) (c_product : Ca CX0 P w K mg base 1 "product" (sp_product T K)) (c_ends : Ca CX0 P w K mg base 2 "ends" (sp_ends T K)) (D : DfC K mg "roots" s_roots ["times", "many"] Cd) : Ca CX0 P w K mg base 6 "roots" (sp_roots T K) := by
  refine D.ca0 sc_roots (fun vs H Q E ⟨q, e, _⟩ => by rw [e]; rfl) (fun A outer s H vs Q E f hr h => ?_)
  obtain ⟨⟨t, m⟩, hv, h⟩ := h
  dsimp only at hv h
  subst hv
  obtain ⟨ht, hm, hT, k⟩ := h
  have htb : t.natAbs < 2 ^ 10 := by
    show t.natAbs < 1024
    omega
  have hM0 : 0 ≤ (m : Int) / t := Int.ediv_nonneg (by omega) (by omega)
  have hM6 : ((m : Int) / t).toNat ≤ 6 := by
    have := Int.ediv_le_self (a := (m : Int)) t (by omega)
    omega
  refine ⟨_, (pss_cons (ps_set (i := 2) sc_roots.nd rfl (.inl rfl) (pe_lst pa_nil))
      (pss_cons (ps_for PassesOwn.never rfl (pi_list (pe_k0 c_parts hr (by decide) (by rfl) (pa_cons (pe_op op_sub (pv 1) pe_int) (pa_cons pe_int (pa_cons (pe_op op_fdiv (pv 1) (pv 0)) pa_nil))))) (pg_name (i := 3) sc_roots.nd rfl (.inl rfl))
      (pss_one (ps_if (pt_cmpR op_gt (pe_op op_mulW (pv 0) (pe_k0 c_product hr (by decide) (by rfl) (pa_cons (pv 3) pa_nil))) pe_int (nomark _)) (pss_one (ps_expr (pe_bm PySem.F.plainAttrs_list PySem.F.slot_list_extend PySem.F.type_list_extend mt_extend (pv 2) (pa_cons (pe_k0 c_ends hr (by decide) (by rfl) (pa_cons (pv 0) (pa_cons (pv 3) pa_nil))) pa_nil)))) pss_nil)))
      (pss_one (ps_ret (pe_callBK (call_sortK (T := T) (key := rowKey) hr) (by rfl) B.sorted boot_sorted (pa_cons (pv 2) pa_nil) (pk_cons (pe_lamKey (T := T) (N := ["row"]) (x := "row") (k := 0) (key := rowKey) TB rfl hmT huT rfl (by exact ⟨rfl, rfl, rfl, by decide +kernel, rfl, by decide +kernel, by decide +kernel⟩) (fun _ _ _ _ _ => rfl) (hr.mono (by decide)) (fun q f cd A outer s H hr => by exact (pe_op op_cat (pe_lst (pa_cons (pe_callB (cr_sumK (K := K) rfl rfl) (by rfl) B.sum boot_sum (pa_cons (pv 0) pa_nil)) pa_nil)) (pv 0))) (fun a r H ha hl => by exact el_keyLam rfl ha hl)) pk_nil)))))), ?_⟩
  refine q_asgL (T := T) (xs := []) (el_lst ea_nil (Nat.zero_le _)) fun o H1 ho e1 h1 => ?_
  obtain ⟨pre, hpre⟩ : ∃ pre : Nat → List (List Int), ∀ i, pre i = ((partsL (m - 2) 1 ((m : Int) / t).toNat).take i).flatMap fun few => if 2 < t * prd few then endsL t few else [] := ⟨_, fun _ => rfl⟩
  have hstep : ∀ i few, (partsL (m - 2) 1 ((m : Int) / t).toNat)[i]? = some few → pre (i + 1) = pre i ++ if 2 < t * prd few then endsL t few else [] := fun i few h => by
    rw [hpre, hpre, List.take_add_one, h, List.flatMap_append]
    simp
  have hfull : pre (partsL (m - 2) 1 ((m : Int) / t).toNat).length = rawRoots t m := by
    rw [hpre, List.take_length]
    rfl
  have hle : ∀ i, (pre i).length ≤ 20 := fun i => by
    refine Nat.le_trans ?_ (raw_len ht.1 hm)
    rw [hpre]
    unfold rawRoots
    conv => rhs; rw [← List.take_append_drop i (partsL (m - 2) 1 ((m : Int) / t).toNat)]
    rw [List.flatMap_append, List.length_append]
    exact Nat.le_add_right _ _
  refine q_forNL (T := T) (R := NewLL (partsL (m - 2) 1 ((m : Int) / t).toNat)) (er_call (ea_cons ((ev_I0 (ev_var rfl) ev_c).is (w := .int ((m - 2 : Nat) : Int)) (congrArg V.int (by omega))) (ea_cons (ev_c (v := .int ((1 : Nat) : Int))) (ea_cons ((ev_I (ev_var rfl) (ev_var rfl) ⟨by omega, by omega⟩).is (w := .int ((((m : Int) / t).toNat : Nat) : Int)) (congrArg V.int (by omega))) ea_nil)))
    (fun H2 e2 Q' q' => ⟨(m - 2, 1, ((m : Int) / t).toNat), rfl, by show m - 2 ≤ 4; omega, by show 1 ≤ 1; omega, by show 1 ≤ 1000; omega, hM6, fun p as' H' e' hN => q' (.ref p) H' e' ⟨p, as', rfl, hN⟩⟩) NewLL.back) fun v H2 e2 r2 => ?_
  obtain ⟨pt, ps, rfl, hN⟩ := r2
  have ho2 := e2.lst h1
  have hop : pt ≠ o := fun q => by rw [q] at hN; exact nomatch (hN.p0.symm.trans h1)
  have hps : o ∉ ps := fun q => nomatch ((hN.nw o q).1.symm.trans h1)
  refine ⟨pt, ps.map V.ref, rfl, SqL.of hN.p1, fun j σ H' => ∃ y as, σ = [some (.int t), some (.int (m : Int)), some (.ref o), y] ∧ Ex T H H' ∧ Ex T (rm H2 o) H' ∧ NewLLs (pre j) H o as H', ⟨none, [], rfl, e1.trans e2, rm_ex, by rw [hpre]; exact .empty ho ho2⟩, fun j σ H' _ ⟨y, as, _, _, e, _⟩ => SqL.of (e.lst (rm_lst hN.p1 hop)), ?_, ?_⟩
  · rintro j x σ H3 hx ⟨y, as, rfl, e3, f3, hG⟩
    rw [List.getElem?_map] at hx
    obtain ⟨c, hc, rfl⟩ : ∃ c, ps[j]? = some c ∧ x = .ref c := by
      cases q : ps[j]? with
      | none => rw [q] at hx; cases hx
      | some c => rw [q] at hx; exact ⟨c, rfl, (Option.some.inj hx).symm⟩
    obtain ⟨few, hfew, hc0⟩ := (hN.ll.rm hps).at' hc
    have hmem := List.mem_of_getElem? hfew
    have hfl := ((mem_partsL (Nat.le_refl 1)).mp hmem).1
    have hsm := parts_small hmem
    have hc3 := f3.lst hc0
    have hB : Bd 3 few := fun n hn => by
      have h1 := hsm n hn
      show n.natAbs < 8
      omega
    have hpb := hB.prod
    have e19 : 3 * few.length + 1 ≤ 40 := by omega
    have hst := hstep j few hfew
    refine s_when (T := T) (b := decide (2 < t * prd few)) (et_test (ev_I0 (ev_I (ev_var rfl) (ev_call (ea_cons (ev_var rfl) ea_nil) fun H4 e4 Q' q => ⟨(c, few), rfl, SqL.of (e4.lst hc3), by show few.length ≤ 6; omega, ⟨3, by decide, hB⟩, q⟩) (wide_mul htb (Nat.lt_of_lt_of_le hpb (Nat.pow_le_pow_right (by decide) e19)) (by omega) (by omega) (by omega))) ev_c)) (fun hb H4 e4 => ?_) (fun hb H4 e4 => ?_)
    · have h2 := of_decide_eq_true hb
      rw [if_pos h2] at hst
      have hF := (few_mem ht.1 hm.1).mp ⟨hmem, h2⟩
      have hl1 := hle (j + 1)
      rw [hst, List.length_append] at hl1
      exact s_extG (T := T) (ss := endsL t few) (hG.ex e4) (e3.trans e4) (ev_var rfl) (er_call (ea_cons (ev_var rfl) (ea_cons (ev_var rfl) ea_nil)) (fun H5 e5 Q' q => ⟨(t, c, few), rfl, (e4.trans e5).lst hc3, ht, ⟨m, hm.1, hm.2, hF⟩, fun p as' H' e' hN' => q (.ref p) H' e' ⟨p, as', rfl, hN'⟩⟩) NewLL.back) (by omega) fun as' H5 m5 hG5 => ⟨_, as', rfl, m5 H (e3.trans e4) ho, m5 _ (f3.trans e4) rm_at, by rw [hst]; exact hG5⟩
    · rw [if_neg (of_decide_eq_false hb), List.append_nil] at hst
      exact ⟨_, as, rfl, e3.trans e4, f3.trans e4, by rw [hst]; exact hG.ex e4⟩
  · rintro σ H3 ⟨y, as, rfl, e3, f3, hG⟩
    rw [List.length_map, hN.len, hfull] at hG
    have hrl : ∀ r ∈ rawRoots t m, r.length ≤ 900 := fun r hr => by
      have := root_len ht.1 hm hr
      omega
    refine s_retR (T := T) (er_sortK (ev_var rfl) (ec_lam (e3.t hT)) (SqL.of hG.p1) hG.ll hrl) fun v H4 e4 r4 => ?_
    obtain ⟨q, as', rfl, hs⟩ := r4
    exact k q as' H4 (e3.trans e4) (hG.sorted e3 hs)

/-! ### comes_from -/
def sp_comes_from (T : Tb) (K : PySem.W.Frag) : Sp := spM (α := Int × Addr × List Int) (fun q => [.int q.1, .ref q.2.1]) fun q H Q _ => SqL K H q.2.1 (vz q.2.2) ∧ Wd q.1 q.2.2 ∧ IsRow q.1 q.2.2 ∧ 0 < q.2.2.length ∧
  (rootB q.1 q.2.2 = true → ∀ H', Ex T H H' → Q .non H') ∧ (rootB q.1 q.2.2 = false → ∀ p H', H p = none → Ex T H H' → H' p = some (.lst (vz (near q.1 q.2.2 (q.2.2.length - 1)))) → Q (.ref p) H')
theorem ok_comes_from {P : Program} {w : World} {K : PySem.W.Frag} {mg : Str → Option Value} {base : Heap} {T : Tb} (B : Bi mg) {Z : Ze} (Z_RowError : Xc K mg "RowError" Z.row Z.row) (Z_NoRow : Xc K mg "NoRow" Z.noRow Z.row) (Z_NoPlace : Xc K mg "NoPlace" Z.noPlace Z.row) (Z_NoSuch : Xc K mg "NoSuch" Z.noSuch Z.row) (Z_BadText : Xc K mg "BadText" Z.badText Z.row) (kk_noRow_noRow : PySem.W.kitOne K (.ref Z.noRow) (.ref Z.noRow) = some true) (kk_noRow_noPlace : PySem.W.kitOne K (.ref Z.noRow) (.ref Z.noPlace) = some false) (kk_noRow_noSuch : PySem.W.kitOne K (.ref Z.noRow) (.ref Z.noSuch) = some false) (kk_noRow_badText : PySem.W.kitOne K (.ref Z.noRow) (.ref Z.badText) = some false) (kk_noRow_VE : PySem.W.kitOne K (.ref Z.noRow) (.type "ValueError") = some true) (kk_noPlace_noRow : PySem.W.kitOne K (.ref Z.noPlace) (.ref Z.noRow) = some false) (kk_noPlace_noPlace : PySem.W.kitOne K (.ref Z.noPlace) (.ref Z.noPlace) = some true) (kk_noPlace_noSuch : PySem.W.kitOne K (.ref Z.noPlace) (.ref Z.noSuch) = some false) (kk_noPlace_badText : PySem.W.kitOne K (.ref Z.noPlace) (.ref Z.badText) = some false) (kk_noPlace_VE : PySem.W.kitOne K (.ref Z.noPlace) (.type "ValueError") = some true) (kk_noSuch_noRow : PySem.W.kitOne K (.ref Z.noSuch) (.ref Z.noRow) = some false) (kk_noSuch_noPlace : PySem.W.kitOne K (.ref Z.noSuch) (.ref Z.noPlace) = some false) (kk_noSuch_noSuch : PySem.W.kitOne K (.ref Z.noSuch) (.ref Z.noSuch) = some true) (kk_noSuch_badText : PySem.W.kitOne K (.ref Z.noSuch) (.ref Z.badText) = some false) (kk_noSuch_VE : PySem.W.kitOne K (.ref Z.noSuch) (.type "ValueError") = some true) (kk_badText_noRow : PySem.W.kitOne K (.ref Z.badText) (.ref Z.noRow) = some false) (kk_badText_noPlace : PySem.W.kitOne K (.ref Z.badText) (.ref Z.noPlace) = some false) (kk_badText_noSuch : PySem.W.kitOne K (.ref Z.badText) (.ref Z.noSuch) = some false) (kk_badText_badText : PySem.W.kitOne K (.ref Z.badText) (.ref Z.badText) = some true) (kk_badText_VE : PySem.W.kitOne K (.ref Z.badText) (.type "ValueError") = some true) (c_is_root : Ca CX0 P w K mg base 4 "is_root" (sp_is_root T K)) (c_at_place : Ca CX0 P w K mg base 2 "at_place" (sp_at_place T K)) (D : Df K mg "comes_from" s_comes_from ["times", "row"]) : Ca CX0 P w K mg base 5 "comes_from" (sp_comes_from T K) := by
  refine D.ca0 sc_comes_from (fun vs H Q E ⟨q, e, _⟩ => by rw [e]; rfl) (fun cdv A outer s H vs Q E f hr h => ?_)
  obtain ⟨⟨t, a, ns⟩, hv, h⟩ := h
  dsimp only at hv h
  subst hv
  obtain ⟨hS, hW, hR, h0, k1, k2⟩ := h
  refine ⟨_, (pss_cons (ps_if (pt_val (pe_k0 c_is_root hr (by decide) (by rfl) (pa_cons (pv 0) (pa_cons (pv 1) pa_nil)))) (pss_one (ps_ret pe_non)) pss_nil)
      (pss_one (ps_ret (pe_k0 c_at_place hr (by decide) (by rfl) (pa_cons (pv 0) (pa_cons (pv 1) (pa_cons (pe_op op_sub (pe_callB call_lenS (by rfl) B.len boot_len (pa_cons (pv 1) pa_nil)) pe_int) pa_nil))))))), ?_⟩
  refine q_when (T := T) (et_B (ev_call (ea_cons (ev_var rfl) (ea_cons (ev_var rfl) ea_nil)) fun H1 e1 Q' q => ⟨(t, a, ns), rfl, e1.sq hS, hW, hR, h0, q⟩)) (fun hb H1 e1 => ?_) (fun hb H1 e1 => ?_)
  · exact s_ret (T := T) ev_c fun H2 e2 => k1 hb H2 (e1.trans e2)
  · exact s_retL (T := T) (el_call (vs := [.int t, .ref a, .int ((ns.length - 1 : Nat) : Int)]) (ea_cons (ev_var rfl) (ea_cons (ev_var rfl) (ea_cons (Ev.as (by rw [List.length_map, last_ix h0]) (ev_I0 (ev_len (ev_var rfl) (e1.sq hS)) ev_c)) ea_nil))) fun H2 e2 Q' q => ⟨(t, a, ns, ns.length - 1), rfl, (e1.trans e2).sq hS, hW, by show ns.length - 1 < ns.length; omega, q⟩) fun p H2 hp e2 h2 => k2 hb p H2 (e1.n p hp) (e1.trans e2) h2

theorem okR_comes_from {P : Program} {w : World} {K : PySem.W.Frag} {mg : Str → Option Value} {base : Heap} {T : Tb} (B : Bi mg) {Z : Ze} (Z_RowError : Xc K mg "RowError" Z.row Z.row) (Z_NoRow : Xc K mg "NoRow" Z.noRow Z.row) (Z_NoPlace : Xc K mg "NoPlace" Z.noPlace Z.row) (Z_NoSuch : Xc K mg "NoSuch" Z.noSuch Z.row) (Z_BadText : Xc K mg "BadText" Z.badText Z.row) (kk_noRow_noRow : PySem.W.kitOne K (.ref Z.noRow) (.ref Z.noRow) = some true) (kk_noRow_noPlace : PySem.W.kitOne K (.ref Z.noRow) (.ref Z.noPlace) = some false) (kk_noRow_noSuch : PySem.W.kitOne K (.ref Z.noRow) (.ref Z.noSuch) = some false) (kk_noRow_badText : PySem.W.kitOne K (.ref Z.noRow) (.ref Z.badText) = some false) (kk_noRow_VE : PySem.W.kitOne K (.ref Z.noRow) (.type "ValueError") = some true) (kk_noPlace_noRow : PySem.W.kitOne K (.ref Z.noPlace) (.ref Z.noRow) = some false) (kk_noPlace_noPlace : PySem.W.kitOne K (.ref Z.noPlace) (.ref Z.noPlace) = some true) (kk_noPlace_noSuch : PySem.W.kitOne K (.ref Z.noPlace) (.ref Z.noSuch) = some false) (kk_noPlace_badText : PySem.W.kitOne K (.ref Z.noPlace) (.ref Z.badText) = some false) (kk_noPlace_VE : PySem.W.kitOne K (.ref Z.noPlace) (.type "ValueError") = some true) (kk_noSuch_noRow : PySem.W.kitOne K (.ref Z.noSuch) (.ref Z.noRow) = some false) (kk_noSuch_noPlace : PySem.W.kitOne K (.ref Z.noSuch) (.ref Z.noPlace) = some false) (kk_noSuch_noSuch : PySem.W.kitOne K (.ref Z.noSuch) (.ref Z.noSuch) = some true) (kk_noSuch_badText : PySem.W.kitOne K (.ref Z.noSuch) (.ref Z.badText) = some false) (kk_noSuch_VE : PySem.W.kitOne K (.ref Z.noSuch) (.type "ValueError") = some true) (kk_badText_noRow : PySem.W.kitOne K (.ref Z.badText) (.ref Z.noRow) = some false) (kk_badText_noPlace : PySem.W.kitOne K (.ref Z.badText) (.ref Z.noPlace) = some false) (kk_badText_noSuch : PySem.W.kitOne K (.ref Z.badText) (.ref Z.noSuch) = some false) (kk_badText_badText : PySem.W.kitOne K (.ref Z.badText) (.ref Z.badText) = some true) (kk_badText_VE : PySem.W.kitOne K (.ref Z.badText) (.type "ValueError") = some true) (r_is_root : Ca (L2.CX P w) P w K mg base 4 "is_root" (spR Z T K)) (D : Df K mg "comes_from" s_comes_from ["times", "row"]) : Ca (L2.CX P w) P w K mg base 5 "comes_from" (spR Z T K) := by
  refine D.caX sc_comes_from (fun vs H Q E ⟨q, e, _⟩ => by rw [e]; rfl) (fun cdv A outer s H vs Q E f hr h => ?_)
  obtain ⟨⟨t, a, ns⟩, hv, h⟩ := h
  dsimp only at hv h
  subst hv
  obtain ⟨hS, hW, hR, kx⟩ := h
  refine ⟨_, (pss_cons (ps_if (pt_val (pe_k r_is_root hr (by decide) (passes_call (takes_of rfl rfl rfl rfl) fun _ _ _ _ h => h) (by rfl) (pa_cons (pv 0) (pa_cons (pv 1) pa_nil)))) pss_never pss_nil) pss_never), ?_⟩
  exact call_raise (T := T) (ea_cons (ev_var rfl) (ea_cons (ev_var rfl) ea_nil)) fun H1 e1 Q' => ⟨(t, a, ns), rfl, e1.sq hS, hW, hR, fun H' e' => kx H' (e1.trans e')⟩

/-! ### children -/
def sp_children (T : Tb) (K : PySem.W.Frag) : Sp := spM (α := Int × Addr × List Int) (fun q => [.int q.1, .ref q.2.1]) fun q H Q _ => SqL K H q.2.1 (vz q.2.2) ∧ Wd q.1 q.2.2 ∧ IsRow q.1 q.2.2 ∧ LamX.Tabs T H ∧
  ∀ p as H', Ex T H H' → NewLLs (childL q.1 q.2.2) H p as H' → Q (.ref p) H'
theorem ok_children {P : Program} {w : World} {K : PySem.W.Frag} {mg : Str → Option Value} {base : Heap} {T : Tb} (B : Bi mg) {Z : Ze} (Z_RowError : Xc K mg "RowError" Z.row Z.row) (Z_NoRow : Xc K mg "NoRow" Z.noRow Z.row) (Z_NoPlace : Xc K mg "NoPlace" Z.noPlace Z.row) (Z_NoSuch : Xc K mg "NoSuch" Z.noSuch Z.row) (Z_BadText : Xc K mg "BadText" Z.badText Z.row) (kk_noRow_noRow : PySem.W.kitOne K (.ref Z.noRow) (.ref Z.noRow) = some true) (kk_noRow_noPlace : PySem.W.kitOne K (.ref Z.noRow) (.ref Z.noPlace) = some false) (kk_noRow_noSuch : PySem.W.kitOne K (.ref Z.noRow) (.ref Z.noSuch) = some false) (kk_noRow_badText : PySem.W.kitOne K (.ref Z.noRow) (.ref Z.badText) = some false) (kk_noRow_VE : PySem.W.kitOne K (.ref Z.noRow) (.type "ValueError") = some true) (kk_noPlace_noRow : PySem.W.kitOne K (.ref Z.noPlace) (.ref Z.noRow) = some false) (kk_noPlace_noPlace : PySem.W.kitOne K (.ref Z.noPlace) (.ref Z.noPlace) = some true) (kk_noPlace_noSuch : PySem.W.kitOne K (.ref Z.noPlace) (.ref Z.noSuch) = some false) (kk_noPlace_badText : PySem.W.kitOne K (.ref Z.noPlace) (.ref Z.badText) = some false) (kk_noPlace_VE : PySem.W.kitOne K (.ref Z.noPlace) (.type "ValueError") = some true) (kk_noSuch_noRow : PySem.W.kitOne K (.ref Z.noSuch) (.ref Z.noRow) = some false) (kk_noSuch_noPlace : PySem.W.kitOne K (.ref Z.noSuch) (.ref Z.noPlace) = some false) (kk_noSuch_noSuch : PySem.W.kitOne K (.ref Z.noSuch) (.ref Z.noSuch) = some true) (kk_noSuch_badText : PySem.W.kitOne K (.ref Z.noSuch) (.ref Z.badText) = some false) (kk_noSuch_VE : PySem.W.kitOne K (.ref Z.noSuch) (.type "ValueError") = some true) (kk_badText_noRow : PySem.W.kitOne K (.ref Z.badText) (.ref Z.noRow) = some false) (kk_badText_noPlace : PySem.W.kitOne K (.ref Z.badText) (.ref Z.noPlace) = some false) (kk_badText_noSuch : PySem.W.kitOne K (.ref Z.badText) (.ref Z.noSuch) = some false) (kk_badText_badText : PySem.W.kitOne K (.ref Z.badText) (.ref Z.badText) = some true) (kk_badText_VE : PySem.W.kitOne K (.ref Z.badText) (.type "ValueError") = some true) {Cd Tb_ : Addr} (TB : LamX.TabB base mg Cd Tb_) (hmT : (Tb_, (("children" : Str) ++ ".<locals>." ++ "<lambda>" : Str)) ∈ T) (huT : ∀ p ∈ T, p.1 = Tb_ → p.2 = (("children" : Str) ++ ".<locals>." ++ "<lambda>" : Str)) (c_see_row : Ca CX0 P w K mg base 3 "see_row" (sp_see_row T K)) (c_at_place : Ca CX0 P w K mg base 2 "at_place" (sp_at_place T K)) (D : DfC K mg "children" s_children ["times", "row"] Cd) : Ca CX0 P w K mg base 4 "children" (sp_children T K) := by
  refine D.ca0 sc_children (fun vs H Q E ⟨q, e, _⟩ => by rw [e]; rfl) (fun A outer s H vs Q E f hr h => ?_)
  obtain ⟨⟨t, a, ns⟩, hv, h⟩ := h
  dsimp only at hv h
  subst hv
  obtain ⟨hS, hW, hR, hT, k⟩ := h
  have hl6 : ns.length ≤ 6 := hW.len
  refine ⟨_, (pss_cons (ps_expr (pe_k0 c_see_row hr (by decide) (by rfl) (pa_cons (pv 0) (pa_cons (pv 1) pa_nil))))
      (pss_cons (ps_set (i := 2) sc_children.nd rfl (.inl rfl) (pe_lst pa_nil))
      (pss_cons (ps_for PassesOwn.never rfl (pi_range1 (by rfl) B.range (pa_cons (pe_callB call_lenS (by rfl) B.len boot_len (pa_cons (pv 1) pa_nil)) pa_nil)) (pg_name (i := 3) sc_children.nd rfl (.inl rfl))
      (pss_cons (ps_set (i := 4) sc_children.nd rfl (.inl rfl) (pe_k0 c_at_place hr (by decide) (by rfl) (pa_cons (pv 0) (pa_cons (pv 1) (pa_cons (pv 3) pa_nil)))))
      (pss_one (ps_if (PW.pt (pw_and (pt_cmpR op_gt (pe_callB (cr_sum rfl) (by rfl) B.sum boot_sum (pa_cons (pv 4) pa_nil)) (pe_callB (cr_sum rfl) (by rfl) B.sum boot_sum (pa_cons (pv 1) pa_nil)) (nomark _)) (pw_and1 (pt_cmpR (op_notInD (hu65 hr)) (pv 4) (pv 2) (by rfl))))) (pss_one (ps_expr (pe_bm PySem.F.plainAttrs_list PySem.F.slot_list_append PySem.F.type_list_append mt_append (pv 2) (pa_cons (pv 4) pa_nil)))) pss_nil))))
      (pss_one (ps_ret (pe_callBK (call_sortK (T := T) (key := rowKey) hr) (by rfl) B.sorted boot_sorted (pa_cons (pv 2) pa_nil) (pk_cons (pe_lamKey (T := T) (N := ["far"]) (x := "far") (k := 0) (key := rowKey) TB rfl hmT huT rfl (by exact ⟨rfl, rfl, rfl, by decide +kernel, rfl, by decide +kernel, by decide +kernel⟩) (fun _ _ _ _ _ => rfl) (hr.mono (by decide)) (fun q f cd A outer s H hr => by exact (pe_op op_cat (pe_lst (pa_cons (pe_callB (cr_sumK (K := K) rfl rfl) (by rfl) B.sum boot_sum (pa_cons (pv 0) pa_nil)) pa_nil)) (pv 0))) (fun a r H ha hl => by exact el_keyLam rfl ha hl)) pk_nil))))))), ?_⟩
  refine q_drop (T := T) (ev_call (ea_cons (ev_var rfl) (ea_cons (ev_var rfl) ea_nil)) fun H1 e1 Q' q => ⟨(t, a, ns), rfl, e1.sq hS, hW, hR, q⟩) fun H1 e1 => ?_
  refine q_asgL (T := T) (xs := []) (el_lst ea_nil (Nat.zero_le _)) fun l H2 hl e2 h2 => ?_
  refine q_forR1 (T := T) (m := (ns.length : Int)) (ea_cons ((ev_len (ev_var rfl) ((e1.trans e2).sq hS)).is (by rw [List.length_map])) ea_nil) (by omega) (by omega)
    (fun i σ H' => ∃ y z as, σ = [some (.int t), some (.ref a), some (.ref l), y, z] ∧ Ex T H H' ∧ H' l = some (.lst (as.map V.ref)) ∧ LLs H' as (ups t ns i) ∧ (∀ c ∈ as, H c = none ∧ c ≠ l) ∧ as.Nodup)
    (fun H3 e3 => ⟨none, none, [], rfl, e1.trans (e2.trans e3), e3.lst h2, trivial, (fun _ h => nomatch h), .nil⟩) ?_ ?_
  · rintro i σ H3 hi ⟨y, z, as, rfl, e3, h3, hL, hn, hnd⟩
    have hi' : i < ns.length := by omega
    refine q_asgL (T := T) (xs := vz (near t ns i)) (el_call (ea_cons (ev_var rfl) (ea_cons (ev_var rfl) (ea_cons (ev_var rfl) ea_nil))) fun H4 e4 Q' q => ⟨(t, a, ns, i), rfl, (e3.trans e4).sq hS, hW, hi', q⟩) fun f H4 hf e4 h4 => ?_
    have hl4 := e4.lst h3
    refine s_when (T := T) (b := decide (ns.sum < (near t ns i).sum) && !decide (near t ns i ∈ ups t ns i)) (et_and (et_test (ev_I0 (ev_sum (ev_var rfl) (SqL.of h4)) (ev_sum (ev_var rfl) ((e3.trans e4).sq hS)))) fun _ => et_test (ev_notInLL (ev_var rfl) (ev_var rfl) (SqL.of h4) (SqL.of hl4) (hL.ex e4))) (fun hb H5 e5 => ?_) (fun hb H5 e5 => ?_)
    · rw [Bool.and_eq_true, Bool.not_eq_true'] at hb
      have hup : ups t ns (i + 1) = ups t ns i ++ [near t ns i] := if_pos ⟨of_decide_eq_true hb.1, of_decide_eq_false hb.2⟩
      have hal := hL.len
      have hul := ups_len t ns i
      refine s_app (T := T) (e5.lst hl4) (ev_var rfl) (ev_var rfl) (by rw [List.length_map]; omega) fun H6 e6 h6 => ⟨_, _, as ++ [f], rfl, (e3.trans (e4.trans (e5.trans e6))).mut (e1.n l hl) h6, ?_, ?_, ?_, ?_⟩
      · rw [upd_same, List.map_append]
        rfl
      · rw [hup]
        have h7 := (e5.trans e6).lst h4
        refine LLs.but ((hL.ex (e4.trans (e5.trans e6))).app (LLs.one h7)) fun z => ?_
        rcases List.mem_append.mp z with z | z
        · exact (hn l z).2 rfl
        · rw [List.mem_singleton.mp z] at h3
          rw [hf] at h3
          cases h3
      · intro c hc
        rcases List.mem_append.mp hc with z | z
        · exact hn c z
        · rw [List.mem_singleton.mp z]
          exact ⟨e3.n f hf, fun q => by rw [q, h3] at hf; cases hf⟩
      · refine List.nodup_append.mpr ⟨hnd, List.nodup_cons.mpr ⟨List.not_mem_nil, .nil⟩, fun c hc b hb => ?_⟩
        rw [List.mem_singleton.mp hb]
        obtain ⟨j, hj⟩ := List.getElem?_of_mem hc
        obtain ⟨r, _, hr⟩ := hL.at' hj
        exact ne_of_none hr hf
    · have hup : ups t ns (i + 1) = ups t ns i := if_neg fun z => by
        rw [decide_eq_true z.1, decide_eq_false z.2] at hb
        cases hb
      exact ⟨_, _, as, rfl, e3.trans (e4.trans e5), (e4.trans e5).lst h3, by rw [hup]; exact hL.ex (e4.trans e5), hn, hnd⟩
  · rintro σ H3 ⟨y, z, as, rfl, e3, h3, hL, hn, hnd⟩
    have hrl : ∀ r ∈ ups t ns ns.length, r.length ≤ 900 := fun r hr => by
      obtain ⟨i, hi, rfl, _⟩ := mem_ups.mp hr
      rw [near_len hi]
      omega
    rw [show ((ns.length : Int)).toNat = ns.length from rfl] at hL
    refine s_retR (T := T) (er_sortK (ev_var rfl) (ec_lam (e3.t hT)) (SqL.of h3) hL hrl) fun v H4 e4 r4 => ?_
    obtain ⟨q, as', rfl, hs⟩ := r4
    exact k q as' H4 (e3.trans e4) ⟨e3.n q hs.q0, hs.q1, hs.ll, fun c hc => ⟨(hn c (hs.perm.subset hc)).1, fun z => by
      obtain ⟨j, hj⟩ := List.getElem?_of_mem (hs.perm.subset hc)
      obtain ⟨r, _, hr⟩ := hL.at' hj
      rw [z, hs.q0] at hr
      cases hr⟩, hs.perm.symm.nodup hnd⟩

theorem okR_children {Cd : Addr} {P : Program} {w : World} {K : PySem.W.Frag} {mg : Str → Option Value} {base : Heap} {T : Tb} (B : Bi mg) {Z : Ze} (Z_RowError : Xc K mg "RowError" Z.row Z.row) (Z_NoRow : Xc K mg "NoRow" Z.noRow Z.row) (Z_NoPlace : Xc K mg "NoPlace" Z.noPlace Z.row) (Z_NoSuch : Xc K mg "NoSuch" Z.noSuch Z.row) (Z_BadText : Xc K mg "BadText" Z.badText Z.row) (kk_noRow_noRow : PySem.W.kitOne K (.ref Z.noRow) (.ref Z.noRow) = some true) (kk_noRow_noPlace : PySem.W.kitOne K (.ref Z.noRow) (.ref Z.noPlace) = some false) (kk_noRow_noSuch : PySem.W.kitOne K (.ref Z.noRow) (.ref Z.noSuch) = some false) (kk_noRow_badText : PySem.W.kitOne K (.ref Z.noRow) (.ref Z.badText) = some false) (kk_noRow_VE : PySem.W.kitOne K (.ref Z.noRow) (.type "ValueError") = some true) (kk_noPlace_noRow : PySem.W.kitOne K (.ref Z.noPlace) (.ref Z.noRow) = some false) (kk_noPlace_noPlace : PySem.W.kitOne K (.ref Z.noPlace) (.ref Z.noPlace) = some true) (kk_noPlace_noSuch : PySem.W.kitOne K (.ref Z.noPlace) (.ref Z.noSuch) = some false) (kk_noPlace_badText : PySem.W.kitOne K (.ref Z.noPlace) (.ref Z.badText) = some false) (kk_noPlace_VE : PySem.W.kitOne K (.ref Z.noPlace) (.type "ValueError") = some true) (kk_noSuch_noRow : PySem.W.kitOne K (.ref Z.noSuch) (.ref Z.noRow) = some false) (kk_noSuch_noPlace : PySem.W.kitOne K (.ref Z.noSuch) (.ref Z.noPlace) = some false) (kk_noSuch_noSuch : PySem.W.kitOne K (.ref Z.noSuch) (.ref Z.noSuch) = some true) (kk_noSuch_badText : PySem.W.kitOne K (.ref Z.noSuch) (.ref Z.badText) = some false) (kk_noSuch_VE : PySem.W.kitOne K (.ref Z.noSuch) (.type "ValueError") = some true) (kk_badText_noRow : PySem.W.kitOne K (.ref Z.badText) (.ref Z.noRow) = some false) (kk_badText_noPlace : PySem.W.kitOne K (.ref Z.badText) (.ref Z.noPlace) = some false) (kk_badText_noSuch : PySem.W.kitOne K (.ref Z.badText) (.ref Z.noSuch) = some false) (kk_badText_badText : PySem.W.kitOne K (.ref Z.badText) (.ref Z.badText) = some true) (kk_badText_VE : PySem.W.kitOne K (.ref Z.badText) (.type "ValueError") = some true) (r_see_row : Ca (L2.CX P w) P w K mg base 3 "see_row" (spX_see_row Z T K)) (D : DfC K mg "children" s_children ["times", "row"] Cd) : Ca (L2.CX P w) P w K mg base 4 "children" (spR Z T K) := by
  refine D.caX sc_children (fun vs H Q E ⟨q, e, _⟩ => by rw [e]; rfl) (fun A outer s H vs Q E f hr h => ?_)
  obtain ⟨⟨t, a, ns⟩, hv, h⟩ := h
  dsimp only at hv h
  subst hv
  obtain ⟨hS, hW, hR, kx⟩ := h
  refine ⟨_, (pss_cons (ps_expr (pe_k r_see_row hr (by decide) (passes_call (takes_of rfl rfl rfl rfl) fun _ _ _ _ h => h) (by rfl) (pa_cons (pv 0) (pa_cons (pv 1) pa_nil)))) pss_never), ?_⟩
  exact call_raise (T := T) (ea_cons (ev_var rfl) (ea_cons (ev_var rfl) ea_nil)) fun H1 e1 Q' => ⟨(t, a, ns), rfl, e1.sq hS, hW, fun h => absurd h hR, fun _ H' e' => kx H' (e1.trans e')⟩

/-! ### least_place -/
def sp_least_place (T : Tb) (K : PySem.W.Frag) : Sp := spM (α := Int × Addr × List Int × Addr × List Int) (fun q => [.int q.1, .ref q.2.1, .ref q.2.2.2.1]) fun q H Q _ => SqL K H q.2.1 (vz q.2.2.1) ∧ SqL K H q.2.2.2.1 (vz q.2.2.2.2) ∧ Wd q.1 q.2.2.1 ∧ ∀ H', Ex T H H' → Q (.int (leastP q.1 q.2.2.1 q.2.2.2.2 : Nat)) H'
theorem ok_least_place {P : Program} {w : World} {K : PySem.W.Frag} {mg : Str → Option Value} {base : Heap} {T : Tb} (B : Bi mg) {Z : Ze} (Z_RowError : Xc K mg "RowError" Z.row Z.row) (Z_NoRow : Xc K mg "NoRow" Z.noRow Z.row) (Z_NoPlace : Xc K mg "NoPlace" Z.noPlace Z.row) (Z_NoSuch : Xc K mg "NoSuch" Z.noSuch Z.row) (Z_BadText : Xc K mg "BadText" Z.badText Z.row) (kk_noRow_noRow : PySem.W.kitOne K (.ref Z.noRow) (.ref Z.noRow) = some true) (kk_noRow_noPlace : PySem.W.kitOne K (.ref Z.noRow) (.ref Z.noPlace) = some false) (kk_noRow_noSuch : PySem.W.kitOne K (.ref Z.noRow) (.ref Z.noSuch) = some false) (kk_noRow_badText : PySem.W.kitOne K (.ref Z.noRow) (.ref Z.badText) = some false) (kk_noRow_VE : PySem.W.kitOne K (.ref Z.noRow) (.type "ValueError") = some true) (kk_noPlace_noRow : PySem.W.kitOne K (.ref Z.noPlace) (.ref Z.noRow) = some false) (kk_noPlace_noPlace : PySem.W.kitOne K (.ref Z.noPlace) (.ref Z.noPlace) = some true) (kk_noPlace_noSuch : PySem.W.kitOne K (.ref Z.noPlace) (.ref Z.noSuch) = some false) (kk_noPlace_badText : PySem.W.kitOne K (.ref Z.noPlace) (.ref Z.badText) = some false) (kk_noPlace_VE : PySem.W.kitOne K (.ref Z.noPlace) (.type "ValueError") = some true) (kk_noSuch_noRow : PySem.W.kitOne K (.ref Z.noSuch) (.ref Z.noRow) = some false) (kk_noSuch_noPlace : PySem.W.kitOne K (.ref Z.noSuch) (.ref Z.noPlace) = some false) (kk_noSuch_noSuch : PySem.W.kitOne K (.ref Z.noSuch) (.ref Z.noSuch) = some true) (kk_noSuch_badText : PySem.W.kitOne K (.ref Z.noSuch) (.ref Z.badText) = some false) (kk_noSuch_VE : PySem.W.kitOne K (.ref Z.noSuch) (.type "ValueError") = some true) (kk_badText_noRow : PySem.W.kitOne K (.ref Z.badText) (.ref Z.noRow) = some false) (kk_badText_noPlace : PySem.W.kitOne K (.ref Z.badText) (.ref Z.noPlace) = some false) (kk_badText_noSuch : PySem.W.kitOne K (.ref Z.badText) (.ref Z.noSuch) = some false) (kk_badText_badText : PySem.W.kitOne K (.ref Z.badText) (.ref Z.badText) = some true) (kk_badText_VE : PySem.W.kitOne K (.ref Z.badText) (.type "ValueError") = some true) (c_at_place : Ca CX0 P w K mg base 2 "at_place" (sp_at_place T K)) (D : Df K mg "least_place" s_least_place ["times", "row", "far"]) : Ca CX0 P w K mg base 3 "least_place" (sp_least_place T K) := by
  refine D.ca0 sc_least_place (fun vs H Q E ⟨q, e, _⟩ => by rw [e]; rfl) (fun cdv A outer s H vs Q E f hr h => ?_)
  obtain ⟨⟨t, a, b, c, far⟩, hv, h⟩ := h
  dsimp only at hv h
  subst hv
  obtain ⟨hS, hC, hW, k⟩ := h
  have hl := hW.len
  refine ⟨_, (pss_cons (ps_for PassesOwn.never rfl (pi_range1 (by rfl) B.range (pa_cons (pe_callB call_lenS (by rfl) B.len boot_len (pa_cons (pv 1) pa_nil)) pa_nil)) (pg_name (i := 3) sc_least_place.nd rfl (.inl rfl))
      (pss_one (ps_if (pt_cmpR (op_eqD hr.units) (pe_k0 c_at_place hr (by decide) (by rfl) (pa_cons (pv 0) (pa_cons (pv 1) (pa_cons (pv 3) pa_nil)))) (pv 2) (nomark _)) (pss_one (ps_ret (pv 3))) pss_nil)))
      (pss_one (ps_ret (pe_callB call_lenS (by rfl) B.len boot_len (pa_cons (pv 1) pa_nil))))), ?_⟩
  refine q_forR1 (T := T) (m := (b.length : Int)) (ea_cons ((ev_len (ev_var rfl) hS).is (by rw [List.length_map])) ea_nil) (by omega) (by omega)
    (fun i σ H' => ∃ y, σ = [some (.int t), some (.ref a), some (.ref c), y] ∧ Ex T H H' ∧ ∀ j, j < i → near t b j ≠ far) (fun H1 e1 => ⟨none, rfl, e1, fun j hj => absurd hj (Nat.not_lt_zero j)⟩) ?_ ?_
  · rintro i σ H' hi ⟨y, rfl, e, hn⟩
    have hi' : i < b.length := by omega
    refine s_when (T := T) (et_test (ev_eqNL (ns := near t b i) (el_call (ea_cons (ev_var rfl) (ea_cons (ev_var rfl) (ea_cons (ev_var rfl) ea_nil))) fun H1 e1 Q' q => ⟨(t, a, b, i), rfl, (e.trans e1).sq hS, hW, hi', q⟩) (ev_var rfl) (e.sq hC))) (fun hb H1 e1 => ?_) (fun hb H1 e1 => ?_)
    · refine s_ret (T := T) (ev_var rfl) fun H2 e2 => ?_
      have := k H2 ((e.trans e1).trans e2)
      rw [leastP_eq hi' (of_decide_eq_true hb) hn] at this
      exact this
    · refine ⟨_, rfl, e.trans e1, fun j hj => ?_⟩
      by_cases hji : j < i
      · exact hn j hji
      · have : j = i := by omega
        subst this
        exact of_decide_eq_false hb
  · rintro σ H' ⟨y, rfl, e, hn⟩
    refine s_ret (T := T) (ev_len (ev_var rfl) (e.sq hS)) fun H2 e2 => ?_
    have := k H2 (e.trans e2)
    rw [leastP_none fun q hq => hn q (by omega)] at this
    rw [List.length_map]
    exact this

/-! ### way -/
def nz (ps : List Nat) : List Int := ps.map Int.ofNat
def sp_way (T : Tb) (K : PySem.W.Frag) : Sp := spM (α := Int × Addr × List Int) (fun q => [.int q.1, .ref q.2.1]) fun q H Q _ => SqL K H q.2.1 (vz q.2.2) ∧ (1 ≤ q.1 ∧ q.1 ≤ 1000) ∧ IsRow q.1 q.2.2 ∧ (3 ≤ q.2.2.length ∧ q.2.2.length ≤ 6) ∧ (∃ b, 1 ≤ b ∧ b ≤ 15 ∧ q.2.2.sum < 2 ^ (2 ^ b)) ∧
  ∀ r ps, Way q.1 q.2.2 r ps → ∀ u x y H', Ex T H H' → H u = none → H x = none → H y = none → x ≠ y → H' u = some (.tup [.ref x, .ref y]) → H' x = some (.lst (vz r)) → H' y = some (.lst (vz (nz ps))) → Q (.ref u) H'
theorem ok_way {P : Program} {w : World} {K : PySem.W.Frag} {mg : Str → Option Value} {base : Heap} {T : Tb} (B : Bi mg) {Z : Ze} (Z_RowError : Xc K mg "RowError" Z.row Z.row) (Z_NoRow : Xc K mg "NoRow" Z.noRow Z.row) (Z_NoPlace : Xc K mg "NoPlace" Z.noPlace Z.row) (Z_NoSuch : Xc K mg "NoSuch" Z.noSuch Z.row) (Z_BadText : Xc K mg "BadText" Z.badText Z.row) (kk_noRow_noRow : PySem.W.kitOne K (.ref Z.noRow) (.ref Z.noRow) = some true) (kk_noRow_noPlace : PySem.W.kitOne K (.ref Z.noRow) (.ref Z.noPlace) = some false) (kk_noRow_noSuch : PySem.W.kitOne K (.ref Z.noRow) (.ref Z.noSuch) = some false) (kk_noRow_badText : PySem.W.kitOne K (.ref Z.noRow) (.ref Z.badText) = some false) (kk_noRow_VE : PySem.W.kitOne K (.ref Z.noRow) (.type "ValueError") = some true) (kk_noPlace_noRow : PySem.W.kitOne K (.ref Z.noPlace) (.ref Z.noRow) = some false) (kk_noPlace_noPlace : PySem.W.kitOne K (.ref Z.noPlace) (.ref Z.noPlace) = some true) (kk_noPlace_noSuch : PySem.W.kitOne K (.ref Z.noPlace) (.ref Z.noSuch) = some false) (kk_noPlace_badText : PySem.W.kitOne K (.ref Z.noPlace) (.ref Z.badText) = some false) (kk_noPlace_VE : PySem.W.kitOne K (.ref Z.noPlace) (.type "ValueError") = some true) (kk_noSuch_noRow : PySem.W.kitOne K (.ref Z.noSuch) (.ref Z.noRow) = some false) (kk_noSuch_noPlace : PySem.W.kitOne K (.ref Z.noSuch) (.ref Z.noPlace) = some false) (kk_noSuch_noSuch : PySem.W.kitOne K (.ref Z.noSuch) (.ref Z.noSuch) = some true) (kk_noSuch_badText : PySem.W.kitOne K (.ref Z.noSuch) (.ref Z.badText) = some false) (kk_noSuch_VE : PySem.W.kitOne K (.ref Z.noSuch) (.type "ValueError") = some true) (kk_badText_noRow : PySem.W.kitOne K (.ref Z.badText) (.ref Z.noRow) = some false) (kk_badText_noPlace : PySem.W.kitOne K (.ref Z.badText) (.ref Z.noPlace) = some false) (kk_badText_noSuch : PySem.W.kitOne K (.ref Z.badText) (.ref Z.noSuch) = some false) (kk_badText_badText : PySem.W.kitOne K (.ref Z.badText) (.ref Z.badText) = some true) (kk_badText_VE : PySem.W.kitOne K (.ref Z.badText) (.type "ValueError") = some true) (c_see_row : Ca CX0 P w K mg base 3 "see_row" (sp_see_row T K)) (c_comes_from : Ca CX0 P w K mg base 5 "comes_from" (sp_comes_from T K)) (c_least_place : Ca CX0 P w K mg base 3 "least_place" (sp_least_place T K)) (D : Df K mg "way" s_way ["times", "row"]) : Ca CX0 P w K mg base 6 "way" (sp_way T K) := by
  refine D.ca0 sc_way (fun vs H Q E ⟨q, e, _⟩ => by rw [e]; rfl) (fun cdv A outer s H vs Q E f hr h => ?_)
  obtain ⟨⟨t, a, ns⟩, hv, h⟩ := h
  dsimp only at hv h
  subst hv
  obtain ⟨hS, ht, hR, hl, ⟨b, hb1, hb2, hsz⟩, k⟩ := h
  have hpw : ∀ {b : Nat}, b ≤ 15 → 2 ^ b ≤ 100000 := fun h => Nat.le_trans (Nat.pow_le_pow_right (by decide) h) (by decide)
  have wd : ∀ {ms : List Int}, IsRow t ms → ms.length = ns.length → ms.sum ≤ ns.sum → Wd t ms := fun h1 h2 h3 => wd_of ht h1 (by omega) (Int.lt_of_le_of_lt h3 hsz) (Nat.one_le_two_pow) (hpw hb2)
  have hW := wd hR rfl (Int.le_refl _)
  obtain ⟨r, ps, hway⟩ := Way.some ns.sum.toNat ns (Nat.le_refl _) hR (by omega)
  have k := k r ps hway
  have hshort : ps.length ≤ 2 ^ 15 + 1 := by
    have h1 := hway.short hR hl.1 (2 ^ b) (Int.lt_of_le_of_lt (mem_sum hR.pos (getD_mem (by omega))) hsz)
    have h2 : 2 ^ b ≤ 2 ^ 15 := Nat.pow_le_pow_right (by decide) hb2
    omega
  refine ⟨_, (pss_cons (ps_expr (pe_k0 c_see_row hr (by decide) (by rfl) (pa_cons (pv 0) (pa_cons (pv 1) pa_nil))))
      (pss_cons (ps_set (i := 2) sc_way.nd rfl (.inl rfl) (pe_lst pa_nil))
      (pss_cons (ps_set (i := 3) sc_way.nd rfl (.inl rfl) (pe_callTy call_listS (by rfl) B.list boot_list (pa_cons (pv 1) pa_nil)))
      (pss_cons (ps_set (i := 4) sc_way.nd rfl (.inl rfl) (pe_k0 c_comes_from hr (by decide) (by rfl) (pa_cons (pv 0) (pa_cons (pv 3) pa_nil))))
      (pss_cons (ps_while PassesOwn.never (pt_cmpR op_notN (pv 4) pe_non (nomark _))
      (pss_cons (ps_expr (pe_bm PySem.F.plainAttrs_list PySem.F.slot_list_append PySem.F.type_list_append mt_append (pv 2) (pa_cons (pe_k0 c_least_place hr (by decide) (by rfl) (pa_cons (pv 0) (pa_cons (pv 4) (pa_cons (pv 3) pa_nil)))) pa_nil)))
      (pss_cons (ps_set (i := 3) sc_way.nd rfl (.inl rfl) (pv 4))
      (pss_one (ps_set (i := 4) sc_way.nd rfl (.inl rfl) (pe_k0 c_comes_from hr (by decide) (by rfl) (pa_cons (pv 0) (pa_cons (pv 3) pa_nil))))))))
      (pss_cons (ps_expr (pe_bm0 PySem.F.plainAttrs_list PySem.F.slot_list_reverse PySem.F.type_list_reverse mt_reverse (pv 2)))
      (pss_one (ps_ret (pe_tup (pa_cons (pv 3) (pa_cons (pv 2) pa_nil))))))))))), ?_⟩
  refine q_drop (T := T) (ev_call (ea_cons (ev_var rfl) (ea_cons (ev_var rfl) ea_nil)) fun H1 e1 Q' q => ⟨(t, a, ns), rfl, e1.sq hS, hW, hR, q⟩) fun H1 e1 => ?_
  refine q_asgL (T := T) (xs := []) (el_lst ea_nil (show 0 ≤ 1000 by decide)) fun pl H2 hp e2 h2 => ?_
  have E2 := e1.trans e2
  have hp0 : H pl = none := e1.n pl hp
  refine q_asgL (T := T) (xs := vz ns) (el_list (ev_var rfl) (E2.sq hS)) fun o H3 ho e3 h3 => ?_
  have hpo : o ≠ pl := fun q => by rw [q, h2] at ho; cases ho
  -- what back holds
  let Bk : Addr → V → List Int → Hp → Prop := fun pl v ms H' => (rootB t ms = true ∧ v = .non) ∨ (rootB t ms = false ∧ ∃ q, v = .ref q ∧ q ≠ pl ∧ H q = none ∧ H' q = some (.lst (vz (near t ms (ms.length - 1)))))
  have cf : ∀ {ms : List Int} {o : Addr} {σ : L2.St} {H' : Hp}, Ex T H H' → H' pl ≠ none → H' o = some (.lst (vz ms)) → IsRow t ms → ms.length = ns.length → ms.sum ≤ ns.sum → σ[0]? = some (some (.int t)) → σ[3]? = some (some (.ref o)) →
      EvR T (tCall (sp_comes_from T K) [] E0 (tCons (tVar 0) (tCons (tVar 3) tNil))) σ H' (fun _ v H'' => Bk pl v ms H'') := by
    intro ms o σ H' e hpl ho hr hlen hle h0 h3'
    refine EvR.imp (R := fun H1 v H2 => (rootB t ms = true ∧ v = .non) ∨ (rootB t ms = false ∧ ∃ q, v = .ref q ∧ H1 q = none ∧ H2 q = some (.lst (vz (near t ms (ms.length - 1)))))) (er_call (ea_cons (ev_var h0) (ea_cons (ev_var h3') ea_nil)) (fun H2 e2 Q2 q2 => ⟨(t, o, ms), rfl, SqL.of (e2.lst ho), wd hr hlen hle, hr, by show 0 < ms.length; omega, fun hb H3 e3 => q2 _ H3 e3 (.inl ⟨hb, rfl⟩), fun hb p H3 hp e3 h3 => q2 _ H3 e3 (.inr ⟨hb, p, rfl, hp, h3⟩)⟩) (fun G1 G2 v G3 e r => ?_)) (fun G1 v G2 f1 f2 r => ?_)
    · rcases r with r | ⟨hb, p, hv, hp, h3⟩
      · exact .inl r
      · exact .inr ⟨hb, p, hv, e.n p hp, h3⟩
    · rcases r with r | ⟨hb, p, hv, hpn, h3⟩
      · exact .inl r
      · refine .inr ⟨hb, p, hv, fun q => ?_, (e.trans f1).n p hpn, h3⟩
        rw [q] at hpn
        exact hpl (f1.n _ hpn)
  have E3 := E2.trans e3
  have hp3 := e3.lst h2
  refine q_asgR (T := T) (cf E3 (by rw [hp3]; simp) h3 hR rfl (Int.le_refl _) rfl rfl) fun bv H4 e4 hbk => ?_
  refine q_while (T := T) (fun m σ H' => ∃ o ms bv acc ps', σ = [some (.int t), some (.ref a), some (.ref pl), some (.ref o), some bv] ∧ m = ms.sum.toNat ∧ Ex T H H' ∧ H' pl = some (.lst (vz (nz acc))) ∧ H' o = some (.lst (vz ms)) ∧ o ≠ pl ∧ H o = none ∧ IsRow t ms ∧ ms.length = ns.length ∧ ms.sum ≤ ns.sum ∧ Way t ms r ps' ∧ ps' ++ acc.reverse = ps ∧ acc.length ≤ 90000 ∧ Bk pl bv ms H')
    ns.sum.toNat ⟨o, ns, bv, [], ps, rfl, rfl, E3.trans e4, e4.lst (xs := []) hp3, e4.lst h3, hpo, E2.n o ho, hR, rfl, Int.le_refl _, hway, by simp, by simp, hbk⟩ ?_
  rintro m σ H5 ⟨o, ms, bv, acc, ps', rfl, rfl, E5, hp5, ho5, hop, ho0, hr5, hl5, hs5, hw5, hps, hal, hbk⟩
  refine ⟨!decide (bv = .non), et_test (ev_notN (ev_var rfl) ev_c), fun hb H6 e6 => ?_, fun hb H6 e6 => ?_⟩
  · rcases hbk with ⟨_, rfl⟩ | ⟨hroot, q, rfl, hqp, hq0, hq5⟩
    · simp at hb
    cases hw5 with
    | root h' => rw [hroot] at h'; cases h'
    | @step _ _ ps2 _ w =>
      have hp' : ms.length - 1 < ms.length := by omega
      have hrow := near_row hr5 hp' (by omega)
      have hlt := back_lt hroot
      have hpos := Int.le_trans (Int.natCast_nonneg _) (sum_ge hrow.pos)
      have hnl : (near t ms (ms.length - 1)).length = ns.length := by rw [near_len hp', hl5]
      refine ⟨fun σ' H' => ∃ o ms2 bv acc ps', σ' = [some (.int t), some (.ref a), some (.ref pl), some (.ref o), some bv] ∧ ms2.sum.toNat < ms.sum.toNat ∧ Ex T H H' ∧ H' pl = some (.lst (vz (nz acc))) ∧ H' o = some (.lst (vz ms2)) ∧ o ≠ pl ∧ H o = none ∧ IsRow t ms2 ∧ ms2.length = ns.length ∧ ms2.sum ≤ ns.sum ∧ Way t ms2 r ps' ∧ ps' ++ acc.reverse = ps ∧ Bk pl bv ms2 H', ?_, ?_⟩
      · rintro σ2 H7 ⟨o, ms2, bv, acc, ps', rfl, hm, E7, hp7, ho7, hop, ho0, hr7, hl7, hs7, hw7, hps, hbk⟩
        refine ⟨_, hm, o, ms2, bv, acc, ps', rfl, rfl, E7, hp7, ho7, hop, ho0, hr7, hl7, hs7, hw7, hps, ?_, hbk⟩
        have h1 := hshort
        rw [← hps, List.length_append, List.length_reverse] at h1
        omega
      · have hp6 := e6.lst hp5
        refine q_seq (s_app (T := T) hp6 (ev_var rfl) (ev_call (ea_cons (ev_var rfl) (ea_cons (ev_var rfl) (ea_cons (ev_var rfl) ea_nil))) fun H7 e7 Q' k' => ⟨(t, q, near t ms (ms.length - 1), o, ms), rfl, SqL.of ((e6.trans e7).lst hq5), SqL.of ((e6.trans e7).lst ho5), wd hrow hnl (show (near t ms (ms.length - 1)).sum ≤ ns.sum by omega), k'⟩) (by rw [List.length_map]; unfold nz; rw [List.length_map]; omega) fun H7 e7 h7 => ?_)
        have E7 := ((E5.trans e6).trans e7).mut hp0 h7 (ys := vz (nz acc) ++ [.int (leastP t (near t ms (ms.length - 1)) ms : Nat)])
        have e67 := e6.trans e7
        have hnz : vz (nz acc) ++ [V.int (leastP t (near t ms (ms.length - 1)) ms : Nat)] = vz (nz (acc ++ [leastP t (near t ms (ms.length - 1)) ms])) := by unfold nz; rw [List.map_append, vz_app]; rfl
        rw [hnz] at E7 ⊢
        generalize hG : upd H7 pl (HO.lst (vz (nz (acc ++ [leastP t (near t ms (ms.length - 1)) ms])))) = G at E7 ⊢
        have hq7 : G q = some (.lst (vz (near t ms (ms.length - 1)))) := by rw [← hG, upd_ne hqp]; exact e67.lst hq5
        have hpG : G pl = some (.lst (vz (nz (acc ++ [leastP t (near t ms (ms.length - 1)) ms])))) := by rw [← hG, upd_same]
        refine q_asg (T := T) (ev_var rfl) fun H8 e8 => ?_
        have hq8 := e8.lst hq7
        have hp8 := e8.lst hpG
        have E8 := E7.trans e8
        refine s_asgR (T := T) (cf E8 (by rw [hp8]; simp) hq8 hrow hnl (by omega) rfl rfl) fun bv' H9 e9 hbk' => ?_
        exact ⟨q, _, bv', _, ps2, rfl, by omega, E8.trans e9, e9.lst hp8, e9.lst hq8, hqp, hq0, hrow, hnl, by omega, w, by rw [List.reverse_append, ← List.append_assoc]; exact hps, hbk'⟩
  · rcases hbk with ⟨hroot, rfl⟩ | ⟨hroot, q, rfl, _⟩
    · obtain ⟨er, eps⟩ := hw5.one (.root hroot)
      rw [eps] at hps
      rw [er] at k
      refine q_seq (s_rev (T := T) (e6.lst hp5) (ev_var rfl) fun H7 e7 h7 => ?_)
      have E7 := ((E5.trans e6).trans e7).mut hp0 h7 (ys := (vz (nz acc)).reverse)
      have ho7 : (upd H7 pl (.lst (vz (nz acc)).reverse)) o = some (.lst (vz ms)) := by rw [upd_ne hop]; exact (e6.trans e7).lst ho5
      refine s_retU (T := T) (eu_tup (ea_cons (ev_var rfl) (ea_cons (ev_var rfl) ea_nil)) (show 2 ≤ 1000 by decide)) fun u H8 hu e8 h8 => ?_
      refine k u o pl H8 (E7.trans e8) (E7.n u hu) ho0 hp0 hop h8 (e8.lst ho7) ?_
      rw [e8.lst upd_same, ← hps]
      show some (HO.lst (vz (nz acc)).reverse) = some (HO.lst (vz (nz ([] ++ acc.reverse))))
      rw [List.nil_append]
      unfold nz vz
      rw [← List.map_reverse, ← List.map_reverse]
    · simp at hb

theorem okR_way {P : Program} {w : World} {K : PySem.W.Frag} {mg : Str → Option Value} {base : Heap} {T : Tb} (B : Bi mg) {Z : Ze} (Z_RowError : Xc K mg "RowError" Z.row Z.row) (Z_NoRow : Xc K mg "NoRow" Z.noRow Z.row) (Z_NoPlace : Xc K mg "NoPlace" Z.noPlace Z.row) (Z_NoSuch : Xc K mg "NoSuch" Z.noSuch Z.row) (Z_BadText : Xc K mg "BadText" Z.badText Z.row) (kk_noRow_noRow : PySem.W.kitOne K (.ref Z.noRow) (.ref Z.noRow) = some true) (kk_noRow_noPlace : PySem.W.kitOne K (.ref Z.noRow) (.ref Z.noPlace) = some false) (kk_noRow_noSuch : PySem.W.kitOne K (.ref Z.noRow) (.ref Z.noSuch) = some false) (kk_noRow_badText : PySem.W.kitOne K (.ref Z.noRow) (.ref Z.badText) = some false) (kk_noRow_VE : PySem.W.kitOne K (.ref Z.noRow) (.type "ValueError") = some true) (kk_noPlace_noRow : PySem.W.kitOne K (.ref Z.noPlace) (.ref Z.noRow) = some false) (kk_noPlace_noPlace : PySem.W.kitOne K (.ref Z.noPlace) (.ref Z.noPlace) = some true) (kk_noPlace_noSuch : PySem.W.kitOne K (.ref Z.noPlace) (.ref Z.noSuch) = some false) (kk_noPlace_badText : PySem.W.kitOne K (.ref Z.noPlace) (.ref Z.badText) = some false) (kk_noPlace_VE : PySem.W.kitOne K (.ref Z.noPlace) (.type "ValueError") = some true) (kk_noSuch_noRow : PySem.W.kitOne K (.ref Z.noSuch) (.ref Z.noRow) = some false) (kk_noSuch_noPlace : PySem.W.kitOne K (.ref Z.noSuch) (.ref Z.noPlace) = some false) (kk_noSuch_noSuch : PySem.W.kitOne K (.ref Z.noSuch) (.ref Z.noSuch) = some true) (kk_noSuch_badText : PySem.W.kitOne K (.ref Z.noSuch) (.ref Z.badText) = some false) (kk_noSuch_VE : PySem.W.kitOne K (.ref Z.noSuch) (.type "ValueError") = some true) (kk_badText_noRow : PySem.W.kitOne K (.ref Z.badText) (.ref Z.noRow) = some false) (kk_badText_noPlace : PySem.W.kitOne K (.ref Z.badText) (.ref Z.noPlace) = some false) (kk_badText_noSuch : PySem.W.kitOne K (.ref Z.badText) (.ref Z.noSuch) = some false) (kk_badText_badText : PySem.W.kitOne K (.ref Z.badText) (.ref Z.badText) = some true) (kk_badText_VE : PySem.W.kitOne K (.ref Z.badText) (.type "ValueError") = some true) (r_see_row : Ca (L2.CX P w) P w K mg base 3 "see_row" (spX_see_row Z T K)) (D : Df K mg "way" s_way ["times", "row"]) : Ca (L2.CX P w) P w K mg base 6 "way" (spR Z T K) := by
  refine D.caX sc_way (fun vs H Q E ⟨q, e, _⟩ => by rw [e]; rfl) (fun cdv A outer s H vs Q E f hr h => ?_)
  obtain ⟨⟨t, a, ns⟩, hv, h⟩ := h
  dsimp only at hv h
  subst hv
  obtain ⟨hS, hW, hR, kx⟩ := h
  refine ⟨_, (pss_cons (ps_expr (pe_k r_see_row hr (by decide) (passes_call (takes_of rfl rfl rfl rfl) fun _ _ _ _ h => h) (by rfl) (pa_cons (pv 0) (pa_cons (pv 1) pa_nil)))) pss_never), ?_⟩
  exact call_raise (T := T) (ea_cons (ev_var rfl) (ea_cons (ev_var rfl) ea_nil)) fun H1 e1 Q' => ⟨(t, a, ns), rfl, e1.sq hS, hW, fun h => absurd h hR, fun _ H' e' => kx H' (e1.trans e')⟩

/-! ### led -/
/-- one place on, where it is there -/
def stepO (t : Int) : Option (List Int) → Int → Option (List Int)
  | none, _ => none
  | some r, p => if 0 ≤ p ∧ p < r.length then some (near t r p.toNat) else none
def ledO (t : Int) (ns : List Int) (ps : List Int) : Option (List Int) := ps.foldl (stepO t) (some ns)
theorem stepO_none (t : Int) : ∀ ps : List Int, ps.foldl (stepO t) none = none
  | [] => rfl
  | _ :: ps => stepO_none t ps
theorem ledO_take {t : Int} {ns ps : List Int} {i : Nat} {p : Int} (h : ps[i]? = some p) : ledO t ns (ps.take (i + 1)) = stepO t (ledO t ns (ps.take i)) p := by
  unfold ledO
  rw [List.take_add_one, h, List.foldl_append]
  rfl
theorem ledO_none {t : Int} {ns ps : List Int} (i : Nat) (h : ledO t ns (ps.take i) = none) : ledO t ns ps = none := by
  have e : ledO t ns ps = (ps.drop i).foldl (stepO t) (ledO t ns (ps.take i)) := by
    unfold ledO
    rw [← List.foldl_append, List.take_append_drop]
  rw [e, h, stepO_none]
def sp_led (Z : Ze) (T : Tb) (K : PySem.W.Frag) : Sp := spM (α := Int × Addr × List Int × Addr × List Int) (fun q => [.int q.1, .ref q.2.1, .ref q.2.2.2.1]) fun q H Q E => SqL K H q.2.1 (vz q.2.2.1) ∧ SqL K H q.2.2.2.1 (vz q.2.2.2.2) ∧ Wd q.1 q.2.2.1 ∧ 2 ≤ q.2.2.1.length ∧ (∀ i r, ledO q.1 q.2.2.1 (q.2.2.2.2.take i) = some r → Wd q.1 r) ∧
  (¬ IsRow q.1 q.2.2.1 → ∀ H', Ex T H H' → E (.ref Z.noRow) none H') ∧ (IsRow q.1 q.2.2.1 → ledO q.1 q.2.2.1 q.2.2.2.2 = none → ∀ H', Ex T H H' → E (.ref Z.noPlace) none H') ∧
  (IsRow q.1 q.2.2.1 → ∀ r, ledO q.1 q.2.2.1 q.2.2.2.2 = some r → ∀ p H', H p = none → Ex T H H' → H' p = some (.lst (vz r)) → Q (.ref p) H')
theorem ok_led {P : Program} {w : World} {K : PySem.W.Frag} {mg : Str → Option Value} {base : Heap} {T : Tb} (B : Bi mg) {Z : Ze} (Z_RowError : Xc K mg "RowError" Z.row Z.row) (Z_NoRow : Xc K mg "NoRow" Z.noRow Z.row) (Z_NoPlace : Xc K mg "NoPlace" Z.noPlace Z.row) (Z_NoSuch : Xc K mg "NoSuch" Z.noSuch Z.row) (Z_BadText : Xc K mg "BadText" Z.badText Z.row) (kk_noRow_noRow : PySem.W.kitOne K (.ref Z.noRow) (.ref Z.noRow) = some true) (kk_noRow_noPlace : PySem.W.kitOne K (.ref Z.noRow) (.ref Z.noPlace) = some false) (kk_noRow_noSuch : PySem.W.kitOne K (.ref Z.noRow) (.ref Z.noSuch) = some false) (kk_noRow_badText : PySem.W.kitOne K (.ref Z.noRow) (.ref Z.badText) = some false) (kk_noRow_VE : PySem.W.kitOne K (.ref Z.noRow) (.type "ValueError") = some true) (kk_noPlace_noRow : PySem.W.kitOne K (.ref Z.noPlace) (.ref Z.noRow) = some false) (kk_noPlace_noPlace : PySem.W.kitOne K (.ref Z.noPlace) (.ref Z.noPlace) = some true) (kk_noPlace_noSuch : PySem.W.kitOne K (.ref Z.noPlace) (.ref Z.noSuch) = some false) (kk_noPlace_badText : PySem.W.kitOne K (.ref Z.noPlace) (.ref Z.badText) = some false) (kk_noPlace_VE : PySem.W.kitOne K (.ref Z.noPlace) (.type "ValueError") = some true) (kk_noSuch_noRow : PySem.W.kitOne K (.ref Z.noSuch) (.ref Z.noRow) = some false) (kk_noSuch_noPlace : PySem.W.kitOne K (.ref Z.noSuch) (.ref Z.noPlace) = some false) (kk_noSuch_noSuch : PySem.W.kitOne K (.ref Z.noSuch) (.ref Z.noSuch) = some true) (kk_noSuch_badText : PySem.W.kitOne K (.ref Z.noSuch) (.ref Z.badText) = some false) (kk_noSuch_VE : PySem.W.kitOne K (.ref Z.noSuch) (.type "ValueError") = some true) (kk_badText_noRow : PySem.W.kitOne K (.ref Z.badText) (.ref Z.noRow) = some false) (kk_badText_noPlace : PySem.W.kitOne K (.ref Z.badText) (.ref Z.noPlace) = some false) (kk_badText_noSuch : PySem.W.kitOne K (.ref Z.badText) (.ref Z.noSuch) = some false) (kk_badText_badText : PySem.W.kitOne K (.ref Z.badText) (.ref Z.badText) = some true) (kk_badText_VE : PySem.W.kitOne K (.ref Z.badText) (.type "ValueError") = some true) (c_see_row : Ca CX0 P w K mg base 3 "see_row" (sp_see_row T K)) (c_neighbour : Ca (L2.CX P w) P w K mg base 4 "neighbour" (sp_neighbour Z T K)) (r_see_row : Ca (L2.CX P w) P w K mg base 3 "see_row" (spX_see_row Z T K)) (D : Df K mg "led" s_led ["times", "row", "places"]) : Ca (L2.CX P w) P w K mg base 5 "led" (sp_led Z T K) := by
  refine D.caX sc_led (fun vs H Q E ⟨q, e, _⟩ => by rw [e]; rfl) (fun cdv A outer s H vs Q E f hr h => ?_)
  obtain ⟨⟨t, a, ns, b, ps⟩, hv, h⟩ := h
  dsimp only at hv h
  subst hv
  obtain ⟨hS, hB, hW, h2, hWs, kx, kp, k⟩ := h
  refine ⟨_, (pss_cons (ps_expr (pe_k r_see_row hr (by decide) (passes_call (takes_of rfl rfl rfl rfl) fun _ _ _ _ h => h) (by rfl) (pa_cons (pv 0) (pa_cons (pv 1) pa_nil))))
      (pss_cons (ps_set (i := 3) sc_led.nd rfl (.inl rfl) (pe_callTy call_listS (by rfl) B.list boot_list (pa_cons (pv 1) pa_nil)))
      (pss_cons (ps_for (passes_of rfl) rfl (pi_list (pv 2)) (pg_name (i := 4) sc_led.nd rfl (.inl rfl))
      (pss_one (ps_set (i := 3) sc_led.nd rfl (.inl rfl) (pe_k c_neighbour hr (by decide) (passes_call (takes_of rfl rfl rfl rfl) fun _ _ _ _ h => h) (by rfl) (pa_cons (pv 0) (pa_cons (pv 3) (pa_cons (pv 4) pa_nil)))))))
      (pss_one (ps_ret (pv 3)))))), ?_⟩
  by_cases hR : IsRow t ns
  case neg => exact call_raise (T := T) (ea_cons (ev_var rfl) (ea_cons (ev_var rfl) ea_nil)) fun H1 e1 Q' => ⟨(t, a, ns), rfl, e1.sq hS, hW, fun h => absurd h hR, fun _ H' e' => kx hR H' (e1.trans e')⟩
  refine q_drop (T := T) (ev_call (ea_cons (ev_var rfl) (ea_cons (ev_var rfl) ea_nil)) fun H1 e1 Q' q => ⟨(t, a, ns), rfl, e1.sq hS, hW, fun _ => q, fun h => absurd hR h⟩) fun H1 e1 => ?_
  refine q_asgL (T := T) (xs := vz ns) (el_list (ev_var rfl) (e1.sq hS)) fun o H2 ho e2 h2' => ?_
  refine q_forL (T := T) (ev_var rfl) ((e1.trans e2).sq hB) (fun i σ H' => ∃ o r y, σ = [some (.int t), some (.ref a), some (.ref b), some (.ref o), y] ∧ Ex T H H' ∧ H o = none ∧ H' o = some (.lst (vz r)) ∧ ledO t ns (ps.take i) = some r ∧ IsRow t r ∧ r.length = ns.length)
    (fun H3 e3 => ⟨o, ns, none, rfl, e1.trans (e2.trans e3), e1.n o ho, e3.lst h2', rfl, hR, rfl⟩) (fun i σ H' _ ⟨o, r, y, _, e, _⟩ => e.sq hB) ?_ ?_
  · rintro i x σ H3 hx ⟨o, r, y, rfl, e3, ho0, ho3, hled, hRr, hlr⟩
    obtain ⟨p, hp, rfl⟩ := at_vz hx
    have hWr := hWs i r hled
    have hst := ledO_take (t := t) (ns := ns) hp
    rw [hled] at hst
    by_cases hpl : 0 ≤ p ∧ p < (r.length : Int)
    · obtain ⟨m, rfl⟩ := Int.eq_ofNat_of_zero_le hpl.1
      have hm : m < r.length := by omega
      have hst' : stepO t (some r) (m : Int) = some (near t r m) := by
        show (if 0 ≤ (m : Int) ∧ (m : Int) < (r.length : Int) then some (near t r ((m : Int)).toNat) else none) = _
        rw [if_pos hpl]
        rfl
      rw [hst'] at hst
      refine s_asgL (T := T) (xs := vz (near t r m)) (el_call (ea_cons (ev_var rfl) (ea_cons (ev_var rfl) (ea_cons (ev_var rfl) ea_nil))) fun H4 e4 Q' q => ⟨(t, o, r, (m : Int)), rfl, SqL.of (e4.lst ho3), hWr, fun h => absurd hRr h, fun _ h => absurd hpl h, fun _ m' em hm' => ?_⟩) fun o2 H4 ho4 e4 h4 => ⟨o2, near t r m, _, rfl, e3.trans e4, e3.n o2 ho4, h4, hst, near_row hRr hm (by omega), by rw [near_len hm]; exact hlr⟩
      have : m' = m := by
        have em' : (m : Int) = (m' : Int) := em
        omega
      subst this
      exact q
    · have hst' : stepO t (some r) p = none := if_neg hpl
      rw [hst'] at hst
      exact call_raise (T := T) (ea_cons (ev_var rfl) (ea_cons (ev_var rfl) (ea_cons (ev_var rfl) ea_nil))) fun H4 e4 Q' => ⟨(t, o, r, p), rfl, SqL.of (e4.lst ho3), hWr, fun h => absurd hRr h, fun _ _ H' e' => kp hR (ledO_none (i + 1) hst) H' (e3.trans (e4.trans e')), fun _ m em hm => absurd ⟨by have em' : p = (m : Int) := em; omega, by have em' : p = (m : Int) := em; have hm' : m < r.length := hm; omega⟩ hpl⟩
  · rintro σ H3 ⟨o, r, y, rfl, e3, ho0, ho3, hled, hRr, hlr⟩
    rw [List.length_map, List.take_length] at hled
    exact s_ret (T := T) (ev_var rfl) fun H4 e4 => k hR r hled o H4 ho0 (e3.trans e4) (e4.lst ho3)

/-! ### key_of -/
def sp_key_of (T : Tb) (K : PySem.W.Frag) : Sp := spM (α := Addr × List Int) (fun q => [.ref q.1]) fun q H Q _ => H q.1 = some (.lst (vz q.2)) ∧ q.2.length ≤ 900 ∧ ∀ p H', H p = none → Ex T H H' → H' p = some (.lst (vz (rowKey q.2))) → Q (.ref p) H'
theorem ok_key_of {P : Program} {w : World} {K : PySem.W.Frag} {mg : Str → Option Value} {base : Heap} {T : Tb} (B : Bi mg) {Z : Ze} (Z_RowError : Xc K mg "RowError" Z.row Z.row) (Z_NoRow : Xc K mg "NoRow" Z.noRow Z.row) (Z_NoPlace : Xc K mg "NoPlace" Z.noPlace Z.row) (Z_NoSuch : Xc K mg "NoSuch" Z.noSuch Z.row) (Z_BadText : Xc K mg "BadText" Z.badText Z.row) (kk_noRow_noRow : PySem.W.kitOne K (.ref Z.noRow) (.ref Z.noRow) = some true) (kk_noRow_noPlace : PySem.W.kitOne K (.ref Z.noRow) (.ref Z.noPlace) = some false) (kk_noRow_noSuch : PySem.W.kitOne K (.ref Z.noRow) (.ref Z.noSuch) = some false) (kk_noRow_badText : PySem.W.kitOne K (.ref Z.noRow) (.ref Z.badText) = some false) (kk_noRow_VE : PySem.W.kitOne K (.ref Z.noRow) (.type "ValueError") = some true) (kk_noPlace_noRow : PySem.W.kitOne K (.ref Z.noPlace) (.ref Z.noRow) = some false) (kk_noPlace_noPlace : PySem.W.kitOne K (.ref Z.noPlace) (.ref Z.noPlace) = some true) (kk_noPlace_noSuch : PySem.W.kitOne K (.ref Z.noPlace) (.ref Z.noSuch) = some false) (kk_noPlace_badText : PySem.W.kitOne K (.ref Z.noPlace) (.ref Z.badText) = some false) (kk_noPlace_VE : PySem.W.kitOne K (.ref Z.noPlace) (.type "ValueError") = some true) (kk_noSuch_noRow : PySem.W.kitOne K (.ref Z.noSuch) (.ref Z.noRow) = some false) (kk_noSuch_noPlace : PySem.W.kitOne K (.ref Z.noSuch) (.ref Z.noPlace) = some false) (kk_noSuch_noSuch : PySem.W.kitOne K (.ref Z.noSuch) (.ref Z.noSuch) = some true) (kk_noSuch_badText : PySem.W.kitOne K (.ref Z.noSuch) (.ref Z.badText) = some false) (kk_noSuch_VE : PySem.W.kitOne K (.ref Z.noSuch) (.type "ValueError") = some true) (kk_badText_noRow : PySem.W.kitOne K (.ref Z.badText) (.ref Z.noRow) = some false) (kk_badText_noPlace : PySem.W.kitOne K (.ref Z.badText) (.ref Z.noPlace) = some false) (kk_badText_noSuch : PySem.W.kitOne K (.ref Z.badText) (.ref Z.noSuch) = some false) (kk_badText_badText : PySem.W.kitOne K (.ref Z.badText) (.ref Z.badText) = some true) (kk_badText_VE : PySem.W.kitOne K (.ref Z.badText) (.type "ValueError") = some true)  (D : Df K mg "key_of" s_key_of ["row"]) : Ca CX0 P w K mg base 1 "key_of" (sp_key_of T K) := by
  refine D.ca0 sc_key_of (fun vs H Q E ⟨q, e, _⟩ => by rw [e]; rfl) (fun cdv A outer s H vs Q E f hr h => ?_)
  obtain ⟨⟨a, ns⟩, hv, h⟩ := h
  dsimp only at hv h
  subst hv
  obtain ⟨ha, hl, k⟩ := h
  refine ⟨_, (pss_one (ps_ret (pe_op op_cat (pe_lst (pa_cons (pe_callB (cr_sum rfl) (by rfl) B.sum boot_sum (pa_cons (pv 0) pa_nil)) pa_nil)) (pv 0)))), ?_⟩
  exact s_retL (T := T) (el_keyLam rfl ha hl) fun p H1 hp e1 h1 => k p H1 hp e1 h1

/-! ### up_to -/
def sp_up_to (T : Tb) (K : PySem.W.Frag) : Sp := spM (α := Int × Nat × Int × List (List Int)) (fun q => [.int q.1, .int (q.2.1 : Int), .int q.2.2.1]) fun q H Q _ => (1 ≤ q.1 ∧ q.1 ≤ 1000) ∧ (3 ≤ q.2.1 ∧ q.2.1 ≤ 6) ∧ q.2.2.1 ≤ 1000000 ∧ AllUp q.1 q.2.1 q.2.2.1 q.2.2.2 ∧ LamX.Tabs T H ∧ ∀ p as H', Ex T H H' → NewLLs q.2.2.2 H p as H' → Q (.ref p) H'
theorem ok_up_to {P : Program} {w : World} {K : PySem.W.Frag} {mg : Str → Option Value} {base : Heap} {T : Tb} (B : Bi mg) {Z : Ze} (Z_RowError : Xc K mg "RowError" Z.row Z.row) (Z_NoRow : Xc K mg "NoRow" Z.noRow Z.row) (Z_NoPlace : Xc K mg "NoPlace" Z.noPlace Z.row) (Z_NoSuch : Xc K mg "NoSuch" Z.noSuch Z.row) (Z_BadText : Xc K mg "BadText" Z.badText Z.row) (kk_noRow_noRow : PySem.W.kitOne K (.ref Z.noRow) (.ref Z.noRow) = some true) (kk_noRow_noPlace : PySem.W.kitOne K (.ref Z.noRow) (.ref Z.noPlace) = some false) (kk_noRow_noSuch : PySem.W.kitOne K (.ref Z.noRow) (.ref Z.noSuch) = some false) (kk_noRow_badText : PySem.W.kitOne K (.ref Z.noRow) (.ref Z.badText) = some false) (kk_noRow_VE : PySem.W.kitOne K (.ref Z.noRow) (.type "ValueError") = some true) (kk_noPlace_noRow : PySem.W.kitOne K (.ref Z.noPlace) (.ref Z.noRow) = some false) (kk_noPlace_noPlace : PySem.W.kitOne K (.ref Z.noPlace) (.ref Z.noPlace) = some true) (kk_noPlace_noSuch : PySem.W.kitOne K (.ref Z.noPlace) (.ref Z.noSuch) = some false) (kk_noPlace_badText : PySem.W.kitOne K (.ref Z.noPlace) (.ref Z.badText) = some false) (kk_noPlace_VE : PySem.W.kitOne K (.ref Z.noPlace) (.type "ValueError") = some true) (kk_noSuch_noRow : PySem.W.kitOne K (.ref Z.noSuch) (.ref Z.noRow) = some false) (kk_noSuch_noPlace : PySem.W.kitOne K (.ref Z.noSuch) (.ref Z.noPlace) = some false) (kk_noSuch_noSuch : PySem.W.kitOne K (.ref Z.noSuch) (.ref Z.noSuch) = some true) (kk_noSuch_badText : PySem.W.kitOne K (.ref Z.noSuch) (.ref Z.badText) = some false) (kk_noSuch_VE : PySem.W.kitOne K (.ref Z.noSuch) (.type "ValueError") = some true) (kk_badText_noRow : PySem.W.kitOne K (.ref Z.badText) (.ref Z.noRow) = some false) (kk_badText_noPlace : PySem.W.kitOne K (.ref Z.badText) (.ref Z.noPlace) = some false) (kk_badText_noSuch : PySem.W.kitOne K (.ref Z.badText) (.ref Z.noSuch) = some false) (kk_badText_badText : PySem.W.kitOne K (.ref Z.badText) (.ref Z.badText) = some true) (kk_badText_VE : PySem.W.kitOne K (.ref Z.badText) (.type "ValueError") = some true) (c_children : Ca CX0 P w K mg base 4 "children" (sp_children T K)) (c_key_of : Ca CX0 P w K mg base 1 "key_of" (sp_key_of T K)) (c_roots : Ca CX0 P w K mg base 6 "roots" (sp_roots T K)) (D : Df K mg "up_to" s_up_to ["times", "many", "size"]) : Ca CX0 P w K mg base 7 "up_to" (sp_up_to T K) := by
  refine D.ca0 sc_up_to (fun vs H Q E ⟨q, e, _⟩ => by rw [e]; rfl) (fun cdv A outer s H vs Q E f hr h => ?_)
  obtain ⟨⟨t, m, S, rs⟩, hv, h⟩ := h
  dsimp only at hv h
  subst hv
  obtain ⟨ht, hm, hS, hA, hT, k⟩ := h
  obtain ⟨fk_key_of, fdk, psk, Fk, gk_key_of, kpk, bk⟩ := c_key_of.ex
  refine ⟨_, (pss_cons (ps_setLc (i := 4) (own := [("row", 3)]) (g := gName 3) rfl sc_up_to.nd rfl rfl (sw_true rfl rfl rfl (by decide +kernel)) (pi_list (pe_k0 c_roots hr (by decide) (by rfl) (pa_cons (pv 0) (pa_cons (pv 1) pa_nil)))) (blkOk_by (N := ["times", "many", "size", "row", "waiting", "found", "far"]) (sc := defScope s_up_to) (by decide +kernel)) (fun _ _ _ _ _ => pg_name (i := 3) sc_up_to.nd rfl (Or.inl rfl)) (fun _ _ _ _ _ => by exact (pts_one (pt_cmpR op_le (pe_callB (cr_sumK (K := K) rfl rfl) (by rfl) B.sum boot_sum (pa_cons (pv 3) pa_nil)) (pv 2) (nomark _)))) (fun _ _ _ _ _ => by exact (pv 3)))
      (pss_cons (ps_set (i := 5) sc_up_to.nd rfl (.inl rfl) (pe_lst pa_nil))
      (pss_cons (ps_while PassesOwn.never (pt_truth (pv 4) (by intro _; rfl))
      (pss_cons (ps_set (i := 3) sc_up_to.nd rfl (.inl rfl) (pe_bm0 PySem.F.plainAttrs_list PySem.F.slot_list_pop PySem.F.type_list_pop mt_pop (pv 4)))
      (pss_cons (ps_expr (pe_bm PySem.F.plainAttrs_list PySem.F.slot_list_append PySem.F.type_list_append mt_append (pv 5) (pa_cons (pv 3) pa_nil)))
      (pss_one (ps_for PassesOwn.never rfl (pi_list (pe_k0 c_children hr (by decide) (by rfl) (pa_cons (pv 0) (pa_cons (pv 3) pa_nil)))) (pg_name (i := 6) sc_up_to.nd rfl (.inl rfl))
      (pss_one (ps_if (pt_cmpR op_le (pe_callB (cr_sum rfl) (by rfl) B.sum boot_sum (pa_cons (pv 6) pa_nil)) (pv 2) (nomark _)) (pss_one (ps_expr (pe_bm PySem.F.plainAttrs_list PySem.F.slot_list_append PySem.F.type_list_append mt_append (pv 4) (pa_cons (pv 6) pa_nil)))) pss_nil)))))))
      (pss_one (ps_ret (pe_callBK (call_sortK (T := T) (key := rowKey) hr) (by rfl) B.sorted boot_sorted (pa_cons (pv 5) pa_nil) (pk_cons (pe_glob (v := .ref fk_key_of) rfl gk_key_of rfl) pk_nil))))))), ?_⟩
  have hfew := hA.few
  refine q_asgR (T := T) (R := OwnR ((rootsL t m).filter fun r => decide (r.sum ≤ S))) (er_lcNLF (fun r => decide (r.sum ≤ S)) (er_call (ea_cons (ev_var rfl) (ea_cons (ev_var rfl) ea_nil)) (fun H2 e2 Q' q => ⟨(t, m), rfl, ht, hm, e2.t hT, fun p as H' e' hN => q (.ref p) H' e' ⟨p, as, rfl, hN⟩⟩) NewLL.back) (by have := (roots_few ht.1 hm).1; omega) (fun _ => rfl) (fun c r H2 e2 hr hc => et_test (ev_I0 (ev_sum (ev_var rfl) (SqL.of hc)) (ev_var rfl))) fun c H2 => ev_var rfl) fun v H1 e1 r1 => ?_
  obtain ⟨wl, ws, rfl, hO⟩ := r1
  refine q_asgL (T := T) (xs := []) (el_lst ea_nil (Nat.zero_le _)) fun fl H2 hfl e2 h2 => ?_
  have hfw : fl ≠ wl := fun z => by
    rw [z, hO.p1] at hfl
    cases hfl
  have hwsf : ∀ c ∈ ws, c ≠ fl := fun c hc z => by
    obtain ⟨r, hr⟩ := hO.ll.some_ hc
    rw [z, hfl] at hr
    cases hr
  have hflH : H fl = none := e1.n fl hfl
  refine q_while (T := T) (fun mm σ H' => ∃ W F ws fs y z, mm = rs.length - F.length ∧ InvU t m S W F ∧ σ = [some (.int t), some (.int (m : Int)), some (.int S), y, some (.ref wl), some (.ref fl), z] ∧ Ex T H H' ∧ Own W H wl ws H' ∧ Own F H fl fs H' ∧ (∀ c ∈ ws, c ≠ fl) ∧ (∀ c ∈ fs, c ≠ wl)) rs.length
    ⟨_, [], ws, [], none, none, rfl, invU_zero ht.1 hm, rfl, e1.trans e2, hO.ex e2, ⟨hflH, h2, trivial, (fun _ h => nomatch h)⟩, hwsf, (fun _ h => nomatch h)⟩ ?_
  rintro mm σ H5 ⟨W, F, ws, fs, y, z, rfl, I, rfl, e5, hO, hF, hwf, hfs⟩
  have hlen := invU_len I hA
  refine ⟨!(ws.map V.ref).isEmpty, et_truth (ev_var rfl) (SqL.of hO.p1), fun hb H6 e6 => ?_, fun hb H6 e6 => ?_⟩
  · have hne : W ≠ [] := fun q => by
      have h := hO.ll.len
      rw [q] at h
      have : ws = [] := List.length_eq_zero_iff.mp h
      rw [this] at hb
      cases hb
    obtain ⟨W0, r, rfl⟩ : ∃ W0 r, W = W0 ++ [r] := ⟨_, _, (List.dropLast_concat_getLast hne).symm⟩
    obtain ⟨ws0, c, rfl, hL0, hcr⟩ := LLs.snoc hO.ll
    rw [List.length_append, List.length_singleton] at hlen
    have hcm : c ∈ ws0 ++ [c] := List.mem_append.mpr (.inr (List.mem_singleton.mpr rfl))
    have hws0 : ∀ d ∈ ws0, d ∈ ws0 ++ [c] := fun d hd => List.mem_append.mpr (.inl hd)
    have hcw := (hO.nw c hcm).2
    have hcf := hwf c hcm
    have I2 := invU_step ht.1 hm I
    have hlen2 := invU_len I2 hA
    rw [List.length_append, List.length_append, List.length_singleton] at hlen2
    have hin : r ∈ F ++ (W0 ++ [r]) := List.mem_append.mpr (.inr (List.mem_append.mpr (.inr (List.mem_singleton.mpr rfl))))
    obtain ⟨hrow, hrln, hrs⟩ := I.row r hin
    have hWd : Wd t r := wd_of ht hrow (by omega) (Int.lt_of_le_of_lt (Int.le_trans hrs hS) (show (1000000 : Int) < 2 ^ 20 by decide)) (by decide) (by decide)
    refine ⟨_, fun σ2 H7 (h : ∃ ws fs y z, σ2 = [some (.int t), some (.int (m : Int)), some (.int S), y, some (.ref wl), some (.ref fl), z] ∧ Ex T H H7 ∧ Own (W0 ++ (childL t r).filter fun c => decide (c.sum ≤ S)) H wl ws H7 ∧ Own (F ++ [r]) H fl fs H7 ∧ (∀ c ∈ ws, c ≠ fl) ∧ (∀ c ∈ fs, c ≠ wl)) => ?_, ?_⟩
    · obtain ⟨ws, fs, y, z, h1, h2, h3, h4, h5, h6⟩ := h
      exact ⟨rs.length - (F ++ [r]).length, by rw [List.length_append, List.length_singleton]; omega, _, _, ws, fs, y, z, rfl, I2, h1, h2, h3, h4, h5, h6⟩
    refine q_pop (T := T) (y := .ref c) (xs := ws0.map V.ref) (by rw [e6.lst hO.p1, List.map_append]; rfl) (ev_var rfl) fun H7 e7 h7 => ?_
    have E7 := e6.trans e7
    have x7 : Ex T H (upd H7 wl (.lst (ws0.map V.ref))) := (e5.trans E7).mut hO.p0 h7
    have hO7 : Own W0 H wl ws0 (upd H7 wl (.lst (ws0.map V.ref))) := ⟨hO.p0, upd_same, (hL0.ex E7).but fun z => (hO.nw wl (hws0 wl z)).2 rfl, fun d hd => hO.nw d (hws0 d hd)⟩
    have hF7 : Own F H fl fs (upd H7 wl (.lst (ws0.map V.ref))) := (hF.ex E7).mut hfw fun z => hfs wl z rfl
    have hc7 : (upd H7 wl (.lst (ws0.map V.ref))) c = some (.lst (vz r)) := by rw [upd_ne hcw]; exact E7.lst hcr
    generalize upd H7 wl (.lst (ws0.map V.ref)) = G at x7 hO7 hF7 hc7
    refine q_seq (s_app (T := T) hF7.p1 (ev_var rfl) (ev_var rfl) (by rw [List.length_map, hF7.ll.len]; omega) fun H8 e8 h8 => ?_)
    have x8 : Ex T H (upd H8 fl (.lst (fs.map V.ref ++ [.ref c]))) := (x7.trans e8).mut hflH h8
    have hO8 : Own W0 H wl ws0 (upd H8 fl (.lst (fs.map V.ref ++ [.ref c]))) := (hO7.ex e8).mut hfw.symm fun z => hwf fl (hws0 fl z) rfl
    have hc8 : (upd H8 fl (.lst (fs.map V.ref ++ [.ref c]))) c = some (.lst (vz r)) := by rw [upd_ne hcf]; exact e8.lst hc7
    have hF8 : Own (F ++ [r]) H fl (fs ++ [c]) (upd H8 fl (.lst (fs.map V.ref ++ [.ref c]))) := by
      refine ⟨hflH, by rw [upd_same, List.map_append]; rfl, LLs.but ((hF7.ll.ex e8).app (LLs.one (e8.lst hc7))) fun z => ?_, fun d hd => ?_⟩
      · rcases List.mem_append.mp z with z | z
        · exact hF7.not_mem z
        · exact hcf (List.mem_singleton.mp z).symm
      · rcases List.mem_append.mp hd with z | z
        · exact hF7.nw d z
        · rw [List.mem_singleton.mp z]
          exact ⟨(hO.nw c hcm).1, hcf⟩
    have hfs8 : ∀ d ∈ fs ++ [c], d ≠ wl := fun d hd => by
      rcases List.mem_append.mp hd with z | z
      · exact hfs d z
      · rw [List.mem_singleton.mp z]
        exact hcw
    generalize upd H8 fl (.lst (fs.map V.ref ++ [.ref c])) = G8 at x8 hO8 hc8 hF8
    refine s_forNL (T := T) (R := NewLL (childL t r)) (er_call (ea_cons (ev_var rfl) (ea_cons (ev_var rfl) ea_nil)) (fun H9 e9 Q' q => ⟨(t, c, r), rfl, SqL.of (e9.lst hc8), hWd, hrow, (x8.trans e9).t hT, fun p as H' e' hN => q (.ref p) H' e' ⟨p, as, rfl, hN⟩⟩) NewLL.back) fun v H9 e9 r9 => ?_
    obtain ⟨cp, cs, rfl, hC⟩ := r9
    have hcpw : cp ≠ wl := fun z => by
      have := hC.p0
      rw [z, hO8.p1] at this
      cases this
    have hcsw : wl ∉ cs := fun z => by
      have := (hC.nw wl z).1
      rw [hO8.p1] at this
      cases this
    have hcsf : fl ∉ cs := fun z => by
      have := (hC.nw fl z).1
      rw [hF8.p1] at this
      cases this
    refine ⟨cp, cs.map V.ref, rfl, SqL.of hC.p1, fun i σ H' => ∃ y ws, σ = [some (.int t), some (.int (m : Int)), some (.int S), some (.ref c), some (.ref wl), some (.ref fl), y] ∧ Ex T H H' ∧ H' cp = some (.lst (cs.map V.ref)) ∧ LLs H' cs (childL t r) ∧ Own (W0 ++ ((childL t r).take i).filter fun c => decide (c.sum ≤ S)) H wl ws H' ∧ Own (F ++ [r]) H fl (fs ++ [c]) H' ∧ (∀ c ∈ ws, c ≠ fl),
      ⟨z, ws0, rfl, x8.trans e9, hC.p1, hC.ll, by rw [List.take_zero, List.filter_nil, List.append_nil]; exact hO8.ex e9, hF8.ex e9, fun d hd => hwf d (hws0 d hd)⟩, fun i σ H' _ ⟨y, ws, _, _, h, _⟩ => SqL.of h, ?_, ?_⟩
    · rintro i v σ H10 hx ⟨y, ws, rfl, e10, hcp, hcs, hO, hF, hwf⟩
      obtain ⟨d, hd, rfl⟩ := at_refs hx
      obtain ⟨x, hxr, hdx⟩ := hcs.at' hd
      have hdm := List.mem_of_getElem? hd
      have hfil : ((childL t r).take (i + 1)).filter (fun c => decide (c.sum ≤ S)) = ((childL t r).take i).filter (fun c => decide (c.sum ≤ S)) ++ [x].filter fun c => decide (c.sum ≤ S) := by
        rw [List.take_add_one, hxr, List.filter_append]
        rfl
      have hwsl : ws.length < 100000 := by
        have h1 := hO.ll.len
        have h2 := List.length_filter_le (fun c : List Int => decide (c.sum ≤ S)) ((childL t r).take i)
        have h3 := childL_len t r
        rw [List.length_take] at h2
        rw [List.length_append] at h1
        omega
      refine s_when (T := T) (b := decide (x.sum ≤ S)) (et_test (ev_I0 (ev_sum (ev_var rfl) (SqL.of hdx)) (ev_var rfl))) (fun hb H11 e11 => ?_) (fun hb H11 e11 => ?_)
      · have e5 : [x].filter (fun c => decide (c.sum ≤ S)) = [x] := by simp [of_decide_eq_true hb]
        rw [e5] at hfil
        refine s_app (T := T) (e11.lst hO.p1) (ev_var rfl) (ev_var rfl) (by rw [List.length_map]; exact hwsl) fun H12 e12 h12 => ?_
        have E12 := e11.trans e12
        have hnw : ∀ d' ∈ ws ++ [d], H d' = none ∧ d' ≠ wl := fun d' hd' => by
          rcases List.mem_append.mp hd' with z | z
          · exact hO.nw d' z
          · rw [List.mem_singleton.mp z]
            exact ⟨x8.n d (hC.nw d hdm).1, fun q => hcsw (q ▸ hdm)⟩
        refine ⟨_, ws ++ [d], rfl, (e10.trans E12).mut hO.p0 h12, by rw [upd_ne hcpw]; exact E12.lst hcp, (hcs.ex E12).but hcsw, ⟨hO.p0, by rw [upd_same, List.map_append]; rfl, ?_, hnw⟩, (hF.ex E12).mut hfw fun z => hfs8 wl z rfl, fun d' hd' => ?_⟩
        · rw [hfil, ← List.append_assoc]
          exact LLs.but (LLs.app (hO.ll.ex E12) (LLs.one (E12.lst hdx))) fun z => (hnw wl z).2 rfl
        · rcases List.mem_append.mp hd' with z | z
          · exact hwf d' z
          · rw [List.mem_singleton.mp z]
            exact fun q => hcsf (q ▸ hdm)
      · have e5 : [x].filter (fun c => decide (c.sum ≤ S)) = [] := by simp [of_decide_eq_false hb]
        rw [e5, List.append_nil] at hfil
        exact ⟨_, ws, rfl, e10.trans e11, e11.lst hcp, hcs.ex e11, by rw [hfil]; exact hO.ex e11, hF.ex e11, hwf⟩
    · rintro σ H10 ⟨y, ws, rfl, e10, _, _, hO, hF, hwf⟩
      rw [List.length_map, hC.len, List.take_length] at hO
      exact ⟨ws, fs ++ [c], _, _, rfl, e10, hO, hF, hwf, hfs8⟩
  · have hW : W = [] := by
      have h := hO.ll.len
      cases hws : ws with
      | nil =>
        rw [hws] at h
        exact List.length_eq_zero_iff.mp h.symm
      | cons a as =>
        rw [hws] at hb
        cases hb
    subst hW
    have hend := invU_end ht.1 hm I hA
    have hF6 := hF.ex e6
    have hrl : ∀ r ∈ F, r.length ≤ 900 := fun r hr => by
      have := (I.row r (List.mem_append.mpr (.inl hr))).2.1
      omega
    refine s_retR (T := T) (er_sortK (ev_var rfl) (ec_def fun H1 => canKey_def (CX := CX0) (x := "key_of") (k := 1) Fk bk (hr.mono (by decide)) fun a r H Q ha hl q => ⟨(a, r), rfl, ha, hl, fun p H' _ e' h' => q p H' e' h'⟩) (SqL.of hF6.p1) hF6.ll hrl) fun v H7 e7 r7 => ?_
    obtain ⟨q, as', rfl, hs⟩ := r7
    have hsl := hs.ll
    rw [show F.mergeSort (kOrd rowKey) = rs from hend] at hsl
    refine k q as' H7 (e5.trans (e6.trans e7)) ⟨(e5.trans e6).n q hs.q0, hs.q1, hsl, fun c hc => ⟨(hF.nw c (hs.perm.subset hc)).1, fun z => ?_⟩, hsl.nodup (ks_nodup hA.ks)⟩
    obtain ⟨r, hr⟩ := hF6.ll.some_ (hs.perm.subset hc)
    rw [z, hs.q0] at hr
    cases hr

/-! ### place_of -/
theorem idx_LL {K : PySem.W.Frag} {H : Hp} {p a : Addr} {as : List Addr} {rs : List (List Int)} {x : List Int} {j : Nat} {Q : VK} (hp : SqL K H p (as.map V.ref)) (hl : LLs H as rs) (ha : SqL K H a (vz x)) (hj : rs[j]? = some x) (hno : ∀ i y, i < j → rs[i]? = some y → y ≠ x) (q : Q (.int (j : Nat)) H) : rIndexD K (.ref p) [.ref a] H Q :=
  ⟨p, .ref a, dI x, rs.map dI, j, dI x, rfl, rfl, dp_LL hp hl, dp_I ha, sh_LL rs, sh_I x, by rw [List.getElem?_map, hj]; rfl, by rw [eqv_I]; exact decide_eq_true rfl, fun i z hi hz => by
    rw [List.getElem?_map] at hz
    cases hr : rs[i]? with
    | none => rw [hr] at hz; cases hz
    | some y =>
      rw [hr] at hz
      rw [← Option.some.inj hz, eqv_I]
      exact decide_eq_false (hno i y hi hr), q⟩
theorem ev_idx {T : Tb} {K : PySem.W.Frag} {σ : L2.St} {H : Hp} {ta tb : TE} {a : Addr} {rs : List (List Int)} {x : List Int} {j : Nat} (h : EvR T ta σ H (NewLL rs)) (hb : Ev T tb σ H (.ref a)) (ha : SqL K H a (vz x)) (hj : rs[j]? = some x) (hno : ∀ i y, i < j → rs[i]? = some y → y ≠ x) : Ev T (tBM K "list" (rIndexD K) ta (tCons tb tNil)) σ H (.int (j : Nat)) := fun H1 e Q q =>
  h H1 e _ fun v H2 e2 ⟨p, as, ev, hN⟩ => by
    subst ev
    exact ⟨.inl ⟨rfl, _, SqL.of hN.p1⟩, hb H2 (e.trans e2) _ fun H3 e3 => idx_LL (SqL.of (e3.lst hN.p1)) (hN.ll.ex e3) (((e.trans e2).trans e3).sq ha) hj hno (q H3 (e2.trans e3))⟩
def sp_place_of (T : Tb) (K : PySem.W.Frag) : Sp := spM (α := Int × Addr × List Int × List (List Int) × Nat) (fun q => [.int q.1, .ref q.2.1]) fun q H Q _ => SqL K H q.2.1 (vz q.2.2.1) ∧ Wd q.1 q.2.2.1 ∧ IsRow q.1 q.2.2.1 ∧ (3 ≤ q.2.2.1.length ∧ q.2.2.1.length ≤ 6) ∧ (1 ≤ q.1 ∧ q.1 ≤ 1000) ∧ q.2.2.1.sum ≤ 1000000 ∧ AllUp q.1 q.2.2.1.length q.2.2.1.sum q.2.2.2.1 ∧ q.2.2.2.1[q.2.2.2.2]? = some q.2.2.1 ∧ LamX.Tabs T H ∧
  ∀ H', Ex T H H' → Q (.int (q.2.2.2.2 : Nat)) H'
theorem ok_place_of {P : Program} {w : World} {K : PySem.W.Frag} {mg : Str → Option Value} {base : Heap} {T : Tb} (B : Bi mg) {Z : Ze} (Z_RowError : Xc K mg "RowError" Z.row Z.row) (Z_NoRow : Xc K mg "NoRow" Z.noRow Z.row) (Z_NoPlace : Xc K mg "NoPlace" Z.noPlace Z.row) (Z_NoSuch : Xc K mg "NoSuch" Z.noSuch Z.row) (Z_BadText : Xc K mg "BadText" Z.badText Z.row) (kk_noRow_noRow : PySem.W.kitOne K (.ref Z.noRow) (.ref Z.noRow) = some true) (kk_noRow_noPlace : PySem.W.kitOne K (.ref Z.noRow) (.ref Z.noPlace) = some false) (kk_noRow_noSuch : PySem.W.kitOne K (.ref Z.noRow) (.ref Z.noSuch) = some false) (kk_noRow_badText : PySem.W.kitOne K (.ref Z.noRow) (.ref Z.badText) = some false) (kk_noRow_VE : PySem.W.kitOne K (.ref Z.noRow) (.type "ValueError") = some true) (kk_noPlace_noRow : PySem.W.kitOne K (.ref Z.noPlace) (.ref Z.noRow) = some false) (kk_noPlace_noPlace : PySem.W.kitOne K (.ref Z.noPlace) (.ref Z.noPlace) = some true) (kk_noPlace_noSuch : PySem.W.kitOne K (.ref Z.noPlace) (.ref Z.noSuch) = some false) (kk_noPlace_badText : PySem.W.kitOne K (.ref Z.noPlace) (.ref Z.badText) = some false) (kk_noPlace_VE : PySem.W.kitOne K (.ref Z.noPlace) (.type "ValueError") = some true) (kk_noSuch_noRow : PySem.W.kitOne K (.ref Z.noSuch) (.ref Z.noRow) = some false) (kk_noSuch_noPlace : PySem.W.kitOne K (.ref Z.noSuch) (.ref Z.noPlace) = some false) (kk_noSuch_noSuch : PySem.W.kitOne K (.ref Z.noSuch) (.ref Z.noSuch) = some true) (kk_noSuch_badText : PySem.W.kitOne K (.ref Z.noSuch) (.ref Z.badText) = some false) (kk_noSuch_VE : PySem.W.kitOne K (.ref Z.noSuch) (.type "ValueError") = some true) (kk_badText_noRow : PySem.W.kitOne K (.ref Z.badText) (.ref Z.noRow) = some false) (kk_badText_noPlace : PySem.W.kitOne K (.ref Z.badText) (.ref Z.noPlace) = some false) (kk_badText_noSuch : PySem.W.kitOne K (.ref Z.badText) (.ref Z.noSuch) = some false) (kk_badText_badText : PySem.W.kitOne K (.ref Z.badText) (.ref Z.badText) = some true) (kk_badText_VE : PySem.W.kitOne K (.ref Z.badText) (.type "ValueError") = some true) (c_see_row : Ca CX0 P w K mg base 3 "see_row" (sp_see_row T K)) (c_up_to : Ca CX0 P w K mg base 7 "up_to" (sp_up_to T K)) (D : Df K mg "place_of" s_place_of ["times", "row"]) : Ca CX0 P w K mg base 8 "place_of" (sp_place_of T K) := by
  refine D.ca0 sc_place_of (fun vs H Q E ⟨q, e, _⟩ => by rw [e]; rfl) (fun cdv A outer s H vs Q E f hr h => ?_)
  obtain ⟨⟨t, a, x, rs, j⟩, hv, h⟩ := h
  dsimp only at hv h
  subst hv
  obtain ⟨hS, hW, hR, hl, ht, hs, hA, hj, hT, k⟩ := h
  refine ⟨_, (pss_cons (ps_expr (pe_k0 c_see_row hr (by decide) (by rfl) (pa_cons (pv 0) (pa_cons (pv 1) pa_nil))))
      (pss_one (ps_ret (pe_bm PySem.F.plainAttrs_list PySem.F.slot_list_index PySem.F.type_list_index (mt_indexD (hu65 hr)) (pe_k0 c_up_to hr (by decide) (by rfl) (pa_cons (pv 0) (pa_cons (pe_callB call_lenS (by rfl) B.len boot_len (pa_cons (pv 1) pa_nil)) (pa_cons (pe_callB (cr_sum rfl) (by rfl) B.sum boot_sum (pa_cons (pv 1) pa_nil)) pa_nil)))) (pa_cons (pv 1) pa_nil))))), ?_⟩
  refine q_drop (T := T) (ev_call (ea_cons (ev_var rfl) (ea_cons (ev_var rfl) ea_nil)) fun H1 e1 Q' q => ⟨(t, a, x), rfl, e1.sq hS, hW, hR, q⟩) fun H1 e1 => ?_
  have hjl := (List.getElem?_eq_some_iff.mp hj).1
  refine s_ret (T := T) (ev_idx (rs := rs) (x := x) (er_call (ea_cons (ev_var rfl) (ea_cons (x := .int (x.length : Int)) ((ev_len (ev_var rfl) (e1.sq hS)).is (by rw [List.length_map])) (ea_cons (ev_sum (ev_var rfl) (e1.sq hS)) ea_nil))) (fun H2 e2 Q' q => ⟨(t, x.length, x.sum, rs), rfl, ht, hl, hs, hA, (e1.trans e2).t hT, fun p as H' e' hN => q (.ref p) H' e' ⟨p, as, rfl, hN⟩⟩) NewLL.back) (ev_var rfl) (e1.sq hS) hj fun i y hi hy e => ?_) fun H2 e2 => k H2 (e1.trans e2)
  rw [e] at hy
  have hil := (List.getElem?_eq_some_iff.mp hy).1
  have := (List.getElem?_inj hil (ks_nodup hA.ks)).mp (hy.trans hj.symm)
  omega

theorem okR_place_of {P : Program} {w : World} {K : PySem.W.Frag} {mg : Str → Option Value} {base : Heap} {T : Tb} (B : Bi mg) {Z : Ze} (Z_RowError : Xc K mg "RowError" Z.row Z.row) (Z_NoRow : Xc K mg "NoRow" Z.noRow Z.row) (Z_NoPlace : Xc K mg "NoPlace" Z.noPlace Z.row) (Z_NoSuch : Xc K mg "NoSuch" Z.noSuch Z.row) (Z_BadText : Xc K mg "BadText" Z.badText Z.row) (kk_noRow_noRow : PySem.W.kitOne K (.ref Z.noRow) (.ref Z.noRow) = some true) (kk_noRow_noPlace : PySem.W.kitOne K (.ref Z.noRow) (.ref Z.noPlace) = some false) (kk_noRow_noSuch : PySem.W.kitOne K (.ref Z.noRow) (.ref Z.noSuch) = some false) (kk_noRow_badText : PySem.W.kitOne K (.ref Z.noRow) (.ref Z.badText) = some false) (kk_noRow_VE : PySem.W.kitOne K (.ref Z.noRow) (.type "ValueError") = some true) (kk_noPlace_noRow : PySem.W.kitOne K (.ref Z.noPlace) (.ref Z.noRow) = some false) (kk_noPlace_noPlace : PySem.W.kitOne K (.ref Z.noPlace) (.ref Z.noPlace) = some true) (kk_noPlace_noSuch : PySem.W.kitOne K (.ref Z.noPlace) (.ref Z.noSuch) = some false) (kk_noPlace_badText : PySem.W.kitOne K (.ref Z.noPlace) (.ref Z.badText) = some false) (kk_noPlace_VE : PySem.W.kitOne K (.ref Z.noPlace) (.type "ValueError") = some true) (kk_noSuch_noRow : PySem.W.kitOne K (.ref Z.noSuch) (.ref Z.noRow) = some false) (kk_noSuch_noPlace : PySem.W.kitOne K (.ref Z.noSuch) (.ref Z.noPlace) = some false) (kk_noSuch_noSuch : PySem.W.kitOne K (.ref Z.noSuch) (.ref Z.noSuch) = some true) (kk_noSuch_badText : PySem.W.kitOne K (.ref Z.noSuch) (.ref Z.badText) = some false) (kk_noSuch_VE : PySem.W.kitOne K (.ref Z.noSuch) (.type "ValueError") = some true) (kk_badText_noRow : PySem.W.kitOne K (.ref Z.badText) (.ref Z.noRow) = some false) (kk_badText_noPlace : PySem.W.kitOne K (.ref Z.badText) (.ref Z.noPlace) = some false) (kk_badText_noSuch : PySem.W.kitOne K (.ref Z.badText) (.ref Z.noSuch) = some false) (kk_badText_badText : PySem.W.kitOne K (.ref Z.badText) (.ref Z.badText) = some true) (kk_badText_VE : PySem.W.kitOne K (.ref Z.badText) (.type "ValueError") = some true) (r_see_row : Ca (L2.CX P w) P w K mg base 3 "see_row" (spX_see_row Z T K)) (D : Df K mg "place_of" s_place_of ["times", "row"]) : Ca (L2.CX P w) P w K mg base 8 "place_of" (spR Z T K) := by
  refine D.caX sc_place_of (fun vs H Q E ⟨q, e, _⟩ => by rw [e]; rfl) (fun cdv A outer s H vs Q E f hr h => ?_)
  obtain ⟨⟨t, a, ns⟩, hv, h⟩ := h
  dsimp only at hv h
  subst hv
  obtain ⟨hS, hW, hR, kx⟩ := h
  refine ⟨_, (pss_cons (ps_expr (pe_k r_see_row hr (by decide) (passes_call (takes_of rfl rfl rfl rfl) fun _ _ _ _ h => h) (by rfl) (pa_cons (pv 0) (pa_cons (pv 1) pa_nil)))) pss_never), ?_⟩
  exact call_raise (T := T) (ea_cons (ev_var rfl) (ea_cons (ev_var rfl) ea_nil)) fun H1 e1 Q' => ⟨(t, a, ns), rfl, e1.sq hS, hW, fun h => absurd h hR, fun _ H' e' => kx H' (e1.trans e')⟩

/-! ### shown -/
def sp_shown (T : Tb) (K : PySem.W.Frag) : Sp := spM (α := Int × Addr × List Int) (fun q => [.int q.1, .ref q.2.1]) fun q H Q _ => SqL K H q.2.1 (vz q.2.2) ∧ Wd q.1 q.2.2 ∧ IsRow q.1 q.2.2 ∧ 1 ≤ q.1 ∧ (∀ n ∈ q.2.2, n < 10 ^ 400) ∧ ∀ H', Ex T H H' → Q (.str (shownT q.1 q.2.2)) H'
theorem big_ok {n : Int} (h0 : 0 ≤ n) (h : n < 10 ^ 400) : n.natAbs < 2 ^ 1919 := by
  have e : ((10 : Int) ^ 400) = ((10 ^ 400 : Nat) : Int) := (Int.natCast_pow 10 400).symm
  rw [e] at h
  have h1 : n.natAbs < 10 ^ 400 := by omega
  exact Nat.lt_of_lt_of_le h1 (by decide +kernel)
theorem big_of {n : Int} {b : Nat} (hb : b ≤ 1300) (h : n < 2 ^ b) : n < 10 ^ 400 := by
  refine Int.lt_of_lt_of_le h ?_
  have e : ((10 : Int) ^ 400) = ((10 ^ 400 : Nat) : Int) := (Int.natCast_pow 10 400).symm
  rw [e, ← pow_cast]
  exact Int.ofNat_le.mpr (Nat.le_trans (Nat.pow_le_pow_right (by decide) hb) (by decide +kernel))
theorem words_len {t : Int} {ns : List Int} (ht : 0 ≤ t ∧ t < 10 ^ 400) (hn : ∀ n ∈ ns, 0 ≤ n ∧ n < 10 ^ 400) (hl : ns.length ≤ 6) : ((wordsOf t ns).map (·.length)).sum + (wordsOf t ns).length * (Str.ofString " ").length ≤ 4000 := by
  have h1 : ∀ ms : List Int, (∀ n ∈ ms, 0 ≤ n ∧ n < 10 ^ 400) → (((ms.map numT).map (·.length)).sum ≤ 400 * ms.length) := by
    intro ms
    induction ms with
    | nil => intro _; simp
    | cons n r ih =>
      intro h
      have h2 := numT_len (n := n) (k := 400) (h n List.mem_cons_self).1 (by decide) (h n List.mem_cons_self).2
      have h3 := ih fun m hm => h m (List.mem_cons_of_mem _ hm)
      rw [List.map_cons, List.map_cons, List.sum_cons, List.length_cons]
      omega
  have h2 := numT_len (n := t) (k := 400) ht.1 (by decide) ht.2
  have h3 := h1 ns hn
  have h4 : (Str.ofString "x").length = 1 := by decide +kernel
  have h5 : (Str.ofString " ").length = 1 := by decide +kernel
  unfold wordsOf
  rw [h5, List.map_cons, List.map_cons, List.sum_cons, List.sum_cons, h4, List.length_cons, List.length_cons, List.length_map]
  omega
theorem ok_shown {P : Program} {w : World} {K : PySem.W.Frag} {mg : Str → Option Value} {base : Heap} {T : Tb} (B : Bi mg) {Z : Ze} (Z_RowError : Xc K mg "RowError" Z.row Z.row) (Z_NoRow : Xc K mg "NoRow" Z.noRow Z.row) (Z_NoPlace : Xc K mg "NoPlace" Z.noPlace Z.row) (Z_NoSuch : Xc K mg "NoSuch" Z.noSuch Z.row) (Z_BadText : Xc K mg "BadText" Z.badText Z.row) (kk_noRow_noRow : PySem.W.kitOne K (.ref Z.noRow) (.ref Z.noRow) = some true) (kk_noRow_noPlace : PySem.W.kitOne K (.ref Z.noRow) (.ref Z.noPlace) = some false) (kk_noRow_noSuch : PySem.W.kitOne K (.ref Z.noRow) (.ref Z.noSuch) = some false) (kk_noRow_badText : PySem.W.kitOne K (.ref Z.noRow) (.ref Z.badText) = some false) (kk_noRow_VE : PySem.W.kitOne K (.ref Z.noRow) (.type "ValueError") = some true) (kk_noPlace_noRow : PySem.W.kitOne K (.ref Z.noPlace) (.ref Z.noRow) = some false) (kk_noPlace_noPlace : PySem.W.kitOne K (.ref Z.noPlace) (.ref Z.noPlace) = some true) (kk_noPlace_noSuch : PySem.W.kitOne K (.ref Z.noPlace) (.ref Z.noSuch) = some false) (kk_noPlace_badText : PySem.W.kitOne K (.ref Z.noPlace) (.ref Z.badText) = some false) (kk_noPlace_VE : PySem.W.kitOne K (.ref Z.noPlace) (.type "ValueError") = some true) (kk_noSuch_noRow : PySem.W.kitOne K (.ref Z.noSuch) (.ref Z.noRow) = some false) (kk_noSuch_noPlace : PySem.W.kitOne K (.ref Z.noSuch) (.ref Z.noPlace) = some false) (kk_noSuch_noSuch : PySem.W.kitOne K (.ref Z.noSuch) (.ref Z.noSuch) = some true) (kk_noSuch_badText : PySem.W.kitOne K (.ref Z.noSuch) (.ref Z.badText) = some false) (kk_noSuch_VE : PySem.W.kitOne K (.ref Z.noSuch) (.type "ValueError") = some true) (kk_badText_noRow : PySem.W.kitOne K (.ref Z.badText) (.ref Z.noRow) = some false) (kk_badText_noPlace : PySem.W.kitOne K (.ref Z.badText) (.ref Z.noPlace) = some false) (kk_badText_noSuch : PySem.W.kitOne K (.ref Z.badText) (.ref Z.noSuch) = some false) (kk_badText_badText : PySem.W.kitOne K (.ref Z.badText) (.ref Z.badText) = some true) (kk_badText_VE : PySem.W.kitOne K (.ref Z.badText) (.type "ValueError") = some true) (c_see_row : Ca CX0 P w K mg base 3 "see_row" (sp_see_row T K)) (D : Df K mg "shown" s_shown ["times", "row"]) : Ca CX0 P w K mg base 4 "shown" (sp_shown T K) := by
  refine D.ca0 sc_shown (fun vs H Q E ⟨q, e, _⟩ => by rw [e]; rfl) (fun cdv A outer s H vs Q E f hr h => ?_)
  obtain ⟨⟨t, a, ns⟩, hv, h⟩ := h
  dsimp only at hv h
  subst hv
  obtain ⟨hS, hW, hR, ht, hn, k⟩ := h
  have hl := hW.len
  have ht2 : t < 10 ^ 400 := by
    have := hW.ht
    exact big_of (b := 10) (by decide) (by omega)
  refine ⟨_, (pss_cons (ps_expr (pe_k0 c_see_row hr (by decide) (by rfl) (pa_cons (pv 0) (pa_cons (pv 1) pa_nil))))
      (pss_one (ps_ret (pe_join pe_str (pe_op op_cat (pe_lst (pa_cons (pe_callTy call_str_int (by rfl) B.str boot_str (pa_cons (pv 0) pa_nil)) (pa_cons pe_str pa_nil))) (pe_lc (own := [("number", 2)]) (g := gName 2) (tt := tYes) rfl sc_shown.nd (pi_list (pv 1)) (blkOk_by (N := ["times", "row", "number"]) (sc := defScope s_shown) (by decide +kernel)) (fun _ _ _ _ _ => pg_name (i := 2) sc_shown.nd rfl (Or.inl rfl)) (fun _ _ _ _ _ => by exact pts_nil) (fun _ _ _ _ _ => by exact (pe_callTy call_str_int (by rfl) B.str boot_str (pa_cons (pv 2) pa_nil))))))))), ?_⟩
  refine q_drop (T := T) (ev_call (ea_cons (ev_var rfl) (ea_cons (ev_var rfl) ea_nil)) fun H1 e1 Q' q => ⟨(t, a, ns), rfl, e1.sq hS, hW, hR, q⟩) fun H1 e1 => ?_
  refine s_ret (T := T) (ev_join (ws := wordsOf t ns) ev_c ((el_catNN (el_lst (vs := [.str (numT t), .str (Str.ofString "x")]) (ea_cons (ev_str (ev_var rfl) (big_ok (by omega) ht2)) (ea_cons ev_c ea_nil)) (by simp)) (el_map (ys := vs (ns.map numT)) (ev_var rfl) (e1.sq hS) (by rw [List.length_map]; omega) (by simp) (fun _ => rfl) fun i x y H2 e2 hx hy => ?_) ?_).is rfl) ?_) fun H2 e2 => k H2 (e1.trans e2)
  · obtain ⟨n, hn', rfl⟩ := at_vz hx
    have hy' : y = V.str (numT n) := by
      rw [List.getElem?_map, List.getElem?_map, hn'] at hy
      exact (Option.some.inj hy).symm
    rw [hy']
    have hm := List.mem_of_getElem? hn'
    exact ev_str (ev_var rfl) (big_ok (by have := hR.pos n hm; omega) (hn n hm))
  · simp
    omega
  · exact Nat.le_trans (words_len ⟨by omega, ht2⟩ (fun n hm => ⟨by have := hR.pos n hm; omega, hn n hm⟩) hl) (by decide)

theorem okR_shown {P : Program} {w : World} {K : PySem.W.Frag} {mg : Str → Option Value} {base : Heap} {T : Tb} (B : Bi mg) {Z : Ze} (Z_RowError : Xc K mg "RowError" Z.row Z.row) (Z_NoRow : Xc K mg "NoRow" Z.noRow Z.row) (Z_NoPlace : Xc K mg "NoPlace" Z.noPlace Z.row) (Z_NoSuch : Xc K mg "NoSuch" Z.noSuch Z.row) (Z_BadText : Xc K mg "BadText" Z.badText Z.row) (kk_noRow_noRow : PySem.W.kitOne K (.ref Z.noRow) (.ref Z.noRow) = some true) (kk_noRow_noPlace : PySem.W.kitOne K (.ref Z.noRow) (.ref Z.noPlace) = some false) (kk_noRow_noSuch : PySem.W.kitOne K (.ref Z.noRow) (.ref Z.noSuch) = some false) (kk_noRow_badText : PySem.W.kitOne K (.ref Z.noRow) (.ref Z.badText) = some false) (kk_noRow_VE : PySem.W.kitOne K (.ref Z.noRow) (.type "ValueError") = some true) (kk_noPlace_noRow : PySem.W.kitOne K (.ref Z.noPlace) (.ref Z.noRow) = some false) (kk_noPlace_noPlace : PySem.W.kitOne K (.ref Z.noPlace) (.ref Z.noPlace) = some true) (kk_noPlace_noSuch : PySem.W.kitOne K (.ref Z.noPlace) (.ref Z.noSuch) = some false) (kk_noPlace_badText : PySem.W.kitOne K (.ref Z.noPlace) (.ref Z.badText) = some false) (kk_noPlace_VE : PySem.W.kitOne K (.ref Z.noPlace) (.type "ValueError") = some true) (kk_noSuch_noRow : PySem.W.kitOne K (.ref Z.noSuch) (.ref Z.noRow) = some false) (kk_noSuch_noPlace : PySem.W.kitOne K (.ref Z.noSuch) (.ref Z.noPlace) = some false) (kk_noSuch_noSuch : PySem.W.kitOne K (.ref Z.noSuch) (.ref Z.noSuch) = some true) (kk_noSuch_badText : PySem.W.kitOne K (.ref Z.noSuch) (.ref Z.badText) = some false) (kk_noSuch_VE : PySem.W.kitOne K (.ref Z.noSuch) (.type "ValueError") = some true) (kk_badText_noRow : PySem.W.kitOne K (.ref Z.badText) (.ref Z.noRow) = some false) (kk_badText_noPlace : PySem.W.kitOne K (.ref Z.badText) (.ref Z.noPlace) = some false) (kk_badText_noSuch : PySem.W.kitOne K (.ref Z.badText) (.ref Z.noSuch) = some false) (kk_badText_badText : PySem.W.kitOne K (.ref Z.badText) (.ref Z.badText) = some true) (kk_badText_VE : PySem.W.kitOne K (.ref Z.badText) (.type "ValueError") = some true) (r_see_row : Ca (L2.CX P w) P w K mg base 3 "see_row" (spX_see_row Z T K)) (D : Df K mg "shown" s_shown ["times", "row"]) : Ca (L2.CX P w) P w K mg base 4 "shown" (spR Z T K) := by
  refine D.caX sc_shown (fun vs H Q E ⟨q, e, _⟩ => by rw [e]; rfl) (fun cdv A outer s H vs Q E f hr h => ?_)
  obtain ⟨⟨t, a, ns⟩, hv, h⟩ := h
  dsimp only at hv h
  subst hv
  obtain ⟨hS, hW, hR, kx⟩ := h
  refine ⟨_, (pss_cons (ps_expr (pe_k r_see_row hr (by decide) (passes_call (takes_of rfl rfl rfl rfl) fun _ _ _ _ h => h) (by rfl) (pa_cons (pv 0) (pa_cons (pv 1) pa_nil)))) pss_never), ?_⟩
  exact call_raise (T := T) (ea_cons (ev_var rfl) (ea_cons (ev_var rfl) ea_nil)) fun H1 e1 Q' => ⟨(t, a, ns), rfl, e1.sq hS, hW, fun h => absurd h hR, fun _ H' e' => kx H' (e1.trans e')⟩

/-! ### _law_cell_at -/
def sp__law_cell_at (T : Tb) (K : PySem.W.Frag) : Sp := spM (α := Addr × List Int × Nat) (fun q => [.ref q.1, .int (q.2.2 : Int)]) fun q H Q _ => SqL K H q.1 (vz q.2.1) ∧ ∀ H', Ex T H H' → Q (.int (q.2.1.getD q.2.2 0)) H'
theorem ok__law_cell_at {P : Program} {w : World} {K : PySem.W.Frag} {mg : Str → Option Value} {base : Heap} {T : Tb} (B : Bi mg) {Z : Ze} (Z_RowError : Xc K mg "RowError" Z.row Z.row) (Z_NoRow : Xc K mg "NoRow" Z.noRow Z.row) (Z_NoPlace : Xc K mg "NoPlace" Z.noPlace Z.row) (Z_NoSuch : Xc K mg "NoSuch" Z.noSuch Z.row) (Z_BadText : Xc K mg "BadText" Z.badText Z.row) (kk_noRow_noRow : PySem.W.kitOne K (.ref Z.noRow) (.ref Z.noRow) = some true) (kk_noRow_noPlace : PySem.W.kitOne K (.ref Z.noRow) (.ref Z.noPlace) = some false) (kk_noRow_noSuch : PySem.W.kitOne K (.ref Z.noRow) (.ref Z.noSuch) = some false) (kk_noRow_badText : PySem.W.kitOne K (.ref Z.noRow) (.ref Z.badText) = some false) (kk_noRow_VE : PySem.W.kitOne K (.ref Z.noRow) (.type "ValueError") = some true) (kk_noPlace_noRow : PySem.W.kitOne K (.ref Z.noPlace) (.ref Z.noRow) = some false) (kk_noPlace_noPlace : PySem.W.kitOne K (.ref Z.noPlace) (.ref Z.noPlace) = some true) (kk_noPlace_noSuch : PySem.W.kitOne K (.ref Z.noPlace) (.ref Z.noSuch) = some false) (kk_noPlace_badText : PySem.W.kitOne K (.ref Z.noPlace) (.ref Z.badText) = some false) (kk_noPlace_VE : PySem.W.kitOne K (.ref Z.noPlace) (.type "ValueError") = some true) (kk_noSuch_noRow : PySem.W.kitOne K (.ref Z.noSuch) (.ref Z.noRow) = some false) (kk_noSuch_noPlace : PySem.W.kitOne K (.ref Z.noSuch) (.ref Z.noPlace) = some false) (kk_noSuch_noSuch : PySem.W.kitOne K (.ref Z.noSuch) (.ref Z.noSuch) = some true) (kk_noSuch_badText : PySem.W.kitOne K (.ref Z.noSuch) (.ref Z.badText) = some false) (kk_noSuch_VE : PySem.W.kitOne K (.ref Z.noSuch) (.type "ValueError") = some true) (kk_badText_noRow : PySem.W.kitOne K (.ref Z.badText) (.ref Z.noRow) = some false) (kk_badText_noPlace : PySem.W.kitOne K (.ref Z.badText) (.ref Z.noPlace) = some false) (kk_badText_noSuch : PySem.W.kitOne K (.ref Z.badText) (.ref Z.noSuch) = some false) (kk_badText_badText : PySem.W.kitOne K (.ref Z.badText) (.ref Z.badText) = some true) (kk_badText_VE : PySem.W.kitOne K (.ref Z.badText) (.type "ValueError") = some true)  (D : Df K mg "_law_cell_at" s__law_cell_at ["script", "k"]) : Ca CX0 P w K mg base 1 "_law_cell_at" (sp__law_cell_at T K) := by
  refine D.ca0 sc__law_cell_at (fun vs H Q E ⟨q, e, _⟩ => by rw [e]; rfl) (fun cdv A outer s H vs Q E f hr h => ?_)
  obtain ⟨⟨a, ns, m⟩, hv, h⟩ := h
  dsimp only at hv h
  subst hv
  obtain ⟨hS, k⟩ := h
  refine ⟨_, (pss_cons (ps_if (pt_cmpR op_lt (pv 1) (pe_callB call_lenS (by rfl) B.len boot_len (pa_cons (pv 0) pa_nil)) (nomark _)) (pss_one (ps_ret (pe_ix ix_list (pv 0) (pv 1) (fun _ _ => rfl)))) pss_nil)
      (pss_one (ps_ret pe_int))), ?_⟩
  refine q_when (T := T) (et_test (ev_I0 (ev_var rfl) (ev_len (ev_var rfl) hS))) (fun hb H1 e1 => ?_) (fun hb H1 e1 => ?_)
  · have hm : m < ns.length := by have := of_decide_eq_true hb; rw [List.length_map] at this; omega
    exact s_ret (T := T) (ev_ixI (ev_var rfl) (ev_var rfl) (e1.sq hS) rfl (getD_at hm)) fun H2 e2 => k H2 (e1.trans e2)
  · have hm : ns.length ≤ m := by have := of_decide_eq_false hb; rw [List.length_map] at this; omega
    refine s_ret (T := T) ev_c fun H2 e2 => ?_
    have := k H2 (e1.trans e2)
    rw [List.getD_eq_getElem?_getD, List.getElem?_eq_none hm] at this
    exact this

/-! ### _law_product -/
def sp__law_product (T : Tb) (K : PySem.W.Frag) : Sp := spM (α := Addr × List Int) (fun q => [.ref q.1]) fun q H Q _ => SqL K H q.1 (vz q.2) ∧ q.2.length ≤ 6 ∧ (∃ b, b ≤ 100000 ∧ Bd b q.2) ∧ ∀ H', Ex T H H' → Q (.int (prd q.2)) H'
theorem ok__law_product {P : Program} {w : World} {K : PySem.W.Frag} {mg : Str → Option Value} {base : Heap} {T : Tb} (B : Bi mg) {Z : Ze} (Z_RowError : Xc K mg "RowError" Z.row Z.row) (Z_NoRow : Xc K mg "NoRow" Z.noRow Z.row) (Z_NoPlace : Xc K mg "NoPlace" Z.noPlace Z.row) (Z_NoSuch : Xc K mg "NoSuch" Z.noSuch Z.row) (Z_BadText : Xc K mg "BadText" Z.badText Z.row) (kk_noRow_noRow : PySem.W.kitOne K (.ref Z.noRow) (.ref Z.noRow) = some true) (kk_noRow_noPlace : PySem.W.kitOne K (.ref Z.noRow) (.ref Z.noPlace) = some false) (kk_noRow_noSuch : PySem.W.kitOne K (.ref Z.noRow) (.ref Z.noSuch) = some false) (kk_noRow_badText : PySem.W.kitOne K (.ref Z.noRow) (.ref Z.badText) = some false) (kk_noRow_VE : PySem.W.kitOne K (.ref Z.noRow) (.type "ValueError") = some true) (kk_noPlace_noRow : PySem.W.kitOne K (.ref Z.noPlace) (.ref Z.noRow) = some false) (kk_noPlace_noPlace : PySem.W.kitOne K (.ref Z.noPlace) (.ref Z.noPlace) = some true) (kk_noPlace_noSuch : PySem.W.kitOne K (.ref Z.noPlace) (.ref Z.noSuch) = some false) (kk_noPlace_badText : PySem.W.kitOne K (.ref Z.noPlace) (.ref Z.badText) = some false) (kk_noPlace_VE : PySem.W.kitOne K (.ref Z.noPlace) (.type "ValueError") = some true) (kk_noSuch_noRow : PySem.W.kitOne K (.ref Z.noSuch) (.ref Z.noRow) = some false) (kk_noSuch_noPlace : PySem.W.kitOne K (.ref Z.noSuch) (.ref Z.noPlace) = some false) (kk_noSuch_noSuch : PySem.W.kitOne K (.ref Z.noSuch) (.ref Z.noSuch) = some true) (kk_noSuch_badText : PySem.W.kitOne K (.ref Z.noSuch) (.ref Z.badText) = some false) (kk_noSuch_VE : PySem.W.kitOne K (.ref Z.noSuch) (.type "ValueError") = some true) (kk_badText_noRow : PySem.W.kitOne K (.ref Z.badText) (.ref Z.noRow) = some false) (kk_badText_noPlace : PySem.W.kitOne K (.ref Z.badText) (.ref Z.noPlace) = some false) (kk_badText_noSuch : PySem.W.kitOne K (.ref Z.badText) (.ref Z.noSuch) = some false) (kk_badText_badText : PySem.W.kitOne K (.ref Z.badText) (.ref Z.badText) = some true) (kk_badText_VE : PySem.W.kitOne K (.ref Z.badText) (.type "ValueError") = some true)  (D : Df K mg "_law_product" s__law_product ["numbers"]) : Ca CX0 P w K mg base 1 "_law_product" (sp__law_product T K) := by
  refine D.ca0 sc__law_product (fun vs H Q E ⟨q, e, _⟩ => by rw [e]; rfl) (fun cdv A outer s H vs Q E f hr h => ?_)
  obtain ⟨⟨a, ns⟩, hv, h⟩ := h
  dsimp only at hv h
  subst hv
  obtain ⟨hS, hl, ⟨b, hb, hB⟩, k⟩ := h
  refine ⟨_, (pss_cons (ps_set (i := 1) sc__law_product.nd rfl (.inl rfl) pe_int)
      (pss_cons (ps_for PassesOwn.never rfl (pi_list (pv 0)) (pg_name (i := 2) sc__law_product.nd rfl (.inl rfl))
      (pss_one (ps_set (i := 1) sc__law_product.nd rfl (.inl rfl) (pe_op op_mulW (pv 1) (pv 2)))))
      (pss_one (ps_ret (pv 1))))), ?_⟩
  refine q_asg (T := T) ev_c fun H1 e1 => q_forL (T := T) (ev_var rfl) (e1.sq hS) (fun i σ H' => ∃ y, σ = [some (.ref a), some (.int (prd (ns.take i))), y] ∧ Ex T H H') (fun H2 e2 => ⟨none, rfl, e1.trans e2⟩) (fun i σ H' _ ⟨y, _, e⟩ => e.sq hS) ?_ ?_
  · rintro i x σ H' hx ⟨y, rfl, e⟩
    obtain ⟨n, hn, rfl⟩ := at_vz hx
    have hi := (List.getElem?_eq_some_iff.mp hn).1
    have h1 : (prd (ns.take i)).natAbs < 2 ^ (b * 6 + 1) := Nat.lt_of_lt_of_le (hB.sub fun m hm => List.mem_of_mem_take hm).prod (Nat.pow_le_pow_right (by decide) (by
      have : b * (ns.take i).length ≤ b * 6 := Nat.mul_le_mul_left _ (by rw [List.length_take]; omega)
      omega))
    have h2 : n.natAbs < 2 ^ (b + 1) := Nat.lt_of_lt_of_le (hB n (List.mem_of_getElem? hn)) (Nat.pow_le_pow_right (by decide) (by omega))
    refine s_asg (T := T) (ev_I (ev_var rfl) (ev_var rfl) (wide_mul h1 h2 (by omega) (by omega) (by omega))) fun H2 e2 => ⟨some (.int n), ?_, e.trans e2⟩
    rw [List.take_add_one, hn, prd_app]
    show _ = [some (V.ref a), some (V.int (prd (List.take i ns) * (n * 1))), some (V.int n)]
    rw [Int.mul_one]
    rfl
  · rintro σ H' ⟨y, rfl, e⟩
    rw [List.length_map, List.take_length]
    exact s_ret (T := T) (ev_var rfl) fun H2 e2 => k H2 (e.trans e2)

/-! ### _law_near -/
def sp__law_near (T : Tb) (K : PySem.W.Frag) : Sp := spM (α := Int × Addr × List Int × Nat) (fun q => [.int q.1, .ref q.2.1, .int (q.2.2.2 : Int)]) fun q H Q _ => SqL K H q.2.1 (vz q.2.2.1) ∧ Wd q.1 q.2.2.1 ∧ q.2.2.2 < q.2.2.1.length ∧
  ∀ p H', H p = none → Ex T H H' → H' p = some (.lst (vz (near q.1 q.2.2.1 q.2.2.2))) → Q (.ref p) H'
theorem ok__law_near {P : Program} {w : World} {K : PySem.W.Frag} {mg : Str → Option Value} {base : Heap} {T : Tb} (B : Bi mg) {Z : Ze} (Z_RowError : Xc K mg "RowError" Z.row Z.row) (Z_NoRow : Xc K mg "NoRow" Z.noRow Z.row) (Z_NoPlace : Xc K mg "NoPlace" Z.noPlace Z.row) (Z_NoSuch : Xc K mg "NoSuch" Z.noSuch Z.row) (Z_BadText : Xc K mg "BadText" Z.badText Z.row) (kk_noRow_noRow : PySem.W.kitOne K (.ref Z.noRow) (.ref Z.noRow) = some true) (kk_noRow_noPlace : PySem.W.kitOne K (.ref Z.noRow) (.ref Z.noPlace) = some false) (kk_noRow_noSuch : PySem.W.kitOne K (.ref Z.noRow) (.ref Z.noSuch) = some false) (kk_noRow_badText : PySem.W.kitOne K (.ref Z.noRow) (.ref Z.badText) = some false) (kk_noRow_VE : PySem.W.kitOne K (.ref Z.noRow) (.type "ValueError") = some true) (kk_noPlace_noRow : PySem.W.kitOne K (.ref Z.noPlace) (.ref Z.noRow) = some false) (kk_noPlace_noPlace : PySem.W.kitOne K (.ref Z.noPlace) (.ref Z.noPlace) = some true) (kk_noPlace_noSuch : PySem.W.kitOne K (.ref Z.noPlace) (.ref Z.noSuch) = some false) (kk_noPlace_badText : PySem.W.kitOne K (.ref Z.noPlace) (.ref Z.badText) = some false) (kk_noPlace_VE : PySem.W.kitOne K (.ref Z.noPlace) (.type "ValueError") = some true) (kk_noSuch_noRow : PySem.W.kitOne K (.ref Z.noSuch) (.ref Z.noRow) = some false) (kk_noSuch_noPlace : PySem.W.kitOne K (.ref Z.noSuch) (.ref Z.noPlace) = some false) (kk_noSuch_noSuch : PySem.W.kitOne K (.ref Z.noSuch) (.ref Z.noSuch) = some true) (kk_noSuch_badText : PySem.W.kitOne K (.ref Z.noSuch) (.ref Z.badText) = some false) (kk_noSuch_VE : PySem.W.kitOne K (.ref Z.noSuch) (.type "ValueError") = some true) (kk_badText_noRow : PySem.W.kitOne K (.ref Z.badText) (.ref Z.noRow) = some false) (kk_badText_noPlace : PySem.W.kitOne K (.ref Z.badText) (.ref Z.noPlace) = some false) (kk_badText_noSuch : PySem.W.kitOne K (.ref Z.badText) (.ref Z.noSuch) = some false) (kk_badText_badText : PySem.W.kitOne K (.ref Z.badText) (.ref Z.badText) = some true) (kk_badText_VE : PySem.W.kitOne K (.ref Z.badText) (.type "ValueError") = some true) (c__law_product : Ca CX0 P w K mg base 1 "_law_product" (sp__law_product T K)) (D : Df K mg "_law_near" s__law_near ["times", "row", "place"]) : Ca CX0 P w K mg base 2 "_law_near" (sp__law_near T K) := by
  refine D.ca0 sc__law_near (fun vs H Q E ⟨q, e, _⟩ => by rw [e]; rfl) (fun cdv A outer s H vs Q E f hr h => ?_)
  obtain ⟨⟨t, a, ns, m⟩, hv, h⟩ := h
  dsimp only at hv h
  subst hv
  obtain ⟨hS, hW, hm, k⟩ := h
  obtain ⟨b, hb1, hb, hB⟩ := hW.b
  have hl := hW.len
  refine ⟨_, (pss_cons (ps_set (i := 3) sc__law_near.nd rfl (.inl rfl) (pe_op op_cat (pe_slice sl_list (pv 1) po_none (po_some (pv 2))) (pe_slice sl_list (pv 1) (po_some (pe_op op_add (pv 2) pe_int)) po_none)))
      (pss_one (ps_ret (pe_callB cr_sortedI (by rfl) B.sorted boot_sorted (pa_cons (pe_op op_cat (pv 3) (pe_lst (pa_cons (pe_op op_sub (pe_op op_mulW (pv 0) (pe_k0 c__law_product hr (by decide) (by rfl) (pa_cons (pv 3) pa_nil))) (pe_ix ix_list (pv 1) (pv 2) (fun _ _ => rfl))) pa_nil))) pa_nil))))), ?_⟩
  refine q_asgL (T := T) (el_catNN (el_to (ev_var rfl) (ev_var rfl) hS rfl (Nat.le_of_lt hm)) (el_from (m := m + 1) (ev_var rfl) (ev_I0 (ev_var rfl) ev_c) hS rfl hm) (by rw [List.length_map, List.length_map, List.length_take, List.length_drop]; omega)) fun o H1 ho e1 h1 => ?_
  have h1' : H1 o = some (.lst (vz (oth ns m))) := by rw [h1]; unfold oth; rw [vz_app]
  have hol := oth_len hm
  have hoB : Bd b (oth ns m) := hB.sub fun n hn => oth_sub hm hn
  refine s_retL (T := T) (el_sortedN ((el_catN (ev_var rfl) h1' (el_lst (ea_cons (ev_I0 (ev_I (ev_var rfl) (ev_call (ea_cons (ev_var rfl) ea_nil) fun H2 e2 Q q => ⟨(o, oth ns m), rfl, e2.sq (SqL.of h1'), by show (oth ns m).length ≤ 6; omega, ⟨b, hb, hoB⟩, q⟩) ?_) (ev_ixI (ev_var rfl) (ev_var rfl) (e1.sq hS) rfl (getD_at hm))) ea_nil) (show 1 ≤ 1000 by decide)) ?_).is (ys := vz (oth ns m ++ [new t ns m])) ?_)) fun p H2 hp e2 h2 => k p H2 (e1.n p hp) (e1.trans e2) h2
  · have h2 := hoB.prod
    have : b * (oth ns m).length ≤ b * 6 := Nat.mul_le_mul_left _ (by omega)
    exact wide_mul hW.ht h2 (by omega) (by omega) (by omega)
  · rw [List.length_map]
    show (oth ns m).length + 1 ≤ 1000
    omega
  · rw [vz_app]
    rfl

/-! ### _law_is_row -/
def sp__law_is_row (T : Tb) (K : PySem.W.Frag) : Sp := spM (α := Int × Addr × List Int) (fun q => [.int q.1, .ref q.2.1]) fun q H Q _ => SqL K H q.2.1 (vz q.2.2) ∧ Wd q.1 q.2.2 ∧ 0 < q.2.2.length ∧ ∀ H', Ex T H H' → Q (.bl (decide (IsRow q.1 q.2.2))) H'
theorem least_of {ns : List Int} (h : 0 < ns.length) : ∃ m, m ∈ ns ∧ ∀ n ∈ ns, m ≤ n := by
  have hp := isort_perm ns
  have hs := isort_sorted ns
  cases e : isort ns with
  | nil => rw [e] at hp; have := hp.length_eq; simp at this; omega
  | cons m r =>
    rw [e] at hp hs
    refine ⟨m, hp.subset List.mem_cons_self, fun n hn => ?_⟩
    rcases List.mem_cons.mp (hp.symm.subset hn) with q | q
    · rw [q]; exact Int.le_refl _
    · exact (List.pairwise_cons.mp hs).1 n q
theorem ok__law_is_row {P : Program} {w : World} {K : PySem.W.Frag} {mg : Str → Option Value} {base : Heap} {T : Tb} (B : Bi mg) {Z : Ze} (Z_RowError : Xc K mg "RowError" Z.row Z.row) (Z_NoRow : Xc K mg "NoRow" Z.noRow Z.row) (Z_NoPlace : Xc K mg "NoPlace" Z.noPlace Z.row) (Z_NoSuch : Xc K mg "NoSuch" Z.noSuch Z.row) (Z_BadText : Xc K mg "BadText" Z.badText Z.row) (kk_noRow_noRow : PySem.W.kitOne K (.ref Z.noRow) (.ref Z.noRow) = some true) (kk_noRow_noPlace : PySem.W.kitOne K (.ref Z.noRow) (.ref Z.noPlace) = some false) (kk_noRow_noSuch : PySem.W.kitOne K (.ref Z.noRow) (.ref Z.noSuch) = some false) (kk_noRow_badText : PySem.W.kitOne K (.ref Z.noRow) (.ref Z.badText) = some false) (kk_noRow_VE : PySem.W.kitOne K (.ref Z.noRow) (.type "ValueError") = some true) (kk_noPlace_noRow : PySem.W.kitOne K (.ref Z.noPlace) (.ref Z.noRow) = some false) (kk_noPlace_noPlace : PySem.W.kitOne K (.ref Z.noPlace) (.ref Z.noPlace) = some true) (kk_noPlace_noSuch : PySem.W.kitOne K (.ref Z.noPlace) (.ref Z.noSuch) = some false) (kk_noPlace_badText : PySem.W.kitOne K (.ref Z.noPlace) (.ref Z.badText) = some false) (kk_noPlace_VE : PySem.W.kitOne K (.ref Z.noPlace) (.type "ValueError") = some true) (kk_noSuch_noRow : PySem.W.kitOne K (.ref Z.noSuch) (.ref Z.noRow) = some false) (kk_noSuch_noPlace : PySem.W.kitOne K (.ref Z.noSuch) (.ref Z.noPlace) = some false) (kk_noSuch_noSuch : PySem.W.kitOne K (.ref Z.noSuch) (.ref Z.noSuch) = some true) (kk_noSuch_badText : PySem.W.kitOne K (.ref Z.noSuch) (.ref Z.badText) = some false) (kk_noSuch_VE : PySem.W.kitOne K (.ref Z.noSuch) (.type "ValueError") = some true) (kk_badText_noRow : PySem.W.kitOne K (.ref Z.badText) (.ref Z.noRow) = some false) (kk_badText_noPlace : PySem.W.kitOne K (.ref Z.badText) (.ref Z.noPlace) = some false) (kk_badText_noSuch : PySem.W.kitOne K (.ref Z.badText) (.ref Z.noSuch) = some false) (kk_badText_badText : PySem.W.kitOne K (.ref Z.badText) (.ref Z.badText) = some true) (kk_badText_VE : PySem.W.kitOne K (.ref Z.badText) (.type "ValueError") = some true) (c__law_product : Ca CX0 P w K mg base 1 "_law_product" (sp__law_product T K)) (D : Df K mg "_law_is_row" s__law_is_row ["times", "row"]) : Ca CX0 P w K mg base 2 "_law_is_row" (sp__law_is_row T K) := by
  refine D.ca0 sc__law_is_row (fun vs H Q E ⟨q, e, _⟩ => by rw [e]; rfl) (fun cdv A outer s H vs Q E f hr h => ?_)
  obtain ⟨⟨t, a, ns⟩, hv, h⟩ := h
  dsimp only at hv h
  subst hv
  obtain ⟨hS, hW, hl0, k⟩ := h
  obtain ⟨b, hb1, hb, hB⟩ := hW.b
  have hl := hW.len
  obtain ⟨m, hm, hmin⟩ := least_of hl0
  refine ⟨_, (pss_cons (ps_if (PW.pt (pw_or (pt_cmpR op_lt (pe_callB (cr_min rfl) (by rfl) B.min boot_min (pa_cons (pv 1) pa_nil)) pe_int (nomark _)) (pw_or1 (pt_cmpR (op_neD hr.units) (pe_callB cr_sortedI (by rfl) B.sorted boot_sorted (pa_cons (pv 1) pa_nil)) (pv 1) (nomark _))))) (pss_one (ps_ret pe_bl)) pss_nil)
      (pss_one (ps_ret (pe_cmpR op_eq (pe_callB (cr_sum rfl) (by rfl) B.sum boot_sum (pa_cons (pe_lc (own := [("number", 2)]) (g := gName 2) (tt := tYes) rfl sc__law_is_row.nd (pi_list (pv 1)) (blkOk_by (N := ["times", "row", "number"]) (sc := defScope s__law_is_row) (by decide +kernel)) (fun _ _ _ _ _ => pg_name (i := 2) sc__law_is_row.nd rfl (Or.inl rfl)) (fun _ _ _ _ _ => by exact pts_nil) (fun _ _ _ _ _ => by exact (pe_op op_mulW (pv 2) (pv 2)))) pa_nil)) (pe_op op_mulW (pv 0) (pe_k0 c__law_product hr (by decide) (by rfl) (pa_cons (pv 1) pa_nil))) (nomark _))))), ?_⟩
  refine q_when (T := T) (et_or (et_test (ev_I0 (ev_min (ev_var rfl) hS hm hmin) ev_c)) fun _ => et_test (ev_neNL (el_sorted (ev_var rfl) hS) (ev_var rfl) hS)) (fun hb' H1 e1 => ?_) (fun hb' H1 e1 => ?_)
  · refine s_ret (T := T) ev_c fun H2 e2 => ?_
    have hn : ¬ IsRow t ns := fun hr => by
      rw [Bool.or_eq_true, Bool.not_eq_true'] at hb'
      rcases hb' with h1 | h1
      · have := of_decide_eq_true h1; have := hr.pos m hm; omega
      · exact of_decide_eq_false h1 (isort_id hr.ord)
    have := k H2 (e1.trans e2)
    rw [decide_eq_false hn] at this
    exact this
  · rw [Bool.or_eq_false_iff, Bool.not_eq_false'] at hb'
    have p1 := of_decide_eq_false hb'.1
    have p2 : isort ns = ns := of_decide_eq_true hb'.2
    have hall : (∀ n ∈ ns, 1 ≤ n) ∧ ns.Pairwise (· ≤ ·) := ⟨fun n hn => by have := hmin n hn; omega, by rw [← p2]; exact isort_sorted ns⟩
    have hS' := e1.sq hS
    refine s_ret (T := T) (ev_eqI (ev_sumN (el_map (ys := vz (ns.map fun n => n * n)) (ev_var rfl) hS' (by rw [List.length_map]; omega) (by simp) (fun _ => rfl) fun i x y H1 e1 hx hy => ?_)) (ev_I (ev_var rfl) (ev_call (ea_cons (ev_var rfl) ea_nil) fun H2 e2 Q q => ⟨(a, ns), rfl, e2.sq hS', hl, ⟨b, hb, hB⟩, q⟩) ?_)) fun H2 e2 => ?_
    · obtain ⟨n, hn, rfl⟩ := at_vz hx
      have hy' : y = V.int (n * n) := by
        rw [List.getElem?_map, List.getElem?_map, hn] at hy
        exact (Option.some.inj hy).symm
      rw [hy']
      have h2 := hB n (List.mem_of_getElem? hn)
      exact ev_I (ev_var rfl) (ev_var rfl) (wide_mul h2 h2 (by omega) (by omega) (by omega))
    · have h1 := hB.prod
      have : b * ns.length ≤ b * 6 := Nat.mul_le_mul_left _ hl
      exact wide_mul hW.ht h1 (by omega) (by omega) (by omega)
    · have := k H2 (e1.trans e2)
      rw [sqs_map]
      have e2 : decide (IsRow t ns) = decide (sqs ns = t * prd ns) := decide_eq_decide.mpr ⟨fun h => h.eq, fun h => ⟨hall.1, hall.2, h⟩⟩
      rw [e2] at this
      exact this

/-! ### _law_root_by -/
theorem roots9_at (c : Int) : ∃ q, roots9[(c % 9).toNat]? = some q ∧ q ∈ roots9 := by
  have h1 := Int.emod_nonneg c (by decide : (9 : Int) ≠ 0)
  have h2 := Int.emod_lt_of_pos c (by decide : (0 : Int) < 9)
  have h3 : (c % 9).toNat < roots9.length := by show (c % 9).toNat < 9; omega
  exact ⟨_, List.getElem?_eq_getElem h3, List.getElem_mem h3⟩
def sp__law_root_by (T : Tb) (K : PySem.W.Frag) : Sp := spM (α := Int) (fun q => [.int q]) fun c H Q _ => ∀ q, roots9[(c % 9).toNat]? = some q → ∀ v H', Ex T H H' → PairAt H' v q → Q v H'
theorem ok__law_root_by {P : Program} {w : World} {K : PySem.W.Frag} {mg : Str → Option Value} {base : Heap} {T : Tb} (B : Bi mg) {Z : Ze} (Z_RowError : Xc K mg "RowError" Z.row Z.row) (Z_NoRow : Xc K mg "NoRow" Z.noRow Z.row) (Z_NoPlace : Xc K mg "NoPlace" Z.noPlace Z.row) (Z_NoSuch : Xc K mg "NoSuch" Z.noSuch Z.row) (Z_BadText : Xc K mg "BadText" Z.badText Z.row) (kk_noRow_noRow : PySem.W.kitOne K (.ref Z.noRow) (.ref Z.noRow) = some true) (kk_noRow_noPlace : PySem.W.kitOne K (.ref Z.noRow) (.ref Z.noPlace) = some false) (kk_noRow_noSuch : PySem.W.kitOne K (.ref Z.noRow) (.ref Z.noSuch) = some false) (kk_noRow_badText : PySem.W.kitOne K (.ref Z.noRow) (.ref Z.badText) = some false) (kk_noRow_VE : PySem.W.kitOne K (.ref Z.noRow) (.type "ValueError") = some true) (kk_noPlace_noRow : PySem.W.kitOne K (.ref Z.noPlace) (.ref Z.noRow) = some false) (kk_noPlace_noPlace : PySem.W.kitOne K (.ref Z.noPlace) (.ref Z.noPlace) = some true) (kk_noPlace_noSuch : PySem.W.kitOne K (.ref Z.noPlace) (.ref Z.noSuch) = some false) (kk_noPlace_badText : PySem.W.kitOne K (.ref Z.noPlace) (.ref Z.badText) = some false) (kk_noPlace_VE : PySem.W.kitOne K (.ref Z.noPlace) (.type "ValueError") = some true) (kk_noSuch_noRow : PySem.W.kitOne K (.ref Z.noSuch) (.ref Z.noRow) = some false) (kk_noSuch_noPlace : PySem.W.kitOne K (.ref Z.noSuch) (.ref Z.noPlace) = some false) (kk_noSuch_noSuch : PySem.W.kitOne K (.ref Z.noSuch) (.ref Z.noSuch) = some true) (kk_noSuch_badText : PySem.W.kitOne K (.ref Z.noSuch) (.ref Z.badText) = some false) (kk_noSuch_VE : PySem.W.kitOne K (.ref Z.noSuch) (.type "ValueError") = some true) (kk_badText_noRow : PySem.W.kitOne K (.ref Z.badText) (.ref Z.noRow) = some false) (kk_badText_noPlace : PySem.W.kitOne K (.ref Z.badText) (.ref Z.noPlace) = some false) (kk_badText_noSuch : PySem.W.kitOne K (.ref Z.badText) (.ref Z.noSuch) = some false) (kk_badText_badText : PySem.W.kitOne K (.ref Z.badText) (.ref Z.badText) = some true) (kk_badText_VE : PySem.W.kitOne K (.ref Z.badText) (.type "ValueError") = some true)  (D : Df K mg "_law_root_by" s__law_root_by ["cell"]) : Ca CX0 P w K mg base 1 "_law_root_by" (sp__law_root_by T K) := by
  refine D.ca0 sc__law_root_by (fun vs H Q E ⟨q, e, _⟩ => by rw [e]; rfl) (fun cdv A outer s H vs Q E f hr h => ?_)
  obtain ⟨c, hv, h⟩ := h
  dsimp only at hv h
  subst hv
  obtain ⟨q, hq, _⟩ := roots9_at c
  have k := h q hq
  refine ⟨_, (pss_cons (ps_set (i := 1) sc__law_root_by.nd rfl (.inl rfl) (pe_lst (pa_cons (pe_tup (pa_cons pe_int (pa_cons (pe_lst (pa_cons pe_int (pa_cons pe_int (pa_cons pe_int pa_nil)))) pa_nil))) (pa_cons (pe_tup (pa_cons pe_int (pa_cons (pe_lst (pa_cons pe_int (pa_cons pe_int (pa_cons pe_int pa_nil)))) pa_nil))) (pa_cons (pe_tup (pa_cons pe_int (pa_cons (pe_lst (pa_cons pe_int (pa_cons pe_int (pa_cons pe_int (pa_cons pe_int pa_nil))))) pa_nil))) (pa_cons (pe_tup (pa_cons pe_int (pa_cons (pe_lst (pa_cons pe_int (pa_cons pe_int (pa_cons pe_int (pa_cons pe_int pa_nil))))) pa_nil))) (pa_cons (pe_tup (pa_cons pe_int (pa_cons (pe_lst (pa_cons pe_int (pa_cons pe_int (pa_cons pe_int (pa_cons pe_int (pa_cons pe_int pa_nil)))))) pa_nil))) pa_nil)))))))
      (pss_cons (ps_set (i := 1) sc__law_root_by.nd rfl (.inl rfl) (pe_op op_cat (pv 1) (pe_lst (pa_cons (pe_tup (pa_cons pe_int (pa_cons (pe_lst (pa_cons pe_int (pa_cons pe_int (pa_cons pe_int (pa_cons pe_int (pa_cons pe_int pa_nil)))))) pa_nil))) (pa_cons (pe_tup (pa_cons pe_int (pa_cons (pe_lst (pa_cons pe_int (pa_cons pe_int (pa_cons pe_int (pa_cons pe_int (pa_cons pe_int pa_nil)))))) pa_nil))) (pa_cons (pe_tup (pa_cons pe_int (pa_cons (pe_lst (pa_cons pe_int (pa_cons pe_int (pa_cons pe_int (pa_cons pe_int (pa_cons pe_int (pa_cons pe_int pa_nil))))))) pa_nil))) (pa_cons (pe_tup (pa_cons pe_int (pa_cons (pe_lst (pa_cons pe_int (pa_cons pe_int (pa_cons pe_int (pa_cons pe_int (pa_cons pe_int (pa_cons pe_int pa_nil))))))) pa_nil))) pa_nil)))))))
      (pss_one (ps_ret (pe_ix ix_list (pv 1) (pe_op op_mod (pv 0) pe_int) (fun _ _ => rfl)))))), ?_⟩
  have L : ∀ {tr : TA} {σ : L2.St} {H : Hp} {ns : List Int}, EvA T tr σ H (vz ns) → ns.length ≤ 1000 → EvL T (tLst tr) σ H (vz ns) := fun h hl => el_lst h (by rw [List.length_map]; exact hl)
  refine q_asgR (T := T) (er_pairs (qs := [(3, [1, 1, 1]), (1, [3, 3, 3]), (4, [1, 1, 1, 1]), (1, [2, 2, 2, 2]), (5, [1, 1, 1, 1, 1])]) (ep_cons (er_pair (el_lst ?a1 (by decide))) (ep_cons (er_pair (el_lst ?a2 (by decide))) (ep_cons (er_pair (el_lst ?a3 (by decide))) (ep_cons (er_pair (el_lst ?a4 (by decide))) (ep_cons (er_pair (el_lst ?a5 (by decide))) ep_nil))))) (by decide)) fun v H1 e1 r1 => ?_
  case a1 => walk_at "ev"
  case a2 => walk_at "ev"
  case a3 => walk_at "ev"
  case a4 => walk_at "ev"
  case a5 => walk_at "ev"
  obtain ⟨p, vs, rfl, hp, h1, hP⟩ := r1
  refine q_asgR (T := T) (er_catP (rs := [(4, [1, 1, 1, 1, 2]), (1, [1, 1, 3, 3, 4]), (6, [1, 1, 1, 1, 1, 1]), (3, [1, 1, 1, 1, 2, 2])]) (ev_var rfl) h1 hP (er_pairs (ep_cons (er_pair (el_lst ?b1 (by decide))) (ep_cons (er_pair (el_lst ?b2 (by decide))) (ep_cons (er_pair (el_lst ?b3 (by decide))) (ep_cons (er_pair (el_lst ?b4 (by decide))) ep_nil)))) (by decide)) (by decide)) fun v H2 e2 r2 => ?_
  case b1 => walk_at "ev"
  case b2 => walk_at "ev"
  case b3 => walk_at "ev"
  case b4 => walk_at "ev"
  obtain ⟨o, ws, rfl, ho, h2, hP2⟩ := r2
  have h3 := Int.emod_nonneg c (by decide : (9 : Int) ≠ 0)
  obtain ⟨x, hx, hxq⟩ := hP2.at_ (i := (c % 9).toNat) (q := q) hq
  refine s_ret (T := T) (ev_ixL (v := x) (ev_var rfl) (ev_I (ev_var rfl) ev_c (by show (0 : Int) < 9; decide)) (SqL.of h2) ?_) fun H3 e3 => k x H3 ((e1.trans e2).trans e3) (hxq.ex e3)
  rw [show c % 9 = (((c % 9).toNat : Nat) : Int) by omega]
  exact atI_nat hx

/-! ### _law_drawn -/
def sp__law_drawn (T : Tb) (K : PySem.W.Frag) : Sp := spM (α := Addr × List Int) (fun q => [.ref q.1]) fun q H Q _ => SqL K H q.1 (vz q.2) ∧ ∀ t ns p r H', Dr 6 t ns → Ex T H H' → H p = none → H r = none → H' p = some (.tup [.int t, .ref r]) → H' r = some (.lst (vz ns)) → Q (.ref p) H'
theorem ok__law_drawn {P : Program} {w : World} {K : PySem.W.Frag} {mg : Str → Option Value} {base : Heap} {T : Tb} (B : Bi mg) {Z : Ze} (Z_RowError : Xc K mg "RowError" Z.row Z.row) (Z_NoRow : Xc K mg "NoRow" Z.noRow Z.row) (Z_NoPlace : Xc K mg "NoPlace" Z.noPlace Z.row) (Z_NoSuch : Xc K mg "NoSuch" Z.noSuch Z.row) (Z_BadText : Xc K mg "BadText" Z.badText Z.row) (kk_noRow_noRow : PySem.W.kitOne K (.ref Z.noRow) (.ref Z.noRow) = some true) (kk_noRow_noPlace : PySem.W.kitOne K (.ref Z.noRow) (.ref Z.noPlace) = some false) (kk_noRow_noSuch : PySem.W.kitOne K (.ref Z.noRow) (.ref Z.noSuch) = some false) (kk_noRow_badText : PySem.W.kitOne K (.ref Z.noRow) (.ref Z.badText) = some false) (kk_noRow_VE : PySem.W.kitOne K (.ref Z.noRow) (.type "ValueError") = some true) (kk_noPlace_noRow : PySem.W.kitOne K (.ref Z.noPlace) (.ref Z.noRow) = some false) (kk_noPlace_noPlace : PySem.W.kitOne K (.ref Z.noPlace) (.ref Z.noPlace) = some true) (kk_noPlace_noSuch : PySem.W.kitOne K (.ref Z.noPlace) (.ref Z.noSuch) = some false) (kk_noPlace_badText : PySem.W.kitOne K (.ref Z.noPlace) (.ref Z.badText) = some false) (kk_noPlace_VE : PySem.W.kitOne K (.ref Z.noPlace) (.type "ValueError") = some true) (kk_noSuch_noRow : PySem.W.kitOne K (.ref Z.noSuch) (.ref Z.noRow) = some false) (kk_noSuch_noPlace : PySem.W.kitOne K (.ref Z.noSuch) (.ref Z.noPlace) = some false) (kk_noSuch_noSuch : PySem.W.kitOne K (.ref Z.noSuch) (.ref Z.noSuch) = some true) (kk_noSuch_badText : PySem.W.kitOne K (.ref Z.noSuch) (.ref Z.badText) = some false) (kk_noSuch_VE : PySem.W.kitOne K (.ref Z.noSuch) (.type "ValueError") = some true) (kk_badText_noRow : PySem.W.kitOne K (.ref Z.badText) (.ref Z.noRow) = some false) (kk_badText_noPlace : PySem.W.kitOne K (.ref Z.badText) (.ref Z.noPlace) = some false) (kk_badText_noSuch : PySem.W.kitOne K (.ref Z.badText) (.ref Z.noSuch) = some false) (kk_badText_badText : PySem.W.kitOne K (.ref Z.badText) (.ref Z.badText) = some true) (kk_badText_VE : PySem.W.kitOne K (.ref Z.badText) (.type "ValueError") = some true) (c__law_root_by : Ca CX0 P w K mg base 1 "_law_root_by" (sp__law_root_by T K)) (c__law_cell_at : Ca CX0 P w K mg base 1 "_law_cell_at" (sp__law_cell_at T K)) (c__law_near : Ca CX0 P w K mg base 2 "_law_near" (sp__law_near T K)) (D : Df K mg "_law_drawn" s__law_drawn ["script"]) : Ca CX0 P w K mg base 3 "_law_drawn" (sp__law_drawn T K) := by
  refine D.ca0 sc__law_drawn (fun vs H Q E ⟨q, e, _⟩ => by rw [e]; rfl) (fun cdv A outer s H vs Q E f hr h => ?_)
  obtain ⟨⟨a, cs⟩, hv, h⟩ := h
  dsimp only at hv h
  subst hv
  obtain ⟨hS, k⟩ := h
  refine ⟨_, (pss_cons (ps_set (i := 1) sc__law_drawn.nd rfl (.inl rfl) (pe_k0 c__law_root_by hr (by decide) (by rfl) (pa_cons (pe_k0 c__law_cell_at hr (by decide) (by rfl) (pa_cons (pv 0) (pa_cons pe_int pa_nil))) pa_nil)))
      (pss_cons (ps_set (i := 2) sc__law_drawn.nd rfl (.inl rfl) (pe_callTy call_listS (by rfl) B.list boot_list (pa_cons (pe_ix ix_tup (pv 1) pe_int (fun _ _ => rfl)) pa_nil)))
      (pss_cons (ps_for PassesOwn.never rfl (pi_range1 (by rfl) B.range (pa_cons (pe_op op_mod (pe_k0 c__law_cell_at hr (by decide) (by rfl) (pa_cons (pv 0) (pa_cons pe_int pa_nil))) pe_int) pa_nil)) (pg_name (i := 3) sc__law_drawn.nd rfl (.inl rfl))
      (pss_cons (ps_set (i := 4) sc__law_drawn.nd rfl (.inl rfl) (pe_k0 c__law_near hr (by decide) (by rfl) (pa_cons (pe_ix ix_tup (pv 1) pe_int (fun _ _ => rfl)) (pa_cons (pv 2) (pa_cons (pe_op op_mod (pe_k0 c__law_cell_at hr (by decide) (by rfl) (pa_cons (pv 0) (pa_cons (pe_op op_add pe_int (pv 3)) pa_nil))) (pe_callB call_lenS (by rfl) B.len boot_len (pa_cons (pv 2) pa_nil))) pa_nil)))))
      (pss_one (ps_if (pt_cmpR op_gt (pe_callB (cr_sum rfl) (by rfl) B.sum boot_sum (pa_cons (pv 4) pa_nil)) (pe_callB (cr_sum rfl) (by rfl) B.sum boot_sum (pa_cons (pv 2) pa_nil)) (nomark _)) (pss_one (ps_set (i := 2) sc__law_drawn.nd rfl (.inl rfl) (pv 4))) pss_nil))))
      (pss_one (ps_ret (pe_tup (pa_cons (pe_ix ix_tup (pv 1) pe_int (fun _ _ => rfl)) (pa_cons (pv 2) pa_nil)))))))), ?_⟩
  have cell : ∀ (m : Nat) (i : Int) {σ : L2.St} {H' : Hp} {ti : TE}, i = (m : Int) → Ex T H H' → σ[0]? = some (some (.ref a)) → Ev T ti σ H' (.int i) → Ev T (tCall (sp__law_cell_at T K) [] E0 (tCons (tVar 0) (tCons ti tNil))) σ H' (.int (cs.getD m 0)) := fun m i σ H' ti hi e h0 hti =>
    ev_call (ea_cons (ev_var h0) (ea_cons (hi ▸ hti) ea_nil)) fun H1 e1 Q q => ⟨(a, cs, m), rfl, (e.trans e1).sq hS, q⟩
  obtain ⟨q, hq, hqm⟩ := roots9_at (cs.getD 0 0)
  have hD := roots9_dr q hqm
  refine q_asgR (T := T) (R := fun _ v H' => PairAt H' v q) (er_call (ea_cons (cell 0 0 rfl .refl rfl ev_c) ea_nil) (fun H1 e1 Q' k' => ⟨cs.getD 0 0, rfl, fun q' hq' v H' e' hp => k' v H' e' (by rw [hq] at hq'; cases hq'; exact hp)⟩) fun _ _ _ _ _ h => h) fun v H1 e1 r1 => ?_
  obtain ⟨pr, rr, rfl, hpr, hrr⟩ := r1
  refine q_asgL (T := T) (xs := vz q.2) (el_list (ev_ixT (ev_var rfl) ev_c (.inl (.inl hpr)) (atI_nat (j := 1) rfl)) (SqL.of hrr)) fun o H2 ho e2 h2 => ?_
  obtain ⟨m7, hm7, em7⟩ := emod_nat (cs.getD 1 0) (n := 7) (by decide)
  refine q_forR1 (T := T) (m := (m7 : Int)) (ea_cons ((ev_I (cell 1 1 rfl (e1.trans e2) rfl ev_c) ev_c (by show (0 : Int) < 7; decide)).is (by rw [← em7]; rfl)) ea_nil) (by omega) (by omega)
    (fun i σ H' => ∃ r ns y z, σ = [some (.ref a), some (.ref pr), some (.ref r), y, z] ∧ Ex T H H' ∧ H r = none ∧ H' r = some (.lst (vz ns)) ∧ Dr i q.1 ns ∧ H' pr = some (.tup [.int q.1, .ref rr]))
    (fun H3 e3 => ⟨o, q.2, none, none, rfl, (e1.trans e2).trans e3, e1.n o ho, e3.lst h2, hD, (e2.trans e3).tup hpr⟩) ?_ ?_
  · rintro i σ H' hi ⟨r, ns, y, z, rfl, e, hr0, hr, hd, hpr'⟩
    obtain ⟨m, hm, em⟩ := emod_nat (cs.getD (2 + i) 0) (n := ns.length) (by have := hd.len; omega)
    have hd' := hd.near hm
    have hW : Wd q.1 ns := (hd.mono (show i ≤ 6 by omega)).wd (by decide)
    refine q_asgL (T := T) (el_call (ea_cons (ev_ixT (ev_var rfl) ev_c (.inl (.inl hpr')) (atI_nat (j := 0) rfl)) (ea_cons (ev_var rfl) (ea_cons ((ev_I (cell (2 + i) (2 + (i : Int)) (by omega) e rfl (ev_I0 ev_c (ev_var rfl))) ((ev_len (ev_var rfl) (SqL.of hr)).is (by rw [List.length_map])) (by have := hd.len; show (0 : Int) < (ns.length : Int); omega)).is (by rw [← em])) ea_nil)))
      fun H1 e1 Q' k' => ⟨(q.1, r, ns, m), rfl, e1.sq (SqL.of hr), hW, hm, k'⟩) fun o2 H3 ho2 e3 h3 => ?_
    have hr3 := e3.lst hr
    refine s_when (T := T) (et_test (ev_I0 (ev_sum (ev_var rfl) (SqL.of h3)) (ev_sum (ev_var rfl) (SqL.of hr3)))) (fun hb H4 e4 => ?_) (fun hb H4 e4 => ?_)
    · exact s_asg (T := T) (ev_var rfl) fun H5 e5 => ⟨o2, _, _, _, rfl, ((e.trans e3).trans e4).trans e5, e.n o2 ho2, (e4.trans e5).lst h3, hd', ((e3.trans e4).trans e5).tup hpr'⟩
    · exact ⟨r, ns, _, _, rfl, (e.trans e3).trans e4, hr0, e4.lst hr3, hd.mono (Nat.le_succ _), (e3.trans e4).tup hpr'⟩
  · rintro σ H' ⟨r, ns, y, z, rfl, e, hr0, hr, hd, hpr'⟩
    have hm6 : (m7 : Int).toNat ≤ 6 := by omega
    exact s_retU (T := T) (eu_tup (ea_cons (ev_ixT (ev_var rfl) ev_c (.inl (.inl hpr')) (atI_nat (j := 0) rfl)) (ea_cons (ev_var rfl) ea_nil)) (show 2 ≤ 1000 by decide)) fun p H3 hp e3 h3 => k q.1 ns p r H3 (hd.mono hm6) (e.trans e3) (e.n p hp) hr0 h3 (e3.lst hr)

/-! ### _law_call -/
def sp__law_call (Z : Ze) (T : Tb) (K : PySem.W.Frag) : Sp := spM (α := Nat × Int × Addr × List Int × Int) (fun q => [.int (q.1 : Int), .int q.2.1, .ref q.2.2.1, .int q.2.2.2.2]) fun q H Q E => SqL K H q.2.2.1 (vz q.2.2.2.1) ∧ Wd q.2.1 q.2.2.2.1 ∧ (3 ≤ q.2.2.2.1.length ∧ q.2.2.2.1.length ≤ 6) ∧ (1 ≤ q.2.1 ∧ q.2.1 ≤ 1000) ∧ q.1 ≤ 8 ∧ LamX.Tabs T H ∧ (IsRow q.2.1 q.2.2.2.1 → q.2.2.2.1.sum < 2 ^ (2 ^ 9)) ∧ Bd 330 q.2.2.2.1 ∧
  (¬ IsRow q.2.1 q.2.2.2.1 → ∀ H', Ex T H H' → E (.ref Z.noRow) none H') ∧
  (IsRow q.2.1 q.2.2.2.1 → (q.1 = 0 ∨ q.1 = 8) → ¬ (0 ≤ q.2.2.2.2 ∧ q.2.2.2.2 < (q.2.2.2.1.length : Int)) → ∀ H', Ex T H H' → E (.ref Z.noPlace) none H') ∧
  (IsRow q.2.1 q.2.2.2.1 → ¬ ((q.1 = 0 ∨ q.1 = 8) ∧ ¬ (0 ≤ q.2.2.2.2 ∧ q.2.2.2.2 < (q.2.2.2.1.length : Int))) → ∀ H', Ex T H H' → Q .non H')
theorem ok__law_call {P : Program} {w : World} {K : PySem.W.Frag} {mg : Str → Option Value} {base : Heap} {T : Tb} (B : Bi mg) {Z : Ze} (Z_RowError : Xc K mg "RowError" Z.row Z.row) (Z_NoRow : Xc K mg "NoRow" Z.noRow Z.row) (Z_NoPlace : Xc K mg "NoPlace" Z.noPlace Z.row) (Z_NoSuch : Xc K mg "NoSuch" Z.noSuch Z.row) (Z_BadText : Xc K mg "BadText" Z.badText Z.row) (kk_noRow_noRow : PySem.W.kitOne K (.ref Z.noRow) (.ref Z.noRow) = some true) (kk_noRow_noPlace : PySem.W.kitOne K (.ref Z.noRow) (.ref Z.noPlace) = some false) (kk_noRow_noSuch : PySem.W.kitOne K (.ref Z.noRow) (.ref Z.noSuch) = some false) (kk_noRow_badText : PySem.W.kitOne K (.ref Z.noRow) (.ref Z.badText) = some false) (kk_noRow_VE : PySem.W.kitOne K (.ref Z.noRow) (.type "ValueError") = some true) (kk_noPlace_noRow : PySem.W.kitOne K (.ref Z.noPlace) (.ref Z.noRow) = some false) (kk_noPlace_noPlace : PySem.W.kitOne K (.ref Z.noPlace) (.ref Z.noPlace) = some true) (kk_noPlace_noSuch : PySem.W.kitOne K (.ref Z.noPlace) (.ref Z.noSuch) = some false) (kk_noPlace_badText : PySem.W.kitOne K (.ref Z.noPlace) (.ref Z.badText) = some false) (kk_noPlace_VE : PySem.W.kitOne K (.ref Z.noPlace) (.type "ValueError") = some true) (kk_noSuch_noRow : PySem.W.kitOne K (.ref Z.noSuch) (.ref Z.noRow) = some false) (kk_noSuch_noPlace : PySem.W.kitOne K (.ref Z.noSuch) (.ref Z.noPlace) = some false) (kk_noSuch_noSuch : PySem.W.kitOne K (.ref Z.noSuch) (.ref Z.noSuch) = some true) (kk_noSuch_badText : PySem.W.kitOne K (.ref Z.noSuch) (.ref Z.badText) = some false) (kk_noSuch_VE : PySem.W.kitOne K (.ref Z.noSuch) (.type "ValueError") = some true) (kk_badText_noRow : PySem.W.kitOne K (.ref Z.badText) (.ref Z.noRow) = some false) (kk_badText_noPlace : PySem.W.kitOne K (.ref Z.badText) (.ref Z.noPlace) = some false) (kk_badText_noSuch : PySem.W.kitOne K (.ref Z.badText) (.ref Z.noSuch) = some false) (kk_badText_badText : PySem.W.kitOne K (.ref Z.badText) (.ref Z.badText) = some true) (kk_badText_VE : PySem.W.kitOne K (.ref Z.badText) (.type "ValueError") = some true) (c_neighbour : Ca (L2.CX P w) P w K mg base 4 "neighbour" (sp_neighbour Z T K)) (c_neighbours : Ca CX0 P w K mg base 4 "neighbours" (sp_neighbours T K)) (c_is_root : Ca CX0 P w K mg base 4 "is_root" (sp_is_root T K)) (c_comes_from : Ca CX0 P w K mg base 5 "comes_from" (sp_comes_from T K)) (c_children : Ca CX0 P w K mg base 4 "children" (sp_children T K)) (c_way : Ca CX0 P w K mg base 6 "way" (sp_way T K)) (c_led : Ca (L2.CX P w) P w K mg base 5 "led" (sp_led Z T K)) (c_shown : Ca CX0 P w K mg base 4 "shown" (sp_shown T K)) (r_neighbours : Ca (L2.CX P w) P w K mg base 4 "neighbours" (spR Z T K)) (r_is_root : Ca (L2.CX P w) P w K mg base 4 "is_root" (spR Z T K)) (r_comes_from : Ca (L2.CX P w) P w K mg base 5 "comes_from" (spR Z T K)) (r_children : Ca (L2.CX P w) P w K mg base 4 "children" (spR Z T K)) (r_way : Ca (L2.CX P w) P w K mg base 6 "way" (spR Z T K)) (r_shown : Ca (L2.CX P w) P w K mg base 4 "shown" (spR Z T K)) (D : Df K mg "_law_call" s__law_call ["call", "times", "row", "place"]) : Ca (L2.CX P w) P w K mg base 7 "_law_call" (sp__law_call Z T K) := by
  refine D.caX sc__law_call (fun vs H Q E ⟨q, e, _⟩ => by rw [e]; rfl) (fun cdv A outer s H vs Q E f hr h => ?_)
  obtain ⟨⟨c, t, a, ns, p⟩, hv, h⟩ := h
  dsimp only at hv h
  subst hv
  obtain ⟨hS, hW, hl, ht, hc8, hT, hsz, hB, kx, kp, k⟩ := h
  refine ⟨_, (Evl.pss_cut (ps_if (pt_cmpR op_eq (pv 0) pe_int (nomark _)) (pss_one (ps_expr (pe_k c_neighbour hr (by decide) (passes_call (takes_of rfl rfl rfl rfl) fun _ _ _ _ h => h) (by rfl) (pa_cons (pv 1) (pa_cons (pv 2) (pa_cons (pv 3) pa_nil)))))) pss_nil)
      (Evl.pss_cut (ps_if (pt_cmpR op_eq (pv 0) pe_int (nomark _)) (pss_one (ps_expr (pe_or (pe_k0 c_neighbours hr (by decide) (by rfl) (pa_cons (pv 1) (pa_cons (pv 2) pa_nil))) (pe_k r_neighbours hr (by decide) (passes_call (takes_of rfl rfl rfl rfl) fun _ _ _ _ h => h) (by rfl) (pa_cons (pv 1) (pa_cons (pv 2) pa_nil)))))) pss_nil)
      (Evl.pss_cut (ps_if (pt_cmpR op_eq (pv 0) pe_int (nomark _)) (pss_one (ps_expr (pe_or (pe_k0 c_is_root hr (by decide) (by rfl) (pa_cons (pv 1) (pa_cons (pv 2) pa_nil))) (pe_k r_is_root hr (by decide) (passes_call (takes_of rfl rfl rfl rfl) fun _ _ _ _ h => h) (by rfl) (pa_cons (pv 1) (pa_cons (pv 2) pa_nil)))))) pss_nil)
      (Evl.pss_cut (ps_if (pt_cmpR op_eq (pv 0) pe_int (nomark _)) (pss_one (ps_expr (pe_or (pe_k0 c_comes_from hr (by decide) (by rfl) (pa_cons (pv 1) (pa_cons (pv 2) pa_nil))) (pe_k r_comes_from hr (by decide) (passes_call (takes_of rfl rfl rfl rfl) fun _ _ _ _ h => h) (by rfl) (pa_cons (pv 1) (pa_cons (pv 2) pa_nil)))))) pss_nil)
      (Evl.pss_cut (ps_if (pt_cmpR op_eq (pv 0) pe_int (nomark _)) (pss_one (ps_expr (pe_or (pe_k0 c_children hr (by decide) (by rfl) (pa_cons (pv 1) (pa_cons (pv 2) pa_nil))) (pe_k r_children hr (by decide) (passes_call (takes_of rfl rfl rfl rfl) fun _ _ _ _ h => h) (by rfl) (pa_cons (pv 1) (pa_cons (pv 2) pa_nil)))))) pss_nil)
      (Evl.pss_cut (ps_if (pt_cmpR op_eq (pv 0) pe_int (nomark _)) (pss_one (ps_expr (pe_or (pe_k0 c_way hr (by decide) (by rfl) (pa_cons (pv 1) (pa_cons (pv 2) pa_nil))) (pe_k r_way hr (by decide) (passes_call (takes_of rfl rfl rfl rfl) fun _ _ _ _ h => h) (by rfl) (pa_cons (pv 1) (pa_cons (pv 2) pa_nil)))))) pss_nil)
      (Evl.pss_cut (ps_if (pt_cmpR op_eq (pv 0) pe_int (nomark _)) (pss_one (ps_expr (pe_k c_led hr (by decide) (passes_call (takes_of rfl rfl rfl rfl) fun _ _ _ _ h => h) (by rfl) (pa_cons (pv 1) (pa_cons (pv 2) (pa_cons (pe_lst pa_nil) pa_nil)))))) pss_nil)
      (Evl.pss_cut (ps_if (pt_cmpR op_eq (pv 0) pe_int (nomark _)) (pss_one (ps_expr (pe_or (pe_k0 c_shown hr (by decide) (by rfl) (pa_cons (pv 1) (pa_cons (pv 2) pa_nil))) (pe_k r_shown hr (by decide) (passes_call (takes_of rfl rfl rfl rfl) fun _ _ _ _ h => h) (by rfl) (pa_cons (pv 1) (pa_cons (pv 2) pa_nil)))))) pss_nil)
      (pss_one (ps_if (pt_cmpR op_eq (pv 0) pe_int (nomark _)) (pss_one (ps_expr (pe_k c_led hr (by decide) (passes_call (takes_of rfl rfl rfl rfl) fun _ _ _ _ h => h) (by rfl) (pa_cons (pv 1) (pa_cons (pv 2) (pa_cons (pe_lst (pa_cons (pv 3) pa_nil)) pa_nil)))))) pss_nil)))))))))), ?_⟩
  have hbig : IsRow t ns → ∀ n ∈ ns, n < 10 ^ 400 := fun hR n hn => Int.lt_of_le_of_lt (mem_sum hR.pos hn) (Int.lt_trans (hsz hR) (by decide +kernel))
  have e0 : Ex T H H := .refl
  have hWl : ∀ i r, ledO t ns ([p].take i) = some r → Wd t r := fun i r hr => by
    cases i with
    | zero =>
      cases hr
      exact hW
    | succ i =>
      rw [List.take_succ_cons, List.take_nil] at hr
      by_cases z : 0 ≤ p ∧ p < (ns.length : Int)
      · have e : ledO t ns [p] = some (near t ns p.toNat) := if_pos z
        rw [e] at hr
        cases hr
        exact ⟨hW.ht, by rw [near_len (by omega)]; exact hW.len, 10 + 5 * 330 + 2, by decide, by decide, hB.near hW.ht (by omega) hW.len⟩
      · have e : ledO t ns [p] = none := if_neg z
        rw [e] at hr
        cases hr
  have hk0 : (IsRow t ns ∧ ¬ ((c = 0 ∨ c = 8) ∧ ¬ (0 ≤ p ∧ p < (ns.length : Int)))) ∨ 0 ≤ c := .inr (Nat.zero_le _)
  refine q_cut (M := fun σ' H' => σ' = [some (.int (c : Int)), some (.int t), some (.ref a), some (.int p)] ∧ Ex T H H' ∧ ((IsRow t ns ∧ ¬ ((c = 0 ∨ c = 8) ∧ ¬ (0 ≤ p ∧ p < (ns.length : Int)))) ∨ 1 ≤ c)) ?_ ?_
  · refine s_when (T := T) (et_test (ev_eqI (ev_var rfl) ev_c)) (fun hb H1 e1 => ?_) (fun hb H1 e1 => ⟨rfl, e0.trans e1, ?_⟩)
    · have hck : c = 0 := by have := of_decide_eq_true hb; omega
      have e1 := e0.trans e1
      by_cases hR : IsRow t ns
      · exact drop_call (T := T) (ea_cons (ev_var rfl) (ea_cons (ev_var rfl) (ea_cons (ev_var rfl) ea_nil))) fun H2 e2 => ⟨(t, a, ns, p), rfl, (e1.trans e2).sq hS, hW, fun h => absurd hR h, fun _ hp H' e' => kp hR (.inl hck) hp H' (e1.trans (e2.trans e')), fun _ m' hm' hml p' H' _ e' _ => by
          have hm2 : p = (m' : Int) := hm'
          have hml2 : m' < ns.length := hml
          exact ⟨rfl, e1.trans (e2.trans e'), .inl ⟨hR, (fun q => q.2 ⟨by omega, by omega⟩)⟩⟩⟩
      · exact drop_call (T := T) (ea_cons (ev_var rfl) (ea_cons (ev_var rfl) (ea_cons (ev_var rfl) ea_nil))) fun H2 e2 => ⟨(t, a, ns, p), rfl, (e1.trans e2).sq hS, hW, fun _ H' e' => kx hR H' (e1.trans (e2.trans e')), fun h => absurd h hR, fun h => absurd h hR⟩
    · have hne : ¬ (c : Int) = 0 := of_decide_eq_false hb
      exact hk0.imp id fun h => by omega
  rintro σ' H100 ⟨rfl, e1', hk1⟩
  replace e0 := e1'
  refine q_cut (M := fun σ' H' => σ' = [some (.int (c : Int)), some (.int t), some (.ref a), some (.int p)] ∧ Ex T H H' ∧ ((IsRow t ns ∧ ¬ ((c = 0 ∨ c = 8) ∧ ¬ (0 ≤ p ∧ p < (ns.length : Int)))) ∨ 2 ≤ c)) ?_ ?_
  · refine s_when (T := T) (et_test (ev_eqI (ev_var rfl) ev_c)) (fun hb H1 e1 => ?_) (fun hb H1 e1 => ⟨rfl, e0.trans e1, ?_⟩)
    · have hck : c = 1 := by have := of_decide_eq_true hb; omega
      have e1 := e0.trans e1
      by_cases hR : IsRow t ns
      · exact drop_l (drop_call (T := T) (ea_cons (ev_var rfl) (ea_cons (ev_var rfl) ea_nil)) fun H2 e2 => ⟨(t, a, ns), rfl, (e1.trans e2).sq hS, hW, hR, fun _ _ H' e' _ => ⟨rfl, e1.trans (e2.trans e'), .inl ⟨hR, (fun q => by omega)⟩⟩⟩)
      · exact drop_r (drop_call (T := T) (ea_cons (ev_var rfl) (ea_cons (ev_var rfl) ea_nil)) fun H2 e2 => ⟨(t, a, ns), rfl, (e1.trans e2).sq hS, hW, hR, fun H' e' => kx hR H' (e1.trans (e2.trans e'))⟩)
    · have hne : ¬ (c : Int) = 1 := of_decide_eq_false hb
      exact hk1.imp id fun h => by omega
  rintro σ' H101 ⟨rfl, e2', hk2⟩
  replace e0 := e2'
  refine q_cut (M := fun σ' H' => σ' = [some (.int (c : Int)), some (.int t), some (.ref a), some (.int p)] ∧ Ex T H H' ∧ ((IsRow t ns ∧ ¬ ((c = 0 ∨ c = 8) ∧ ¬ (0 ≤ p ∧ p < (ns.length : Int)))) ∨ 3 ≤ c)) ?_ ?_
  · refine s_when (T := T) (et_test (ev_eqI (ev_var rfl) ev_c)) (fun hb H1 e1 => ?_) (fun hb H1 e1 => ⟨rfl, e0.trans e1, ?_⟩)
    · have hck : c = 2 := by have := of_decide_eq_true hb; omega
      have e1 := e0.trans e1
      by_cases hR : IsRow t ns
      · exact drop_l (drop_call (T := T) (ea_cons (ev_var rfl) (ea_cons (ev_var rfl) ea_nil)) fun H2 e2 => ⟨(t, a, ns), rfl, (e1.trans e2).sq hS, hW, hR, by show 0 < ns.length; omega, fun H' e' => ⟨rfl, e1.trans (e2.trans e'), .inl ⟨hR, (fun q => by omega)⟩⟩⟩)
      · exact drop_r (drop_call (T := T) (ea_cons (ev_var rfl) (ea_cons (ev_var rfl) ea_nil)) fun H2 e2 => ⟨(t, a, ns), rfl, (e1.trans e2).sq hS, hW, hR, fun H' e' => kx hR H' (e1.trans (e2.trans e'))⟩)
    · have hne : ¬ (c : Int) = 2 := of_decide_eq_false hb
      exact hk2.imp id fun h => by omega
  rintro σ' H102 ⟨rfl, e3', hk3⟩
  replace e0 := e3'
  refine q_cut (M := fun σ' H' => σ' = [some (.int (c : Int)), some (.int t), some (.ref a), some (.int p)] ∧ Ex T H H' ∧ ((IsRow t ns ∧ ¬ ((c = 0 ∨ c = 8) ∧ ¬ (0 ≤ p ∧ p < (ns.length : Int)))) ∨ 4 ≤ c)) ?_ ?_
  · refine s_when (T := T) (et_test (ev_eqI (ev_var rfl) ev_c)) (fun hb H1 e1 => ?_) (fun hb H1 e1 => ⟨rfl, e0.trans e1, ?_⟩)
    · have hck : c = 3 := by have := of_decide_eq_true hb; omega
      have e1 := e0.trans e1
      by_cases hR : IsRow t ns
      · exact drop_l (drop_call (T := T) (ea_cons (ev_var rfl) (ea_cons (ev_var rfl) ea_nil)) fun H2 e2 => ⟨(t, a, ns), rfl, (e1.trans e2).sq hS, hW, hR, by show 0 < ns.length; omega, fun _ H' e' => ⟨rfl, e1.trans (e2.trans e'), .inl ⟨hR, (fun q => by omega)⟩⟩, fun _ p' H' _ e' _ => ⟨rfl, e1.trans (e2.trans e'), .inl ⟨hR, (fun q => by omega)⟩⟩⟩)
      · exact drop_r (drop_call (T := T) (ea_cons (ev_var rfl) (ea_cons (ev_var rfl) ea_nil)) fun H2 e2 => ⟨(t, a, ns), rfl, (e1.trans e2).sq hS, hW, hR, fun H' e' => kx hR H' (e1.trans (e2.trans e'))⟩)
    · have hne : ¬ (c : Int) = 3 := of_decide_eq_false hb
      exact hk3.imp id fun h => by omega
  rintro σ' H103 ⟨rfl, e4', hk4⟩
  replace e0 := e4'
  refine q_cut (M := fun σ' H' => σ' = [some (.int (c : Int)), some (.int t), some (.ref a), some (.int p)] ∧ Ex T H H' ∧ ((IsRow t ns ∧ ¬ ((c = 0 ∨ c = 8) ∧ ¬ (0 ≤ p ∧ p < (ns.length : Int)))) ∨ 5 ≤ c)) ?_ ?_
  · refine s_when (T := T) (et_test (ev_eqI (ev_var rfl) ev_c)) (fun hb H1 e1 => ?_) (fun hb H1 e1 => ⟨rfl, e0.trans e1, ?_⟩)
    · have hck : c = 4 := by have := of_decide_eq_true hb; omega
      have e1 := e0.trans e1
      by_cases hR : IsRow t ns
      · exact drop_l (drop_call (T := T) (ea_cons (ev_var rfl) (ea_cons (ev_var rfl) ea_nil)) fun H2 e2 => ⟨(t, a, ns), rfl, (e1.trans e2).sq hS, hW, hR, (e1.trans e2).t hT, fun _ _ H' e' _ => ⟨rfl, e1.trans (e2.trans e'), .inl ⟨hR, (fun q => by omega)⟩⟩⟩)
      · exact drop_r (drop_call (T := T) (ea_cons (ev_var rfl) (ea_cons (ev_var rfl) ea_nil)) fun H2 e2 => ⟨(t, a, ns), rfl, (e1.trans e2).sq hS, hW, hR, fun H' e' => kx hR H' (e1.trans (e2.trans e'))⟩)
    · have hne : ¬ (c : Int) = 4 := of_decide_eq_false hb
      exact hk4.imp id fun h => by omega
  rintro σ' H104 ⟨rfl, e5', hk5⟩
  replace e0 := e5'
  refine q_cut (M := fun σ' H' => σ' = [some (.int (c : Int)), some (.int t), some (.ref a), some (.int p)] ∧ Ex T H H' ∧ ((IsRow t ns ∧ ¬ ((c = 0 ∨ c = 8) ∧ ¬ (0 ≤ p ∧ p < (ns.length : Int)))) ∨ 6 ≤ c)) ?_ ?_
  · refine s_when (T := T) (et_test (ev_eqI (ev_var rfl) ev_c)) (fun hb H1 e1 => ?_) (fun hb H1 e1 => ⟨rfl, e0.trans e1, ?_⟩)
    · have hck : c = 5 := by have := of_decide_eq_true hb; omega
      have e1 := e0.trans e1
      by_cases hR : IsRow t ns
      · exact drop_l (drop_call (T := T) (ea_cons (ev_var rfl) (ea_cons (ev_var rfl) ea_nil)) fun H2 e2 => ⟨(t, a, ns), rfl, (e1.trans e2).sq hS, ht, hR, hl, ⟨9, by decide, by decide, hsz hR⟩, fun _ _ _ _ _ _ H' e' _ _ _ _ _ _ _ => ⟨rfl, e1.trans (e2.trans e'), .inl ⟨hR, (fun q => by omega)⟩⟩⟩)
      · exact drop_r (drop_call (T := T) (ea_cons (ev_var rfl) (ea_cons (ev_var rfl) ea_nil)) fun H2 e2 => ⟨(t, a, ns), rfl, (e1.trans e2).sq hS, hW, hR, fun H' e' => kx hR H' (e1.trans (e2.trans e'))⟩)
    · have hne : ¬ (c : Int) = 5 := of_decide_eq_false hb
      exact hk5.imp id fun h => by omega
  rintro σ' H105 ⟨rfl, e6', hk6⟩
  replace e0 := e6'
  refine q_cut (M := fun σ' H' => σ' = [some (.int (c : Int)), some (.int t), some (.ref a), some (.int p)] ∧ Ex T H H' ∧ ((IsRow t ns ∧ ¬ ((c = 0 ∨ c = 8) ∧ ¬ (0 ≤ p ∧ p < (ns.length : Int)))) ∨ 7 ≤ c)) ?_ ?_
  · refine s_when (T := T) (et_test (ev_eqI (ev_var rfl) ev_c)) (fun hb H1 e1 => ?_) (fun hb H1 e1 => ⟨rfl, e0.trans e1, ?_⟩)
    · have hck : c = 6 := by have := of_decide_eq_true hb; omega
      have e1 := e0.trans e1
      by_cases hR : IsRow t ns
      · refine drop_call3L (T := T) (zs := vz []) (ev_var rfl) (ev_var rfl) (el_lst ea_nil (Nat.zero_le _)) fun b H2 e2 hb2 => ⟨(t, a, ns, b, []), rfl, (e1.trans e2).sq hS, SqL.of hb2, hW, by show 2 ≤ ns.length; omega, fun i r hr => ?_, fun h => absurd hR h, fun _ h => (nomatch (h : some ns = none)), fun _ r hr p' H' _ e' _ => ⟨rfl, e1.trans (e2.trans e'), .inl ⟨hR, (fun q => by omega)⟩⟩⟩
        rw [List.take_nil] at hr
        cases hr
        exact hW
      · refine drop_call3L (T := T) (zs := vz []) (ev_var rfl) (ev_var rfl) (el_lst ea_nil (Nat.zero_le _)) fun b H2 e2 hb2 => ⟨(t, a, ns, b, []), rfl, (e1.trans e2).sq hS, SqL.of hb2, hW, by show 2 ≤ ns.length; omega, fun i r hr => ?_, fun _ H' e' => kx hR H' (e1.trans (e2.trans e')), fun h => absurd h hR, fun h => absurd h hR⟩
        rw [List.take_nil] at hr
        cases hr
        exact hW
    · have hne : ¬ (c : Int) = 6 := of_decide_eq_false hb
      exact hk6.imp id fun h => by omega
  rintro σ' H106 ⟨rfl, e7', hk7⟩
  replace e0 := e7'
  refine q_cut (M := fun σ' H' => σ' = [some (.int (c : Int)), some (.int t), some (.ref a), some (.int p)] ∧ Ex T H H' ∧ ((IsRow t ns ∧ ¬ ((c = 0 ∨ c = 8) ∧ ¬ (0 ≤ p ∧ p < (ns.length : Int)))) ∨ 8 ≤ c)) ?_ ?_
  · refine s_when (T := T) (et_test (ev_eqI (ev_var rfl) ev_c)) (fun hb H1 e1 => ?_) (fun hb H1 e1 => ⟨rfl, e0.trans e1, ?_⟩)
    · have hck : c = 7 := by have := of_decide_eq_true hb; omega
      have e1 := e0.trans e1
      by_cases hR : IsRow t ns
      · exact drop_l (drop_call (T := T) (ea_cons (ev_var rfl) (ea_cons (ev_var rfl) ea_nil)) fun H2 e2 => ⟨(t, a, ns), rfl, (e1.trans e2).sq hS, hW, hR, ht.1, hbig hR, fun H' e' => ⟨rfl, e1.trans (e2.trans e'), .inl ⟨hR, (fun q => by omega)⟩⟩⟩)
      · exact drop_r (drop_call (T := T) (ea_cons (ev_var rfl) (ea_cons (ev_var rfl) ea_nil)) fun H2 e2 => ⟨(t, a, ns), rfl, (e1.trans e2).sq hS, hW, hR, fun H' e' => kx hR H' (e1.trans (e2.trans e'))⟩)
    · have hne : ¬ (c : Int) = 7 := of_decide_eq_false hb
      exact hk7.imp id fun h => by omega
  rintro σ' H107 ⟨rfl, e8', hk8⟩
  replace e0 := e8'
  refine s_when (T := T) (et_test (ev_eqI (ev_var rfl) ev_c)) (fun hb H1 e1 => ?_) (fun hb H1 e1 => ?_)
  · have hck : c = 8 := by have := of_decide_eq_true hb; omega
    have e1 := e0.trans e1
    by_cases hR : IsRow t ns
    · have hled : ∀ r, ledO t ns [p] = some r → 0 ≤ p ∧ p < (ns.length : Int) := fun r hr => by
        refine Classical.byContradiction fun z => ?_
        have e : ledO t ns [p] = none := if_neg z
        rw [e] at hr
        cases hr
      refine drop_call3L (T := T) (zs := vz [p]) (ev_var rfl) (ev_var rfl) (el_lst (vs := vz [p]) (ea_cons (ev_var rfl) ea_nil) (show 1 ≤ 1000 by decide)) fun b H2 e2 hb2 => ⟨(t, a, ns, b, [p]), rfl, (e1.trans e2).sq hS, SqL.of hb2, hW, by show 2 ≤ ns.length; omega, fun i r hr => ?_, fun h => absurd hR h, fun _ hn H' e' => kp hR (.inr hck) (fun z => by have e : ledO t ns [p] = some (near t ns p.toNat) := if_pos z; rw [e] at hn; cases hn) H' (e1.trans (e2.trans e')), fun _ r hr p' H' _ e' _ => k hR (fun q => q.2 (hled r hr)) H' (e1.trans (e2.trans e'))⟩
      exact hWl i r hr
    · refine drop_call3L (T := T) (zs := vz [p]) (ev_var rfl) (ev_var rfl) (el_lst (vs := vz [p]) (ea_cons (ev_var rfl) ea_nil) (show 1 ≤ 1000 by decide)) fun b H2 e2 hb2 => ⟨(t, a, ns, b, [p]), rfl, (e1.trans e2).sq hS, SqL.of hb2, hW, by show 2 ≤ ns.length; omega, fun i r hr => ?_, fun _ H' e' => kx hR H' (e1.trans (e2.trans e')), fun h => absurd h hR, fun h => absurd h hR⟩
      exact hWl i r hr
  · have hne : ¬ (c : Int) = 8 := of_decide_eq_false hb
    have hg : (IsRow t ns ∧ ¬ ((c = 0 ∨ c = 8) ∧ ¬ (0 ≤ p ∧ p < (ns.length : Int)))) := hk8.resolve_right (by omega)
    exact k hg.1 hg.2 H1 (e0.trans e1)

/-! ### _law_kinds -/
/-- what is due -/
def dueB (c : Nat) (t : Int) (ns : List Int) (p : Int) : List Bool := if ¬ IsRow t ns then [true, false, false, false, true] else if (c = 0 ∨ c = 8) ∧ ¬ (0 ≤ p ∧ p < (ns.length : Int)) then [false, true, false, false, true] else []
def sp__law_kinds (T : Tb) (K : PySem.W.Frag) : Sp := spM (α := Nat × Int × Addr × List Int × Int) (fun q => [.int (q.1 : Int), .int q.2.1, .ref q.2.2.1, .int q.2.2.2.2]) fun q H Q _ => SqL K H q.2.2.1 (vz q.2.2.2.1) ∧ Wd q.2.1 q.2.2.2.1 ∧ (3 ≤ q.2.2.2.1.length ∧ q.2.2.2.1.length ≤ 6) ∧ (1 ≤ q.2.1 ∧ q.2.1 ≤ 1000) ∧ q.1 ≤ 9 ∧ LamX.Tabs T H ∧ (IsRow q.2.1 q.2.2.2.1 → q.2.2.2.1.sum < 2 ^ (2 ^ 9)) ∧ Bd 330 q.2.2.2.1 ∧ (q.1 = 9 → q.2.2.2.1.sum ≤ 400) ∧
  ∀ p H', Ex T H H' → H' p = some (.lst (vb (dueB q.1 q.2.1 q.2.2.2.1 q.2.2.2.2))) → Q (.ref p) H'
theorem ok__law_kinds {P : Program} {w : World} {K : PySem.W.Frag} {mg : Str → Option Value} {base : Heap} {T : Tb} (B : Bi mg) {Z : Ze} (Z_RowError : Xc K mg "RowError" Z.row Z.row) (Z_NoRow : Xc K mg "NoRow" Z.noRow Z.row) (Z_NoPlace : Xc K mg "NoPlace" Z.noPlace Z.row) (Z_NoSuch : Xc K mg "NoSuch" Z.noSuch Z.row) (Z_BadText : Xc K mg "BadText" Z.badText Z.row) (kk_noRow_noRow : PySem.W.kitOne K (.ref Z.noRow) (.ref Z.noRow) = some true) (kk_noRow_noPlace : PySem.W.kitOne K (.ref Z.noRow) (.ref Z.noPlace) = some false) (kk_noRow_noSuch : PySem.W.kitOne K (.ref Z.noRow) (.ref Z.noSuch) = some false) (kk_noRow_badText : PySem.W.kitOne K (.ref Z.noRow) (.ref Z.badText) = some false) (kk_noRow_VE : PySem.W.kitOne K (.ref Z.noRow) (.type "ValueError") = some true) (kk_noPlace_noRow : PySem.W.kitOne K (.ref Z.noPlace) (.ref Z.noRow) = some false) (kk_noPlace_noPlace : PySem.W.kitOne K (.ref Z.noPlace) (.ref Z.noPlace) = some true) (kk_noPlace_noSuch : PySem.W.kitOne K (.ref Z.noPlace) (.ref Z.noSuch) = some false) (kk_noPlace_badText : PySem.W.kitOne K (.ref Z.noPlace) (.ref Z.badText) = some false) (kk_noPlace_VE : PySem.W.kitOne K (.ref Z.noPlace) (.type "ValueError") = some true) (kk_noSuch_noRow : PySem.W.kitOne K (.ref Z.noSuch) (.ref Z.noRow) = some false) (kk_noSuch_noPlace : PySem.W.kitOne K (.ref Z.noSuch) (.ref Z.noPlace) = some false) (kk_noSuch_noSuch : PySem.W.kitOne K (.ref Z.noSuch) (.ref Z.noSuch) = some true) (kk_noSuch_badText : PySem.W.kitOne K (.ref Z.noSuch) (.ref Z.badText) = some false) (kk_noSuch_VE : PySem.W.kitOne K (.ref Z.noSuch) (.type "ValueError") = some true) (kk_badText_noRow : PySem.W.kitOne K (.ref Z.badText) (.ref Z.noRow) = some false) (kk_badText_noPlace : PySem.W.kitOne K (.ref Z.badText) (.ref Z.noPlace) = some false) (kk_badText_noSuch : PySem.W.kitOne K (.ref Z.badText) (.ref Z.noSuch) = some false) (kk_badText_badText : PySem.W.kitOne K (.ref Z.badText) (.ref Z.badText) = some true) (kk_badText_VE : PySem.W.kitOne K (.ref Z.badText) (.type "ValueError") = some true) (c_place_of : Ca CX0 P w K mg base 8 "place_of" (sp_place_of T K)) (c__law_call : Ca (L2.CX P w) P w K mg base 7 "_law_call" (sp__law_call Z T K)) (r_place_of : Ca (L2.CX P w) P w K mg base 8 "place_of" (spR Z T K)) (D : Df K mg "_law_kinds" s__law_kinds ["call", "times", "row", "place"]) : Ca CX0 P w K mg base 9 "_law_kinds" (sp__law_kinds T K) := by
  refine D.ca0 sc__law_kinds (fun vs H Q E ⟨q, e, _⟩ => by rw [e]; rfl) (fun cdv A outer s H vs Q E f hr h => ?_)
  obtain ⟨⟨c, t, a, ns, p⟩, hv, h⟩ := h
  dsimp only at hv h
  subst hv
  obtain ⟨hS, hW, hl, ht, hc9, hT, hsz, hB, hs4, k⟩ := h
  refine ⟨_, (pss_cons (ps_set (i := 4) sc__law_kinds.nd rfl (.inl rfl) (pe_lst pa_nil))
      (pss_cons (ps_try_as (i := 5) (Wout := fun _ _ _ _ => False) rfl rfl sc__law_kinds.nd rfl rfl ⟨rfl, by decide, .inl Z_RowError.g⟩ takes0 (fun W pn xe tk _ => (pss_one (ps_if (pt_cmpR op_eq (pv 0) pe_int (nomark _)) (pss_one (ps_expr (pe_or (pe_k0 c_place_of hr (by decide) (by rfl) (pa_cons (pv 1) (pa_cons (pv 2) pa_nil))) (by exact (pe_kS r_place_of hr (by decide) (fun σ => passAt tk σ) (by rfl) (by exact (pa_cons (pv 1) (pa_cons (pv 2) pa_nil)))))))) (pss_one (ps_expr (by exact (pe_kS c__law_call hr (by decide) (fun σ => passAt tk σ) (by rfl) (by exact (pa_cons (pv 0) (pa_cons (pv 1) (pa_cons (pv 2) (pa_cons (pv 3) pa_nil))))))))))))
      (fun a oe cls d pn hz hf => (pss_cons (ps_set (i := 4) sc__law_kinds.nd rfl (.inl rfl) (pe_lst (pa_cons (pe_callB (call_isX (K := K) rfl hz hf) (by rfl) B.isinstance boot_isinstance (pa_cons (pv 5) (pa_cons (pe_glob (v := .ref Z.noRow) rfl Z_NoRow.g rfl) pa_nil))) (pa_cons (pe_callB (call_isX (K := K) rfl hz hf) (by rfl) B.isinstance boot_isinstance (pa_cons (pv 5) (pa_cons (pe_glob (v := .ref Z.noPlace) rfl Z_NoPlace.g rfl) pa_nil))) (pa_cons (pe_callB (call_isX (K := K) rfl hz hf) (by rfl) B.isinstance boot_isinstance (pa_cons (pv 5) (pa_cons (pe_glob (v := .ref Z.noSuch) rfl Z_NoSuch.g rfl) pa_nil))) (pa_cons (pe_callB (call_isX (K := K) rfl hz hf) (by rfl) B.isinstance boot_isinstance (pa_cons (pv 5) (pa_cons (pe_glob (v := .ref Z.badText) rfl Z_BadText.g rfl) pa_nil))) pa_nil))))))
      (pss_one (ps_set (i := 4) sc__law_kinds.nd rfl (.inl rfl) (pe_op op_cat (pv 4) (pe_lst (pa_cons (pe_callB (call_isX (K := K) rfl hz hf) (by rfl) B.isinstance boot_isinstance (pa_cons (pv 5) (pa_cons (pe_bltn (v := .ty "ValueError") (by rfl) B.ValueError (by decide +kernel) rfl) pa_nil))) pa_nil))))))))
      (pss_one (ps_ret (pv 4))))), ?_⟩
  refine q_asgL (T := T) (xs := []) (el_lst ea_nil (Nat.zero_le _)) fun l H1 hl0 e1 h1 => ?_
  refine q_seq ?_
  have good : dueB c t ns p = [] → ∀ {H' : Hp}, Ex T H1 H' → Q (.ref l) H' := fun hd H' e => k l H' (e1.trans e) (by rw [hd]; exact e.lst h1)
  refine s_if (T := T) (et_test (ev_eqI (ev_var rfl) ev_c)) (fun hb H2 e2 => ?_) (fun hb H2 e2 => ?_)
  · have hc : c = 9 := by have := of_decide_eq_true hb; omega
    have E2 := e1.trans e2
    by_cases hR : IsRow t ns
    · obtain ⟨rs, j, hA, hj⟩ := small_up ht.1 hl hR rfl (hs4 hc)
      have hd : dueB c t ns p = [] := by
        unfold dueB
        rw [if_neg (fun z => z hR), if_neg (fun z => by omega)]
      refine drop_l (drop_call (T := T) (ea_cons (ev_var rfl) (ea_cons (ev_var rfl) ea_nil)) fun H3 e3 => ⟨(t, a, ns, rs, j), rfl, (E2.trans e3).sq hS, hW, hR, hl, ht, by have := hs4 hc; show ns.sum ≤ 1000000; omega, hA, hj, (E2.trans e3).t hT, fun H' e' => ?_⟩)
      exact s_ret (T := T) (ev_var rfl) fun H4 e4 => good hd (e2.trans (e3.trans (e'.trans e4)))
    · have hd : dueB c t ns p = [true, false, false, false, true] := if_pos hR
      refine drop_r (drop_callS (T := T) (ea_cons (ev_var rfl) (ea_cons (ev_var rfl) ea_nil)) fun H3 e3 => ⟨(t, a, ns), rfl, (E2.trans e3).sq hS, hW, hR, fun H4 e4 => ⟨true, Z_NoRow.e, fun _ x hx => ?_, fun h => (by cases h)⟩⟩)
      refine q_asgL (T := T) (xs := vb [true, false, false, false]) (el_lst (ea_cons (ev_isX (ev_var rfl) ev_c rfl rfl Z_NoRow.i (fun _ h => h) kk_noRow_noRow) (ea_cons (ev_isX (ev_var rfl) ev_c rfl rfl Z_NoRow.i (fun _ h => h) kk_noRow_noPlace) (ea_cons (ev_isX (ev_var rfl) ev_c rfl rfl Z_NoRow.i (fun _ h => h) kk_noRow_noSuch) (ea_cons (ev_isX (ev_var rfl) ev_c rfl rfl Z_NoRow.i (fun _ h => h) kk_noRow_badText) ea_nil)))) (show 4 ≤ 1000 by decide)) fun m5 H5 hm5 e5 h5 => ?_
      refine s_asgL (T := T) (xs := vb [true, false, false, false, true]) (el_catN (ev_var rfl) h5 (el_lst (vs := vb [true]) (ea_cons (ev_isX (ev_var rfl) ev_c rfl rfl Z_NoRow.i (fun _ h => h) kk_noRow_VE) ea_nil) (show 1 ≤ 1000 by decide)) (show 5 ≤ 1000 by decide)) fun m6 H6 hm6 e6 h6 => ?_
      exact s_ret (T := T) (ev_var rfl) fun H7 e7 => k m6 H7 (E2.trans (e3.trans (e4.trans (e5.trans (e6.trans e7))))) (by rw [hd]; exact e7.lst h6)
  · have hc : ¬ (c : Int) = 9 := of_decide_eq_false hb
    have E2 := e1.trans e2
    refine drop_callS (T := T) (ea_cons (ev_var rfl) (ea_cons (ev_var rfl) (ea_cons (ev_var rfl) (ea_cons (ev_var rfl) ea_nil)))) fun H3 e3 => ⟨(c, t, a, ns, p), rfl, (E2.trans e3).sq hS, hW, hl, ht, by show c ≤ 8; omega, (E2.trans e3).t hT, hsz, hB, fun hR H4 e4 => ⟨true, Z_NoRow.e, fun _ x hx => ?_, fun h => (by cases h)⟩, fun hR hcc hp H4 e4 => ⟨true, Z_NoPlace.e, fun _ x hx => ?_, fun h => (by cases h)⟩, fun hR hg H' e' => ?_⟩
    · have hd : dueB c t ns p = [true, false, false, false, true] := if_pos hR
      refine q_asgL (T := T) (xs := vb [true, false, false, false]) (el_lst (ea_cons (ev_isX (ev_var rfl) ev_c rfl rfl Z_NoRow.i (fun _ h => h) kk_noRow_noRow) (ea_cons (ev_isX (ev_var rfl) ev_c rfl rfl Z_NoRow.i (fun _ h => h) kk_noRow_noPlace) (ea_cons (ev_isX (ev_var rfl) ev_c rfl rfl Z_NoRow.i (fun _ h => h) kk_noRow_noSuch) (ea_cons (ev_isX (ev_var rfl) ev_c rfl rfl Z_NoRow.i (fun _ h => h) kk_noRow_badText) ea_nil)))) (show 4 ≤ 1000 by decide)) fun m5 H5 hm5 e5 h5 => ?_
      refine s_asgL (T := T) (xs := vb [true, false, false, false, true]) (el_catN (ev_var rfl) h5 (el_lst (vs := vb [true]) (ea_cons (ev_isX (ev_var rfl) ev_c rfl rfl Z_NoRow.i (fun _ h => h) kk_noRow_VE) ea_nil) (show 1 ≤ 1000 by decide)) (show 5 ≤ 1000 by decide)) fun m6 H6 hm6 e6 h6 => ?_
      exact s_ret (T := T) (ev_var rfl) fun H7 e7 => k m6 H7 (E2.trans (e3.trans (e4.trans (e5.trans (e6.trans e7))))) (by rw [hd]; exact e7.lst h6)
    · have hd : dueB c t ns p = [false, true, false, false, true] := by
        unfold dueB
        rw [if_neg (fun z => z hR), if_pos ⟨hcc, hp⟩]
      refine q_asgL (T := T) (xs := vb [false, true, false, false]) (el_lst (ea_cons (ev_isX (ev_var rfl) ev_c rfl rfl Z_NoPlace.i (fun _ h => h) kk_noPlace_noRow) (ea_cons (ev_isX (ev_var rfl) ev_c rfl rfl Z_NoPlace.i (fun _ h => h) kk_noPlace_noPlace) (ea_cons (ev_isX (ev_var rfl) ev_c rfl rfl Z_NoPlace.i (fun _ h => h) kk_noPlace_noSuch) (ea_cons (ev_isX (ev_var rfl) ev_c rfl rfl Z_NoPlace.i (fun _ h => h) kk_noPlace_badText) ea_nil)))) (show 4 ≤ 1000 by decide)) fun m5 H5 hm5 e5 h5 => ?_
      refine s_asgL (T := T) (xs := vb [false, true, false, false, true]) (el_catN (ev_var rfl) h5 (el_lst (vs := vb [true]) (ea_cons (ev_isX (ev_var rfl) ev_c rfl rfl Z_NoPlace.i (fun _ h => h) kk_noPlace_VE) ea_nil) (show 1 ≤ 1000 by decide)) (show 5 ≤ 1000 by decide)) fun m6 H6 hm6 e6 h6 => ?_
      exact s_ret (T := T) (ev_var rfl) fun H7 e7 => k m6 H7 (E2.trans (e3.trans (e4.trans (e5.trans (e6.trans e7))))) (by rw [hd]; exact e7.lst h6)
    · have hd : dueB c t ns p = [] := by
        unfold dueB
        rw [if_neg (fun z => z hR), if_neg hg]
      exact s_ret (T := T) (ev_var rfl) fun H4 e4 => good hd (e2.trans (e3.trans (e'.trans e4)))

/-! ### law -/
def sp_law (T : Tb) (K : PySem.W.Frag) : Sp := spM (α := Addr × List Int) (fun q => [.ref q.1]) fun q H Q _ => SqL K H q.1 (vz q.2) ∧ q.2.length ≤ 63 ∧ LamX.Tabs T H ∧ ∀ H', Q (.bl true) H'
theorem law_in {T : Tb} {K : PySem.W.Frag} {H : Hp} {a : Addr} {ns : List Int} (hS : SqL K H a (vz ns)) (hl : ns.length ≤ 63) (hT : LamX.Tabs T H) : sp_law T K [.ref a] H (fun v _ => v = .bl true) fun _ _ _ => False := ⟨(a, ns), rfl, hS, hl, hT, fun _ => rfl⟩
theorem mod_in (c : Int) {n : Int} (h : 0 < n) : 0 ≤ c % n ∧ c % n < n := ⟨Int.emod_nonneg c (by omega), Int.emod_lt_of_pos c h⟩
theorem sh_Bs (bs : List Bool) : SeqAt.shaped (dB bs) = true := by
  show (PyData.canLay0 (dB bs) && decide (PyData.depth (dB bs) ≤ 64)) = true
  have h1 : PyData.canLay0 (dB bs) = true := by
    show PyData.canLay0 (.list (bs.map .bool)) = true
    simp only [PyData.canLay0, lay_bools]
  have h2 : PyData.depth (dB bs) ≤ 64 := by
    show PyData.depth (.list (bs.map .bool)) ≤ 64
    simp only [PyData.depth, dep_bools]
    decide
  rw [h1, decide_eq_true h2]
  rfl
theorem eqv_Bs (bs cs : List Bool) : PyData.eqv (dB bs) (dB cs) = decide (bs = cs) := by
  show PyData.eqv (.list (bs.map .bool)) (.list (cs.map .bool)) = decide (bs = cs)
  simp only [PyData.eqv, eqvA_B]
theorem ev_eqRB {T : Tb} {K : PySem.W.Frag} {σ : L2.St} {H : Hp} {ta tb : TE} {q : Addr} {bs cs : List Bool} {R : Hp → V → Hp → Prop} (ha : EvR T ta σ H R) (hR : ∀ H1 v H2, Ex T H H1 → Ex T H1 H2 → R H1 v H2 → ∃ p, v = .ref p ∧ H2 p = some (.lst (vb bs))) (hb : Ev T tb σ H (.ref q)) (hq : H q = some (.lst (vb cs))) : Ev T (tOp (rEqD K) ta tb) σ H (.bl (decide (bs = cs))) := fun H1 e Q f =>
  ha H1 e _ fun v H2 e2 hv => by
    obtain ⟨p, rfl, hp⟩ := hR H1 v H2 e e2 hv
    exact hb H2 (e.trans e2) _ fun H3 e3 => ⟨dB bs, dB cs, .lst (SqL.of (e3.lst hp)) dp_bools, .lst (SqL.of (((e.trans e2).trans e3).lst hq)) dp_bools, sh_Bs _, sh_Bs _, by rw [eqv_Bs]; exact f H3 (e2.trans e3)⟩
theorem ok_law {P : Program} {w : World} {K : PySem.W.Frag} {mg : Str → Option Value} {base : Heap} {T : Tb} (B : Bi mg) {Z : Ze} (Z_RowError : Xc K mg "RowError" Z.row Z.row) (Z_NoRow : Xc K mg "NoRow" Z.noRow Z.row) (Z_NoPlace : Xc K mg "NoPlace" Z.noPlace Z.row) (Z_NoSuch : Xc K mg "NoSuch" Z.noSuch Z.row) (Z_BadText : Xc K mg "BadText" Z.badText Z.row) (kk_noRow_noRow : PySem.W.kitOne K (.ref Z.noRow) (.ref Z.noRow) = some true) (kk_noRow_noPlace : PySem.W.kitOne K (.ref Z.noRow) (.ref Z.noPlace) = some false) (kk_noRow_noSuch : PySem.W.kitOne K (.ref Z.noRow) (.ref Z.noSuch) = some false) (kk_noRow_badText : PySem.W.kitOne K (.ref Z.noRow) (.ref Z.badText) = some false) (kk_noRow_VE : PySem.W.kitOne K (.ref Z.noRow) (.type "ValueError") = some true) (kk_noPlace_noRow : PySem.W.kitOne K (.ref Z.noPlace) (.ref Z.noRow) = some false) (kk_noPlace_noPlace : PySem.W.kitOne K (.ref Z.noPlace) (.ref Z.noPlace) = some true) (kk_noPlace_noSuch : PySem.W.kitOne K (.ref Z.noPlace) (.ref Z.noSuch) = some false) (kk_noPlace_badText : PySem.W.kitOne K (.ref Z.noPlace) (.ref Z.badText) = some false) (kk_noPlace_VE : PySem.W.kitOne K (.ref Z.noPlace) (.type "ValueError") = some true) (kk_noSuch_noRow : PySem.W.kitOne K (.ref Z.noSuch) (.ref Z.noRow) = some false) (kk_noSuch_noPlace : PySem.W.kitOne K (.ref Z.noSuch) (.ref Z.noPlace) = some false) (kk_noSuch_noSuch : PySem.W.kitOne K (.ref Z.noSuch) (.ref Z.noSuch) = some true) (kk_noSuch_badText : PySem.W.kitOne K (.ref Z.noSuch) (.ref Z.badText) = some false) (kk_noSuch_VE : PySem.W.kitOne K (.ref Z.noSuch) (.type "ValueError") = some true) (kk_badText_noRow : PySem.W.kitOne K (.ref Z.badText) (.ref Z.noRow) = some false) (kk_badText_noPlace : PySem.W.kitOne K (.ref Z.badText) (.ref Z.noPlace) = some false) (kk_badText_noSuch : PySem.W.kitOne K (.ref Z.badText) (.ref Z.noSuch) = some false) (kk_badText_badText : PySem.W.kitOne K (.ref Z.badText) (.ref Z.badText) = some true) (kk_badText_VE : PySem.W.kitOne K (.ref Z.badText) (.type "ValueError") = some true) (c__law_drawn : Ca CX0 P w K mg base 3 "_law_drawn" (sp__law_drawn T K)) (c__law_cell_at : Ca CX0 P w K mg base 1 "_law_cell_at" (sp__law_cell_at T K)) (c__law_is_row : Ca CX0 P w K mg base 2 "_law_is_row" (sp__law_is_row T K)) (c__law_kinds : Ca CX0 P w K mg base 9 "_law_kinds" (sp__law_kinds T K)) {f : Addr} {fd : FuncData} (F : Fun K "law" "law" s_law f fd) : FnOk P w K mg base CX0 10 f fd ["script"] (sp_law T K) := by
  refine F.ok sc_law (fun vs H Q E ⟨q, e, _⟩ => by rw [e]; rfl) (fun cdv A outer s H vs Q E hr h => ?_)
  obtain ⟨⟨a, cs⟩, hv, h⟩ := h
  dsimp only at hv h
  subst hv
  obtain ⟨hS, hl63, hT, k⟩ := h
  refine ⟨_, (pss_cons (ps_set (i := 1) sc_law.nd rfl (.inl rfl) (pe_k0 c__law_drawn hr (by decide) (by rfl) (pa_cons (pv 0) pa_nil)))
      (pss_cons (ps_set (i := 2) sc_law.nd rfl (.inl rfl) (pe_ix ix_tup (pv 1) pe_int (fun _ _ => rfl)))
      (pss_cons (ps_set (i := 3) sc_law.nd rfl (.inl rfl) (pe_callTy call_listS (by rfl) B.list boot_list (pa_cons (pe_ix ix_tup (pv 1) pe_int (fun _ _ => rfl)) pa_nil)))
      (pss_cons (ps_set (i := 4) sc_law.nd rfl (.inl rfl) (pe_k0 c__law_cell_at hr (by decide) (by rfl) (pa_cons (pv 0) (pa_cons pe_int pa_nil))))
      (Evl.pss_cut (ps_if (pt_cmpR op_eq (pe_op op_mod (pv 4) pe_int) pe_int (nomark _)) (pss_one (ps_asg (pe_op op_sub (pe_op op_add (pe_ix ix_list (pv 3) (pe_op op_mod (pe_op op_fdiv (pv 4) pe_int) (pe_callB call_lenS (by rfl) B.len boot_len (pa_cons (pv 3) pa_nil))) (fun _ _ => rfl)) (pe_op op_mod (pe_op op_fdiv (pv 4) pe_int) pe_int)) pe_int) (pg_sub (pv 3) (pe_op op_mod (pe_op op_fdiv (pv 4) pe_int) (pe_callB call_lenS (by rfl) B.len boot_len (pa_cons (pv 3) pa_nil))) set_list))) pss_nil)
      (Evl.pss_cut (ps_if (pt_cmpR op_eq (pe_op op_mod (pv 4) pe_int) pe_int (nomark _)) (pss_one (ps_set (i := 2) sc_law.nd rfl (.inl rfl) (pe_op op_add pe_int (pe_op op_mod (pe_op op_fdiv (pv 4) pe_int) pe_int)))) pss_nil)
      (pss_cons (ps_set (i := 5) sc_law.nd rfl (.inl rfl) (pe_op op_sub (pe_op op_mod (pe_k0 c__law_cell_at hr (by decide) (by rfl) (pa_cons (pv 0) (pa_cons pe_int pa_nil))) pe_int) pe_int))
      (pss_cons (ps_set (i := 6) sc_law.nd rfl (.inl rfl) (pe_op op_mod (pe_k0 c__law_cell_at hr (by decide) (by rfl) (pa_cons (pv 0) (pa_cons pe_int pa_nil))) pe_int))
      (Evl.pss_cut (ps_if (PW.pt (pw_and (pt_cmpR op_eq (pv 6) pe_int (nomark _)) (pw_and1 (pt_cmpR op_gt (pe_callB (cr_sum rfl) (by rfl) B.sum boot_sum (pa_cons (pv 3) pa_nil)) pe_int (nomark _))))) (pss_one (ps_set (i := 6) sc_law.nd rfl (.inl rfl) pe_int)) pss_nil)
      (pss_cons (ps_set (i := 7) sc_law.nd rfl (.inl rfl) (pe_lst pa_nil))
      (Evl.pss_cut (ps_if (PW.pt (pw_and (PW.pt (pw_or (pt_cmpR op_eq (pv 6) pe_int (nomark _)) (pw_or1 (pt_cmpR op_eq (pv 6) pe_int (nomark _))))) (pw_and1 (pt_not (pt_chain op_le op_lt pe_int (pv 5) (pe_callB call_lenS (by rfl) B.len boot_len (pa_cons (pv 3) pa_nil))))))) (pss_one (ps_set (i := 7) sc_law.nd rfl (.inl rfl) (pe_lst (pa_cons pe_bl (pa_cons pe_bl (pa_cons pe_bl (pa_cons pe_bl (pa_cons pe_bl pa_nil)))))))) pss_nil)
      (Evl.pss_cut (ps_if (pt_not (pt_val (pe_k0 c__law_is_row hr (by decide) (by rfl) (pa_cons (pv 2) (pa_cons (pv 3) pa_nil))))) (pss_one (ps_set (i := 7) sc_law.nd rfl (.inl rfl) (pe_lst (pa_cons pe_bl (pa_cons pe_bl (pa_cons pe_bl (pa_cons pe_bl (pa_cons pe_bl pa_nil)))))))) pss_nil)
      (pss_cons (ps_set (i := 8) sc_law.nd rfl (.inl rfl) (pe_callTy call_listS (by rfl) B.list boot_list (pa_cons (pv 3) pa_nil)))
      (pss_one (ps_ret (pe_and (pe_cmpR (op_eqD hr.units) (pe_k0 c__law_kinds hr (by decide) (by rfl) (pa_cons (pv 6) (pa_cons (pv 2) (pa_cons (pv 8) (pa_cons (pv 5) pa_nil))))) (pv 7) (nomark _)) (pe_one (pe_cmpR (op_eqD hr.units) (pv 8) (pv 3) (nomark _))))))))))))))))))), ?_⟩
  have cell : ∀ (m : Nat) (i : Int) {σ : L2.St} {H' : Hp} {ti : TE}, i = (m : Int) → Ex T H H' → σ[0]? = some (some (.ref a)) → Ev T ti σ H' (.int i) → Ev T (tCall (sp__law_cell_at T K) [] E0 (tCons (tVar 0) (tCons ti tNil))) σ H' (.int (cs.getD m 0)) := fun m i σ H' ti hi e h0 hti =>
    ev_call (ea_cons (ev_var h0) (ea_cons (hi ▸ hti) ea_nil)) fun H1 e1 Q q => ⟨(a, cs, m), rfl, (e.trans e1).sq hS, q⟩
  refine q_asgR (T := T) (R := fun H v H' => ∃ t ns p r, v = .ref p ∧ Dr 6 t ns ∧ H' p = some (.tup [.int t, .ref r]) ∧ H' r = some (.lst (vz ns))) (er_call (ea_cons (ev_var rfl) ea_nil) (fun H1 e1 Q' k' => ⟨(a, cs), rfl, e1.sq hS, fun t ns p r H' hd e' _ _ h1 h2 => k' _ H' e' ⟨t, ns, p, r, rfl, hd, h1, h2⟩⟩) fun _ _ _ _ _ h => h) fun v H1 e1 r1 => ?_
  obtain ⟨t0, ns0, p, r, rfl, hd, hp1, hr1⟩ := r1
  have hm := hd.len
  have ht0 := hd.ht
  have hB0 : Bd 319 ns0 := .of_sum hd.row.pos hd.sz
  refine q_asg (T := T) (v := .int t0) (ev_ixT (ev_var rfl) ev_c (.inl (.inl hp1)) (atI_nat (j := 0) rfl)) fun H2 e2 => ?_
  refine q_asgL (T := T) (xs := vz ns0) (el_list (ev_ixT (v := .ref r) (ev_var rfl) ev_c (.inl (.inl (e2.tup hp1))) (atI_nat (j := 1) rfl)) (SqL.of (e2.lst hr1))) fun o H3 ho e3 h3 => ?_
  have E3 := e1.trans (e2.trans e3)
  obtain ⟨cv, hcv⟩ : ∃ cv, cv = cs.getD 9 0 := ⟨_, rfl⟩
  refine q_asg (T := T) (v := .int cv) ((cell 9 9 rfl E3 rfl ev_c).is (congrArg V.int hcv.symm)) fun H4 e4 => ?_
  refine q_cut (M := fun σ H' => ∃ ns, σ = [some (.ref a), some (.ref p), some (.int t0), some (.ref o), some (.int cv), none, none, none, none] ∧ Ex T H2 H' ∧ H' o = some (.lst (vz ns)) ∧ ns.length = ns0.length ∧ Bd 320 ns) ?_ ?_
  · refine s_when (T := T) (et_test (ev_eqI (ev_I (ev_var rfl) ev_c (by show (0 : Int) < 3; decide)) ev_c)) (fun hb H5 e5 => ?_) (fun hb H5 e5 => ⟨ns0, rfl, e3.trans (e4.trans e5), (e4.trans e5).lst h3, rfl, hB0.mono (by decide)⟩)
    have h5 := (e4.trans e5).lst h3
    obtain ⟨i, hi, ei⟩ := emod_nat (cv / 3) (n := ns0.length) (by omega)
    have hix : atI (vz ns0) (i : Int) = some (.int (ns0.getD i 0)) := atI_nat (by rw [List.getElem?_map, getD_at hi]; rfl)
    have h9 := mod_in (cv / 18) (n := 9) (by decide)
    refine s_setL (T := T) (j := i) (i := (i : Int)) h5 (v := .int (ns0.getD i 0 + cv / 18 % 9 - 4)) (ev_I0 (ev_I0 (ev_ixL (ev_var rfl) ((ev_I (ev_I (ev_var rfl) ev_c ⟨by decide, by decide⟩) ((ev_len (ev_var rfl) (SqL.of h5)).is (w := .int (ns0.length : Int)) (by rw [List.length_map])) (by show (0 : Int) < (ns0.length : Int); omega)).is (congrArg V.int ei)) (SqL.of h5) hix) (ev_I (ev_I (ev_var rfl) ev_c ⟨by decide, by decide⟩) ev_c (by show (0 : Int) < 9; decide))) ev_c) (ev_var rfl) ((ev_I (ev_I (ev_var rfl) ev_c ⟨by decide, by decide⟩) ((ev_len (ev_var rfl) (SqL.of h5)).is (w := .int (ns0.length : Int)) (by rw [List.length_map])) (by show (0 : Int) < (ns0.length : Int); omega)).is (congrArg V.int ei)) (by rw [List.length_map]; exact ixN_at rfl hi) fun H6 e6 h6 => ?_
    refine ⟨ns0.set i (ns0.getD i 0 + cv / 18 % 9 - 4), rfl, (e3.trans (e4.trans (e5.trans e6))).mut ho h6, by rw [upd_same]; exact congrArg (fun q => some (HO.lst q)) List.map_set.symm, List.length_set, fun n hn => ?_⟩
    have e320 : (2 : Nat) ^ 320 = 2 ^ 319 + 2 ^ 319 := by decide +kernel
    have e319 : (100 : Nat) ≤ 2 ^ 319 := by decide +kernel
    rcases List.mem_or_eq_of_mem_set hn with hn | hn
    · have := hB0 n hn
      omega
    · have := hB0 _ (getD_mem hi)
      rw [hn]
      omega
  rintro σ H5 ⟨ns, rfl, e5, h5, hnl, hB⟩
  rw [← hnl] at hm
  have E5 := e1.trans (e2.trans e5)
  refine q_cut (M := fun σ H' => ∃ t, (1 ≤ t ∧ t ≤ 1000) ∧ σ = [some (.ref a), some (.ref p), some (.int t), some (.ref o), some (.int cv), none, none, none, none] ∧ Ex T H5 H') ?_ ?_
  · refine s_when (T := T) (et_test (ev_eqI (ev_I (ev_var rfl) ev_c (by show (0 : Int) < 3; decide)) ev_c)) (fun hb H6 e6 => ?_) (fun hb H6 e6 => ⟨t0, by omega, rfl, e6⟩)
    have := mod_in (cv / 3) (n := 1000) (by decide)
    exact s_asg (T := T) (v := .int (1 + cv / 3 % 1000)) (ev_I0 ev_c (ev_I (ev_I (ev_var rfl) ev_c ⟨by decide, by decide⟩) ev_c (by show (0 : Int) < 1000; decide))) fun H7 e7 => ⟨_, by omega, rfl, e6.trans e7⟩
  rintro σ H6 ⟨t, ht, rfl, e6⟩
  have E6 := E5.trans e6
  obtain ⟨pl, hpl⟩ : ∃ pl, pl = cs.getD 10 0 % 13 - 3 := ⟨_, rfl⟩
  refine q_asg (T := T) (v := .int pl) ((ev_I0 (ev_I (cell 10 10 rfl E6 rfl ev_c) ev_c (by show (0 : Int) < 13; decide)) ev_c).is (congrArg V.int hpl.symm)) fun H7 e7 => ?_
  obtain ⟨c0, hc0, ec0⟩ := emod_nat (cs.getD 11 0) (n := 10) (by decide)
  refine q_asg (T := T) (v := .int (c0 : Int)) ((ev_I (cell 11 11 rfl (E6.trans e7) rfl ev_c) ev_c (by show (0 : Int) < 10; decide)).is (congrArg V.int ec0)) fun H8 e8 => ?_
  have h8 := (e6.trans (e7.trans e8)).lst h5
  have E8 := E6.trans (e7.trans e8)
  refine q_cut (M := fun σ H' => ∃ c : Nat, (c ≤ 9 ∧ (c = 9 → ns.sum ≤ 400)) ∧ σ = [some (.ref a), some (.ref p), some (.int t), some (.ref o), some (.int cv), some (.int pl), some (.int (c : Int)), none, none] ∧ Ex T H8 H') ?_ ?_
  · refine s_when (T := T) (et_and (et_test (ev_eqI (ev_var rfl) ev_c)) fun _ => et_test (ev_I0 (ev_sum (ev_var rfl) (SqL.of h8)) ev_c)) (fun hb H9 e9 => ?_) (fun hb H9 e9 => ⟨c0, ⟨by omega, fun hc => ?_⟩, rfl, e9⟩)
    · exact s_asg (T := T) (v := .int ((1 : Nat) : Int)) ev_c fun H10 e10 => ⟨1, ⟨by decide, fun h => absurd h (by decide)⟩, rfl, e9.trans e10⟩
    · rw [Bool.and_eq_false_iff] at hb
      rcases hb with hb | hb
      · have : ¬ (c0 : Int) = 9 := of_decide_eq_false hb
        omega
      · have : ¬ (400 : Int) < ns.sum := of_decide_eq_false hb
        omega
  rintro σ H9 ⟨c, ⟨hc9, hc4⟩, rfl, e9⟩
  refine q_asgL (T := T) (xs := vb []) (el_lst ea_nil (Nat.zero_le _)) fun d0 H10 hd0 e10 h10 => ?_
  have E10 := E8.trans (e9.trans e10)
  have ho10 := (e9.trans e10).lst h8
  refine q_cut (M := fun σ H' => ∃ dq, σ = [some (.ref a), some (.ref p), some (.int t), some (.ref o), some (.int cv), some (.int pl), some (.int (c : Int)), some (.ref dq), none] ∧ Ex T H10 H' ∧ H' dq = some (.lst (vb (if (c = 0 ∨ c = 8) ∧ ¬ (0 ≤ pl ∧ pl < (ns.length : Int)) then [false, true, false, false, true] else [])))) ?_ ?_
  · refine s_when (T := T) (b := (decide ((c : Int) = 0) || decide ((c : Int) = 8)) && !(decide ((0 : Int) ≤ pl) && decide (pl < (ns.length : Int)))) (et_and (et_or (et_test (ev_eqI (ev_var rfl) ev_c)) fun _ => et_test (ev_eqI (ev_var rfl) ev_c)) fun _ => et_not (et_test (ev_chain (b := decide ((0 : Int) ≤ pl)) (c := decide (pl < (ns.length : Int))) ev_c (ev_var rfl) ((ev_len (ev_var rfl) (SqL.of ho10)).is (by rw [List.length_map])) rfl rfl))) (fun hb H11 e11 => ?_) (fun hb H11 e11 => ?_)
    · refine s_asgL (T := T) (xs := vb [false, true, false, false, true]) (el_lst (ea_cons ev_c (ea_cons ev_c (ea_cons ev_c (ea_cons ev_c (ea_cons ev_c ea_nil))))) (show 5 ≤ 1000 by decide)) fun dq H12 hdq e12 h12 => ⟨dq, rfl, e11.trans e12, ?_⟩
      rw [if_pos]
      · exact h12
      · simp only [Bool.and_eq_true, Bool.or_eq_true, Bool.not_eq_true', Bool.and_eq_false_iff, decide_eq_true_eq, decide_eq_false_iff_not] at hb
        omega
    · refine ⟨d0, rfl, e11, ?_⟩
      rw [if_neg]
      · exact e11.lst h10
      · intro z
        simp only [Bool.and_eq_false_iff, Bool.or_eq_false_iff, Bool.not_eq_false', Bool.and_eq_true, decide_eq_true_eq, decide_eq_false_iff_not] at hb
        omega
  rintro σ H11 ⟨dq, rfl, e11, h11⟩
  have ho11 := e11.lst ho10
  have hW : Wd t ns := ⟨by show t.natAbs < 1024; omega, hm.2, 320, by decide, by decide, hB⟩
  have hsz : IsRow t ns → ns.sum < 2 ^ (2 ^ 9) := fun hR => by
    have h1 := sum_le_mul (x := ns) (b := 2 ^ 320) fun e he => by
      have h2 := hB e he
      have h3 := hR.pos e he
      have h4 : ((e.natAbs : Nat) : Int) < ((2 ^ 320 : Nat) : Int) := Int.ofNat_lt.mpr h2
      rw [Int.natCast_pow] at h4
      have h5 : ((e.natAbs : Nat) : Int) = e := by omega
      rw [h5] at h4
      exact Int.le_of_lt h4
    have h6 : (ns.length : Int) * 2 ^ 320 ≤ 6 * 2 ^ 320 := Int.mul_le_mul_of_nonneg_right (by omega) (by decide +kernel)
    exact Int.lt_of_le_of_lt (Int.le_trans h1 h6) (by decide +kernel)
  refine q_cut (M := fun σ H' => ∃ dq, σ = [some (.ref a), some (.ref p), some (.int t), some (.ref o), some (.int cv), some (.int pl), some (.int (c : Int)), some (.ref dq), none] ∧ Ex T H11 H' ∧ H' dq = some (.lst (vb (dueB c t ns pl)))) ?_ ?_
  · refine s_when (T := T) (et_not (et_B (ev_call (z := .bl (decide (IsRow t ns))) (ea_cons (ev_var rfl) (ea_cons (ev_var rfl) ea_nil)) fun H12 e12 Q' q => ⟨(t, o, ns), rfl, SqL.of (e12.lst ho11), hW, by show 0 < ns.length; omega, q⟩))) (fun hb H12 e12 => ?_) (fun hb H12 e12 => ?_)
    · have hR : ¬ IsRow t ns := of_decide_eq_false (by simpa using hb)
      refine s_asgL (T := T) (xs := vb [true, false, false, false, true]) (el_lst (ea_cons ev_c (ea_cons ev_c (ea_cons ev_c (ea_cons ev_c (ea_cons ev_c ea_nil))))) (show 5 ≤ 1000 by decide)) fun dq H13 hdq e13 h13 => ⟨dq, rfl, e12.trans e13, ?_⟩
      unfold dueB
      rw [if_pos hR]
      exact h13
    · have hR : IsRow t ns := of_decide_eq_true (by simpa using hb)
      refine ⟨dq, rfl, e12, ?_⟩
      unfold dueB
      rw [if_neg (fun z => z hR)]
      exact e12.lst h11
  rintro σ H12 ⟨dq2, rfl, e12, h12⟩
  have ho12 := e12.lst ho11
  refine q_asgL (T := T) (xs := vz ns) (el_list (ev_var rfl) (SqL.of ho12)) fun hh H13 hhn e13 h13 => ?_
  have E13 := E10.trans (e11.trans (e12.trans e13))
  exact s_ret (T := T) ((ev_andV (ev_eqRB (bs := dueB c t ns pl) (cs := dueB c t ns pl) (R := fun _ v H' => ∃ p, v = .ref p ∧ H' p = some (.lst (vb (dueB c t ns pl)))) (er_call (ea_cons (ev_var rfl) (ea_cons (ev_var rfl) (ea_cons (ev_var rfl) (ea_cons (ev_var rfl) ea_nil)))) (fun H14 e14 Q' q => ⟨(c, t, hh, ns, pl), rfl, SqL.of (e14.lst h13), hW, hm, ht, hc9, (E13.trans e14).t hT, hsz, hB.mono (by decide), hc4, fun p H' e' h' => q (.ref p) H' e' ⟨p, rfl, h'⟩⟩) fun _ _ _ _ _ h => h) (fun _ _ _ _ _ h => h) (ev_var rfl) (e13.lst h12)) fun _ => ev_eqL (ev_var rfl) (ev_var rfl) (SqL.of h13) (SqL.of (e13.lst ho12))).is (by simp)) fun H14 e14 => k H14

end
theorem all_mk {l : PySem.W.OpenLaw} {w : World} {K : PySem.W.Frag} {h : Heap} {mg : Str → Option Value} {fa f0 f1 f2 f3 f4 f5 f6 f7 f8 f9 f10 f11 f12 f13 f14 f15 f16 f17 f18 f19 f20 f21 f22 f23 f24 f25 f26 f27 f28 : Addr} (X : K.In h) (G : h.Ns mainGlobals mg) {q : Program} (TT : TabsTold q K h) (hfa : mg "law" = some (.ref fa))
    {od0 an0 od1 an1 od2 an2 od3 an3 od4 an4 od5 an5 od6 an6 od7 an7 od8 an8 od9 an9 od10 an10 od11 an11 od12 an12 od13 an13 od14 an14 od15 an15 od16 an16 od17 an17 od18 an18 od19 an19 od20 an20 od21 an21 od22 an22 od23 an23 od24 an24 od25 an25 od26 an26 od27 an27 od28 an28 : Option Addr} {sl0 sl1 sl2 sl3 sl4 sl5 sl6 sl7 sl8 sl9 sl10 sl11 sl12 sl13 sl14 sl15 sl16 sl17 sl18 sl19 sl20 sl21 sl22 sl23 sl24 sl25 sl26 sl27 sl28 : Array (Option Value)} {oc0 kV0 dc0 pm0 cd0 ct0 oc1 kV1 dc1 pm1 cd1 ct1 oc2 kV2 dc2 pm2 cd2 ct2 oc3 kV3 dc3 pm3 cd3 ct3 oc4 kV4 dc4 pm4 cd4 ct4 oc5 kV5 dc5 pm5 cd5 ct5 oc6 kV6 dc6 pm6 cd6 ct6 oc7 kV7 dc7 pm7 cd7 ct7 oc8 kV8 dc8 pm8 cd8 ct8 oc9 kV9 dc9 pm9 cd9 ct9 oc10 kV10 dc10 pm10 ct10 oc11 kV11 dc11 pm11 cd11 ct11 oc12 kV12 dc12 pm12 ct12 oc13 kV13 dc13 pm13 cd13 ct13 oc14 kV14 dc14 pm14 cd14 ct14 oc15 kV15 dc15 pm15 cd15 ct15 oc16 kV16 dc16 pm16 cd16 ct16 oc17 kV17 dc17 pm17 cd17 ct17 oc18 kV18 dc18 pm18 cd18 ct18 oc19 kV19 dc19 pm19 cd19 ct19 oc20 kV20 dc20 pm20 cd20 ct20 oc21 kV21 dc21 pm21 cd21 ct21 oc22 kV22 dc22 pm22 cd22 ct22 oc23 kV23 dc23 pm23 cd23 ct23 oc24 kV24 dc24 pm24 cd24 ct24 oc25 kV25 dc25 pm25 cd25 ct25 oc26 kV26 dc26 pm26 cd26 ct26 oc27 kV27 dc27 pm27 cd27 ct27 oc28 kV28 dc28 pm28 cd28 ct28 : Value}
    {C10 C12 : Addr} {ec10 ec12 : Value} {dd10 dd12 : Option Addr} {se10 se12 : Array (Option Value)} {vs10 vs12 : Array Value} {T10 T12 : Addr}
    (a0 : PySem.W.nsIn K mainGlobals "product" = some (some (.ref f0))) (l0 : K.lookup f0 = some ⟨oc0, od0, .func (PySem.W.fnOf "product" "product" (defArgs s_product) (defBody s_product) (defScope s_product) .none kV0 dc0 pm0 an0 cd0 ct0), sl0⟩) (c0 : PySem.W.codeIn K cd0 "product" = true) (k0 : PySem.W.keepIn K (.ref f0) = true)
    (a1 : PySem.W.nsIn K mainGlobals "holds" = some (some (.ref f1))) (l1 : K.lookup f1 = some ⟨oc1, od1, .func (PySem.W.fnOf "holds" "holds" (defArgs s_holds) (defBody s_holds) (defScope s_holds) .none kV1 dc1 pm1 an1 cd1 ct1), sl1⟩) (c1 : PySem.W.codeIn K cd1 "holds" = true) (k1 : PySem.W.keepIn K (.ref f1) = true)
    (a2 : PySem.W.nsIn K mainGlobals "see_row" = some (some (.ref f2))) (l2 : K.lookup f2 = some ⟨oc2, od2, .func (PySem.W.fnOf "see_row" "see_row" (defArgs s_see_row) (defBody s_see_row) (defScope s_see_row) .none kV2 dc2 pm2 an2 cd2 ct2), sl2⟩) (c2 : PySem.W.codeIn K cd2 "see_row" = true) (k2 : PySem.W.keepIn K (.ref f2) = true)
    (a3 : PySem.W.nsIn K mainGlobals "at_place" = some (some (.ref f3))) (l3 : K.lookup f3 = some ⟨oc3, od3, .func (PySem.W.fnOf "at_place" "at_place" (defArgs s_at_place) (defBody s_at_place) (defScope s_at_place) .none kV3 dc3 pm3 an3 cd3 ct3), sl3⟩) (c3 : PySem.W.codeIn K cd3 "at_place" = true) (k3 : PySem.W.keepIn K (.ref f3) = true)
    (a4 : PySem.W.nsIn K mainGlobals "neighbour" = some (some (.ref f4))) (l4 : K.lookup f4 = some ⟨oc4, od4, .func (PySem.W.fnOf "neighbour" "neighbour" (defArgs s_neighbour) (defBody s_neighbour) (defScope s_neighbour) .none kV4 dc4 pm4 an4 cd4 ct4), sl4⟩) (c4 : PySem.W.codeIn K cd4 "neighbour" = true) (k4 : PySem.W.keepIn K (.ref f4) = true)
    (a5 : PySem.W.nsIn K mainGlobals "neighbours" = some (some (.ref f5))) (l5 : K.lookup f5 = some ⟨oc5, od5, .func (PySem.W.fnOf "neighbours" "neighbours" (defArgs s_neighbours) (defBody s_neighbours) (defScope s_neighbours) .none kV5 dc5 pm5 an5 cd5 ct5), sl5⟩) (c5 : PySem.W.codeIn K cd5 "neighbours" = true) (k5 : PySem.W.keepIn K (.ref f5) = true)
    (a6 : PySem.W.nsIn K mainGlobals "is_root" = some (some (.ref f6))) (l6 : K.lookup f6 = some ⟨oc6, od6, .func (PySem.W.fnOf "is_root" "is_root" (defArgs s_is_root) (defBody s_is_root) (defScope s_is_root) .none kV6 dc6 pm6 an6 cd6 ct6), sl6⟩) (c6 : PySem.W.codeIn K cd6 "is_root" = true) (k6 : PySem.W.keepIn K (.ref f6) = true)
    (a7 : PySem.W.nsIn K mainGlobals "parts" = some (some (.ref f7))) (l7 : K.lookup f7 = some ⟨oc7, od7, .func (PySem.W.fnOf "parts" "parts" (defArgs s_parts) (defBody s_parts) (defScope s_parts) .none kV7 dc7 pm7 an7 cd7 ct7), sl7⟩) (c7 : PySem.W.codeIn K cd7 "parts" = true) (k7 : PySem.W.keepIn K (.ref f7) = true)
    (a8 : PySem.W.nsIn K mainGlobals "whole_root" = some (some (.ref f8))) (l8 : K.lookup f8 = some ⟨oc8, od8, .func (PySem.W.fnOf "whole_root" "whole_root" (defArgs s_whole_root) (defBody s_whole_root) (defScope s_whole_root) .none kV8 dc8 pm8 an8 cd8 ct8), sl8⟩) (c8 : PySem.W.codeIn K cd8 "whole_root" = true) (k8 : PySem.W.keepIn K (.ref f8) = true)
    (a9 : PySem.W.nsIn K mainGlobals "ends" = some (some (.ref f9))) (l9 : K.lookup f9 = some ⟨oc9, od9, .func (PySem.W.fnOf "ends" "ends" (defArgs s_ends) (defBody s_ends) (defScope s_ends) .none kV9 dc9 pm9 an9 cd9 ct9), sl9⟩) (c9 : PySem.W.codeIn K cd9 "ends" = true) (k9 : PySem.W.keepIn K (.ref f9) = true)
    (a10 : PySem.W.nsIn K mainGlobals "roots" = some (some (.ref f10))) (l10 : K.lookup f10 = some ⟨oc10, od10, .func (PySem.W.fnOf "roots" "roots" (defArgs s_roots) (defBody s_roots) (defScope s_roots) .none kV10 dc10 pm10 an10 (.ref C10) ct10), sl10⟩) (c10 : PySem.W.codeIn K (.ref C10) "roots" = true) (k10 : PySem.W.keepIn K (.ref f10) = true)
    (a11 : PySem.W.nsIn K mainGlobals "comes_from" = some (some (.ref f11))) (l11 : K.lookup f11 = some ⟨oc11, od11, .func (PySem.W.fnOf "comes_from" "comes_from" (defArgs s_comes_from) (defBody s_comes_from) (defScope s_comes_from) .none kV11 dc11 pm11 an11 cd11 ct11), sl11⟩) (c11 : PySem.W.codeIn K cd11 "comes_from" = true) (k11 : PySem.W.keepIn K (.ref f11) = true)
    (a12 : PySem.W.nsIn K mainGlobals "children" = some (some (.ref f12))) (l12 : K.lookup f12 = some ⟨oc12, od12, .func (PySem.W.fnOf "children" "children" (defArgs s_children) (defBody s_children) (defScope s_children) .none kV12 dc12 pm12 an12 (.ref C12) ct12), sl12⟩) (c12 : PySem.W.codeIn K (.ref C12) "children" = true) (k12 : PySem.W.keepIn K (.ref f12) = true)
    (a13 : PySem.W.nsIn K mainGlobals "least_place" = some (some (.ref f13))) (l13 : K.lookup f13 = some ⟨oc13, od13, .func (PySem.W.fnOf "least_place" "least_place" (defArgs s_least_place) (defBody s_least_place) (defScope s_least_place) .none kV13 dc13 pm13 an13 cd13 ct13), sl13⟩) (c13 : PySem.W.codeIn K cd13 "least_place" = true) (k13 : PySem.W.keepIn K (.ref f13) = true)
    (a14 : PySem.W.nsIn K mainGlobals "way" = some (some (.ref f14))) (l14 : K.lookup f14 = some ⟨oc14, od14, .func (PySem.W.fnOf "way" "way" (defArgs s_way) (defBody s_way) (defScope s_way) .none kV14 dc14 pm14 an14 cd14 ct14), sl14⟩) (c14 : PySem.W.codeIn K cd14 "way" = true) (k14 : PySem.W.keepIn K (.ref f14) = true)
    (a15 : PySem.W.nsIn K mainGlobals "led" = some (some (.ref f15))) (l15 : K.lookup f15 = some ⟨oc15, od15, .func (PySem.W.fnOf "led" "led" (defArgs s_led) (defBody s_led) (defScope s_led) .none kV15 dc15 pm15 an15 cd15 ct15), sl15⟩) (c15 : PySem.W.codeIn K cd15 "led" = true) (k15 : PySem.W.keepIn K (.ref f15) = true)
    (a16 : PySem.W.nsIn K mainGlobals "key_of" = some (some (.ref f16))) (l16 : K.lookup f16 = some ⟨oc16, od16, .func (PySem.W.fnOf "key_of" "key_of" (defArgs s_key_of) (defBody s_key_of) (defScope s_key_of) .none kV16 dc16 pm16 an16 cd16 ct16), sl16⟩) (c16 : PySem.W.codeIn K cd16 "key_of" = true) (k16 : PySem.W.keepIn K (.ref f16) = true)
    (a17 : PySem.W.nsIn K mainGlobals "up_to" = some (some (.ref f17))) (l17 : K.lookup f17 = some ⟨oc17, od17, .func (PySem.W.fnOf "up_to" "up_to" (defArgs s_up_to) (defBody s_up_to) (defScope s_up_to) .none kV17 dc17 pm17 an17 cd17 ct17), sl17⟩) (c17 : PySem.W.codeIn K cd17 "up_to" = true) (k17 : PySem.W.keepIn K (.ref f17) = true)
    (a18 : PySem.W.nsIn K mainGlobals "place_of" = some (some (.ref f18))) (l18 : K.lookup f18 = some ⟨oc18, od18, .func (PySem.W.fnOf "place_of" "place_of" (defArgs s_place_of) (defBody s_place_of) (defScope s_place_of) .none kV18 dc18 pm18 an18 cd18 ct18), sl18⟩) (c18 : PySem.W.codeIn K cd18 "place_of" = true) (k18 : PySem.W.keepIn K (.ref f18) = true)
    (a19 : PySem.W.nsIn K mainGlobals "shown" = some (some (.ref f19))) (l19 : K.lookup f19 = some ⟨oc19, od19, .func (PySem.W.fnOf "shown" "shown" (defArgs s_shown) (defBody s_shown) (defScope s_shown) .none kV19 dc19 pm19 an19 cd19 ct19), sl19⟩) (c19 : PySem.W.codeIn K cd19 "shown" = true) (k19 : PySem.W.keepIn K (.ref f19) = true)
    (a20 : PySem.W.nsIn K mainGlobals "_law_cell_at" = some (some (.ref f20))) (l20 : K.lookup f20 = some ⟨oc20, od20, .func (PySem.W.fnOf "_law_cell_at" "_law_cell_at" (defArgs s__law_cell_at) (defBody s__law_cell_at) (defScope s__law_cell_at) .none kV20 dc20 pm20 an20 cd20 ct20), sl20⟩) (c20 : PySem.W.codeIn K cd20 "_law_cell_at" = true) (k20 : PySem.W.keepIn K (.ref f20) = true)
    (a21 : PySem.W.nsIn K mainGlobals "_law_product" = some (some (.ref f21))) (l21 : K.lookup f21 = some ⟨oc21, od21, .func (PySem.W.fnOf "_law_product" "_law_product" (defArgs s__law_product) (defBody s__law_product) (defScope s__law_product) .none kV21 dc21 pm21 an21 cd21 ct21), sl21⟩) (c21 : PySem.W.codeIn K cd21 "_law_product" = true) (k21 : PySem.W.keepIn K (.ref f21) = true)
    (a22 : PySem.W.nsIn K mainGlobals "_law_near" = some (some (.ref f22))) (l22 : K.lookup f22 = some ⟨oc22, od22, .func (PySem.W.fnOf "_law_near" "_law_near" (defArgs s__law_near) (defBody s__law_near) (defScope s__law_near) .none kV22 dc22 pm22 an22 cd22 ct22), sl22⟩) (c22 : PySem.W.codeIn K cd22 "_law_near" = true) (k22 : PySem.W.keepIn K (.ref f22) = true)
    (a23 : PySem.W.nsIn K mainGlobals "_law_is_row" = some (some (.ref f23))) (l23 : K.lookup f23 = some ⟨oc23, od23, .func (PySem.W.fnOf "_law_is_row" "_law_is_row" (defArgs s__law_is_row) (defBody s__law_is_row) (defScope s__law_is_row) .none kV23 dc23 pm23 an23 cd23 ct23), sl23⟩) (c23 : PySem.W.codeIn K cd23 "_law_is_row" = true) (k23 : PySem.W.keepIn K (.ref f23) = true)
    (a24 : PySem.W.nsIn K mainGlobals "_law_root_by" = some (some (.ref f24))) (l24 : K.lookup f24 = some ⟨oc24, od24, .func (PySem.W.fnOf "_law_root_by" "_law_root_by" (defArgs s__law_root_by) (defBody s__law_root_by) (defScope s__law_root_by) .none kV24 dc24 pm24 an24 cd24 ct24), sl24⟩) (c24 : PySem.W.codeIn K cd24 "_law_root_by" = true) (k24 : PySem.W.keepIn K (.ref f24) = true)
    (a25 : PySem.W.nsIn K mainGlobals "_law_drawn" = some (some (.ref f25))) (l25 : K.lookup f25 = some ⟨oc25, od25, .func (PySem.W.fnOf "_law_drawn" "_law_drawn" (defArgs s__law_drawn) (defBody s__law_drawn) (defScope s__law_drawn) .none kV25 dc25 pm25 an25 cd25 ct25), sl25⟩) (c25 : PySem.W.codeIn K cd25 "_law_drawn" = true) (k25 : PySem.W.keepIn K (.ref f25) = true)
    (a26 : PySem.W.nsIn K mainGlobals "_law_call" = some (some (.ref f26))) (l26 : K.lookup f26 = some ⟨oc26, od26, .func (PySem.W.fnOf "_law_call" "_law_call" (defArgs s__law_call) (defBody s__law_call) (defScope s__law_call) .none kV26 dc26 pm26 an26 cd26 ct26), sl26⟩) (c26 : PySem.W.codeIn K cd26 "_law_call" = true) (k26 : PySem.W.keepIn K (.ref f26) = true)
    (a27 : PySem.W.nsIn K mainGlobals "_law_kinds" = some (some (.ref f27))) (l27 : K.lookup f27 = some ⟨oc27, od27, .func (PySem.W.fnOf "_law_kinds" "_law_kinds" (defArgs s__law_kinds) (defBody s__law_kinds) (defScope s__law_kinds) .none kV27 dc27 pm27 an27 cd27 ct27), sl27⟩) (c27 : PySem.W.codeIn K cd27 "_law_kinds" = true) (k27 : PySem.W.keepIn K (.ref f27) = true)
    (a28 : PySem.W.nsIn K mainGlobals "law" = some (some (.ref f28))) (l28 : K.lookup f28 = some ⟨oc28, od28, .func (PySem.W.fnOf "law" "law" (defArgs s_law) (defBody s_law) (defScope s_law) .none kV28 dc28 pm28 an28 cd28 ct28), sl28⟩) (c28 : PySem.W.codeIn K cd28 "law" = true) (k28 : PySem.W.keepIn K (.ref f28) = true)
    (z_len : PySem.W.nsIn K mainGlobals "len" = some none)    (z_range : PySem.W.nsIn K mainGlobals "range" = some none)    (z_sum : PySem.W.nsIn K mainGlobals "sum" = some none)    (z_sorted : PySem.W.nsIn K mainGlobals "sorted" = some none)    (z_min : PySem.W.nsIn K mainGlobals "min" = some none)    (z_max : PySem.W.nsIn K mainGlobals "max" = some none)    (z_isinstance : PySem.W.nsIn K mainGlobals "isinstance" = some none)    (z_int : PySem.W.nsIn K mainGlobals "int" = some none)    (z_bool : PySem.W.nsIn K mainGlobals "bool" = some none)    (z_list : PySem.W.nsIn K mainGlobals "list" = some none)    (z_tuple : PySem.W.nsIn K mainGlobals "tuple" = some none)    (z_str : PySem.W.nsIn K mainGlobals "str" = some none)    (z_set : PySem.W.nsIn K mainGlobals "set" = some none)    (z_ValueError : PySem.W.nsIn K mainGlobals "ValueError" = some none)    {Zrow ZnoRow ZnoPlace ZnoSuch ZbadText : Addr}
    (yn : PySem.W.specialIn K (.builtin "object.__class__") "__get__" = some (some (.builtin "getset_descriptor.__get__"))) (yt : PySem.W.takesIn K (.builtin "object.__class__") = some true)
    (grow : PySem.W.nsIn K mainGlobals "RowError" = some (some (.ref Zrow))) (xrow : PySem.W.excIn K Zrow [.type "ValueError", .type "Exception", .type "BaseException", .type "object"] "ValueError.__new__" = true) (krow : PySem.W.keepIn K (.ref Zrow) = true) (brow : PySem.W.subIn K (.ref Zrow) (.type "BaseException") = some true) (trow : PySem.W.typeIn K (.ref Zrow) = some (.type "type")) (srow : PySem.W.subIn K (.ref Zrow) (.ref Zrow) = some true)
    (hgrow : PySem.W.findIn K (.ref Zrow) "__getattribute__" = some (some (.builtin "BaseException.__getattribute__"))) (hkrow : PySem.W.findIn K (.ref Zrow) "__getattr__" = some none) (hdrow : PySem.W.hasDictIn K Zrow = true) (harow : PySem.W.findIn K (.ref Zrow) "__class__" = some (some (.builtin "object.__class__"))) (hmrow : PySem.W.mroIn K Zrow (.type "object") = some true)
    (gnoRow : PySem.W.nsIn K mainGlobals "NoRow" = some (some (.ref ZnoRow))) (xnoRow : PySem.W.excIn K ZnoRow [.type "ValueError", .type "Exception", .type "BaseException", .type "object"] "ValueError.__new__" = true) (knoRow : PySem.W.keepIn K (.ref ZnoRow) = true) (bnoRow : PySem.W.subIn K (.ref ZnoRow) (.type "BaseException") = some true) (tnoRow : PySem.W.typeIn K (.ref ZnoRow) = some (.type "type")) (snoRow : PySem.W.subIn K (.ref ZnoRow) (.ref Zrow) = some true)
    (hgnoRow : PySem.W.findIn K (.ref ZnoRow) "__getattribute__" = some (some (.builtin "BaseException.__getattribute__"))) (hknoRow : PySem.W.findIn K (.ref ZnoRow) "__getattr__" = some none) (hdnoRow : PySem.W.hasDictIn K ZnoRow = true) (hanoRow : PySem.W.findIn K (.ref ZnoRow) "__class__" = some (some (.builtin "object.__class__"))) (hmnoRow : PySem.W.mroIn K ZnoRow (.type "object") = some true)
    (gnoPlace : PySem.W.nsIn K mainGlobals "NoPlace" = some (some (.ref ZnoPlace))) (xnoPlace : PySem.W.excIn K ZnoPlace [.type "ValueError", .type "Exception", .type "BaseException", .type "object"] "ValueError.__new__" = true) (knoPlace : PySem.W.keepIn K (.ref ZnoPlace) = true) (bnoPlace : PySem.W.subIn K (.ref ZnoPlace) (.type "BaseException") = some true) (tnoPlace : PySem.W.typeIn K (.ref ZnoPlace) = some (.type "type")) (snoPlace : PySem.W.subIn K (.ref ZnoPlace) (.ref Zrow) = some true)
    (hgnoPlace : PySem.W.findIn K (.ref ZnoPlace) "__getattribute__" = some (some (.builtin "BaseException.__getattribute__"))) (hknoPlace : PySem.W.findIn K (.ref ZnoPlace) "__getattr__" = some none) (hdnoPlace : PySem.W.hasDictIn K ZnoPlace = true) (hanoPlace : PySem.W.findIn K (.ref ZnoPlace) "__class__" = some (some (.builtin "object.__class__"))) (hmnoPlace : PySem.W.mroIn K ZnoPlace (.type "object") = some true)
    (gnoSuch : PySem.W.nsIn K mainGlobals "NoSuch" = some (some (.ref ZnoSuch))) (xnoSuch : PySem.W.excIn K ZnoSuch [.type "ValueError", .type "Exception", .type "BaseException", .type "object"] "ValueError.__new__" = true) (knoSuch : PySem.W.keepIn K (.ref ZnoSuch) = true) (bnoSuch : PySem.W.subIn K (.ref ZnoSuch) (.type "BaseException") = some true) (tnoSuch : PySem.W.typeIn K (.ref ZnoSuch) = some (.type "type")) (snoSuch : PySem.W.subIn K (.ref ZnoSuch) (.ref Zrow) = some true)
    (hgnoSuch : PySem.W.findIn K (.ref ZnoSuch) "__getattribute__" = some (some (.builtin "BaseException.__getattribute__"))) (hknoSuch : PySem.W.findIn K (.ref ZnoSuch) "__getattr__" = some none) (hdnoSuch : PySem.W.hasDictIn K ZnoSuch = true) (hanoSuch : PySem.W.findIn K (.ref ZnoSuch) "__class__" = some (some (.builtin "object.__class__"))) (hmnoSuch : PySem.W.mroIn K ZnoSuch (.type "object") = some true)
    (gbadText : PySem.W.nsIn K mainGlobals "BadText" = some (some (.ref ZbadText))) (xbadText : PySem.W.excIn K ZbadText [.type "ValueError", .type "Exception", .type "BaseException", .type "object"] "ValueError.__new__" = true) (kbadText : PySem.W.keepIn K (.ref ZbadText) = true) (bbadText : PySem.W.subIn K (.ref ZbadText) (.type "BaseException") = some true) (tbadText : PySem.W.typeIn K (.ref ZbadText) = some (.type "type")) (sbadText : PySem.W.subIn K (.ref ZbadText) (.ref Zrow) = some true)
    (hgbadText : PySem.W.findIn K (.ref ZbadText) "__getattribute__" = some (some (.builtin "BaseException.__getattribute__"))) (hkbadText : PySem.W.findIn K (.ref ZbadText) "__getattr__" = some none) (hdbadText : PySem.W.hasDictIn K ZbadText = true) (habadText : PySem.W.findIn K (.ref ZbadText) "__class__" = some (some (.builtin "object.__class__"))) (hmbadText : PySem.W.mroIn K ZbadText (.type "object") = some true)
    (eq_kk_noRow_noRow : (Value.ref ZnoRow == Value.ref ZnoRow) = true)
    (ss_kk_noRow_noPlace : PySem.W.subIn K (.ref ZnoRow) (.ref ZnoPlace) = some false) (eq_kk_noRow_noPlace : (Value.ref ZnoRow == Value.ref ZnoPlace) = false)
    (ss_kk_noRow_noSuch : PySem.W.subIn K (.ref ZnoRow) (.ref ZnoSuch) = some false) (eq_kk_noRow_noSuch : (Value.ref ZnoRow == Value.ref ZnoSuch) = false)
    (ss_kk_noRow_badText : PySem.W.subIn K (.ref ZnoRow) (.ref ZbadText) = some false) (eq_kk_noRow_badText : (Value.ref ZnoRow == Value.ref ZbadText) = false)
    (ss_kk_noRow_VE : PySem.W.subIn K (.ref ZnoRow) (.type "ValueError") = some true)
    (ss_kk_noPlace_noRow : PySem.W.subIn K (.ref ZnoPlace) (.ref ZnoRow) = some false) (eq_kk_noPlace_noRow : (Value.ref ZnoPlace == Value.ref ZnoRow) = false)
    (eq_kk_noPlace_noPlace : (Value.ref ZnoPlace == Value.ref ZnoPlace) = true)
    (ss_kk_noPlace_noSuch : PySem.W.subIn K (.ref ZnoPlace) (.ref ZnoSuch) = some false) (eq_kk_noPlace_noSuch : (Value.ref ZnoPlace == Value.ref ZnoSuch) = false)
    (ss_kk_noPlace_badText : PySem.W.subIn K (.ref ZnoPlace) (.ref ZbadText) = some false) (eq_kk_noPlace_badText : (Value.ref ZnoPlace == Value.ref ZbadText) = false)
    (ss_kk_noPlace_VE : PySem.W.subIn K (.ref ZnoPlace) (.type "ValueError") = some true)
    (ss_kk_noSuch_noRow : PySem.W.subIn K (.ref ZnoSuch) (.ref ZnoRow) = some false) (eq_kk_noSuch_noRow : (Value.ref ZnoSuch == Value.ref ZnoRow) = false)
    (ss_kk_noSuch_noPlace : PySem.W.subIn K (.ref ZnoSuch) (.ref ZnoPlace) = some false) (eq_kk_noSuch_noPlace : (Value.ref ZnoSuch == Value.ref ZnoPlace) = false)
    (eq_kk_noSuch_noSuch : (Value.ref ZnoSuch == Value.ref ZnoSuch) = true)
    (ss_kk_noSuch_badText : PySem.W.subIn K (.ref ZnoSuch) (.ref ZbadText) = some false) (eq_kk_noSuch_badText : (Value.ref ZnoSuch == Value.ref ZbadText) = false)
    (ss_kk_noSuch_VE : PySem.W.subIn K (.ref ZnoSuch) (.type "ValueError") = some true)
    (ss_kk_badText_noRow : PySem.W.subIn K (.ref ZbadText) (.ref ZnoRow) = some false) (eq_kk_badText_noRow : (Value.ref ZbadText == Value.ref ZnoRow) = false)
    (ss_kk_badText_noPlace : PySem.W.subIn K (.ref ZbadText) (.ref ZnoPlace) = some false) (eq_kk_badText_noPlace : (Value.ref ZbadText == Value.ref ZnoPlace) = false)
    (ss_kk_badText_noSuch : PySem.W.subIn K (.ref ZbadText) (.ref ZnoSuch) = some false) (eq_kk_badText_noSuch : (Value.ref ZbadText == Value.ref ZnoSuch) = false)
    (eq_kk_badText_badText : (Value.ref ZbadText == Value.ref ZbadText) = true)
    (ss_kk_badText_VE : PySem.W.subIn K (.ref ZbadText) (.type "ValueError") = some true)
    (lc10 : K.lookup C10 = some ⟨ec10, dd10, .fields vs10, se10⟩) (vt10 : vs10[11]? = some (.ref T10)) (nt10 : K.lookup T10 = none) (rq10 : ((recsOf q).any fun e => e.name == ("roots" : Str)) = true)
    (lc12 : K.lookup C12 = some ⟨ec12, dd12, .fields vs12, se12⟩) (vt12 : vs12[11]? = some (.ref T12)) (nt12 : K.lookup T12 = none) (rq12 : ((recsOf q).any fun e => e.name == ("children" : Str)) = true)
    (nn10_12 : T10 ≠ T12)
    (nn12_10 : T12 ≠ T10)
 :
    LamX.LawAtS l w K CX0 10 63 "script" mg fa h := by
  have e := hfa.symm.trans (PySem.W.mg_of X G a28)
  cases e
  obtain ⟨Z, hZ⟩ : ∃ Z : Ze, Z = ⟨Zrow, ZnoRow, ZnoPlace, ZnoSuch, ZbadText⟩ := ⟨_, rfl⟩
  have Z_RowError : Xc K mg "RowError" Z.row Z.row := by rw [hZ]; exact ⟨PySem.W.mg_of X G grow, xrow, krow, brow, trow, PySem.W.exm_ref brow hdrow trow srow, ⟨hgrow, hkrow, brow, hdrow, harow, yn, yt, hmrow⟩⟩
  have Z_NoRow : Xc K mg "NoRow" Z.noRow Z.row := by rw [hZ]; exact ⟨PySem.W.mg_of X G gnoRow, xnoRow, knoRow, bnoRow, tnoRow, PySem.W.exm_ref brow hdrow trow snoRow, ⟨hgnoRow, hknoRow, bnoRow, hdnoRow, hanoRow, yn, yt, hmnoRow⟩⟩
  have Z_NoPlace : Xc K mg "NoPlace" Z.noPlace Z.row := by rw [hZ]; exact ⟨PySem.W.mg_of X G gnoPlace, xnoPlace, knoPlace, bnoPlace, tnoPlace, PySem.W.exm_ref brow hdrow trow snoPlace, ⟨hgnoPlace, hknoPlace, bnoPlace, hdnoPlace, hanoPlace, yn, yt, hmnoPlace⟩⟩
  have Z_NoSuch : Xc K mg "NoSuch" Z.noSuch Z.row := by rw [hZ]; exact ⟨PySem.W.mg_of X G gnoSuch, xnoSuch, knoSuch, bnoSuch, tnoSuch, PySem.W.exm_ref brow hdrow trow snoSuch, ⟨hgnoSuch, hknoSuch, bnoSuch, hdnoSuch, hanoSuch, yn, yt, hmnoSuch⟩⟩
  have Z_BadText : Xc K mg "BadText" Z.badText Z.row := by rw [hZ]; exact ⟨PySem.W.mg_of X G gbadText, xbadText, kbadText, bbadText, tbadText, PySem.W.exm_ref brow hdrow trow sbadText, ⟨hgbadText, hkbadText, bbadText, hdbadText, habadText, yn, yt, hmbadText⟩⟩
  have kk_noRow_noRow : PySem.W.kitOne K (.ref Z.noRow) (.ref Z.noRow) = some true := by rw [hZ]; exact kit_self eq_kk_noRow_noRow
  have kk_noRow_noPlace : PySem.W.kitOne K (.ref Z.noRow) (.ref Z.noPlace) = some false := by rw [hZ]; exact kit_ref hdnoPlace tnoPlace ss_kk_noRow_noPlace eq_kk_noRow_noPlace
  have kk_noRow_noSuch : PySem.W.kitOne K (.ref Z.noRow) (.ref Z.noSuch) = some false := by rw [hZ]; exact kit_ref hdnoSuch tnoSuch ss_kk_noRow_noSuch eq_kk_noRow_noSuch
  have kk_noRow_badText : PySem.W.kitOne K (.ref Z.noRow) (.ref Z.badText) = some false := by rw [hZ]; exact kit_ref hdbadText tbadText ss_kk_noRow_badText eq_kk_noRow_badText
  have kk_noRow_VE : PySem.W.kitOne K (.ref Z.noRow) (.type "ValueError") = some true := by rw [hZ]; exact kit_VE ss_kk_noRow_VE
  have kk_noPlace_noRow : PySem.W.kitOne K (.ref Z.noPlace) (.ref Z.noRow) = some false := by rw [hZ]; exact kit_ref hdnoRow tnoRow ss_kk_noPlace_noRow eq_kk_noPlace_noRow
  have kk_noPlace_noPlace : PySem.W.kitOne K (.ref Z.noPlace) (.ref Z.noPlace) = some true := by rw [hZ]; exact kit_self eq_kk_noPlace_noPlace
  have kk_noPlace_noSuch : PySem.W.kitOne K (.ref Z.noPlace) (.ref Z.noSuch) = some false := by rw [hZ]; exact kit_ref hdnoSuch tnoSuch ss_kk_noPlace_noSuch eq_kk_noPlace_noSuch
  have kk_noPlace_badText : PySem.W.kitOne K (.ref Z.noPlace) (.ref Z.badText) = some false := by rw [hZ]; exact kit_ref hdbadText tbadText ss_kk_noPlace_badText eq_kk_noPlace_badText
  have kk_noPlace_VE : PySem.W.kitOne K (.ref Z.noPlace) (.type "ValueError") = some true := by rw [hZ]; exact kit_VE ss_kk_noPlace_VE
  have kk_noSuch_noRow : PySem.W.kitOne K (.ref Z.noSuch) (.ref Z.noRow) = some false := by rw [hZ]; exact kit_ref hdnoRow tnoRow ss_kk_noSuch_noRow eq_kk_noSuch_noRow
  have kk_noSuch_noPlace : PySem.W.kitOne K (.ref Z.noSuch) (.ref Z.noPlace) = some false := by rw [hZ]; exact kit_ref hdnoPlace tnoPlace ss_kk_noSuch_noPlace eq_kk_noSuch_noPlace
  have kk_noSuch_noSuch : PySem.W.kitOne K (.ref Z.noSuch) (.ref Z.noSuch) = some true := by rw [hZ]; exact kit_self eq_kk_noSuch_noSuch
  have kk_noSuch_badText : PySem.W.kitOne K (.ref Z.noSuch) (.ref Z.badText) = some false := by rw [hZ]; exact kit_ref hdbadText tbadText ss_kk_noSuch_badText eq_kk_noSuch_badText
  have kk_noSuch_VE : PySem.W.kitOne K (.ref Z.noSuch) (.type "ValueError") = some true := by rw [hZ]; exact kit_VE ss_kk_noSuch_VE
  have kk_badText_noRow : PySem.W.kitOne K (.ref Z.badText) (.ref Z.noRow) = some false := by rw [hZ]; exact kit_ref hdnoRow tnoRow ss_kk_badText_noRow eq_kk_badText_noRow
  have kk_badText_noPlace : PySem.W.kitOne K (.ref Z.badText) (.ref Z.noPlace) = some false := by rw [hZ]; exact kit_ref hdnoPlace tnoPlace ss_kk_badText_noPlace eq_kk_badText_noPlace
  have kk_badText_noSuch : PySem.W.kitOne K (.ref Z.badText) (.ref Z.noSuch) = some false := by rw [hZ]; exact kit_ref hdnoSuch tnoSuch ss_kk_badText_noSuch eq_kk_badText_noSuch
  have kk_badText_badText : PySem.W.kitOne K (.ref Z.badText) (.ref Z.badText) = some true := by rw [hZ]; exact kit_self eq_kk_badText_badText
  have kk_badText_VE : PySem.W.kitOne K (.ref Z.badText) (.type "ValueError") = some true := by rw [hZ]; exact kit_VE ss_kk_badText_VE
  have B : Bi mg := ⟨PySem.W.mg_none_of X G z_len, PySem.W.mg_none_of X G z_range, PySem.W.mg_none_of X G z_sum, PySem.W.mg_none_of X G z_sorted, PySem.W.mg_none_of X G z_min, PySem.W.mg_none_of X G z_max, PySem.W.mg_none_of X G z_isinstance, PySem.W.mg_none_of X G z_int, PySem.W.mg_none_of X G z_bool, PySem.W.mg_none_of X G z_list, PySem.W.mg_none_of X G z_tuple, PySem.W.mg_none_of X G z_str, PySem.W.mg_none_of X G z_set, PySem.W.mg_none_of X G z_ValueError⟩
  have F0 := fun_mk (st := s_product) l0 c0 k0
  have D_product : Df K mg "product" s_product ["numbers"] := ⟨f0, _, F0, F0.binds (ps := ["numbers"]) (fun _ _ _ _ _ _ us hl => match us, hl with | [_], _ => rfl), PySem.W.mg_of X G a0⟩
  have F1 := fun_mk (st := s_holds) l1 c1 k1
  have D_holds : Df K mg "holds" s_holds ["times", "row"] := ⟨f1, _, F1, F1.binds (ps := ["times", "row"]) (fun _ _ _ _ _ _ us hl => match us, hl with | [_, _], _ => rfl), PySem.W.mg_of X G a1⟩
  have F2 := fun_mk (st := s_see_row) l2 c2 k2
  have D_see_row : Df K mg "see_row" s_see_row ["times", "row"] := ⟨f2, _, F2, F2.binds (ps := ["times", "row"]) (fun _ _ _ _ _ _ us hl => match us, hl with | [_, _], _ => rfl), PySem.W.mg_of X G a2⟩
  have F3 := fun_mk (st := s_at_place) l3 c3 k3
  have D_at_place : Df K mg "at_place" s_at_place ["times", "row", "place"] := ⟨f3, _, F3, F3.binds (ps := ["times", "row", "place"]) (fun _ _ _ _ _ _ us hl => match us, hl with | [_, _, _], _ => rfl), PySem.W.mg_of X G a3⟩
  have F4 := fun_mk (st := s_neighbour) l4 c4 k4
  have D_neighbour : Df K mg "neighbour" s_neighbour ["times", "row", "place"] := ⟨f4, _, F4, F4.binds (ps := ["times", "row", "place"]) (fun _ _ _ _ _ _ us hl => match us, hl with | [_, _, _], _ => rfl), PySem.W.mg_of X G a4⟩
  have F5 := fun_mk (st := s_neighbours) l5 c5 k5
  have D_neighbours : Df K mg "neighbours" s_neighbours ["times", "row"] := ⟨f5, _, F5, F5.binds (ps := ["times", "row"]) (fun _ _ _ _ _ _ us hl => match us, hl with | [_, _], _ => rfl), PySem.W.mg_of X G a5⟩
  have F6 := fun_mk (st := s_is_root) l6 c6 k6
  have D_is_root : Df K mg "is_root" s_is_root ["times", "row"] := ⟨f6, _, F6, F6.binds (ps := ["times", "row"]) (fun _ _ _ _ _ _ us hl => match us, hl with | [_, _], _ => rfl), PySem.W.mg_of X G a6⟩
  have F7 := fun_mk (st := s_parts) l7 c7 k7
  have D_parts : Df K mg "parts" s_parts ["many", "least", "most"] := ⟨f7, _, F7, F7.binds (ps := ["many", "least", "most"]) (fun _ _ _ _ _ _ us hl => match us, hl with | [_, _, _], _ => rfl), PySem.W.mg_of X G a7⟩
  have F8 := fun_mk (st := s_whole_root) l8 c8 k8
  have D_whole_root : Df K mg "whole_root" s_whole_root ["number"] := ⟨f8, _, F8, F8.binds (ps := ["number"]) (fun _ _ _ _ _ _ us hl => match us, hl with | [_], _ => rfl), PySem.W.mg_of X G a8⟩
  have F9 := fun_mk (st := s_ends) l9 c9 k9
  have D_ends : Df K mg "ends" s_ends ["times", "few"] := ⟨f9, _, F9, F9.binds (ps := ["times", "few"]) (fun _ _ _ _ _ _ us hl => match us, hl with | [_, _], _ => rfl), PySem.W.mg_of X G a9⟩
  have F10 := funC_mk (st := s_roots) l10 c10 k10
  have D_roots : DfC K mg "roots" s_roots ["times", "many"] C10 := ⟨f10, _, F10, F10.binds (ps := ["times", "many"]) (fun _ _ _ _ _ _ us hl => match us, hl with | [_, _], _ => rfl), PySem.W.mg_of X G a10⟩
  have F11 := fun_mk (st := s_comes_from) l11 c11 k11
  have D_comes_from : Df K mg "comes_from" s_comes_from ["times", "row"] := ⟨f11, _, F11, F11.binds (ps := ["times", "row"]) (fun _ _ _ _ _ _ us hl => match us, hl with | [_, _], _ => rfl), PySem.W.mg_of X G a11⟩
  have F12 := funC_mk (st := s_children) l12 c12 k12
  have D_children : DfC K mg "children" s_children ["times", "row"] C12 := ⟨f12, _, F12, F12.binds (ps := ["times", "row"]) (fun _ _ _ _ _ _ us hl => match us, hl with | [_, _], _ => rfl), PySem.W.mg_of X G a12⟩
  have F13 := fun_mk (st := s_least_place) l13 c13 k13
  have D_least_place : Df K mg "least_place" s_least_place ["times", "row", "far"] := ⟨f13, _, F13, F13.binds (ps := ["times", "row", "far"]) (fun _ _ _ _ _ _ us hl => match us, hl with | [_, _, _], _ => rfl), PySem.W.mg_of X G a13⟩
  have F14 := fun_mk (st := s_way) l14 c14 k14
  have D_way : Df K mg "way" s_way ["times", "row"] := ⟨f14, _, F14, F14.binds (ps := ["times", "row"]) (fun _ _ _ _ _ _ us hl => match us, hl with | [_, _], _ => rfl), PySem.W.mg_of X G a14⟩
  have F15 := fun_mk (st := s_led) l15 c15 k15
  have D_led : Df K mg "led" s_led ["times", "row", "places"] := ⟨f15, _, F15, F15.binds (ps := ["times", "row", "places"]) (fun _ _ _ _ _ _ us hl => match us, hl with | [_, _, _], _ => rfl), PySem.W.mg_of X G a15⟩
  have F16 := fun_mk (st := s_key_of) l16 c16 k16
  have D_key_of : Df K mg "key_of" s_key_of ["row"] := ⟨f16, _, F16, F16.binds (ps := ["row"]) (fun _ _ _ _ _ _ us hl => match us, hl with | [_], _ => rfl), PySem.W.mg_of X G a16⟩
  have F17 := fun_mk (st := s_up_to) l17 c17 k17
  have D_up_to : Df K mg "up_to" s_up_to ["times", "many", "size"] := ⟨f17, _, F17, F17.binds (ps := ["times", "many", "size"]) (fun _ _ _ _ _ _ us hl => match us, hl with | [_, _, _], _ => rfl), PySem.W.mg_of X G a17⟩
  have F18 := fun_mk (st := s_place_of) l18 c18 k18
  have D_place_of : Df K mg "place_of" s_place_of ["times", "row"] := ⟨f18, _, F18, F18.binds (ps := ["times", "row"]) (fun _ _ _ _ _ _ us hl => match us, hl with | [_, _], _ => rfl), PySem.W.mg_of X G a18⟩
  have F19 := fun_mk (st := s_shown) l19 c19 k19
  have D_shown : Df K mg "shown" s_shown ["times", "row"] := ⟨f19, _, F19, F19.binds (ps := ["times", "row"]) (fun _ _ _ _ _ _ us hl => match us, hl with | [_, _], _ => rfl), PySem.W.mg_of X G a19⟩
  have F20 := fun_mk (st := s__law_cell_at) l20 c20 k20
  have D__law_cell_at : Df K mg "_law_cell_at" s__law_cell_at ["script", "k"] := ⟨f20, _, F20, F20.binds (ps := ["script", "k"]) (fun _ _ _ _ _ _ us hl => match us, hl with | [_, _], _ => rfl), PySem.W.mg_of X G a20⟩
  have F21 := fun_mk (st := s__law_product) l21 c21 k21
  have D__law_product : Df K mg "_law_product" s__law_product ["numbers"] := ⟨f21, _, F21, F21.binds (ps := ["numbers"]) (fun _ _ _ _ _ _ us hl => match us, hl with | [_], _ => rfl), PySem.W.mg_of X G a21⟩
  have F22 := fun_mk (st := s__law_near) l22 c22 k22
  have D__law_near : Df K mg "_law_near" s__law_near ["times", "row", "place"] := ⟨f22, _, F22, F22.binds (ps := ["times", "row", "place"]) (fun _ _ _ _ _ _ us hl => match us, hl with | [_, _, _], _ => rfl), PySem.W.mg_of X G a22⟩
  have F23 := fun_mk (st := s__law_is_row) l23 c23 k23
  have D__law_is_row : Df K mg "_law_is_row" s__law_is_row ["times", "row"] := ⟨f23, _, F23, F23.binds (ps := ["times", "row"]) (fun _ _ _ _ _ _ us hl => match us, hl with | [_, _], _ => rfl), PySem.W.mg_of X G a23⟩
  have F24 := fun_mk (st := s__law_root_by) l24 c24 k24
  have D__law_root_by : Df K mg "_law_root_by" s__law_root_by ["cell"] := ⟨f24, _, F24, F24.binds (ps := ["cell"]) (fun _ _ _ _ _ _ us hl => match us, hl with | [_], _ => rfl), PySem.W.mg_of X G a24⟩
  have F25 := fun_mk (st := s__law_drawn) l25 c25 k25
  have D__law_drawn : Df K mg "_law_drawn" s__law_drawn ["script"] := ⟨f25, _, F25, F25.binds (ps := ["script"]) (fun _ _ _ _ _ _ us hl => match us, hl with | [_], _ => rfl), PySem.W.mg_of X G a25⟩
  have F26 := fun_mk (st := s__law_call) l26 c26 k26
  have D__law_call : Df K mg "_law_call" s__law_call ["call", "times", "row", "place"] := ⟨f26, _, F26, F26.binds (ps := ["call", "times", "row", "place"]) (fun _ _ _ _ _ _ us hl => match us, hl with | [_, _, _, _], _ => rfl), PySem.W.mg_of X G a26⟩
  have F27 := fun_mk (st := s__law_kinds) l27 c27 k27
  have D__law_kinds : Df K mg "_law_kinds" s__law_kinds ["call", "times", "row", "place"] := ⟨f27, _, F27, F27.binds (ps := ["call", "times", "row", "place"]) (fun _ _ _ _ _ _ us hl => match us, hl with | [_, _, _, _], _ => rfl), PySem.W.mg_of X G a27⟩
  have tb10 := TT "roots" C10 T10 rq10 (tab_is a10 l10 rfl lc10 vt10)
  have tb12 := TT "children" C12 T12 rq12 (tab_is a12 l12 rfl lc12 vt12)
  refine ⟨PySem.W.fnOf "law" "law" (defArgs s_law) (defBody s_law) (defScope s_law) .none kV28 dc28 pm28 an28 cd28 ct28, [(C10, T10), (C12, T12)], sp_law [(T10, (("roots" : Str) ++ ".<locals>." ++ "<lambda>" : Str)), (T12, (("children" : Str) ++ ".<locals>." ++ "<lambda>" : Str))] K, fun p hp => by
    simp only [List.mem_cons, List.not_mem_nil, or_false] at hp
    rcases hp with rfl | rfl
    · exact tb10.2
    · exact tb12.2, fun p hp => by
    simp only [List.mem_cons, List.not_mem_nil, or_false] at hp
    rcases hp with rfl | rfl
    · exact nt10
    · exact nt12, fun p hp => by
    simp only [List.mem_cons, List.not_mem_nil, or_false] at hp
    rcases hp with rfl | rfl
    · exact tb10.1
    · exact tb12.1, fun s v => .of_eq rfl, fun H a ns hl _ hH hS => law_in hS hl ?_, fun base _ _ hTB => ?_⟩
  · intro p hp
    simp only [List.mem_cons, List.not_mem_nil, or_false] at hp
    rcases hp with rfl | rfl
    · exact LamX.TabS.nil (hH (C10, T10) (by simp))
    · exact LamX.TabS.nil (hH (C12, T12) (by simp))
  have hm10 : (T10, (("roots" : Str) ++ ".<locals>." ++ "<lambda>" : Str)) ∈ ([(T10, (("roots" : Str) ++ ".<locals>." ++ "<lambda>" : Str)), (T12, (("children" : Str) ++ ".<locals>." ++ "<lambda>" : Str))] : Tb) := by simp
  have hu10 : ∀ p ∈ ([(T10, (("roots" : Str) ++ ".<locals>." ++ "<lambda>" : Str)), (T12, (("children" : Str) ++ ".<locals>." ++ "<lambda>" : Str))] : Tb), p.1 = T10 → p.2 = (("roots" : Str) ++ ".<locals>." ++ "<lambda>" : Str) := by
    intro p hp e
    simp only [List.mem_cons, List.not_mem_nil, or_false] at hp
    rcases hp with rfl | rfl
    · rfl
    · exact absurd e nn12_10
  have hm12 : (T12, (("children" : Str) ++ ".<locals>." ++ "<lambda>" : Str)) ∈ ([(T10, (("roots" : Str) ++ ".<locals>." ++ "<lambda>" : Str)), (T12, (("children" : Str) ++ ".<locals>." ++ "<lambda>" : Str))] : Tb) := by simp
  have hu12 : ∀ p ∈ ([(T10, (("roots" : Str) ++ ".<locals>." ++ "<lambda>" : Str)), (T12, (("children" : Str) ++ ".<locals>." ++ "<lambda>" : Str))] : Tb), p.1 = T12 → p.2 = (("children" : Str) ++ ".<locals>." ++ "<lambda>" : Str) := by
    intro p hp e
    simp only [List.mem_cons, List.not_mem_nil, or_false] at hp
    rcases hp with rfl | rfl
    · exact absurd e nn10_12
    · rfl
  have c_product : Ca CX0 l.prog w K mg base 1 "product" (sp_product [(T10, (("roots" : Str) ++ ".<locals>." ++ "<lambda>" : Str)), (T12, (("children" : Str) ++ ".<locals>." ++ "<lambda>" : Str))] K) := ok_product B Z_RowError Z_NoRow Z_NoPlace Z_NoSuch Z_BadText kk_noRow_noRow kk_noRow_noPlace kk_noRow_noSuch kk_noRow_badText kk_noRow_VE kk_noPlace_noRow kk_noPlace_noPlace kk_noPlace_noSuch kk_noPlace_badText kk_noPlace_VE kk_noSuch_noRow kk_noSuch_noPlace kk_noSuch_noSuch kk_noSuch_badText kk_noSuch_VE kk_badText_noRow kk_badText_noPlace kk_badText_noSuch kk_badText_badText kk_badText_VE   D_product
  have c_holds : Ca CX0 l.prog w K mg base 2 "holds" (sp_holds [(T10, (("roots" : Str) ++ ".<locals>." ++ "<lambda>" : Str)), (T12, (("children" : Str) ++ ".<locals>." ++ "<lambda>" : Str))] K) := ok_holds B Z_RowError Z_NoRow Z_NoPlace Z_NoSuch Z_BadText kk_noRow_noRow kk_noRow_noPlace kk_noRow_noSuch kk_noRow_badText kk_noRow_VE kk_noPlace_noRow kk_noPlace_noPlace kk_noPlace_noSuch kk_noPlace_badText kk_noPlace_VE kk_noSuch_noRow kk_noSuch_noPlace kk_noSuch_noSuch kk_noSuch_badText kk_noSuch_VE kk_badText_noRow kk_badText_noPlace kk_badText_noSuch kk_badText_badText kk_badText_VE  c_product D_holds
  have c_see_row : Ca CX0 l.prog w K mg base 3 "see_row" (sp_see_row [(T10, (("roots" : Str) ++ ".<locals>." ++ "<lambda>" : Str)), (T12, (("children" : Str) ++ ".<locals>." ++ "<lambda>" : Str))] K) := ok_see_row B Z_RowError Z_NoRow Z_NoPlace Z_NoSuch Z_BadText kk_noRow_noRow kk_noRow_noPlace kk_noRow_noSuch kk_noRow_badText kk_noRow_VE kk_noPlace_noRow kk_noPlace_noPlace kk_noPlace_noSuch kk_noPlace_badText kk_noPlace_VE kk_noSuch_noRow kk_noSuch_noPlace kk_noSuch_noSuch kk_noSuch_badText kk_noSuch_VE kk_badText_noRow kk_badText_noPlace kk_badText_noSuch kk_badText_badText kk_badText_VE  c_holds D_see_row
  have r_see_row : Ca (L2.CX l.prog w) l.prog w K mg base 3 "see_row" (spX_see_row Z [(T10, (("roots" : Str) ++ ".<locals>." ++ "<lambda>" : Str)), (T12, (("children" : Str) ++ ".<locals>." ++ "<lambda>" : Str))] K) := okX_see_row B Z_RowError Z_NoRow Z_NoPlace Z_NoSuch Z_BadText kk_noRow_noRow kk_noRow_noPlace kk_noRow_noSuch kk_noRow_badText kk_noRow_VE kk_noPlace_noRow kk_noPlace_noPlace kk_noPlace_noSuch kk_noPlace_badText kk_noPlace_VE kk_noSuch_noRow kk_noSuch_noPlace kk_noSuch_noSuch kk_noSuch_badText kk_noSuch_VE kk_badText_noRow kk_badText_noPlace kk_badText_noSuch kk_badText_badText kk_badText_VE  c_holds D_see_row
  have c_at_place : Ca CX0 l.prog w K mg base 2 "at_place" (sp_at_place [(T10, (("roots" : Str) ++ ".<locals>." ++ "<lambda>" : Str)), (T12, (("children" : Str) ++ ".<locals>." ++ "<lambda>" : Str))] K) := ok_at_place B Z_RowError Z_NoRow Z_NoPlace Z_NoSuch Z_BadText kk_noRow_noRow kk_noRow_noPlace kk_noRow_noSuch kk_noRow_badText kk_noRow_VE kk_noPlace_noRow kk_noPlace_noPlace kk_noPlace_noSuch kk_noPlace_badText kk_noPlace_VE kk_noSuch_noRow kk_noSuch_noPlace kk_noSuch_noSuch kk_noSuch_badText kk_noSuch_VE kk_badText_noRow kk_badText_noPlace kk_badText_noSuch kk_badText_badText kk_badText_VE  c_product D_at_place
  have c_neighbour : Ca (L2.CX l.prog w) l.prog w K mg base 4 "neighbour" (sp_neighbour Z [(T10, (("roots" : Str) ++ ".<locals>." ++ "<lambda>" : Str)), (T12, (("children" : Str) ++ ".<locals>." ++ "<lambda>" : Str))] K) := ok_neighbour B Z_RowError Z_NoRow Z_NoPlace Z_NoSuch Z_BadText kk_noRow_noRow kk_noRow_noPlace kk_noRow_noSuch kk_noRow_badText kk_noRow_VE kk_noPlace_noRow kk_noPlace_noPlace kk_noPlace_noSuch kk_noPlace_badText kk_noPlace_VE kk_noSuch_noRow kk_noSuch_noPlace kk_noSuch_noSuch kk_noSuch_badText kk_noSuch_VE kk_badText_noRow kk_badText_noPlace kk_badText_noSuch kk_badText_badText kk_badText_VE  c_see_row c_at_place r_see_row D_neighbour
  have c_neighbours : Ca CX0 l.prog w K mg base 4 "neighbours" (sp_neighbours [(T10, (("roots" : Str) ++ ".<locals>." ++ "<lambda>" : Str)), (T12, (("children" : Str) ++ ".<locals>." ++ "<lambda>" : Str))] K) := ok_neighbours B Z_RowError Z_NoRow Z_NoPlace Z_NoSuch Z_BadText kk_noRow_noRow kk_noRow_noPlace kk_noRow_noSuch kk_noRow_badText kk_noRow_VE kk_noPlace_noRow kk_noPlace_noPlace kk_noPlace_noSuch kk_noPlace_badText kk_noPlace_VE kk_noSuch_noRow kk_noSuch_noPlace kk_noSuch_noSuch kk_noSuch_badText kk_noSuch_VE kk_badText_noRow kk_badText_noPlace kk_badText_noSuch kk_badText_badText kk_badText_VE  c_see_row c_at_place D_neighbours
  have r_neighbours : Ca (L2.CX l.prog w) l.prog w K mg base 4 "neighbours" (spR Z [(T10, (("roots" : Str) ++ ".<locals>." ++ "<lambda>" : Str)), (T12, (("children" : Str) ++ ".<locals>." ++ "<lambda>" : Str))] K) := okR_neighbours B Z_RowError Z_NoRow Z_NoPlace Z_NoSuch Z_BadText kk_noRow_noRow kk_noRow_noPlace kk_noRow_noSuch kk_noRow_badText kk_noRow_VE kk_noPlace_noRow kk_noPlace_noPlace kk_noPlace_noSuch kk_noPlace_badText kk_noPlace_VE kk_noSuch_noRow kk_noSuch_noPlace kk_noSuch_noSuch kk_noSuch_badText kk_noSuch_VE kk_badText_noRow kk_badText_noPlace kk_badText_noSuch kk_badText_badText kk_badText_VE  r_see_row D_neighbours
  have c_is_root : Ca CX0 l.prog w K mg base 4 "is_root" (sp_is_root [(T10, (("roots" : Str) ++ ".<locals>." ++ "<lambda>" : Str)), (T12, (("children" : Str) ++ ".<locals>." ++ "<lambda>" : Str))] K) := ok_is_root B Z_RowError Z_NoRow Z_NoPlace Z_NoSuch Z_BadText kk_noRow_noRow kk_noRow_noPlace kk_noRow_noSuch kk_noRow_badText kk_noRow_VE kk_noPlace_noRow kk_noPlace_noPlace kk_noPlace_noSuch kk_noPlace_badText kk_noPlace_VE kk_noSuch_noRow kk_noSuch_noPlace kk_noSuch_noSuch kk_noSuch_badText kk_noSuch_VE kk_badText_noRow kk_badText_noPlace kk_badText_noSuch kk_badText_badText kk_badText_VE  c_see_row c_at_place D_is_root
  have r_is_root : Ca (L2.CX l.prog w) l.prog w K mg base 4 "is_root" (spR Z [(T10, (("roots" : Str) ++ ".<locals>." ++ "<lambda>" : Str)), (T12, (("children" : Str) ++ ".<locals>." ++ "<lambda>" : Str))] K) := okR_is_root B Z_RowError Z_NoRow Z_NoPlace Z_NoSuch Z_BadText kk_noRow_noRow kk_noRow_noPlace kk_noRow_noSuch kk_noRow_badText kk_noRow_VE kk_noPlace_noRow kk_noPlace_noPlace kk_noPlace_noSuch kk_noPlace_badText kk_noPlace_VE kk_noSuch_noRow kk_noSuch_noPlace kk_noSuch_noSuch kk_noSuch_badText kk_noSuch_VE kk_badText_noRow kk_badText_noPlace kk_badText_noSuch kk_badText_badText kk_badText_VE  r_see_row D_is_root
  have c_parts : Ca CX0 l.prog w K mg base 5 "parts" (sp_parts [(T10, (("roots" : Str) ++ ".<locals>." ++ "<lambda>" : Str)), (T12, (("children" : Str) ++ ".<locals>." ++ "<lambda>" : Str))] K) := ok_parts B Z_RowError Z_NoRow Z_NoPlace Z_NoSuch Z_BadText kk_noRow_noRow kk_noRow_noPlace kk_noRow_noSuch kk_noRow_badText kk_noRow_VE kk_noPlace_noRow kk_noPlace_noPlace kk_noPlace_noSuch kk_noPlace_badText kk_noPlace_VE kk_noSuch_noRow kk_noSuch_noPlace kk_noSuch_noSuch kk_noSuch_badText kk_noSuch_VE kk_badText_noRow kk_badText_noPlace kk_badText_noSuch kk_badText_badText kk_badText_VE   D_parts
  have c_whole_root : Ca CX0 l.prog w K mg base 1 "whole_root" (sp_whole_root [(T10, (("roots" : Str) ++ ".<locals>." ++ "<lambda>" : Str)), (T12, (("children" : Str) ++ ".<locals>." ++ "<lambda>" : Str))] K) := ok_whole_root B Z_RowError Z_NoRow Z_NoPlace Z_NoSuch Z_BadText kk_noRow_noRow kk_noRow_noPlace kk_noRow_noSuch kk_noRow_badText kk_noRow_VE kk_noPlace_noRow kk_noPlace_noPlace kk_noPlace_noSuch kk_noPlace_badText kk_noPlace_VE kk_noSuch_noRow kk_noSuch_noPlace kk_noSuch_noSuch kk_noSuch_badText kk_noSuch_VE kk_badText_noRow kk_badText_noPlace kk_badText_noSuch kk_badText_badText kk_badText_VE   D_whole_root
  have c_ends : Ca CX0 l.prog w K mg base 2 "ends" (sp_ends [(T10, (("roots" : Str) ++ ".<locals>." ++ "<lambda>" : Str)), (T12, (("children" : Str) ++ ".<locals>." ++ "<lambda>" : Str))] K) := ok_ends B Z_RowError Z_NoRow Z_NoPlace Z_NoSuch Z_BadText kk_noRow_noRow kk_noRow_noPlace kk_noRow_noSuch kk_noRow_badText kk_noRow_VE kk_noPlace_noRow kk_noPlace_noPlace kk_noPlace_noSuch kk_noPlace_badText kk_noPlace_VE kk_noSuch_noRow kk_noSuch_noPlace kk_noSuch_noSuch kk_noSuch_badText kk_noSuch_VE kk_badText_noRow kk_badText_noPlace kk_badText_noSuch kk_badText_badText kk_badText_VE  c_product c_whole_root D_ends
  have c_roots : Ca CX0 l.prog w K mg base 6 "roots" (sp_roots [(T10, (("roots" : Str) ++ ".<locals>." ++ "<lambda>" : Str)), (T12, (("children" : Str) ++ ".<locals>." ++ "<lambda>" : Str))] K) := ok_roots B Z_RowError Z_NoRow Z_NoPlace Z_NoSuch Z_BadText kk_noRow_noRow kk_noRow_noPlace kk_noRow_noSuch kk_noRow_badText kk_noRow_VE kk_noPlace_noRow kk_noPlace_noPlace kk_noPlace_noSuch kk_noPlace_badText kk_noPlace_VE kk_noSuch_noRow kk_noSuch_noPlace kk_noSuch_noSuch kk_noSuch_badText kk_noSuch_VE kk_badText_noRow kk_badText_noPlace kk_badText_noSuch kk_badText_badText kk_badText_VE  (hTB (C10, T10) (by simp)) hm10 hu10 c_parts c_product c_ends D_roots
  have c_comes_from : Ca CX0 l.prog w K mg base 5 "comes_from" (sp_comes_from [(T10, (("roots" : Str) ++ ".<locals>." ++ "<lambda>" : Str)), (T12, (("children" : Str) ++ ".<locals>." ++ "<lambda>" : Str))] K) := ok_comes_from B Z_RowError Z_NoRow Z_NoPlace Z_NoSuch Z_BadText kk_noRow_noRow kk_noRow_noPlace kk_noRow_noSuch kk_noRow_badText kk_noRow_VE kk_noPlace_noRow kk_noPlace_noPlace kk_noPlace_noSuch kk_noPlace_badText kk_noPlace_VE kk_noSuch_noRow kk_noSuch_noPlace kk_noSuch_noSuch kk_noSuch_badText kk_noSuch_VE kk_badText_noRow kk_badText_noPlace kk_badText_noSuch kk_badText_badText kk_badText_VE  c_is_root c_at_place D_comes_from
  have r_comes_from : Ca (L2.CX l.prog w) l.prog w K mg base 5 "comes_from" (spR Z [(T10, (("roots" : Str) ++ ".<locals>." ++ "<lambda>" : Str)), (T12, (("children" : Str) ++ ".<locals>." ++ "<lambda>" : Str))] K) := okR_comes_from B Z_RowError Z_NoRow Z_NoPlace Z_NoSuch Z_BadText kk_noRow_noRow kk_noRow_noPlace kk_noRow_noSuch kk_noRow_badText kk_noRow_VE kk_noPlace_noRow kk_noPlace_noPlace kk_noPlace_noSuch kk_noPlace_badText kk_noPlace_VE kk_noSuch_noRow kk_noSuch_noPlace kk_noSuch_noSuch kk_noSuch_badText kk_noSuch_VE kk_badText_noRow kk_badText_noPlace kk_badText_noSuch kk_badText_badText kk_badText_VE  r_is_root D_comes_from
  have c_children : Ca CX0 l.prog w K mg base 4 "children" (sp_children [(T10, (("roots" : Str) ++ ".<locals>." ++ "<lambda>" : Str)), (T12, (("children" : Str) ++ ".<locals>." ++ "<lambda>" : Str))] K) := ok_children B Z_RowError Z_NoRow Z_NoPlace Z_NoSuch Z_BadText kk_noRow_noRow kk_noRow_noPlace kk_noRow_noSuch kk_noRow_badText kk_noRow_VE kk_noPlace_noRow kk_noPlace_noPlace kk_noPlace_noSuch kk_noPlace_badText kk_noPlace_VE kk_noSuch_noRow kk_noSuch_noPlace kk_noSuch_noSuch kk_noSuch_badText kk_noSuch_VE kk_badText_noRow kk_badText_noPlace kk_badText_noSuch kk_badText_badText kk_badText_VE  (hTB (C12, T12) (by simp)) hm12 hu12 c_see_row c_at_place D_children
  have r_children : Ca (L2.CX l.prog w) l.prog w K mg base 4 "children" (spR Z [(T10, (("roots" : Str) ++ ".<locals>." ++ "<lambda>" : Str)), (T12, (("children" : Str) ++ ".<locals>." ++ "<lambda>" : Str))] K) := okR_children B Z_RowError Z_NoRow Z_NoPlace Z_NoSuch Z_BadText kk_noRow_noRow kk_noRow_noPlace kk_noRow_noSuch kk_noRow_badText kk_noRow_VE kk_noPlace_noRow kk_noPlace_noPlace kk_noPlace_noSuch kk_noPlace_badText kk_noPlace_VE kk_noSuch_noRow kk_noSuch_noPlace kk_noSuch_noSuch kk_noSuch_badText kk_noSuch_VE kk_badText_noRow kk_badText_noPlace kk_badText_noSuch kk_badText_badText kk_badText_VE  r_see_row D_children
  have c_least_place : Ca CX0 l.prog w K mg base 3 "least_place" (sp_least_place [(T10, (("roots" : Str) ++ ".<locals>." ++ "<lambda>" : Str)), (T12, (("children" : Str) ++ ".<locals>." ++ "<lambda>" : Str))] K) := ok_least_place B Z_RowError Z_NoRow Z_NoPlace Z_NoSuch Z_BadText kk_noRow_noRow kk_noRow_noPlace kk_noRow_noSuch kk_noRow_badText kk_noRow_VE kk_noPlace_noRow kk_noPlace_noPlace kk_noPlace_noSuch kk_noPlace_badText kk_noPlace_VE kk_noSuch_noRow kk_noSuch_noPlace kk_noSuch_noSuch kk_noSuch_badText kk_noSuch_VE kk_badText_noRow kk_badText_noPlace kk_badText_noSuch kk_badText_badText kk_badText_VE  c_at_place D_least_place
  have c_way : Ca CX0 l.prog w K mg base 6 "way" (sp_way [(T10, (("roots" : Str) ++ ".<locals>." ++ "<lambda>" : Str)), (T12, (("children" : Str) ++ ".<locals>." ++ "<lambda>" : Str))] K) := ok_way B Z_RowError Z_NoRow Z_NoPlace Z_NoSuch Z_BadText kk_noRow_noRow kk_noRow_noPlace kk_noRow_noSuch kk_noRow_badText kk_noRow_VE kk_noPlace_noRow kk_noPlace_noPlace kk_noPlace_noSuch kk_noPlace_badText kk_noPlace_VE kk_noSuch_noRow kk_noSuch_noPlace kk_noSuch_noSuch kk_noSuch_badText kk_noSuch_VE kk_badText_noRow kk_badText_noPlace kk_badText_noSuch kk_badText_badText kk_badText_VE  c_see_row c_comes_from c_least_place D_way
  have r_way : Ca (L2.CX l.prog w) l.prog w K mg base 6 "way" (spR Z [(T10, (("roots" : Str) ++ ".<locals>." ++ "<lambda>" : Str)), (T12, (("children" : Str) ++ ".<locals>." ++ "<lambda>" : Str))] K) := okR_way B Z_RowError Z_NoRow Z_NoPlace Z_NoSuch Z_BadText kk_noRow_noRow kk_noRow_noPlace kk_noRow_noSuch kk_noRow_badText kk_noRow_VE kk_noPlace_noRow kk_noPlace_noPlace kk_noPlace_noSuch kk_noPlace_badText kk_noPlace_VE kk_noSuch_noRow kk_noSuch_noPlace kk_noSuch_noSuch kk_noSuch_badText kk_noSuch_VE kk_badText_noRow kk_badText_noPlace kk_badText_noSuch kk_badText_badText kk_badText_VE  r_see_row D_way
  have c_led : Ca (L2.CX l.prog w) l.prog w K mg base 5 "led" (sp_led Z [(T10, (("roots" : Str) ++ ".<locals>." ++ "<lambda>" : Str)), (T12, (("children" : Str) ++ ".<locals>." ++ "<lambda>" : Str))] K) := ok_led B Z_RowError Z_NoRow Z_NoPlace Z_NoSuch Z_BadText kk_noRow_noRow kk_noRow_noPlace kk_noRow_noSuch kk_noRow_badText kk_noRow_VE kk_noPlace_noRow kk_noPlace_noPlace kk_noPlace_noSuch kk_noPlace_badText kk_noPlace_VE kk_noSuch_noRow kk_noSuch_noPlace kk_noSuch_noSuch kk_noSuch_badText kk_noSuch_VE kk_badText_noRow kk_badText_noPlace kk_badText_noSuch kk_badText_badText kk_badText_VE  c_see_row c_neighbour r_see_row D_led
  have c_key_of : Ca CX0 l.prog w K mg base 1 "key_of" (sp_key_of [(T10, (("roots" : Str) ++ ".<locals>." ++ "<lambda>" : Str)), (T12, (("children" : Str) ++ ".<locals>." ++ "<lambda>" : Str))] K) := ok_key_of B Z_RowError Z_NoRow Z_NoPlace Z_NoSuch Z_BadText kk_noRow_noRow kk_noRow_noPlace kk_noRow_noSuch kk_noRow_badText kk_noRow_VE kk_noPlace_noRow kk_noPlace_noPlace kk_noPlace_noSuch kk_noPlace_badText kk_noPlace_VE kk_noSuch_noRow kk_noSuch_noPlace kk_noSuch_noSuch kk_noSuch_badText kk_noSuch_VE kk_badText_noRow kk_badText_noPlace kk_badText_noSuch kk_badText_badText kk_badText_VE   D_key_of
  have c_up_to : Ca CX0 l.prog w K mg base 7 "up_to" (sp_up_to [(T10, (("roots" : Str) ++ ".<locals>." ++ "<lambda>" : Str)), (T12, (("children" : Str) ++ ".<locals>." ++ "<lambda>" : Str))] K) := ok_up_to B Z_RowError Z_NoRow Z_NoPlace Z_NoSuch Z_BadText kk_noRow_noRow kk_noRow_noPlace kk_noRow_noSuch kk_noRow_badText kk_noRow_VE kk_noPlace_noRow kk_noPlace_noPlace kk_noPlace_noSuch kk_noPlace_badText kk_noPlace_VE kk_noSuch_noRow kk_noSuch_noPlace kk_noSuch_noSuch kk_noSuch_badText kk_noSuch_VE kk_badText_noRow kk_badText_noPlace kk_badText_noSuch kk_badText_badText kk_badText_VE  c_children c_key_of c_roots D_up_to
  have c_place_of : Ca CX0 l.prog w K mg base 8 "place_of" (sp_place_of [(T10, (("roots" : Str) ++ ".<locals>." ++ "<lambda>" : Str)), (T12, (("children" : Str) ++ ".<locals>." ++ "<lambda>" : Str))] K) := ok_place_of B Z_RowError Z_NoRow Z_NoPlace Z_NoSuch Z_BadText kk_noRow_noRow kk_noRow_noPlace kk_noRow_noSuch kk_noRow_badText kk_noRow_VE kk_noPlace_noRow kk_noPlace_noPlace kk_noPlace_noSuch kk_noPlace_badText kk_noPlace_VE kk_noSuch_noRow kk_noSuch_noPlace kk_noSuch_noSuch kk_noSuch_badText kk_noSuch_VE kk_badText_noRow kk_badText_noPlace kk_badText_noSuch kk_badText_badText kk_badText_VE  c_see_row c_up_to D_place_of
  have r_place_of : Ca (L2.CX l.prog w) l.prog w K mg base 8 "place_of" (spR Z [(T10, (("roots" : Str) ++ ".<locals>." ++ "<lambda>" : Str)), (T12, (("children" : Str) ++ ".<locals>." ++ "<lambda>" : Str))] K) := okR_place_of B Z_RowError Z_NoRow Z_NoPlace Z_NoSuch Z_BadText kk_noRow_noRow kk_noRow_noPlace kk_noRow_noSuch kk_noRow_badText kk_noRow_VE kk_noPlace_noRow kk_noPlace_noPlace kk_noPlace_noSuch kk_noPlace_badText kk_noPlace_VE kk_noSuch_noRow kk_noSuch_noPlace kk_noSuch_noSuch kk_noSuch_badText kk_noSuch_VE kk_badText_noRow kk_badText_noPlace kk_badText_noSuch kk_badText_badText kk_badText_VE  r_see_row D_place_of
  have c_shown : Ca CX0 l.prog w K mg base 4 "shown" (sp_shown [(T10, (("roots" : Str) ++ ".<locals>." ++ "<lambda>" : Str)), (T12, (("children" : Str) ++ ".<locals>." ++ "<lambda>" : Str))] K) := ok_shown B Z_RowError Z_NoRow Z_NoPlace Z_NoSuch Z_BadText kk_noRow_noRow kk_noRow_noPlace kk_noRow_noSuch kk_noRow_badText kk_noRow_VE kk_noPlace_noRow kk_noPlace_noPlace kk_noPlace_noSuch kk_noPlace_badText kk_noPlace_VE kk_noSuch_noRow kk_noSuch_noPlace kk_noSuch_noSuch kk_noSuch_badText kk_noSuch_VE kk_badText_noRow kk_badText_noPlace kk_badText_noSuch kk_badText_badText kk_badText_VE  c_see_row D_shown
  have r_shown : Ca (L2.CX l.prog w) l.prog w K mg base 4 "shown" (spR Z [(T10, (("roots" : Str) ++ ".<locals>." ++ "<lambda>" : Str)), (T12, (("children" : Str) ++ ".<locals>." ++ "<lambda>" : Str))] K) := okR_shown B Z_RowError Z_NoRow Z_NoPlace Z_NoSuch Z_BadText kk_noRow_noRow kk_noRow_noPlace kk_noRow_noSuch kk_noRow_badText kk_noRow_VE kk_noPlace_noRow kk_noPlace_noPlace kk_noPlace_noSuch kk_noPlace_badText kk_noPlace_VE kk_noSuch_noRow kk_noSuch_noPlace kk_noSuch_noSuch kk_noSuch_badText kk_noSuch_VE kk_badText_noRow kk_badText_noPlace kk_badText_noSuch kk_badText_badText kk_badText_VE  r_see_row D_shown
  have c__law_cell_at : Ca CX0 l.prog w K mg base 1 "_law_cell_at" (sp__law_cell_at [(T10, (("roots" : Str) ++ ".<locals>." ++ "<lambda>" : Str)), (T12, (("children" : Str) ++ ".<locals>." ++ "<lambda>" : Str))] K) := ok__law_cell_at B Z_RowError Z_NoRow Z_NoPlace Z_NoSuch Z_BadText kk_noRow_noRow kk_noRow_noPlace kk_noRow_noSuch kk_noRow_badText kk_noRow_VE kk_noPlace_noRow kk_noPlace_noPlace kk_noPlace_noSuch kk_noPlace_badText kk_noPlace_VE kk_noSuch_noRow kk_noSuch_noPlace kk_noSuch_noSuch kk_noSuch_badText kk_noSuch_VE kk_badText_noRow kk_badText_noPlace kk_badText_noSuch kk_badText_badText kk_badText_VE   D__law_cell_at
  have c__law_product : Ca CX0 l.prog w K mg base 1 "_law_product" (sp__law_product [(T10, (("roots" : Str) ++ ".<locals>." ++ "<lambda>" : Str)), (T12, (("children" : Str) ++ ".<locals>." ++ "<lambda>" : Str))] K) := ok__law_product B Z_RowError Z_NoRow Z_NoPlace Z_NoSuch Z_BadText kk_noRow_noRow kk_noRow_noPlace kk_noRow_noSuch kk_noRow_badText kk_noRow_VE kk_noPlace_noRow kk_noPlace_noPlace kk_noPlace_noSuch kk_noPlace_badText kk_noPlace_VE kk_noSuch_noRow kk_noSuch_noPlace kk_noSuch_noSuch kk_noSuch_badText kk_noSuch_VE kk_badText_noRow kk_badText_noPlace kk_badText_noSuch kk_badText_badText kk_badText_VE   D__law_product
  have c__law_near : Ca CX0 l.prog w K mg base 2 "_law_near" (sp__law_near [(T10, (("roots" : Str) ++ ".<locals>." ++ "<lambda>" : Str)), (T12, (("children" : Str) ++ ".<locals>." ++ "<lambda>" : Str))] K) := ok__law_near B Z_RowError Z_NoRow Z_NoPlace Z_NoSuch Z_BadText kk_noRow_noRow kk_noRow_noPlace kk_noRow_noSuch kk_noRow_badText kk_noRow_VE kk_noPlace_noRow kk_noPlace_noPlace kk_noPlace_noSuch kk_noPlace_badText kk_noPlace_VE kk_noSuch_noRow kk_noSuch_noPlace kk_noSuch_noSuch kk_noSuch_badText kk_noSuch_VE kk_badText_noRow kk_badText_noPlace kk_badText_noSuch kk_badText_badText kk_badText_VE  c__law_product D__law_near
  have c__law_is_row : Ca CX0 l.prog w K mg base 2 "_law_is_row" (sp__law_is_row [(T10, (("roots" : Str) ++ ".<locals>." ++ "<lambda>" : Str)), (T12, (("children" : Str) ++ ".<locals>." ++ "<lambda>" : Str))] K) := ok__law_is_row B Z_RowError Z_NoRow Z_NoPlace Z_NoSuch Z_BadText kk_noRow_noRow kk_noRow_noPlace kk_noRow_noSuch kk_noRow_badText kk_noRow_VE kk_noPlace_noRow kk_noPlace_noPlace kk_noPlace_noSuch kk_noPlace_badText kk_noPlace_VE kk_noSuch_noRow kk_noSuch_noPlace kk_noSuch_noSuch kk_noSuch_badText kk_noSuch_VE kk_badText_noRow kk_badText_noPlace kk_badText_noSuch kk_badText_badText kk_badText_VE  c__law_product D__law_is_row
  have c__law_root_by : Ca CX0 l.prog w K mg base 1 "_law_root_by" (sp__law_root_by [(T10, (("roots" : Str) ++ ".<locals>." ++ "<lambda>" : Str)), (T12, (("children" : Str) ++ ".<locals>." ++ "<lambda>" : Str))] K) := ok__law_root_by B Z_RowError Z_NoRow Z_NoPlace Z_NoSuch Z_BadText kk_noRow_noRow kk_noRow_noPlace kk_noRow_noSuch kk_noRow_badText kk_noRow_VE kk_noPlace_noRow kk_noPlace_noPlace kk_noPlace_noSuch kk_noPlace_badText kk_noPlace_VE kk_noSuch_noRow kk_noSuch_noPlace kk_noSuch_noSuch kk_noSuch_badText kk_noSuch_VE kk_badText_noRow kk_badText_noPlace kk_badText_noSuch kk_badText_badText kk_badText_VE   D__law_root_by
  have c__law_drawn : Ca CX0 l.prog w K mg base 3 "_law_drawn" (sp__law_drawn [(T10, (("roots" : Str) ++ ".<locals>." ++ "<lambda>" : Str)), (T12, (("children" : Str) ++ ".<locals>." ++ "<lambda>" : Str))] K) := ok__law_drawn B Z_RowError Z_NoRow Z_NoPlace Z_NoSuch Z_BadText kk_noRow_noRow kk_noRow_noPlace kk_noRow_noSuch kk_noRow_badText kk_noRow_VE kk_noPlace_noRow kk_noPlace_noPlace kk_noPlace_noSuch kk_noPlace_badText kk_noPlace_VE kk_noSuch_noRow kk_noSuch_noPlace kk_noSuch_noSuch kk_noSuch_badText kk_noSuch_VE kk_badText_noRow kk_badText_noPlace kk_badText_noSuch kk_badText_badText kk_badText_VE  c__law_root_by c__law_cell_at c__law_near D__law_drawn
  have c__law_call : Ca (L2.CX l.prog w) l.prog w K mg base 7 "_law_call" (sp__law_call Z [(T10, (("roots" : Str) ++ ".<locals>." ++ "<lambda>" : Str)), (T12, (("children" : Str) ++ ".<locals>." ++ "<lambda>" : Str))] K) := ok__law_call B Z_RowError Z_NoRow Z_NoPlace Z_NoSuch Z_BadText kk_noRow_noRow kk_noRow_noPlace kk_noRow_noSuch kk_noRow_badText kk_noRow_VE kk_noPlace_noRow kk_noPlace_noPlace kk_noPlace_noSuch kk_noPlace_badText kk_noPlace_VE kk_noSuch_noRow kk_noSuch_noPlace kk_noSuch_noSuch kk_noSuch_badText kk_noSuch_VE kk_badText_noRow kk_badText_noPlace kk_badText_noSuch kk_badText_badText kk_badText_VE  c_neighbour c_neighbours c_is_root c_comes_from c_children c_way c_led c_shown r_neighbours r_is_root r_comes_from r_children r_way r_shown D__law_call
  have c__law_kinds : Ca CX0 l.prog w K mg base 9 "_law_kinds" (sp__law_kinds [(T10, (("roots" : Str) ++ ".<locals>." ++ "<lambda>" : Str)), (T12, (("children" : Str) ++ ".<locals>." ++ "<lambda>" : Str))] K) := ok__law_kinds B Z_RowError Z_NoRow Z_NoPlace Z_NoSuch Z_BadText kk_noRow_noRow kk_noRow_noPlace kk_noRow_noSuch kk_noRow_badText kk_noRow_VE kk_noPlace_noRow kk_noPlace_noPlace kk_noPlace_noSuch kk_noPlace_badText kk_noPlace_VE kk_noSuch_noRow kk_noSuch_noPlace kk_noSuch_noSuch kk_noSuch_badText kk_noSuch_VE kk_badText_noRow kk_badText_noPlace kk_badText_noSuch kk_badText_badText kk_badText_VE  c_place_of c__law_call r_place_of D__law_kinds
  exact ok_law B Z_RowError Z_NoRow Z_NoPlace Z_NoSuch Z_BadText kk_noRow_noRow kk_noRow_noPlace kk_noRow_noSuch kk_noRow_badText kk_noRow_VE kk_noPlace_noRow kk_noPlace_noPlace kk_noPlace_noSuch kk_noPlace_badText kk_noPlace_VE kk_noSuch_noRow kk_noSuch_noPlace kk_noSuch_noSuch kk_noSuch_badText kk_noSuch_VE kk_badText_noRow kk_badText_noPlace kk_badText_noSuch kk_badText_badText kk_badText_VE  c__law_drawn c__law_cell_at c__law_is_row c__law_kinds (fun_mk (st := s_law) l28 c28 k28)

end Sm
open PySem PySem.W PyProof.Rows
set_option maxHeartbeats 0 in
theorem PySem.Challenge.cw_sumtimes_k03_no_rows_holds : PySem.Challenge.rw_sumtimes_k03_no_rows.Holds := by
  w_on; o_law; k_head; (case hw => w_witness2)
  k_fill
  refine Sm.walk_tab (l := PySem.Challenge.rw_sumtimes_k03_no_rows) (n := 63) (k := 10) (x := "script") (CX := fun _ => L2.CX0) rfl (by decide) rfl ⟨rfl, by decide, by decide⟩ (fun w h Y => PySem.W.km_in_of Y) ?F (fun _ _ _ _ _ h => h)
  case F =>
    intro w mg fa h _ KX G hmg TT
    refine' Sm.all_mk KX G TT hmg ?a0 ?l0 ?c0 ?k0 ?a1 ?l1 ?c1 ?k1 ?a2 ?l2 ?c2 ?k2 ?a3 ?l3 ?c3 ?k3 ?a4 ?l4 ?c4 ?k4 ?a5 ?l5 ?c5 ?k5 ?a6 ?l6 ?c6 ?k6 ?a7 ?l7 ?c7 ?k7 ?a8 ?l8 ?c8 ?k8 ?a9 ?l9 ?c9 ?k9 ?a10 ?l10 ?c10 ?k10 ?a11 ?l11 ?c11 ?k11 ?a12 ?l12 ?c12 ?k12 ?a13 ?l13 ?c13 ?k13 ?a14 ?l14 ?c14 ?k14 ?a15 ?l15 ?c15 ?k15 ?a16 ?l16 ?c16 ?k16 ?a17 ?l17 ?c17 ?k17 ?a18 ?l18 ?c18 ?k18 ?a19 ?l19 ?c19 ?k19 ?a20 ?l20 ?c20 ?k20 ?a21 ?l21 ?c21 ?k21 ?a22 ?l22 ?c22 ?k22 ?a23 ?l23 ?c23 ?k23 ?a24 ?l24 ?c24 ?k24 ?a25 ?l25 ?c25 ?k25 ?a26 ?l26 ?c26 ?k26 ?a27 ?l27 ?c27 ?k27 ?a28 ?l28 ?c28 ?k28 ?z_len ?z_range ?z_sum ?z_sorted ?z_min ?z_max ?z_isinstance ?z_int ?z_bool ?z_list ?z_tuple ?z_str ?z_set ?z_ValueError ?yn ?yt ?grow ?xrow ?krow ?brow ?trow ?srow ?hgrow ?hkrow ?hdrow ?harow ?hmrow ?gnoRow ?xnoRow ?knoRow ?bnoRow ?tnoRow ?snoRow ?hgnoRow ?hknoRow ?hdnoRow ?hanoRow ?hmnoRow ?gnoPlace ?xnoPlace ?knoPlace ?bnoPlace ?tnoPlace ?snoPlace ?hgnoPlace ?hknoPlace ?hdnoPlace ?hanoPlace ?hmnoPlace ?gnoSuch ?xnoSuch ?knoSuch ?bnoSuch ?tnoSuch ?snoSuch ?hgnoSuch ?hknoSuch ?hdnoSuch ?hanoSuch ?hmnoSuch ?gbadText ?xbadText ?kbadText ?bbadText ?tbadText ?sbadText ?hgbadText ?hkbadText ?hdbadText ?habadText ?hmbadText ?eq_kk_noRow_noRow ?ss_kk_noRow_noPlace ?eq_kk_noRow_noPlace ?ss_kk_noRow_noSuch ?eq_kk_noRow_noSuch ?ss_kk_noRow_badText ?eq_kk_noRow_badText ?ss_kk_noRow_VE ?ss_kk_noPlace_noRow ?eq_kk_noPlace_noRow ?eq_kk_noPlace_noPlace ?ss_kk_noPlace_noSuch ?eq_kk_noPlace_noSuch ?ss_kk_noPlace_badText ?eq_kk_noPlace_badText ?ss_kk_noPlace_VE ?ss_kk_noSuch_noRow ?eq_kk_noSuch_noRow ?ss_kk_noSuch_noPlace ?eq_kk_noSuch_noPlace ?eq_kk_noSuch_noSuch ?ss_kk_noSuch_badText ?eq_kk_noSuch_badText ?ss_kk_noSuch_VE ?ss_kk_badText_noRow ?eq_kk_badText_noRow ?ss_kk_badText_noPlace ?eq_kk_badText_noPlace ?ss_kk_badText_noSuch ?eq_kk_badText_noSuch ?eq_kk_badText_badText ?ss_kk_badText_VE ?lc10 ?vt10 ?nt10 ?rq10 ?lc12 ?vt12 ?nt12 ?rq12 ?nn10_12 ?nn12_10
    (case a0 => k_is)
    (case l0 => k_is)
    (case c0 => k_is)
    (case k0 => k_is)
    (case a1 => k_is)
    (case l1 => k_is)
    (case c1 => k_is)
    (case k1 => k_is)
    (case a2 => k_is)
    (case l2 => k_is)
    (case c2 => k_is)
    (case k2 => k_is)
    (case a3 => k_is)
    (case l3 => k_is)
    (case c3 => k_is)
    (case k3 => k_is)
    (case a4 => k_is)
    (case l4 => k_is)
    (case c4 => k_is)
    (case k4 => k_is)
    (case a5 => k_is)
    (case l5 => k_is)
    (case c5 => k_is)
    (case k5 => k_is)
    (case a6 => k_is)
    (case l6 => k_is)
    (case c6 => k_is)
    (case k6 => k_is)
    (case a7 => k_is)
    (case l7 => k_is)
    (case c7 => k_is)
    (case k7 => k_is)
    (case a8 => k_is)
    (case l8 => k_is)
    (case c8 => k_is)
    (case k8 => k_is)
    (case a9 => k_is)
    (case l9 => k_is)
    (case c9 => k_is)
    (case k9 => k_is)
    (case a10 => k_is)
    (case l10 => k_is)
    (case c10 => k_is)
    (case k10 => k_is)
    (case a11 => k_is)
    (case l11 => k_is)
    (case c11 => k_is)
    (case k11 => k_is)
    (case a12 => k_is)
    (case l12 => k_is)
    (case c12 => k_is)
    (case k12 => k_is)
    (case a13 => k_is)
    (case l13 => k_is)
    (case c13 => k_is)
    (case k13 => k_is)
    (case a14 => k_is)
    (case l14 => k_is)
    (case c14 => k_is)
    (case k14 => k_is)
    (case a15 => k_is)
    (case l15 => k_is)
    (case c15 => k_is)
    (case k15 => k_is)
    (case a16 => k_is)
    (case l16 => k_is)
    (case c16 => k_is)
    (case k16 => k_is)
    (case a17 => k_is)
    (case l17 => k_is)
    (case c17 => k_is)
    (case k17 => k_is)
    (case a18 => k_is)
    (case l18 => k_is)
    (case c18 => k_is)
    (case k18 => k_is)
    (case a19 => k_is)
    (case l19 => k_is)
    (case c19 => k_is)
    (case k19 => k_is)
    (case a20 => k_is)
    (case l20 => k_is)
    (case c20 => k_is)
    (case k20 => k_is)
    (case a21 => k_is)
    (case l21 => k_is)
    (case c21 => k_is)
    (case k21 => k_is)
    (case a22 => k_is)
    (case l22 => k_is)
    (case c22 => k_is)
    (case k22 => k_is)
    (case a23 => k_is)
    (case l23 => k_is)
    (case c23 => k_is)
    (case k23 => k_is)
    (case a24 => k_is)
    (case l24 => k_is)
    (case c24 => k_is)
    (case k24 => k_is)
    (case a25 => k_is)
    (case l25 => k_is)
    (case c25 => k_is)
    (case k25 => k_is)
    (case a26 => k_is)
    (case l26 => k_is)
    (case c26 => k_is)
    (case k26 => k_is)
    (case a27 => k_is)
    (case l27 => k_is)
    (case c27 => k_is)
    (case k27 => k_is)
    (case a28 => k_is)
    (case l28 => k_is)
    (case c28 => k_is)
    (case k28 => k_is)
    (case z_len => k_is)
    (case z_range => k_is)
    (case z_sum => k_is)
    (case z_sorted => k_is)
    (case z_min => k_is)
    (case z_max => k_is)
    (case z_isinstance => k_is)
    (case z_int => k_is)
    (case z_bool => k_is)
    (case z_list => k_is)
    (case z_tuple => k_is)
    (case z_str => k_is)
    (case z_set => k_is)
    (case z_ValueError => k_is)
    (case yn => k_is)
    (case yt => k_is)
    (case grow => k_is)
    (case xrow => k_exc)
    (case krow => k_is)
    (case brow => k_is)
    (case trow => k_is)
    (case srow => first | rfl | k_is)
    (case hgrow => k_is)
    (case hkrow => k_is)
    (case hdrow => k_is)
    (case harow => k_is)
    (case hmrow => k_is)
    (case gnoRow => k_is)
    (case xnoRow => k_exc)
    (case knoRow => k_is)
    (case bnoRow => k_is)
    (case tnoRow => k_is)
    (case snoRow => first | rfl | k_is)
    (case hgnoRow => k_is)
    (case hknoRow => k_is)
    (case hdnoRow => k_is)
    (case hanoRow => k_is)
    (case hmnoRow => k_is)
    (case gnoPlace => k_is)
    (case xnoPlace => k_exc)
    (case knoPlace => k_is)
    (case bnoPlace => k_is)
    (case tnoPlace => k_is)
    (case snoPlace => first | rfl | k_is)
    (case hgnoPlace => k_is)
    (case hknoPlace => k_is)
    (case hdnoPlace => k_is)
    (case hanoPlace => k_is)
    (case hmnoPlace => k_is)
    (case gnoSuch => k_is)
    (case xnoSuch => k_exc)
    (case knoSuch => k_is)
    (case bnoSuch => k_is)
    (case tnoSuch => k_is)
    (case snoSuch => first | rfl | k_is)
    (case hgnoSuch => k_is)
    (case hknoSuch => k_is)
    (case hdnoSuch => k_is)
    (case hanoSuch => k_is)
    (case hmnoSuch => k_is)
    (case gbadText => k_is)
    (case xbadText => k_exc)
    (case kbadText => k_is)
    (case bbadText => k_is)
    (case tbadText => k_is)
    (case sbadText => first | rfl | k_is)
    (case hgbadText => k_is)
    (case hkbadText => k_is)
    (case hdbadText => k_is)
    (case habadText => k_is)
    (case hmbadText => k_is)
    (case eq_kk_noRow_noRow => first | rfl | decide)
    (case ss_kk_noRow_noPlace => k_is)
    (case eq_kk_noRow_noPlace => first | rfl | decide)
    (case ss_kk_noRow_noSuch => k_is)
    (case eq_kk_noRow_noSuch => first | rfl | decide)
    (case ss_kk_noRow_badText => k_is)
    (case eq_kk_noRow_badText => first | rfl | decide)
    (case ss_kk_noRow_VE => k_is)
    (case ss_kk_noPlace_noRow => k_is)
    (case eq_kk_noPlace_noRow => first | rfl | decide)
    (case eq_kk_noPlace_noPlace => first | rfl | decide)
    (case ss_kk_noPlace_noSuch => k_is)
    (case eq_kk_noPlace_noSuch => first | rfl | decide)
    (case ss_kk_noPlace_badText => k_is)
    (case eq_kk_noPlace_badText => first | rfl | decide)
    (case ss_kk_noPlace_VE => k_is)
    (case ss_kk_noSuch_noRow => k_is)
    (case eq_kk_noSuch_noRow => first | rfl | decide)
    (case ss_kk_noSuch_noPlace => k_is)
    (case eq_kk_noSuch_noPlace => first | rfl | decide)
    (case eq_kk_noSuch_noSuch => first | rfl | decide)
    (case ss_kk_noSuch_badText => k_is)
    (case eq_kk_noSuch_badText => first | rfl | decide)
    (case ss_kk_noSuch_VE => k_is)
    (case ss_kk_badText_noRow => k_is)
    (case eq_kk_badText_noRow => first | rfl | decide)
    (case ss_kk_badText_noPlace => k_is)
    (case eq_kk_badText_noPlace => first | rfl | decide)
    (case ss_kk_badText_noSuch => k_is)
    (case eq_kk_badText_noSuch => first | rfl | decide)
    (case eq_kk_badText_badText => first | rfl | decide)
    (case ss_kk_badText_VE => k_is)
    (case lc10 => k_is)
    (case vt10 => rfl)
    (case nt10 => kernel_rfl)
    (case rq10 => decide +kernel)
    (case lc12 => k_is)
    (case vt12 => rfl)
    (case nt12 => kernel_rfl)
    (case rq12 => decide +kernel)
    (case nn10_12 => decide)
    (case nn12_10 => decide)
#print axioms PySem.Challenge.cw_sumtimes_k03_no_rows_holds
