/- The plain side of the law FnExactGapOf: the printed law, whatever its input (within the form's bounds), comes to true. No other condition. -/
import Derived.Test.YtjjooadehkageaaPFnExactGapOfx1
import Derived.Test.YtjjooadehkageaaBase
import Derived.Test.YtjjooadehkageaaMath
namespace Go.Proofs.Ytjjooadehkageaa.Pure
open Go.RowKit Go.Proofs.Ytjjooadehkageaa.PFnExactGapOf Go.Proofs.YtjjooadehkageaaW.PrintWords Go.Proofs.YtjjooadehkageaaW.PrintLast Go.Proofs.YtjjooadehkageaaW.PrintMore Go.Proofs.Ytjjooadehkageaa.Base Go.Proofs.Ytjjooadehkageaa.M
set_option linter.unusedVariables false
set_option linter.unusedSimpArgs false

theorem spec_l1In.at (a b c : Int) : spec_l1In.f a b c = some (decide (b ≤ a ∧ a ≤ c)) := by
  unfold spec_l1In.f
  by_cases h : a ≥ b
  · rw [if_pos h]
    simp [show b ≤ a from h]
  · rw [if_neg h]
    simp [show ¬ b ≤ a from h]
theorem impl_within.at (a b c : Int) : impl_within.f a b c = some (decide (b ≤ a ∧ a ≤ c)) := by
  unfold impl_within.f
  by_cases h : a ≥ b
  · rw [if_pos h]
    simp [show b ≤ a from h]
  · rw [if_neg h]
    simp [show ¬ b ≤ a from h]
theorem spec_l2Road.at (n : Int) (g : Bool) : spec_l2Road.f n g = some (okRoad n g) := by
  unfold spec_l2Road.f okRoad
  rw [spec_l1In.at]
  simp only [Option.bind_some]
  by_cases h : 2 ≤ n ∧ n ≤ 24
  · rw [if_pos (by simpa using h)]
    cases g with
    | false => simp [h]
    | true =>
      simp only [if_true, h, true_and, Option.some.injEq]
      exact decide_eq_decide.2 (by simp; omega)
  · rw [if_neg (by simpa using h)]
    simp only [Option.some.injEq]
    exact (decide_eq_false (fun h' => h ⟨h'.1, h'.2.1⟩)).symm
theorem impl_IsRoad.at (n : Int) (g : Bool) : impl_IsRoad.f n g = some (okRoad n g) := by
  unfold impl_IsRoad.f okRoad
  rw [impl_within.at]
  simp only [Option.bind_some]
  by_cases h : 2 ≤ n ∧ n ≤ 24
  · rw [if_pos (by simpa using h)]
    cases g with
    | false => simp [h]
    | true =>
      simp only [if_true, h, true_and, Option.some.injEq]
      exact decide_eq_decide.2 (by simp)
  · rw [if_neg (by simpa using h)]
    simp only [Option.some.injEq]
    exact (decide_eq_false (fun h' => h ⟨h'.1, h'.2.1⟩)).symm
theorem laws_toRoad.at (n : Int) (g : Bool) : laws_toRoad.f n g = some (n, g) := rfl

theorem spec_l2Place.at (n : Int) (g : Bool) (p : Int) : spec_l2Place.f n g p = some (okRoad n g && decide (0 ≤ p ∧ p ≤ n - 1)) := by
  unfold spec_l2Place.f
  rw [spec_l2Road.at]
  simp only [Option.bind_some]
  by_cases h : okRoad n g = true
  · have hb := okRoad_b h
    rw [if_pos h, w64 (x := n - 1) (by omega) (by omega), spec_l1In.at, h]
    rfl
  · rw [if_neg h]
    rw [Bool.not_eq_true] at h
    rw [h]
    rfl
theorem spec_l1Most.at (a b : Int) : spec_l1Most.f a b = some (max a b) := by
  unfold spec_l1Most.f
  by_cases h : a > b
  · rw [if_pos h, Int.max_eq_left (by omega)]
  · rw [if_neg h, Int.max_eq_right (by omega)]
theorem spec_l1Least.at (a b : Int) : spec_l1Least.f a b = some (min a b) := by
  unfold spec_l1Least.f
  by_cases h : a < b
  · rw [if_pos h, Int.min_eq_left (by omega)]
  · rw [if_neg h, Int.min_eq_right (by omega)]
theorem spec_l2Gap.at {n : Int} (g : Bool) {a b : Int} (hn : 2 ≤ n ∧ n ≤ 24) (ha : 0 ≤ a ∧ a ≤ n - 1) (hb : 0 ≤ b ∧ b ≤ n - 1) : spec_l2Gap.f n g a b = some (gap n g a b) := by
  unfold spec_l2Gap.f gap
  rw [w64 (x := a - b) (by omega) (by omega), w64 (x := b - a) (by omega) (by omega), spec_l1Most.at]
  simp only [Option.bind_some]
  cases g with
  | false => simp
  | true => rw [if_pos rfl, if_pos rfl, w64 (by omega) (by omega), spec_l1Least.at]; rfl
theorem impl_Road_gap.at {n : Int} (g : Bool) {a b : Int} (hn : 2 ≤ n ∧ n ≤ 24) (ha : 0 ≤ a ∧ a ≤ n - 1) (hb : 0 ≤ b ∧ b ≤ n - 1) : impl_Road_gap.f n g a b = some (gap n g a b) := by
  unfold impl_Road_gap.f gap
  rw [w64 (x := a - b) (by omega) (by omega), w64 (x := b - a) (by omega) (by omega)]
  simp only [mx_eq, mn_eq]
  cases g with
  | false => simp
  | true => rw [if_pos rfl, if_pos rfl, w64 (by omega) (by omega)]

theorem impl_allWithin.ev (l : List Int) (lo hi : Int) (hl : l.length ≤ 35184372088832) : Ev (fun k => impl_allWithin.f k l lo hi) (l.all fun x => decide (lo ≤ x ∧ x ≤ hi)) := by
  have main : ∀ (d i : Nat), i + d = l.length → Ev (fun k => impl_allWithin.l0 k lo hi l l.length i) ((l.drop i).all fun x => decide (lo ≤ x ∧ x ≤ hi)) := by
    intro d
    induction d with
    | zero =>
      intro i e
      refine Ev.step (fun k => by rw [impl_allWithin.l0]) ?_
      refine ev_neg (by omega) (ev_some ?_)
      rw [List.drop_eq_nil_of_le (by omega)]
      rfl
    | succ d ih =>
      intro i e
      refine Ev.step (fun k => by rw [impl_allWithin.l0]) ?_
      refine ev_pos (by omega) ?_
      refine ev_pos (by omega) ?_
      refine ev_pos (by omega) ?_
      rw [w64 (x := (i : Int) + 1) (by omega) (by omega), rd_get rfl (by omega), List.drop_eq_getElem_cons (by omega), List.all_cons, impl_within.at]
      simp only [Option.bind_some]
      by_cases h : lo ≤ l[i] ∧ l[i] ≤ hi
      · refine ev_pos (by simpa using h) ?_
        rw [decide_eq_true h, Bool.true_and]
        exact ih (i + 1) (by omega)
      · refine ev_neg (by simpa using h) (ev_some ?_)
        rw [decide_eq_false h, Bool.false_and]
  unfold impl_allWithin.f
  exact main l.length 0 (by omega)
theorem impl_Road_has.ev {n : Int} (g : Bool) (l : List Int) (hn : 2 ≤ n ∧ n ≤ 24) (hl : l.length ≤ 35184372088832) : Ev (fun k => impl_Road_has.f k n g l) (l.all fun x => decide (0 ≤ x ∧ x ≤ n - 1)) := by
  unfold impl_Road_has.f
  rw [w64 (x := n - 1) (by omega) (by omega)]
  exact Ev.bind (impl_allWithin.ev l 0 (n - 1) hl) (ev_some rfl)

theorem spec_GapOf.at (n : Int) (g : Bool) (a b : Int) : spec_GapOf.f n g a b = some (if okRoad n g && decide (0 ≤ a ∧ a ≤ n - 1) && decide (0 ≤ b ∧ b ≤ n - 1) then (gap n g a b, true) else (0, false)) := by
  unfold spec_GapOf.f
  rw [spec_l2Place.at, spec_l2Place.at]
  simp only [Option.bind_some]
  by_cases h : okRoad n g = true
  · have hb := okRoad_b h
    rw [h, Bool.true_and, Bool.true_and]
    by_cases h1 : 0 ≤ a ∧ a ≤ n - 1
    · rw [decide_eq_true h1, if_pos rfl, Bool.true_and]
      by_cases h2 : 0 ≤ b ∧ b ≤ n - 1
      · rw [decide_eq_true h2, if_pos rfl, if_pos rfl, spec_l2Gap.at g ⟨hb.1, hb.2.1⟩ h1 h2]
        rfl
      · rw [decide_eq_false h2]
        rfl
    · rw [decide_eq_false h1]
      rfl
  · rw [Bool.not_eq_true] at h
    rw [h]
    rfl
theorem impl_GapOf.ev (n : Int) (g : Bool) (a b : Int) : Ev (fun k => impl_GapOf.f k n g a b) (if okRoad n g && decide (0 ≤ a ∧ a ≤ n - 1) && decide (0 ≤ b ∧ b ≤ n - 1) then (gap n g a b, true) else (0, false)) := by
  unfold impl_GapOf.f
  rw [impl_IsRoad.at]
  simp only [Option.bind_some]
  by_cases h : okRoad n g = true
  · have hb := okRoad_b h
    refine ev_pos h ?_
    refine Ev.bind (impl_Road_has.ev g [a, b] ⟨hb.1, hb.2.1⟩ (by simp)) ?_
    rw [h]
    simp only [List.all_cons, List.all_nil, Bool.and_true, Bool.true_and]
    by_cases h1 : 0 ≤ a ∧ a ≤ n - 1
    · by_cases h2 : 0 ≤ b ∧ b ≤ n - 1
      · rw [decide_eq_true h1, decide_eq_true h2]
        refine ev_pos rfl ?_
        rw [impl_Road_gap.at g ⟨hb.1, hb.2.1⟩ h1 h2]
        exact ev_some rfl
      · rw [decide_eq_false h2, Bool.and_false]
        exact ev_neg (by simp) (ev_some rfl)
    · rw [decide_eq_false h1, Bool.false_and]
      exact ev_neg (by simp) (ev_some rfl)
  · refine ev_neg h (ev_some ?_)
    rw [Bool.not_eq_true] at h
    rw [h]
    rfl

theorem FnExactGapOf (n : Int) (g : Bool) (a b : Int) (_ : -9223372036854775808 ≤ n) (_ : n ≤ 9223372036854775807) (_ : -9223372036854775808 ≤ a) (_ : a ≤ 9223372036854775807) (_ : -9223372036854775808 ≤ b) (_ : b ≤ 9223372036854775807) : ∃ k, laws_FnExactGapOf.f k n g a b = some true := by
  refine Ev.rounds (r := true) ?_
  unfold laws_FnExactGapOf.f
  simp only [laws_toRoad.at, Option.bind_some, spec_GapOf.at]
  refine Ev.bind (impl_GapOf.ev n g a b) ?_
  refine ev_pos rfl ?_
  refine ev_neg (by simp) (ev_some rfl)

end Go.Proofs.Ytjjooadehkageaa.Pure
