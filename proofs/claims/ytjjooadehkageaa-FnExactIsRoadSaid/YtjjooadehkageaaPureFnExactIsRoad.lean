/- NOROUNDS. The plain side of the law FnExactIsRoad: the printed law, whatever its input (within the form's bounds), comes to true. No other condition. -/
import Derived.Test.YtjjooadehkageaaPFnExactIsRoadx1
import Derived.Test.YtjjooadehkageaaBase
import Derived.Test.YtjjooadehkageaaMath
namespace Go.Proofs.Ytjjooadehkageaa.Pure
open Go.RowKit Go.Proofs.Ytjjooadehkageaa.PFnExactIsRoad Go.Proofs.YtjjooadehkageaaW.PrintWords Go.Proofs.YtjjooadehkageaaW.PrintLast Go.Proofs.YtjjooadehkageaaW.PrintMore Go.Proofs.Ytjjooadehkageaa.Base Go.Proofs.Ytjjooadehkageaa.M
set_option linter.unusedVariables false
set_option linter.unusedSimpArgs false

theorem spec_l1In.at (a b c : Int) : spec_l1In.f a b c = some (decide (b ≤ a ∧ a ≤ c)) := by
  unfold spec_l1In.f
  by_cases h : a ≥ b
  · rw [if_pos h]
    simp [show b ≤ a from h]
  · rw [if_neg h]
    simp [show ¬ b ≤ a from h]
theorem impl_within.at (a b c : Int) : impl_within.f a b c = some (decide (b ≤ a ∧ a ≤ c)) := by
  unfold impl_within.f
  by_cases h : a ≥ b
  · rw [if_pos h]
    simp [show b ≤ a from h]
  · rw [if_neg h]
    simp [show ¬ b ≤ a from h]
theorem spec_l2Road.at (n : Int) (g : Bool) : spec_l2Road.f n g = some (okRoad n g) := by
  unfold spec_l2Road.f okRoad
  rw [spec_l1In.at]
  simp only [Option.bind_some]
  by_cases h : 2 ≤ n ∧ n ≤ 24
  · rw [if_pos (by simpa using h)]
    cases g with
    | false => simp [h]
    | true =>
      simp only [if_true, h, true_and, Option.some.injEq]
      exact decide_eq_decide.2 (by simp; omega)
  · rw [if_neg (by simpa using h)]
    simp only [Option.some.injEq]
    exact (decide_eq_false (fun h' => h ⟨h'.1, h'.2.1⟩)).symm
theorem impl_IsRoad.at (n : Int) (g : Bool) : impl_IsRoad.f n g = some (okRoad n g) := by
  unfold impl_IsRoad.f okRoad
  rw [impl_within.at]
  simp only [Option.bind_some]
  by_cases h : 2 ≤ n ∧ n ≤ 24
  · rw [if_pos (by simpa using h)]
    cases g with
    | false => simp [h]
    | true =>
      simp only [if_true, h, true_and, Option.some.injEq]
      exact decide_eq_decide.2 (by simp)
  · rw [if_neg (by simpa using h)]
    simp only [Option.some.injEq]
    exact (decide_eq_false (fun h' => h ⟨h'.1, h'.2.1⟩)).symm
theorem laws_toRoad.at (n : Int) (g : Bool) : laws_toRoad.f n g = some (n, g) := rfl

theorem FnExactIsRoad (n : Int) (g : Bool) (_ : -9223372036854775808 ≤ n) (_ : n ≤ 9223372036854775807) : laws_FnExactIsRoad.f n g = some true := by
  unfold laws_FnExactIsRoad.f spec_IsRoad.f
  simp only [laws_toRoad.at, Option.bind_some, spec_l2Road.at, impl_IsRoad.at]
  simp

end Go.Proofs.Ytjjooadehkageaa.Pure
