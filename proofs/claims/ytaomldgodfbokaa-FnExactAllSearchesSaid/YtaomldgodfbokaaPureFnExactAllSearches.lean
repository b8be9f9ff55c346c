/- The plain side of the law FnExactAllSearches: the printed law, whatever its input (within the form's bounds), comes to true. No other condition. -/
import Derived.Test.YtaomldgodfbokaaPFnExactAllSearchesx12
import Derived.Test.YtaomldgodfbokaaBase
import Derived.Test.YtaomldgodfbokaaMath
namespace Go.Proofs.Ytaomldgodfbokaa.Pure
open Go.RowKit Go.Proofs.Ytaomldgodfbokaa.PFnExactAllSearches Go.Proofs.YtaomldgodfbokaaW.PrintWords Go.Proofs.YtaomldgodfbokaaW.PrintLast Go.Proofs.YtaomldgodfbokaaW.PrintMore Go.Proofs.Ytaomldgodfbokaa.Base Go.Proofs.Ytaomldgodfbokaa.M
set_option linter.unusedVariables false
set_option linter.unusedSimpArgs false

theorem spec_l1In.at (a b c : Int) : spec_l1In.f a b c = some (decide (b ≤ a ∧ a ≤ c)) := by
  unfold spec_l1In.f
  by_cases h : a ≥ b
  · rw [if_pos h]
    simp [show b ≤ a from h]
  · rw [if_neg h]
    simp [show ¬ b ≤ a from h]
theorem impl_within.at (a b c : Int) : impl_within.f a b c = some (decide (b ≤ a ∧ a ≤ c)) := by
  unfold impl_within.f
  by_cases h : a ≥ b
  · rw [if_pos h]
    simp [show b ≤ a from h]
  · rw [if_neg h]
    simp [show ¬ b ≤ a from h]
theorem spec_l2Road.at (n : Int) (g : Bool) : spec_l2Road.f n g = some (okRoad n g) := by
  unfold spec_l2Road.f okRoad
  rw [spec_l1In.at]
  simp only [Option.bind_some]
  by_cases h : 2 ≤ n ∧ n ≤ 24
  · rw [if_pos (by simpa using h)]
    cases g with
    | false => simp [h]
    | true =>
      simp only [if_true, h, true_and, Option.some.injEq]
      exact decide_eq_decide.2 (by simp; omega)
  · rw [if_neg (by simpa using h)]
    simp only [Option.some.injEq]
    exact (decide_eq_false (fun h' => h ⟨h'.1, h'.2.1⟩)).symm
theorem impl_IsRoad.at (n : Int) (g : Bool) : impl_IsRoad.f n g = some (okRoad n g) := by
  unfold impl_IsRoad.f okRoad
  rw [impl_within.at]
  simp only [Option.bind_some]
  by_cases h : 2 ≤ n ∧ n ≤ 24
  · rw [if_pos (by simpa using h)]
    cases g with
    | false => simp [h]
    | true =>
      simp only [if_true, h, true_and, Option.some.injEq]
      exact decide_eq_decide.2 (by simp)
  · rw [if_neg (by simpa using h)]
    simp only [Option.some.injEq]
    exact (decide_eq_false (fun h' => h ⟨h'.1, h'.2.1⟩)).symm
theorem laws_toRoad.at (n : Int) (g : Bool) : laws_toRoad.f n g = some (n, g) := rfl
theorem spec_l1Most.at (a b : Int) : spec_l1Most.f a b = some (max a b) := by
  unfold spec_l1Most.f
  by_cases h : a > b
  · rw [if_pos h, Int.max_eq_left (by omega)]
  · rw [if_neg h, Int.max_eq_right (by omega)]
theorem spec_l1Least.at (a b : Int) : spec_l1Least.f a b = some (min a b) := by
  unfold spec_l1Least.f
  by_cases h : a < b
  · rw [if_pos h, Int.min_eq_left (by omega)]
  · rw [if_neg h, Int.min_eq_right (by omega)]
theorem spec_l2Gap.at {n : Int} (g : Bool) {a b : Int} (hn : 2 ≤ n ∧ n ≤ 24) (ha : 0 ≤ a ∧ a ≤ n - 1) (hb : 0 ≤ b ∧ b ≤ n - 1) : spec_l2Gap.f n g a b = some (gap n g a b) := by
  unfold spec_l2Gap.f gap
  rw [w64 (x := a - b) (by omega) (by omega), w64 (x := b - a) (by omega) (by omega), spec_l1Most.at]
  simp only [Option.bind_some]
  cases g with
  | false => simp
  | true => rw [if_pos rfl, if_pos rfl, w64 (by omega) (by omega), spec_l1Least.at]; rfl
theorem impl_allWithin.ev (l : List Int) (lo hi : Int) (hl : l.length ≤ 35184372088832) : Ev (fun k => impl_allWithin.f k l lo hi) (l.all fun x => decide (lo ≤ x ∧ x ≤ hi)) := by
  have main : ∀ (d i : Nat), i + d = l.length → Ev (fun k => impl_allWithin.l0 k lo hi l l.length i) ((l.drop i).all fun x => decide (lo ≤ x ∧ x ≤ hi)) := by
    intro d
    induction d with
    | zero =>
      intro i e
      refine Ev.step (fun k => by rw [impl_allWithin.l0]) ?_
      refine ev_neg (by omega) (ev_some ?_)
      rw [List.drop_eq_nil_of_le (by omega)]
      rfl
    | succ d ih =>
      intro i e
      refine Ev.step (fun k => by rw [impl_allWithin.l0]) ?_
      refine ev_pos (by omega) ?_
      refine ev_pos (by omega) ?_
      refine ev_pos (by omega) ?_
      rw [w64 (x := (i : Int) + 1) (by omega) (by omega), rd_get rfl (by omega), List.drop_eq_getElem_cons (by omega), List.all_cons, impl_within.at]
      simp only [Option.bind_some]
      by_cases h : lo ≤ l[i] ∧ l[i] ≤ hi
      · refine ev_pos (by simpa using h) ?_
        rw [decide_eq_true h, Bool.true_and]
        exact ih (i + 1) (by omega)
      · refine ev_neg (by simpa using h) (ev_some ?_)
        rw [decide_eq_false h, Bool.false_and]
  unfold impl_allWithin.f
  exact main l.length 0 (by omega)
theorem impl_Road_has.ev {n : Int} (g : Bool) (l : List Int) (hn : 2 ≤ n ∧ n ≤ 24) (hl : l.length ≤ 35184372088832) : Ev (fun k => impl_Road_has.f k n g l) (l.all fun x => decide (0 ≤ x ∧ x ≤ n - 1)) := by
  unfold impl_Road_has.f
  rw [w64 (x := n - 1) (by omega) (by omega)]
  exact Ev.bind (impl_allWithin.ev l 0 (n - 1) hl) (ev_some rfl)
theorem spec_l3Line.at (n : Int) (g : Bool) (a : Int) : spec_l3Line.f n g a = some (okStart n g a) := by
  unfold spec_l3Line.f okStart
  rw [spec_l2Road.at]
  simp only [Option.bind_some]
  by_cases h : okRoad n g = true
  · have hb := okRoad_b h
    rw [if_pos h, h]
    cases g with
    | false => rw [if_neg (by simp), w64 (by omega) (by omega), spec_l1In.at]; rfl
    | true => rfl
  · rw [if_neg h]
    rw [Bool.not_eq_true] at h
    rw [h]
    rfl
theorem impl_isStart.ev (n : Int) (g : Bool) (a : Int) : Ev (fun k => impl_isStart.f k n g a) (okStart n g a) := by
  unfold impl_isStart.f okStart
  rw [impl_IsRoad.at]
  simp only [Option.bind_some]
  by_cases h : okRoad n g = true
  · have hb := okRoad_b h
    refine ev_pos h ?_
    rw [h]
    cases g with
    | false =>
      refine ev_neg (by simp) ?_
      refine Ev.bind (impl_Road_has.ev false [a] ⟨hb.1, hb.2.1⟩ (by simp)) (ev_some ?_)
      simp
    | true => exact ev_pos rfl (ev_some rfl)
  · refine ev_neg h (ev_some ?_)
    rw [Bool.not_eq_true] at h
    rw [h]
    rfl
theorem low (n : Int) (g : Bool) (a : Int) (K : Nat) (hs : spec_AllSearches.f n g a = some ([], false)) (hi : ∀ k, K ≤ k → impl_AllSearches.f k n g a = some ([], false)) : ∃ k, laws_FnExactAllSearches.f k n g a = some true := by
  refine ⟨K + 1, ?_⟩
  unfold laws_FnExactAllSearches.f
  rw [hs, hi (K + 1) (by omega)]
  simp [laws_eqIntSS.f, laws_eqIntSS.l0, laws_markIntSS.f, laws_markIntSS.l0, laws_heldIntSS.f, laws_heldIntSS.l0]
set_option maxRecDepth 100000
theorem c2_0 : laws_FnExactAllSearches.f 5000 2 false 0 = some true := by decide +kernel
theorem c2_1 : laws_FnExactAllSearches.f 5000 2 false 1 = some true := by decide +kernel
theorem c3_0 : laws_FnExactAllSearches.f 5000 3 false 0 = some true := by decide +kernel
theorem c3_1 : laws_FnExactAllSearches.f 5000 3 false 1 = some true := by decide +kernel
theorem c3_2 : laws_FnExactAllSearches.f 5000 3 false 2 = some true := by decide +kernel
theorem c4_0 : laws_FnExactAllSearches.f 5000 4 false 0 = some true := by decide +kernel
theorem c4_1 : laws_FnExactAllSearches.f 5000 4 false 1 = some true := by decide +kernel
theorem c4_2 : laws_FnExactAllSearches.f 5000 4 false 2 = some true := by decide +kernel
theorem c4_3 : laws_FnExactAllSearches.f 5000 4 false 3 = some true := by decide +kernel
theorem c5_0 : laws_FnExactAllSearches.f 5000 5 false 0 = some true := by decide +kernel
theorem c5_1 : laws_FnExactAllSearches.f 5000 5 false 1 = some true := by decide +kernel
theorem c5_2 : laws_FnExactAllSearches.f 5000 5 false 2 = some true := by decide +kernel
theorem c5_3 : laws_FnExactAllSearches.f 5000 5 false 3 = some true := by decide +kernel
theorem c5_4 : laws_FnExactAllSearches.f 5000 5 false 4 = some true := by decide +kernel
theorem c6_0 : laws_FnExactAllSearches.f 5000 6 false 0 = some true := by decide +kernel
theorem c6_1 : laws_FnExactAllSearches.f 5000 6 false 1 = some true := by decide +kernel
theorem c6_2 : laws_FnExactAllSearches.f 5000 6 false 2 = some true := by decide +kernel
theorem c6_3 : laws_FnExactAllSearches.f 5000 6 false 3 = some true := by decide +kernel
theorem c6_4 : laws_FnExactAllSearches.f 5000 6 false 4 = some true := by decide +kernel
theorem c6_5 : laws_FnExactAllSearches.f 5000 6 false 5 = some true := by decide +kernel
theorem c7_0 : laws_FnExactAllSearches.f 5000 7 false 0 = some true := by decide +kernel
theorem c7_1 : laws_FnExactAllSearches.f 5000 7 false 1 = some true := by decide +kernel
theorem c7_2 : laws_FnExactAllSearches.f 5000 7 false 2 = some true := by decide +kernel
theorem c7_3 : laws_FnExactAllSearches.f 5000 7 false 3 = some true := by decide +kernel
theorem c7_4 : laws_FnExactAllSearches.f 5000 7 false 4 = some true := by decide +kernel
theorem c7_5 : laws_FnExactAllSearches.f 5000 7 false 5 = some true := by decide +kernel
theorem c7_6 : laws_FnExactAllSearches.f 5000 7 false 6 = some true := by decide +kernel
theorem c8_0 : laws_FnExactAllSearches.f 5000 8 false 0 = some true := by decide +kernel
theorem c8_1 : laws_FnExactAllSearches.f 5000 8 false 1 = some true := by decide +kernel
theorem c8_2 : laws_FnExactAllSearches.f 5000 8 false 2 = some true := by decide +kernel
theorem c8_3 : laws_FnExactAllSearches.f 5000 8 false 3 = some true := by decide +kernel
theorem c8_4 : laws_FnExactAllSearches.f 5000 8 false 4 = some true := by decide +kernel
theorem c8_5 : laws_FnExactAllSearches.f 5000 8 false 5 = some true := by decide +kernel
theorem c8_6 : laws_FnExactAllSearches.f 5000 8 false 6 = some true := by decide +kernel
theorem c8_7 : laws_FnExactAllSearches.f 5000 8 false 7 = some true := by decide +kernel
theorem c9_0 : laws_FnExactAllSearches.f 5000 9 false 0 = some true := by decide +kernel
theorem c9_1 : laws_FnExactAllSearches.f 5000 9 false 1 = some true := by decide +kernel
theorem c9_2 : laws_FnExactAllSearches.f 5000 9 false 2 = some true := by decide +kernel
theorem c9_3 : laws_FnExactAllSearches.f 5000 9 false 3 = some true := by decide +kernel
theorem c9_4 : laws_FnExactAllSearches.f 5000 9 false 4 = some true := by decide +kernel
theorem c9_5 : laws_FnExactAllSearches.f 5000 9 false 5 = some true := by decide +kernel
theorem c9_6 : laws_FnExactAllSearches.f 5000 9 false 6 = some true := by decide +kernel
theorem c9_7 : laws_FnExactAllSearches.f 5000 9 false 7 = some true := by decide +kernel
theorem c9_8 : laws_FnExactAllSearches.f 5000 9 false 8 = some true := by decide +kernel
theorem c10_0 : laws_FnExactAllSearches.f 5000 10 false 0 = some true := by decide +kernel
theorem c10_1 : laws_FnExactAllSearches.f 5000 10 false 1 = some true := by decide +kernel
theorem c10_2 : laws_FnExactAllSearches.f 5000 10 false 2 = some true := by decide +kernel
theorem c10_3 : laws_FnExactAllSearches.f 5000 10 false 3 = some true := by decide +kernel
theorem c10_4 : laws_FnExactAllSearches.f 5000 10 false 4 = some true := by decide +kernel
theorem c10_5 : laws_FnExactAllSearches.f 5000 10 false 5 = some true := by decide +kernel
theorem c10_6 : laws_FnExactAllSearches.f 5000 10 false 6 = some true := by decide +kernel
theorem c10_7 : laws_FnExactAllSearches.f 5000 10 false 7 = some true := by decide +kernel
theorem c10_8 : laws_FnExactAllSearches.f 5000 10 false 8 = some true := by decide +kernel
theorem c10_9 : laws_FnExactAllSearches.f 5000 10 false 9 = some true := by decide +kernel
theorem FnExactAllSearches : ∀ (n : Int) (g : Bool) (a : Int), -9223372036854775808 ≤ n → n ≤ 9223372036854775807 → -9223372036854775808 ≤ a → a ≤ 9223372036854775807 → ∃ k, laws_FnExactAllSearches.f k n g a = some true := by
  intro n g a _ _ _ _
  obtain ⟨K, hK⟩ := impl_isStart.ev n g a
  by_cases h : okStart n g a = true
  · obtain ⟨_, rfl, h2, h3, h4, h5⟩ := okStart_b h
    by_cases hn : n > 10
    · refine low n false a K ?_ (fun k hk => ?_)
      · unfold spec_AllSearches.f
        rw [spec_l3Line.at, h]
        simp [hn]
      · unfold impl_AllSearches.f
        rw [show impl_isStart.f k n false a = some _ from hK k hk, h]
        simp [hn]
    · have hh : n = 2 ∨ n = 3 ∨ n = 4 ∨ n = 5 ∨ n = 6 ∨ n = 7 ∨ n = 8 ∨ n = 9 ∨ n = 10 := by omega
      refine ⟨5000, ?_⟩
      rcases hh with rfl | rfl | rfl | rfl | rfl | rfl | rfl | rfl | rfl
      · have ha : a = 0 ∨ a = 1 := by omega
        rcases ha with rfl | rfl
        · exact c2_0
        · exact c2_1
      · have ha : a = 0 ∨ a = 1 ∨ a = 2 := by omega
        rcases ha with rfl | rfl | rfl
        · exact c3_0
        · exact c3_1
        · exact c3_2
      · have ha : a = 0 ∨ a = 1 ∨ a = 2 ∨ a = 3 := by omega
        rcases ha with rfl | rfl | rfl | rfl
        · exact c4_0
        · exact c4_1
        · exact c4_2
        · exact c4_3
      · have ha : a = 0 ∨ a = 1 ∨ a = 2 ∨ a = 3 ∨ a = 4 := by omega
        rcases ha with rfl | rfl | rfl | rfl | rfl
        · exact c5_0
        · exact c5_1
        · exact c5_2
        · exact c5_3
        · exact c5_4
      · have ha : a = 0 ∨ a = 1 ∨ a = 2 ∨ a = 3 ∨ a = 4 ∨ a = 5 := by omega
        rcases ha with rfl | rfl | rfl | rfl | rfl | rfl
        · exact c6_0
        · exact c6_1
        · exact c6_2
        · exact c6_3
        · exact c6_4
        · exact c6_5
      · have ha : a = 0 ∨ a = 1 ∨ a = 2 ∨ a = 3 ∨ a = 4 ∨ a = 5 ∨ a = 6 := by omega
        rcases ha with rfl | rfl | rfl | rfl | rfl | rfl | rfl
        · exact c7_0
        · exact c7_1
        · exact c7_2
        · exact c7_3
        · exact c7_4
        · exact c7_5
        · exact c7_6
      · have ha : a = 0 ∨ a = 1 ∨ a = 2 ∨ a = 3 ∨ a = 4 ∨ a = 5 ∨ a = 6 ∨ a = 7 := by omega
        rcases ha with rfl | rfl | rfl | rfl | rfl | rfl | rfl | rfl
        · exact c8_0
        · exact c8_1
        · exact c8_2
        · exact c8_3
        · exact c8_4
        · exact c8_5
        · exact c8_6
        · exact c8_7
      · have ha : a = 0 ∨ a = 1 ∨ a = 2 ∨ a = 3 ∨ a = 4 ∨ a = 5 ∨ a = 6 ∨ a = 7 ∨ a = 8 := by omega
        rcases ha with rfl | rfl | rfl | rfl | rfl | rfl | rfl | rfl | rfl
        · exact c9_0
        · exact c9_1
        · exact c9_2
        · exact c9_3
        · exact c9_4
        · exact c9_5
        · exact c9_6
        · exact c9_7
        · exact c9_8
      · have ha : a = 0 ∨ a = 1 ∨ a = 2 ∨ a = 3 ∨ a = 4 ∨ a = 5 ∨ a = 6 ∨ a = 7 ∨ a = 8 ∨ a = 9 := by omega
        rcases ha with rfl | rfl | rfl | rfl | rfl | rfl | rfl | rfl | rfl | rfl
        · exact c10_0
        · exact c10_1
        · exact c10_2
        · exact c10_3
        · exact c10_4
        · exact c10_5
        · exact c10_6
        · exact c10_7
        · exact c10_8
        · exact c10_9
  · rw [Bool.not_eq_true] at h
    refine low n g a K ?_ (fun k hk => ?_)
    · unfold spec_AllSearches.f
      rw [spec_l3Line.at, h]
      rfl
    · unfold impl_AllSearches.f
      rw [show impl_isStart.f k n g a = some _ from hK k hk, h]
      rfl

end Go.Proofs.Ytaomldgodfbokaa.Pure
