/- The plain side of the law FnSearches: the printed law, whatever its input (within the form's bounds), comes to true. No other condition. -/
import Derived.Test.YtogflbocmiogpaaPFnSearchesx15
import Derived.Test.YtogflbocmiogpaaBase
import Derived.Test.YtogflbocmiogpaaMath
namespace Go.Proofs.Ytogflbocmiogpaa.Pure
open Go.RowKit Go.Proofs.Ytogflbocmiogpaa.PFnSearches Go.Proofs.YtogflbocmiogpaaW.PrintWords Go.Proofs.YtogflbocmiogpaaW.PrintLast Go.Proofs.YtogflbocmiogpaaW.PrintMore Go.Proofs.Ytogflbocmiogpaa.Base Go.Proofs.Ytogflbocmiogpaa.M
set_option linter.unusedVariables false
set_option linter.unusedSimpArgs false
set_option maxHeartbeats 4000000

theorem spec_l1In.at (a b c : Int) : spec_l1In.f a b c = some (decide (b ≤ a ∧ a ≤ c)) := by
  unfold spec_l1In.f
  by_cases h : a ≥ b
  · rw [if_pos h]
    simp [show b ≤ a from h]
  · rw [if_neg h]
    simp [show ¬ b ≤ a from h]
theorem impl_within.at (a b c : Int) : impl_within.f a b c = some (decide (b ≤ a ∧ a ≤ c)) := by
  unfold impl_within.f
  by_cases h : a ≥ b
  · rw [if_pos h]
    simp [show b ≤ a from h]
  · rw [if_neg h]
    simp [show ¬ b ≤ a from h]
theorem spec_l2Road.at (n : Int) (g : Bool) : spec_l2Road.f n g = some (okRoad n g) := by
  unfold spec_l2Road.f okRoad
  rw [spec_l1In.at]
  simp only [Option.bind_some]
  by_cases h : 2 ≤ n ∧ n ≤ 24
  · rw [if_pos (by simpa using h)]
    cases g with
    | false => simp [h]
    | true =>
      simp only [if_true, h, true_and, Option.some.injEq]
      exact decide_eq_decide.2 (by simp; omega)
  · rw [if_neg (by simpa using h)]
    simp only [Option.some.injEq]
    exact (decide_eq_false (fun h' => h ⟨h'.1, h'.2.1⟩)).symm
theorem impl_IsRoad.at (n : Int) (g : Bool) : impl_IsRoad.f n g = some (okRoad n g) := by
  unfold impl_IsRoad.f okRoad
  rw [impl_within.at]
  simp only [Option.bind_some]
  by_cases h : 2 ≤ n ∧ n ≤ 24
  · rw [if_pos (by simpa using h)]
    cases g with
    | false => simp [h]
    | true =>
      simp only [if_true, h, true_and, Option.some.injEq]
      exact decide_eq_decide.2 (by simp)
  · rw [if_neg (by simpa using h)]
    simp only [Option.some.injEq]
    exact (decide_eq_false (fun h' => h ⟨h'.1, h'.2.1⟩)).symm
theorem spec_l1Most.at (a b : Int) : spec_l1Most.f a b = some (max a b) := by
  unfold spec_l1Most.f
  by_cases h : a > b
  · rw [if_pos h, Int.max_eq_left (by omega)]
  · rw [if_neg h, Int.max_eq_right (by omega)]
theorem spec_l1Least.at (a b : Int) : spec_l1Least.f a b = some (min a b) := by
  unfold spec_l1Least.f
  by_cases h : a < b
  · rw [if_pos h, Int.min_eq_left (by omega)]
  · rw [if_neg h, Int.min_eq_right (by omega)]
theorem spec_l2Gap.at {n : Int} (g : Bool) {a b : Int} (hn : 2 ≤ n ∧ n ≤ 24) (ha : 0 ≤ a ∧ a ≤ n - 1) (hb : 0 ≤ b ∧ b ≤ n - 1) : spec_l2Gap.f n g a b = some (gap n g a b) := by
  unfold spec_l2Gap.f gap
  rw [w64 (x := a - b) (by omega) (by omega), w64 (x := b - a) (by omega) (by omega), spec_l1Most.at]
  simp only [Option.bind_some]
  cases g with
  | false => simp
  | true => rw [if_pos rfl, if_pos rfl, w64 (by omega) (by omega), spec_l1Least.at]; rfl
theorem impl_Road_gap.at {n : Int} (g : Bool) {a b : Int} (hn : 2 ≤ n ∧ n ≤ 24) (ha : 0 ≤ a ∧ a ≤ n - 1) (hb : 0 ≤ b ∧ b ≤ n - 1) : impl_Road_gap.f n g a b = some (gap n g a b) := by
  unfold impl_Road_gap.f gap
  rw [w64 (x := a - b) (by omega) (by omega), w64 (x := b - a) (by omega) (by omega)]
  simp only [mx_eq, mn_eq]
  cases g with
  | false => simp
  | true => rw [if_pos rfl, if_pos rfl, w64 (by omega) (by omega)]
theorem impl_allWithin.ev (l : List Int) (lo hi : Int) (hl : l.length ≤ 35184372088832) : Ev (fun k => impl_allWithin.f k l lo hi) (l.all fun x => decide (lo ≤ x ∧ x ≤ hi)) := by
  have main : ∀ (d i : Nat), i + d = l.length → Ev (fun k => impl_allWithin.l0 k lo hi l l.length i) ((l.drop i).all fun x => decide (lo ≤ x ∧ x ≤ hi)) := by
    intro d
    induction d with
    | zero =>
      intro i e
      refine Ev.step (fun k => by rw [impl_allWithin.l0]) ?_
      refine ev_neg (by omega) (ev_some ?_)
      rw [List.drop_eq_nil_of_le (by omega)]
      rfl
    | succ d ih =>
      intro i e
      refine Ev.step (fun k => by rw [impl_allWithin.l0]) ?_
      refine ev_pos (by omega) ?_
      refine ev_pos (by omega) ?_
      refine ev_pos (by omega) ?_
      rw [w64 (x := (i : Int) + 1) (by omega) (by omega), rd_get rfl (by omega), List.drop_eq_getElem_cons (by omega), List.all_cons, impl_within.at]
      simp only [Option.bind_some]
      by_cases h : lo ≤ l[i] ∧ l[i] ≤ hi
      · refine ev_pos (by simpa using h) ?_
        rw [decide_eq_true h, Bool.true_and]
        exact ih (i + 1) (by omega)
      · refine ev_neg (by simpa using h) (ev_some ?_)
        rw [decide_eq_false h, Bool.false_and]
  unfold impl_allWithin.f
  exact main l.length 0 (by omega)
theorem impl_Road_has.ev {n : Int} (g : Bool) (l : List Int) (hn : 2 ≤ n ∧ n ≤ 24) (hl : l.length ≤ 35184372088832) : Ev (fun k => impl_Road_has.f k n g l) (l.all fun x => decide (0 ≤ x ∧ x ≤ n - 1)) := by
  unfold impl_Road_has.f
  rw [w64 (x := n - 1) (by omega) (by omega)]
  exact Ev.bind (impl_allWithin.ev l 0 (n - 1) hl) (ev_some rfl)
theorem spec_l3Line.at (n : Int) (g : Bool) (a : Int) : spec_l3Line.f n g a = some (okStart n g a) := by
  unfold spec_l3Line.f okStart
  rw [spec_l2Road.at]
  simp only [Option.bind_some]
  by_cases h : okRoad n g = true
  · have hb := okRoad_b h
    rw [if_pos h, h]
    cases g with
    | false => rw [if_neg (by simp), w64 (by omega) (by omega), spec_l1In.at]; rfl
    | true => rfl
  · rw [if_neg h]
    rw [Bool.not_eq_true] at h
    rw [h]
    rfl
theorem impl_isStart.ev (n : Int) (g : Bool) (a : Int) : Ev (fun k => impl_isStart.f k n g a) (okStart n g a) := by
  unfold impl_isStart.f okStart
  rw [impl_IsRoad.at]
  simp only [Option.bind_some]
  by_cases h : okRoad n g = true
  · have hb := okRoad_b h
    refine ev_pos h ?_
    rw [h]
    cases g with
    | false =>
      refine ev_neg (by simp) ?_
      refine Ev.bind (impl_Road_has.ev false [a] ⟨hb.1, hb.2.1⟩ (by simp)) (ev_some ?_)
      simp
    | true => exact ev_pos rfl (ev_some rfl)
  · refine ev_neg h (ev_some ?_)
    rw [Bool.not_eq_true] at h
    rw [h]
    rfl
theorem spec_l3Search.ev {n : Int} (g : Bool) {a : Int} (l : List Int) (hn : 2 ≤ n ∧ n ≤ 24) (ha : 0 ≤ a ∧ a ≤ n - 1) (hl : l.length ≤ 35184372088832) : Ev (fun k => spec_l3Search.f k n g a l) (srch n a none a a l) := by
  have main : ∀ (d i : Nat) (pr : Option Bool) (low high : Int), i + d = l.length → (i = 0 ∧ pr = none ∨ ∃ j, ∃ h : j < l.length, i = j + 1 ∧ pr = some (decide (l[j] > a))) →
      Ev (fun k => spec_l3Search.l0 k a l low high i n g) (srch n a pr low high (l.drop i)) := by
    intro d
    induction d with
    | zero =>
      intro i pr low high e _
      refine Ev.step (fun k => by rw [spec_l3Search.l0]) ?_
      refine ev_neg (by omega) ?_
      rw [List.drop_eq_nil_of_le (by omega), w64 (x := n - 1) (by omega) (by omega)]
      unfold srch
      by_cases h : low = 0
      · refine ev_pos h (ev_some ?_)
        rw [decide_eq_true h, Bool.true_and]
        rfl
      · refine ev_neg h (ev_some ?_)
        rw [decide_eq_false h, Bool.false_and]
    | succ d ih =>
      intro i pr low high e hp
      refine Ev.step (fun k => by rw [spec_l3Search.l0]) ?_
      refine ev_pos (by omega) ?_
      refine ev_pos (by omega) ?_
      have hi : i < l.length := by omega
      have hrd : rd l i = l[i] := rd_get rfl hi
      rw [w64 (x := n - 1) (by omega) (by omega), spec_l1In.at, hrd, List.drop_eq_getElem_cons (by omega)]
      simp only [Option.bind_some]
      by_cases hr : l[i] > a
      · refine ev_pos hr ?_
        have hbad : Ev (fun k => spec_l3Search.j1 k a l low high i true true n g) false :=
          Ev.step (fun k => by rw [spec_l3Search.j1]) (ev_pos rfl (ev_some rfl))
        have hgood : 0 ≤ l[i] ∧ l[i] ≤ n - 1 → l[i] ≠ a → pr ≠ some (decide (l[i] > a)) → Ev (fun k => spec_l3Search.j1 k a l low high i true false n g) (srch n a pr low high (l[i] :: l.drop (i + 1))) := by
          intro h1 h2 h3
          refine Ev.step (fun k => by rw [spec_l3Search.j1]) ?_
          refine ev_neg (by simp) ?_
          rw [hrd]
          unfold srch
          refine ev_pos rfl ?_
          refine ev_pos (by omega) ?_
          refine ev_pos (by omega) ?_
          by_cases hh : l[i] ≤ high
          · refine ev_pos hh ?_
            rw [if_neg (fun c => by have := c.2.2.2.2.1 hr; omega)]
            exact Ev.step (fun k => by rw [spec_l3Search.j2]) (ev_pos rfl (ev_some rfl))
          · refine ev_neg hh ?_
            refine Ev.step (fun k => by rw [spec_l3Search.j2]) ?_
            refine ev_neg (by simp) ?_
            refine ev_pos rfl ?_
            refine ev_pos (by omega) ?_
            refine ev_pos (by omega) ?_
            rw [hrd, w64 (x := (i : Int) + 1) (by omega) (by omega), if_pos ⟨h1.1, h1.2, h2, h3, fun _ => by omega, fun h => absurd hr h⟩, if_pos hr, if_pos hr]
            exact ih (i + 1) _ low l[i] (by omega) (.inr ⟨i, hi, rfl, rfl⟩)
        by_cases h1 : 0 ≤ l[i] ∧ l[i] ≤ n - 1
        · refine ev_pos (by simpa using h1) ?_
          by_cases h2 : l[i] = a
          · refine ev_pos h2 ?_
            rw [show srch n a pr low high (l[i] :: l.drop (i + 1)) = false from if_neg (fun c => c.2.2.1 h2)]
            exact hbad
          · refine ev_neg h2 ?_
            rcases hp with ⟨rfl, rfl⟩ | ⟨j, hj, rfl, rfl⟩
            · refine ev_neg (by omega) ?_
              exact hgood h1 h2 (by simp)
            · refine ev_pos (by omega) ?_
              rw [show wrap64 (((j + 1 : Nat) : Int) - 1) = (j : Int) from by unfold wrap64; omega, rd_get (n := j) rfl hj]
              refine ev_pos (by omega) ?_
              refine ev_pos (by omega) ?_
              have e0 : decide (l[j + 1] > a) = true := by simp [hr]
              by_cases h3 : true = decide (l[j] > a)
              · rw [show (true == decide (l[j] > a)) = true from by rw [← h3]; rfl]
                rw [show srch n a (some (decide (l[j] > a))) low high (l[j + 1] :: l.drop (j + 1 + 1)) = false from if_neg (fun c => c.2.2.2.1 (by rw [e0, h3]))]
                exact hbad
              · rw [show (true == decide (l[j] > a)) = false from beq_eq_false_iff_ne.2 h3]
                exact hgood h1 h2 (fun c => h3 (by rw [← e0]; exact (Option.some.inj c).symm))
        · refine ev_neg (by simpa using h1) ?_
          rw [show srch n a pr low high (l[i] :: l.drop (i + 1)) = false from if_neg (fun c => h1 ⟨c.1, c.2.1⟩)]
          exact hbad
      · refine ev_neg hr ?_
        have hbad : Ev (fun k => spec_l3Search.j3 k a l low high i false true n g) false :=
          Ev.step (fun k => by rw [spec_l3Search.j3]) (ev_pos rfl (ev_some rfl))
        have hgood : 0 ≤ l[i] ∧ l[i] ≤ n - 1 → l[i] ≠ a → pr ≠ some (decide (l[i] > a)) → Ev (fun k => spec_l3Search.j3 k a l low high i false false n g) (srch n a pr low high (l[i] :: l.drop (i + 1))) := by
          intro h1 h2 h3
          refine Ev.step (fun k => by rw [spec_l3Search.j3]) ?_
          refine ev_neg (by simp) ?_
          rw [hrd]
          unfold srch
          refine ev_neg (by simp) ?_
          refine ev_pos (by omega) ?_
          refine ev_pos (by omega) ?_
          by_cases hh : l[i] ≥ low
          · rw [decide_eq_true hh]
            rw [if_neg (fun c => by have := c.2.2.2.2.2 hr; omega)]
            exact Ev.step (fun k => by rw [spec_l3Search.j4]) (ev_pos rfl (ev_some rfl))
          · rw [decide_eq_false hh]
            refine Ev.step (fun k => by rw [spec_l3Search.j4]) ?_
            refine ev_neg (by simp) ?_
            refine ev_neg (by simp) ?_
            refine ev_pos (by omega) ?_
            refine ev_pos (by omega) ?_
            rw [hrd, w64 (x := (i : Int) + 1) (by omega) (by omega), if_pos ⟨h1.1, h1.2, h2, h3, fun h => absurd h hr, fun _ => by omega⟩, if_neg hr, if_neg hr]
            exact ih (i + 1) _ l[i] high (by omega) (.inr ⟨i, hi, rfl, rfl⟩)
        by_cases h1 : 0 ≤ l[i] ∧ l[i] ≤ n - 1
        · refine ev_pos (by simpa using h1) ?_
          by_cases h2 : l[i] = a
          · refine ev_pos h2 ?_
            rw [show srch n a pr low high (l[i] :: l.drop (i + 1)) = false from if_neg (fun c => c.2.2.1 h2)]
            exact hbad
          · refine ev_neg h2 ?_
            rcases hp with ⟨rfl, rfl⟩ | ⟨j, hj, rfl, rfl⟩
            · refine ev_neg (by omega) ?_
              exact hgood h1 h2 (by simp)
            · refine ev_pos (by omega) ?_
              rw [show wrap64 (((j + 1 : Nat) : Int) - 1) = (j : Int) from by unfold wrap64; omega, rd_get (n := j) rfl hj]
              refine ev_pos (by omega) ?_
              refine ev_pos (by omega) ?_
              have e0 : decide (l[j + 1] > a) = false := by simp [hr]
              by_cases h3 : false = decide (l[j] > a)
              · rw [show (false == decide (l[j] > a)) = true from by rw [← h3]; rfl]
                rw [show srch n a (some (decide (l[j] > a))) low high (l[j + 1] :: l.drop (j + 1 + 1)) = false from if_neg (fun c => c.2.2.2.1 (by rw [e0, h3]))]
                exact hbad
              · rw [show (false == decide (l[j] > a)) = false from beq_eq_false_iff_ne.2 h3]
                exact hgood h1 h2 (fun c => h3 (by rw [← e0]; exact (Option.some.inj c).symm))
        · refine ev_neg (by simpa using h1) ?_
          rw [show srch n a pr low high (l[i] :: l.drop (i + 1)) = false from if_neg (fun c => h1 ⟨c.1, c.2.1⟩)]
          exact hbad
  unfold spec_l3Search.f
  exact main l.length 0 none a a (by omega) (.inl ⟨rfl, rfl⟩)
theorem impl_Road_isSearch.ev {n : Int} (g : Bool) {a : Int} (l : List Int) (hn : 2 ≤ n ∧ n ≤ 24) (ha : 0 ≤ a ∧ a ≤ n - 1) (hl : l.length ≤ 35184372088832) : Ev (fun k => impl_Road_isSearch.f k n g a l) (srch n a none a a l) := by
  have main : ∀ (d i : Nat) (pr : Option Bool) (low high : Int), (l.all fun x => decide (0 ≤ x ∧ x ≤ n - 1)) = true → i + d = l.length → low ≤ a → a ≤ high → (i = 0 ∧ pr = none ∨ ∃ j, ∃ h : j < l.length, i = j + 1 ∧ pr = some (decide (l[j] > a)) ∧ l[j] ≠ a) →
      Ev (fun k => impl_Road_isSearch.l0 k a l low high l l.length i n g) (srch n a pr low high (l.drop i)) := by
    intro d
    induction d with
    | zero =>
      intro i pr low high _ e _ _ _
      refine Ev.step (fun k => by rw [impl_Road_isSearch.l0]) ?_
      refine ev_neg (by omega) ?_
      rw [List.drop_eq_nil_of_le (by omega), w64 (x := n - 1) (by omega) (by omega)]
      unfold srch
      by_cases h : low = 0
      · refine ev_pos h (ev_some ?_)
        rw [decide_eq_true h, Bool.true_and]
        rfl
      · refine ev_neg h (ev_some ?_)
        rw [decide_eq_false h, Bool.false_and]
    | succ d ih =>
      intro i pr low high hall e hlo hhi hp
      have hi : i < l.length := by omega
      have hrd : rd l i = l[i] := rd_get rfl hi
      have h1 := in_of_all hall hi
      refine Ev.step (fun k => by rw [impl_Road_isSearch.l0]) ?_
      refine ev_pos (by omega) ?_
      refine ev_pos (by omega) ?_
      refine ev_pos (by omega) ?_
      have hbad : Ev (fun k => impl_Road_isSearch.j2 k a l low high l[i] l l.length i true n g) false :=
        Ev.step (fun k => by rw [impl_Road_isSearch.j2]) (ev_pos rfl (ev_some rfl))
      have hgood : l[i] ≠ a → pr ≠ some (decide (l[i] > a)) → Ev (fun k => impl_Road_isSearch.j2 k a l low high l[i] l l.length i false n g) (srch n a pr low high (l[i] :: l.drop (i + 1))) := by
        intro h2 h3
        refine Ev.step (fun k => by rw [impl_Road_isSearch.j2]) ?_
        refine ev_neg (by simp) ?_
        rw [w64 (x := (i : Int) + 1) (by omega) (by omega), mn_eq, mx_eq]
        unfold srch
        by_cases hr : l[i] > a
        · refine ev_pos (by omega) ?_
          by_cases hh : l[i] ≤ high
          · refine ev_pos hh ?_
            rw [if_neg (fun c => by have := c.2.2.2.2.1 hr; omega)]
            exact ev_some rfl
          · refine ev_neg hh ?_
            rw [if_pos ⟨h1.1, h1.2, h2, h3, fun _ => by omega, fun h => absurd hr h⟩, if_pos hr, if_pos hr, Int.min_eq_left (by omega), Int.max_eq_right (by omega)]
            exact ih (i + 1) _ low l[i] hall (by omega) (by omega) (by omega) (.inr ⟨i, hi, rfl, rfl, h2⟩)
        · by_cases hh : l[i] ≥ low
          · refine ev_pos hh ?_
            refine ev_pos (by omega) ?_
            rw [if_neg (fun c => by have := c.2.2.2.2.2 hr; omega)]
            exact ev_some rfl
          · refine ev_neg hh ?_
            rw [if_pos ⟨h1.1, h1.2, h2, h3, fun h => absurd h hr, fun _ => by omega⟩, if_neg hr, if_neg hr, Int.min_eq_right (by omega), Int.max_eq_left (by omega)]
            exact ih (i + 1) _ l[i] high hall (by omega) (by omega) (by omega) (.inr ⟨i, hi, rfl, rfl, h2⟩)
      rw [hrd, List.drop_eq_getElem_cons hi]
      by_cases h2 : l[i] = a
      · refine ev_pos h2 ?_
        rw [show srch n a pr low high (l[i] :: l.drop (i + 1)) = false from if_neg (fun c => c.2.2.1 h2)]
        exact hbad
      · refine ev_neg h2 ?_
        rcases hp with ⟨rfl, rfl⟩ | ⟨j, hj, rfl, rfl, hja⟩
        · refine ev_neg (by omega) ?_
          exact hgood h2 (by simp)
        · refine ev_pos (by omega) ?_
          rw [show wrap64 (((j + 1 : Nat) : Int) - 1) = (j : Int) from by unfold wrap64; omega, rd_get (n := j) rfl hj]
          refine ev_pos (by omega) ?_
          refine ev_pos (by omega) ?_
          have e1 : decide (l[j + 1] < a) = !decide (l[j + 1] > a) := by by_cases h : l[j + 1] > a <;> simp [h] <;> omega
          have e2 : decide (l[j] < a) = !decide (l[j] > a) := by by_cases h : l[j] > a <;> simp [h] <;> omega
          rw [e1, e2]
          by_cases h3 : decide (l[j + 1] > a) = decide (l[j] > a)
          · rw [show ((!decide (l[j + 1] > a)) == !decide (l[j] > a)) = true from by rw [h3]; simp]
            rw [show srch n a (some (decide (l[j] > a))) low high (l[j + 1] :: l.drop (j + 1 + 1)) = false from if_neg (fun c => c.2.2.2.1 (by rw [h3]))]
            exact hbad
          · rw [show ((!decide (l[j + 1] > a)) == !decide (l[j] > a)) = false from by revert h3; cases decide (l[j + 1] > a) <;> cases decide (l[j] > a) <;> simp]
            exact hgood h2 (fun c => h3 (Option.some.inj c).symm)
  unfold impl_Road_isSearch.f
  by_cases h0 : l.length = 0
  · obtain rfl := List.eq_nil_of_length_eq_zero h0
    refine ev_pos (by simp) ?_
    refine Ev.step (fun k => by rw [impl_Road_isSearch.j0]) ?_
    refine ev_pos rfl (ev_some ?_)
    unfold srch
    simp
    omega
  · refine ev_neg (by omega) ?_
    refine Ev.bind (impl_Road_has.ev g l hn hl) ?_
    refine Ev.step (fun k => by rw [impl_Road_isSearch.j0]) ?_
    by_cases hall : (l.all fun x => decide (0 ≤ x ∧ x ≤ n - 1)) = true
    · rw [hall]
      refine ev_neg (by simp) ?_
      exact main l.length 0 none a a hall (by omega) (by omega) (by omega) (.inl ⟨rfl, rfl⟩)
    · have : srch n a none a a l = false := by
        rw [← Bool.not_eq_true]
        exact fun h => hall (srch_all h)
      rw [this]
      rw [Bool.not_eq_true] at hall
      rw [hall]
      exact ev_pos rfl (ev_some rfl)
theorem spec_l3Good.ev (n : Int) (g : Bool) (a : Int) (l : List Int) (hl : l.length ≤ 35184372088832) : Ev (fun k => spec_l3Good.f k n g a l) (okSearch n g a l) := by
  unfold spec_l3Good.f okSearch
  rw [spec_l3Line.at]
  simp only [Option.bind_some]
  by_cases h : okStart n g a = true
  · have hb := okStart_b h
    refine ev_pos h ?_
    rw [h, Bool.true_and]
    exact Ev.bind (spec_l3Search.ev g l ⟨hb.2.2.1, hb.2.2.2.1⟩ ⟨hb.2.2.2.2.1, hb.2.2.2.2.2⟩ hl) (ev_some rfl)
  · refine ev_neg h (ev_some ?_)
    rw [Bool.not_eq_true] at h
    rw [h, Bool.false_and]
theorem impl_isSought.ev (n : Int) (g : Bool) (a : Int) (l : List Int) (hl : l.length ≤ 35184372088832) : Ev (fun k => impl_isSought.f k n g a l) (okSearch n g a l) := by
  unfold impl_isSought.f okSearch
  refine Ev.bind (impl_isStart.ev n g a) ?_
  by_cases h : okStart n g a = true
  · have hb := okStart_b h
    refine ev_pos h ?_
    rw [h, Bool.true_and]
    exact Ev.bind (impl_Road_isSearch.ev g l ⟨hb.2.2.1, hb.2.2.2.1⟩ ⟨hb.2.2.2.2.1, hb.2.2.2.2.2⟩ hl) (ev_some rfl)
  · refine ev_neg h (ev_some ?_)
    rw [Bool.not_eq_true] at h
    rw [h, Bool.false_and]
/-- Unit steps from a place on. -/
def way (s : Int) : Int → Nat → List Int
  | _, 0 => []
  | a, m + 1 => (a + s) :: way s (a + s) m
theorem way_length (s : Int) : ∀ (m : Nat) (a : Int), (way s a m).length = m
  | 0, _ => rfl
  | m + 1, a => by rw [way, List.length_cons, way_length s m]
theorem straight_line {n : Int} (hn : 2 ≤ n ∧ n ≤ 24) {s tgt : Int} (hs : s = 1 ∨ s = -1) (hto : 0 ≤ tgt ∧ tgt ≤ n - 1) : ∀ (m : Nat) (at_ : Int) (x : List Int), (s = 1 ∧ tgt = at_ + m ∨ s = -1 ∧ tgt = at_ - m) → 0 ≤ at_ → at_ ≤ n - 1 → x.length + m ≤ 35184372088 →
    Ev (fun k => impl_Road_straight.l0 k x tgt at_ s n false) (x ++ way s at_ m) := by
  intro m
  induction m with
  | zero =>
    intro at_ x e h0 h1 hx
    refine Ev.step (fun k => by rw [impl_Road_straight.l0]) (ev_pos (by omega) (ev_some ?_))
    simp [way]
  | succ m ih =>
    intro at_ x e h0 h1 hx
    refine Ev.step (fun k => by rw [impl_Road_straight.l0]) (ev_neg (by omega) (ev_neg (by omega) (ev_pos (by omega) ?_)))
    have e1 : Int.tmod (wrap64 (wrap64 (at_ + s) + n)) n = at_ + s := by
      rw [w64 (x := at_ + s) (by omega) (by omega), w64 (by omega) (by omega), Int.tmod_eq_emod_of_nonneg (by omega), Int.add_emod_right, Int.emod_eq_of_lt (by omega) (by omega)]
    rw [e1, way]
    have := ih (at_ + s) (x ++ [at_ + s]) (by omega) (by omega) (by omega) (by simp; omega)
    simpa using this
/-- The way to a place: the steps and how many. -/
theorem straight_ev {n : Int} (hn : 2 ≤ n ∧ n ≤ 24) {tgt a : Int} (hto : 0 ≤ tgt ∧ tgt ≤ n - 1) (ha : 0 ≤ a ∧ a ≤ n - 1) (l : List Int) (hl : l.length ≤ 351843720) (h0 : l ≠ []) (hlast : l.getLast h0 = a) :
    ∃ (s : Int) (m : Nat), (s = 1 ∧ tgt = a + m ∨ s = -1 ∧ tgt = a - m) ∧ Ev (fun k => impl_Road_straight.f k n false l tgt) (l ++ way s a m) := by
  have hp : 0 < l.length := List.length_pos_iff.2 h0
  have e0 : wrap64 ((l.length : Int) - 1) = ((l.length - 1 : Nat) : Int) := by unfold wrap64; omega
  have e1 : rd l ((l.length - 1 : Nat) : Int) = a := by
    rw [rd_get rfl (by omega), ← List.getLast_eq_getElem (h := h0)]
    exact hlast
  unfold impl_Road_straight.f
  rw [e0, e1, w64 (x := tgt - a) (by omega) (by omega)]
  by_cases c : tgt - a < 0
  · refine ⟨-1, (a - tgt).toNat, .inr ⟨rfl, by omega⟩, ?_⟩
    refine ev_pos (by omega) (ev_pos (by omega) (ev_neg (by simp) (ev_pos c ?_)))
    refine Ev.step (fun k => by rw [impl_Road_straight.j0]) ?_
    exact straight_line hn (.inr rfl) hto _ _ _ (.inr ⟨rfl, by omega⟩) ha.1 ha.2 (by omega)
  · refine ⟨1, (tgt - a).toNat, .inl ⟨rfl, by omega⟩, ?_⟩
    refine ev_pos (by omega) (ev_pos (by omega) (ev_neg (by simp) (ev_neg c ?_)))
    refine Ev.step (fun k => by rw [impl_Road_straight.j0]) ?_
    exact straight_line hn (.inl rfl) hto _ _ _ (.inl ⟨rfl, by omega⟩) ha.1 ha.2 (by omega)
theorem rd_set (l : List Int) {i q v : Int} (hi : 0 ≤ i ∧ i < l.length) (hq : 0 ≤ q) : rd (l.set i.toNat v) q = if q = i then v else rd l q := by
  unfold rd
  rw [List.getD_eq_getElem?_getD, List.getD_eq_getElem?_getD]
  by_cases c : q = i
  · subst c
    rw [if_pos rfl, List.getElem?_set_self (by omega)]
    rfl
  · rw [if_neg c, List.getElem?_set_ne (by omega)]
theorem rd_ext {a b : List Int} (hl : a.length = b.length) (h : ∀ q : Int, 0 ≤ q → q < a.length → rd a q = rd b q) : a = b := by
  refine List.ext_getElem hl fun j h1 h2 => ?_
  have := h (j : Int) (by omega) (by omega)
  rwa [rd_get rfl h1, rd_get rfl h2] at this
theorem srch_cons {n a : Int} {pr : Option Bool} {low high p : Int} {t : List Int} (h : srch n a pr low high (p :: t) = true) :
    0 ≤ p ∧ p ≤ n - 1 ∧ (p > a → p > high) ∧ (¬ p > a → p < low) ∧ srch n a (some (decide (p > a))) (if p > a then low else p) (if p > a then p else high) t = true := by
  unfold srch at h
  by_cases c : 0 ≤ p ∧ p ≤ n - 1 ∧ p ≠ a ∧ pr ≠ some (decide (p > a)) ∧ (p > a → p > high) ∧ (¬ p > a → p < low)
  · rw [if_pos c] at h
    exact ⟨c.1, c.2.1, c.2.2.2.2.1, c.2.2.2.2.2, h⟩
  · rw [if_neg c] at h
    cases h
theorem srch_nil {n a : Int} {pr : Option Bool} {low high : Int} (h : srch n a pr low high [] = true) : low = 0 ∧ high = n - 1 := by
  unfold srch at h
  simpa using h
theorem spec_l3Times.right {n : Int} (l : List Int) (x3 now at_ low p : Int) (i : Nat) (hi : i < l.length) (hp : rd l i = p) (hn : 2 ≤ n ∧ n ≤ 24) (hpn : 0 ≤ p ∧ p ≤ n - 1) (hat : 0 ≤ at_ ∧ at_ ≤ n - 1) (hnow : 0 ≤ now ∧ now ≤ 1000000000000) :
    ∀ (d : Nat) (high : Int) (S : List Int), high + d = p → 0 ≤ high → S.length = n →
      ∃ S' : List Int, S'.length = n ∧ (∀ q, 0 ≤ q → q < n → (high < q ∧ q ≤ p → rd S' q = now + q - at_) ∧ (¬ (high < q ∧ q ≤ p) → rd S' q = rd S q)) ∧
        ∀ r, Ev (fun k => spec_l3Times.l2 k l x3 S' now at_ low p i) r → Ev (fun k => spec_l3Times.l1 k l x3 S now at_ low high i) r := by
  intro d
  induction d with
  | zero =>
    intro high S e h0 hS
    refine ⟨S, hS, fun q h1 h2 => ⟨fun c => by omega, fun _ => rfl⟩, fun r hr => ?_⟩
    refine Ev.step (fun k => by rw [spec_l3Times.l1]) (ev_pos (by omega) (ev_pos (by omega) ?_))
    rw [hp]
    refine ev_neg (by omega) ?_
    rw [show high = p from by omega]
    exact hr
  | succ d ih =>
    intro high S e h0 hS
    obtain ⟨S', h1, h2, h3⟩ := ih (high + 1) (S.set (high + 1).toNat (now + (high + 1) - at_)) (by omega) (by omega) (by simpa using hS)
    refine ⟨S', h1, fun q hq hq2 => ?_, fun r hr => ?_⟩
    · have h2 := h2 q hq hq2
      have := rd_set S (i := high + 1) (q := q) (v := now + (high + 1) - at_) ⟨by omega, by omega⟩ hq
      by_cases c : q = high + 1
      · rw [if_pos c] at this
        refine ⟨fun _ => ?_, fun c2 => by omega⟩
        rw [h2.2 (by omega), this, c]
      · rw [if_neg c] at this
        refine ⟨fun c2 => h2.1 (by omega), fun c2 => ?_⟩
        rw [h2.2 (by omega), this]
    · refine Ev.step (fun k => by rw [spec_l3Times.l1]) (ev_pos (by omega) (ev_pos (by omega) ?_))
      rw [hp, w64 (x := high + 1) (by omega) (by omega), w64 (x := now + (high + 1)) (by omega) (by omega), w64 (x := now + (high + 1) - at_) (by omega) (by omega)]
      refine ev_pos (by omega) (ev_pos (by omega) (ev_pos (by omega) ?_))
      exact h3 r hr
theorem spec_l3Times.left {n : Int} (l : List Int) (x3 now at_ high p : Int) (i : Nat) (hl : l.length ≤ 35184372088832) (hi : i < l.length) (hp : rd l i = p) (hn : 2 ≤ n ∧ n ≤ 24) (hpn : 0 ≤ p ∧ p ≤ n - 1) (hat : 0 ≤ at_ ∧ at_ ≤ n - 1) (hnow : 0 ≤ now ∧ now ≤ 1000000000000) (h3 : 0 ≤ x3 ∧ x3 ≤ 9) :
    ∀ (d : Nat) (low : Int) (S : List Int), low = p + d → low ≤ n → S.length = n →
      ∃ S' : List Int, S'.length = n ∧ (∀ q, 0 ≤ q → q < n → (p ≤ q ∧ q < low → rd S' q = now + at_ - q) ∧ (¬ (p ≤ q ∧ q < low) → rd S' q = rd S q)) ∧
        ∀ r, Ev (fun k => spec_l3Times.l0 k l x3 S' (now + max (p - at_) (at_ - p) + x3) p p high ((i + 1 : Nat) : Int)) r → Ev (fun k => spec_l3Times.l2 k l x3 S now at_ low high i) r := by
  intro d
  induction d with
  | zero =>
    intro low S e h0 hS
    refine ⟨S, hS, fun q h1 h2 => ⟨fun c => by omega, fun _ => rfl⟩, fun r hr => ?_⟩
    refine Ev.step (fun k => by rw [spec_l3Times.l2]) (ev_pos (by omega) (ev_pos (by omega) ?_))
    rw [hp]
    refine ev_neg (by omega) ?_
    rw [show low = p from by omega, w64 (x := p - at_) (by omega) (by omega), w64 (x := at_ - p) (by omega) (by omega), spec_l1Most.at, w64 (x := (i : Int) + 1) (by omega) (by omega)]
    simp only [Option.bind_some]
    rw [w64 (x := now + max (p - at_) (at_ - p)) (by omega) (by omega), w64 (x := now + max (p - at_) (at_ - p) + x3) (by omega) (by omega)]
    exact hr
  | succ d ih =>
    intro low S e h0 hS
    obtain ⟨S', h1, h2, h3⟩ := ih (low - 1) (S.set (low - 1).toNat (now + at_ - (low - 1))) (by omega) (by omega) (by simpa using hS)
    refine ⟨S', h1, fun q hq hq2 => ?_, fun r hr => ?_⟩
    · have h2 := h2 q hq hq2
      have := rd_set S (i := low - 1) (q := q) (v := now + at_ - (low - 1)) ⟨by omega, by omega⟩ hq
      by_cases c : q = low - 1
      · rw [if_pos c] at this
        refine ⟨fun _ => ?_, fun c2 => by omega⟩
        rw [h2.2 (by omega), this, c]
      · rw [if_neg c] at this
        refine ⟨fun c2 => h2.1 (by omega), fun c2 => ?_⟩
        rw [h2.2 (by omega), this]
    · refine Ev.step (fun k => by rw [spec_l3Times.l2]) (ev_pos (by omega) (ev_pos (by omega) ?_))
      rw [hp, w64 (x := low - 1) (by omega) (by omega), w64 (x := now + at_) (by omega) (by omega), w64 (x := now + at_ - (low - 1)) (by omega) (by omega)]
      refine ev_pos (by omega) (ev_pos (by omega) (ev_pos (by omega) ?_))
      exact h3 r hr
/-- The program's way: it marks what is not marked yet. -/
theorem impl_times.go {n : Int} (l y : List Int) (x3 tgt s : Int) (i : Nat) (hl : l.length ≤ 35184372088832) (hi : i < l.length) (hn : 2 ≤ n ∧ n ≤ 24) (hs : s = 1 ∨ s = -1) (hy : y.length ≤ 1000) :
    ∀ (d j : Nat) (at_ time : Int) (M : List Int), j + d = y.length → y.drop j = way s at_ d → 0 ≤ at_ → at_ ≤ n - 1 → (s = 1 ∧ at_ + d ≤ n - 1 ∨ s = -1 ∧ 0 ≤ at_ - d) → 0 ≤ time → time + d ≤ 1000000000000 → M.length = n →
      ∃ M' : List Int, M'.length = n ∧ (∀ q, 0 ≤ q → q < n → ((s = 1 ∧ at_ < q ∧ q ≤ at_ + d ∨ s = -1 ∧ at_ - d ≤ q ∧ q < at_) ∧ rd M q < 0 → rd M' q = time + max (q - at_) (at_ - q)) ∧ (¬ ((s = 1 ∧ at_ < q ∧ q ≤ at_ + d ∨ s = -1 ∧ at_ - d ≤ q ∧ q < at_) ∧ rd M q < 0) → rd M' q = rd M q)) ∧
        ∀ r, Ev (fun k => impl_Road_times.l1 k x3 M' (time + d) tgt l l.length ((i + 1 : Nat) : Int) n false) r → Ev (fun k => impl_Road_times.l2 k x3 M time tgt l l.length i y y.length j n false) r := by
  intro d
  induction d with
  | zero =>
    intro j at_ time M e ey h0 h1 hb ht ht2 hM
    refine ⟨M, hM, fun q h1 h2 => ⟨fun c => by omega, fun _ => rfl⟩, fun r hr => ?_⟩
    refine Ev.step (fun k => by rw [impl_Road_times.l2]) (ev_neg (by omega) ?_)
    rw [w64 (x := (i : Int) + 1) (by omega) (by omega)]
    simpa using hr
  | succ d ih =>
    intro j at_ time M e ey h0 h1 hb ht ht2 hM
    have hj : j < y.length := by omega
    rw [List.drop_eq_getElem_cons hj, way] at ey
    have ey1 := (List.cons.inj ey).1
    have ey2 := (List.cons.inj ey).2
    have hrd : rd y j = at_ + s := by rw [rd_get rfl hj]; exact ey1
    by_cases c : rd M (at_ + s) < 0
    · obtain ⟨M', h2, h3, h4⟩ := ih (j + 1) (at_ + s) (time + 1) (M.set (at_ + s).toNat (time + 1)) (by omega) ey2 (by omega) (by omega) (by omega) (by omega) (by omega) (by simpa using hM)
      refine ⟨M', h2, fun q hq hq2 => ?_, fun r hr => ?_⟩
      · have h3 := h3 q hq hq2
        have := rd_set M (i := at_ + s) (q := q) (v := time + 1) ⟨by omega, by omega⟩ hq
        by_cases c2 : q = at_ + s
        · rw [if_pos c2] at this
          subst c2
          have h5 := h3.2 (by omega)
          exact ⟨fun _ => by omega, fun c3 => by omega⟩
        · rw [if_neg c2] at this
          rw [this] at h3
          exact ⟨fun c3 => by rw [h3.1 (by omega)]; omega, fun c3 => h3.2 (by omega)⟩
      · refine Ev.step (fun k => by rw [impl_Road_times.l2]) (ev_pos (by omega) (ev_pos (by omega) (ev_pos (by omega) ?_)))
        rw [hrd, w64 (x := time + 1) (by omega) (by omega), w64 (x := (j : Int) + 1) (by omega) (by omega)]
        refine ev_pos (by omega) (ev_pos (by omega) (ev_pos c ?_))
        exact h4 r (by rw [show time + 1 + (d : Int) = time + ((d + 1 : Nat) : Int) from by omega]; exact hr)
    · obtain ⟨M', h2, h3, h4⟩ := ih (j + 1) (at_ + s) (time + 1) M (by omega) ey2 (by omega) (by omega) (by omega) (by omega) (by omega) hM
      refine ⟨M', h2, fun q hq hq2 => ?_, fun r hr => ?_⟩
      · have h3 := h3 q hq hq2
        by_cases c2 : q = at_ + s
        · subst c2
          have h5 := h3.2 (by omega)
          exact ⟨fun _ => by omega, fun c3 => by omega⟩
        · exact ⟨fun c3 => by rw [h3.1 (by omega)]; omega, fun c3 => h3.2 (by omega)⟩
      · refine Ev.step (fun k => by rw [impl_Road_times.l2]) (ev_pos (by omega) (ev_pos (by omega) (ev_pos (by omega) ?_)))
        rw [hrd, w64 (x := time + 1) (by omega) (by omega), w64 (x := (j : Int) + 1) (by omega) (by omega)]
        refine ev_pos (by omega) (ev_pos (by omega) (ev_neg c ?_))
        exact h4 r (by rw [show time + 1 + (d : Int) = time + ((d + 1 : Nat) : Int) from by omega]; exact hr)
theorem times_both {n : Int} {a : Int} (l : List Int) (x3 : Int) (hl : l.length ≤ 1048576) (hn : 2 ≤ n ∧ n ≤ 24) (hx3 : 0 ≤ x3 ∧ x3 ≤ 9) :
    ∀ (d i : Nat) (pr : Option Bool) (low high at_ now time : Int) (S M : List Int), i + d = l.length → srch n a pr low high (l.drop i) = true → 0 ≤ low → low ≤ at_ → at_ ≤ high → high ≤ n - 1 → low ≤ a → a ≤ high → S.length = n → M.length = n →
      (∀ q, low ≤ q → q ≤ high → rd S q = rd M q ∧ 0 ≤ rd M q ∧ rd M q ≤ 100000000 ∧ (q ≠ a → 0 < rd M q)) → (∀ q, 0 ≤ q → q < n → ¬ (low ≤ q ∧ q ≤ high) → rd M q < 0) → (i = 0 ∧ now = time ∨ 0 < i ∧ now = time + x3) → 0 ≤ time → 0 ≤ now → now ≤ 40 * i →
      ∃ r : List Int, Ev (fun k => spec_l3Times.l0 k l x3 S now at_ low high i) r ∧ Ev (fun k => impl_Road_times.l1 k x3 M time at_ l l.length i n false) r ∧ r.length = n ∧ ∀ q, 0 ≤ q → q < n → q ≠ a → 0 < rd r q ∧ rd r q ≤ 100000000 := by
  intro d
  induction d with
  | zero =>
    intro i pr low high at_ now time S M e hs h0 h1 h2 h3 h4 h5 hS hM hin hout hnow ht hw hw2
    rw [List.drop_eq_nil_of_le (by omega)] at hs
    have hs := srch_nil hs
    refine ⟨S, Ev.step (fun k => by rw [spec_l3Times.l0]) (ev_neg (by omega) (ev_some rfl)), Ev.step (fun k => by rw [impl_Road_times.l1]) (ev_neg (by omega) (ev_some ?_)), hS, fun q hq hq2 hqa => by
      have h6 := hin q (by omega) (by omega)
      have h7 := h6.2.2.2 hqa
      omega⟩
    exact (rd_ext (by omega) fun q hq hq2 => (hin q (by omega) (by omega)).1).symm
  | succ d ih =>
    intro i pr low high at_ now time S M e hs h0 h1 h2 h3 h4 h5 hS hM hin hout hnow ht hw hw2
    have hi : i < l.length := by omega
    rw [List.drop_eq_getElem_cons hi] at hs
    obtain ⟨p0, p1, p2, p3, hs⟩ := srch_cons hs
    have hrd : rd l i = l[i] := rd_get rfl hi
    generalize hp : l[i] = p at *
    -- the program's turn
    obtain ⟨s, m, hsm, hway⟩ := straight_ev hn (tgt := p) (a := at_) ⟨p0, p1⟩ (by omega) [at_] (by simp) (by simp) rfl
    obtain ⟨M', m1, m2, m3⟩ := impl_times.go (n := n) l (way s at_ m) x3 p s i (by omega) hi hn (by omega) (by rw [way_length]; omega) m 0 at_ now M (by rw [way_length]; omega) rfl (by omega) (by omega) (by omega) hw (by omega) hM
    have himpl : ∀ r, Ev (fun k => impl_Road_times.l1 k x3 M' (now + m) p l l.length ((i + 1 : Nat) : Int) n false) r → Ev (fun k => impl_Road_times.l1 k x3 M time at_ l l.length i n false) r := by
      intro r hr
      have hj : Ev (fun k => impl_Road_times.j2 k x3 M now at_ p l l.length i n false) r := by
        refine Ev.step (fun k => by rw [impl_Road_times.j2]) (Ev.bind hway ?_)
        refine ev_pos (by simp; omega) ?_
        simp only [Option.bind_some, List.singleton_append, List.drop_succ_cons, List.drop_zero]
        exact m3 r hr
      refine Ev.step (fun k => by rw [impl_Road_times.l1]) (ev_pos (by omega) (ev_pos (by omega) (ev_pos (by omega) ?_)))
      rw [hrd]
      by_cases c : (i : Int) > 0
      · refine ev_pos c ?_
        rw [w64 (x := time + x3) (by omega) (by omega), show time + x3 = now from by omega]
        exact hj
      · refine ev_neg c ?_
        rw [show time = now from by omega]
        exact hj
    by_cases hpa : p > a
    · have hph := p2 hpa
      rw [if_pos hpa, if_pos hpa] at hs
      obtain ⟨S1, s1, s2, s3⟩ := spec_l3Times.right (n := n) l x3 now at_ low p i hi hrd hn ⟨p0, p1⟩ (by omega) ⟨hw, by omega⟩ (p - high).toNat high S (by omega) (by omega) hS
      have s4 : ∀ r, Ev (fun k => spec_l3Times.l0 k l x3 S1 (now + max (p - at_) (at_ - p) + x3) p low p ((i + 1 : Nat) : Int)) r → Ev (fun k => spec_l3Times.l2 k l x3 S1 now at_ low p i) r := by
        intro r hr
        refine Ev.step (fun k => by rw [spec_l3Times.l2]) (ev_pos (by omega) (ev_pos (by omega) ?_))
        rw [hrd]
        refine ev_neg (by omega) ?_
        rw [w64 (x := p - at_) (by omega) (by omega), w64 (x := at_ - p) (by omega) (by omega), spec_l1Most.at, w64 (x := (i : Int) + 1) (by omega) (by omega)]
        simp only [Option.bind_some]
        rw [w64 (x := now + max (p - at_) (at_ - p)) (by omega) (by omega), w64 (x := now + max (p - at_) (at_ - p) + x3) (by omega) (by omega)]
        exact hr
      have hmax : now + max (p - at_) (at_ - p) + x3 = now + m + x3 := by omega
      rw [hmax] at s4
      obtain ⟨r, r1, r2, r3⟩ := ih (i + 1) _ low p p (now + m + x3) (now + m) S1 M' (by omega) hs h0 (by omega) (by omega) p1 h4 (by omega) s1 m1
        (fun q q1 q2 => by
          have a1 := s2 q (by omega) (by omega)
          have a2 := m2 q (by omega) (by omega)
          by_cases c : q ≤ high
          · have b1 := hin q q1 c
            rw [a1.2 (by omega), a2.2 (by omega)]
            exact b1
          · have b1 := hout q (by omega) (by omega) (by omega)
            rw [a1.1 (by omega), a2.1 (by omega)]
            omega)
        (fun q q1 q2 q3 => by
          have a2 := m2 q (by omega) (by omega)
          rw [a2.2 (by omega)]
          exact hout q q1 q2 (by omega))
        (.inr ⟨by omega, rfl⟩) (by omega) (by omega) (by omega)
      refine ⟨r, ?_, himpl r r2, r3⟩
      refine Ev.step (fun k => by rw [spec_l3Times.l0]) (ev_pos (by omega) ?_)
      exact s3 r (s4 r r1)
    · have hpl := p3 hpa
      rw [if_neg hpa, if_neg hpa] at hs
      obtain ⟨S1, s1, s2, s3⟩ := spec_l3Times.left (n := n) l x3 now at_ high p i (by omega) hi hrd hn ⟨p0, p1⟩ (by omega) ⟨hw, by omega⟩ hx3 (low - p).toNat low S (by omega) (by omega) hS
      have hmax : now + max (p - at_) (at_ - p) + x3 = now + m + x3 := by omega
      rw [hmax] at s3
      obtain ⟨r, r1, r2, r3⟩ := ih (i + 1) _ p high p (now + m + x3) (now + m) S1 M' (by omega) hs p0 (by omega) (by omega) h3 (by omega) h5 s1 m1
        (fun q q1 q2 => by
          have a1 := s2 q (by omega) (by omega)
          have a2 := m2 q (by omega) (by omega)
          by_cases c : low ≤ q
          · have b1 := hin q c q2
            rw [a1.2 (by omega), a2.2 (by omega)]
            exact b1
          · have b1 := hout q (by omega) (by omega) (by omega)
            rw [a1.1 (by omega), a2.1 (by omega)]
            omega)
        (fun q q1 q2 q3 => by
          have a2 := m2 q (by omega) (by omega)
          rw [a2.2 (by omega)]
          exact hout q q1 q2 (by omega))
        (.inr ⟨by omega, rfl⟩) (by omega) (by omega) (by omega)
      refine ⟨r, ?_, himpl r r2, r3⟩
      refine Ev.step (fun k => by rw [spec_l3Times.l0]) (ev_pos (by omega) ?_)
      refine Ev.step (fun k => by rw [spec_l3Times.l1]) (ev_pos (by omega) (ev_pos (by omega) ?_))
      rw [hrd]
      refine ev_neg (by omega) ?_
      exact s3 r r1
/-- Both times of a search are the same list, greater than 0 but at the start. -/
theorem times_evp {n a : Int} {l : List Int} {x3 : Int} (hl : l.length ≤ 1048576) (h : okSearch n false a l = true) (hx3 : 0 ≤ x3 ∧ x3 ≤ 9) :
    ∃ r : List Int, Ev (fun k => spec_l3Times.f k n false a l x3) r ∧ Ev (fun k => impl_Road_times.f k n false a l x3) r ∧ r.length = n ∧ ∀ q, 0 ≤ q → q < n → q ≠ a → 0 < rd r q ∧ rd r q ≤ 100000000 := by
  simp only [okSearch, Bool.and_eq_true] at h
  have hb := okStart_b h.1
  have hn : 2 ≤ n ∧ n ≤ 24 := ⟨hb.2.2.1, hb.2.2.2.1⟩
  have ha : 0 ≤ a ∧ a ≤ n - 1 := hb.2.2.2.2
  have hrep : (List.replicate n.toNat (0 : Int)).length = n.toNat := by simp
  have hz : ∀ q : Int, rd (List.replicate n.toNat (0 : Int)) q = 0 := by
    intro q
    simp [rd, List.getD_eq_getElem?_getD, List.getElem?_replicate]
    split <;> rfl
  have hmin : ∀ (d i : Nat) (M : List Int), i + d = n.toNat → M.length = n → (∀ q : Int, 0 ≤ q → q < i → rd M q = -1) →
      ∃ M' : List Int, M'.length = n ∧ (∀ q, 0 ≤ q → q < n → rd M' q = if q = a then 0 else -1) ∧
        ∀ r, Ev (fun k => impl_Road_times.l1 k x3 M' 0 a l l.length 0 n false) r → Ev (fun k => impl_Road_times.l0 k a l x3 M (n.toNat : Int) i n false) r := by
    intro d
    induction d with
    | zero =>
      intro i M e hM hq
      refine ⟨M.set a.toNat 0, by simpa using hM, fun q h1 h2 => ?_, fun r hr => ?_⟩
      · rw [rd_set M ⟨ha.1, by omega⟩ h1, hq q h1 (by omega)]
      · refine Ev.step (fun k => by rw [impl_Road_times.l0]) (ev_neg (by omega) (ev_pos (by omega) (ev_pos (by omega) ?_)))
        exact hr
    | succ d ih =>
      intro i M e hM hq
      obtain ⟨M', h1, h2, h3⟩ := ih (i + 1) (M.set ((i : Nat) : Int).toNat (-1)) (by omega) (by simpa using hM) (fun q q1 q2 => by
        rw [rd_set M (by omega) q1]
        by_cases c : q = i
        · rw [if_pos c]
        · rw [if_neg c]
          exact hq q q1 (by omega))
      refine ⟨M', h1, h2, fun r hr => ?_⟩
      refine Ev.step (fun k => by rw [impl_Road_times.l0]) (ev_pos (by omega) (ev_pos (by omega) (ev_pos (by omega) ?_)))
      rw [w64 (x := (i : Int) + 1) (by omega) (by omega)]
      exact h3 r hr
  obtain ⟨M', m1, m2, m3⟩ := hmin n.toNat 0 (List.replicate n.toNat 0) (by omega) (by rw [hrep]; omega) (fun q q1 q2 => by omega)
  obtain ⟨r, r1, r2, r3⟩ := times_both (n := n) (a := a) l x3 hl hn hx3 l.length 0 none a a a 0 0 (List.replicate n.toNat 0) M' (by omega) (by simpa using h.2) ha.1 (by omega) (by omega) ha.2 (by omega) (by omega) (by rw [hrep]; omega) m1
    (fun q q1 q2 => by
      rw [hz, m2 q (by omega) (by omega), if_pos (by omega)]
      omega)
    (fun q q1 q2 q3 => by
      rw [m2 q q1 q2, if_neg (by omega)]
      omega)
    (.inl ⟨rfl, rfl⟩) (by omega) (by omega) (by omega)
  refine ⟨r, ?_, ?_, r3⟩
  · unfold spec_l3Times.f
    exact ev_pos (by omega) (ev_pos (by omega) r1)
  · unfold impl_Road_times.f
    refine ev_pos (by omega) (ev_pos (by omega) ?_)
    simp only [Option.bind_some]
    rw [hrep]
    exact m3 r r2
theorem slices_Index_int_int.ev (w : List Int) (p : Int) (hl : w.length ≤ 35184372088832) : Ev (fun k => slices_Index_int_int.f k w p) (fst p w 0) := by
  have main : ∀ (d i : Nat), i + d = w.length → Ev (fun k => slices_Index_int_int.l0 k w p w.length i) (fst p (w.drop i) i) := by
    intro d
    induction d with
    | zero =>
      intro i e
      refine Ev.step (fun k => by rw [slices_Index_int_int.l0]) ?_
      refine ev_neg (by omega) (ev_some ?_)
      rw [List.drop_eq_nil_of_le (by omega)]
      rfl
    | succ d ih =>
      intro i e
      refine Ev.step (fun k => by rw [slices_Index_int_int.l0]) ?_
      refine ev_pos (by omega) (ev_pos (by omega) (ev_pos (by omega) ?_))
      rw [w64 (x := (i : Int) + 1) (by omega) (by omega), rd_get rfl (by omega), List.drop_eq_getElem_cons (by omega)]
      unfold fst
      by_cases h : w[i] = p
      · rw [if_pos h]
        exact ev_pos h.symm (ev_some rfl)
      · rw [if_neg h]
        exact ev_neg (fun e => h e.symm) (ih (i + 1) (by omega))
  unfold slices_Index_int_int.f
  exact main w.length 0 (by omega)
theorem impl_Road_firstVisits.ev {n : Int} (g : Bool) (w : List Int) (hn : 0 ≤ n ∧ n ≤ 24) (hl : w.length ≤ 35184372088832) : Ev (fun k => impl_Road_firstVisits.f k n g w) (visits n w) := by
  have main : ∀ (d i : Nat) (x : List Int), i + d = n.toNat → x.length = i → Ev (fun k => impl_Road_firstVisits.l0 k w x n i) (x ++ (List.range' i d).map fun (p : Nat) => fst (p : Int) w 0) := by
    intro d
    induction d with
    | zero =>
      intro i x e hx
      refine Ev.step (fun k => by rw [impl_Road_firstVisits.l0]) ?_
      refine ev_neg (by omega) (ev_some ?_)
      simp
    | succ d ih =>
      intro i x e hx
      refine Ev.step (fun k => by rw [impl_Road_firstVisits.l0]) ?_
      refine ev_pos (by omega) (Ev.bind (slices_Index_int_int.ev w i hl) (ev_pos (by omega) ?_))
      rw [w64 (x := (i : Int) + 1) (by omega) (by omega)]
      have := ih (i + 1) (x ++ [fst i w 0]) (by omega) (by simp; omega)
      rw [List.range'_succ]
      simpa using this
  unfold impl_Road_firstVisits.f visits
  exact main n.toNat 0 [] (by omega) rfl
/-- The steps from one place to another, on a line. -/
def leg (a p : Int) : List Int := if p < a then way (-1) a (a - p).toNat else way 1 a (p - a).toNat
theorem leg_eq {s a p : Int} {m : Nat} (h : s = 1 ∧ p = a + m ∨ s = -1 ∧ p = a - m) : way s a m = leg a p := by
  unfold leg
  by_cases c : p < a
  · rw [if_pos c, show s = -1 by omega, show m = (a - p).toNat by omega]
  · rw [if_neg c]
    by_cases d : m = 0
    · subst d
      rw [show (p - a).toNat = 0 by omega]
      rfl
    · rw [show s = 1 by omega, show m = (p - a).toNat by omega]
theorem leg_length (a p : Int) : ((leg a p).length : Int) = max (p - a) (a - p) := by
  unfold leg
  split <;> rw [way_length] <;> omega
theorem fst_append (q : Int) : ∀ (x y : List Int) (i : Int), 0 ≤ i → fst q (x ++ y) i = if fst q x i < 0 then fst q y (i + x.length) else fst q x i
  | [], y, i, _ => by simp [fst]
  | x :: t, y, i, hi => by
    have e : ∀ (u : List Int), fst q (x :: u) i = if x = q then i else fst q u (i + 1) := fun u => by rw [fst]
    rw [List.cons_append, e, e]
    by_cases h : x = q
    · rw [if_pos h, if_pos h, if_neg (by omega)]
    · rw [if_neg h, if_neg h, fst_append q t y (i + 1) (by omega), List.length_cons]
      rw [show i + 1 + (t.length : Int) = i + ((t.length + 1 : Nat) : Int) by omega]
theorem fst_way (q : Int) {s : Int} (hs : s = 1 ∨ s = -1) : ∀ (m : Nat) (a i : Int), fst q (way s a m) i = if s = 1 ∧ a < q ∧ q ≤ a + m ∨ s = -1 ∧ a - m ≤ q ∧ q < a then i + max (q - a) (a - q) - 1 else -1
  | 0, a, i => by rw [way, if_neg (by omega)]; rfl
  | m + 1, a, i => by
    rw [way, fst, fst_way q hs m (a + s) (i + 1)]
    by_cases c : a + s = q
    · rw [if_pos c, if_pos (by omega)]
      omega
    · rw [if_neg c]
      by_cases d : s = 1 ∧ a + s < q ∧ q ≤ a + s + m ∨ s = -1 ∧ a + s - m ≤ q ∧ q < a + s
      · rw [if_pos d, if_pos (by omega)]
        omega
      · rw [if_neg d, if_neg (by omega)]
theorem fst_leg (q a p i : Int) : fst q (leg a p) i = if a < q ∧ q ≤ p ∨ p ≤ q ∧ q < a then i + max (q - a) (a - q) - 1 else -1 := by
  unfold leg
  by_cases c : p < a
  · rw [if_pos c, fst_way q (.inr rfl)]
    by_cases d : a < q ∧ q ≤ p ∨ p ≤ q ∧ q < a
    · rw [if_pos d, if_pos (by omega)]
    · rw [if_neg d, if_neg (by omega)]
  · rw [if_neg c, fst_way q (.inl rfl)]
    by_cases d : a < q ∧ q ≤ p ∨ p ≤ q ∧ q < a
    · rw [if_pos d, if_pos (by omega)]
    · rw [if_neg d, if_neg (by omega)]
/-- A search's whole walk: what is gone already, then each leg. -/
def walkF : List Int → Int → List Int → List Int
  | w, _, [] => w
  | w, a, p :: t => walkF (w ++ leg a p) p t
theorem way_end {s : Int} : ∀ (m : Nat) (a tgt : Int), (s = 1 ∧ tgt = a + m ∨ s = -1 ∧ tgt = a - m) → ∃ pre, a :: way s a m = pre ++ [tgt]
  | 0, a, tgt, h => ⟨[], by simp [way]; omega⟩
  | m + 1, a, tgt, h => by
    obtain ⟨pre, e⟩ := way_end (s := s) m (a + s) tgt (by omega)
    exact ⟨a :: pre, by rw [way, e]; rfl⟩
/-- As times_both, and more of what the times are. -/
theorem times_all {n : Int} {a : Int} (l : List Int) (x3 : Int) (hl : l.length ≤ 1048576) (hn : 2 ≤ n ∧ n ≤ 24) (hx3 : 0 ≤ x3 ∧ x3 ≤ 9) :
    ∀ (d i : Nat) (pr : Option Bool) (low high at_ now time : Int) (S M w : List Int), i + d = l.length → srch n a pr low high (l.drop i) = true → 0 ≤ low → low ≤ at_ → at_ ≤ high → high ≤ n - 1 → low ≤ a → a ≤ high → S.length = n → M.length = n →
      (∀ q, low ≤ q → q ≤ high → rd S q = rd M q ∧ 0 ≤ rd M q ∧ rd M q ≤ 100000000 ∧ (q ≠ a → 0 < rd M q)) → (∀ q, 0 ≤ q → q < n → ¬ (low ≤ q ∧ q ≤ high) → rd M q < 0) → (i = 0 ∧ now = time ∨ 0 < i ∧ now = time + x3) → 0 ≤ time → 0 ≤ now → now ≤ 40 * i →
      (∀ q, low ≤ q → q ≤ high → max (q - a) (a - q) ≤ rd M q ∧ (q = a → rd M q = 0)) → max (at_ - a) (a - at_) ≤ now → (x3 = 0 → (w.length : Int) = now + 1 ∧ ∀ q, 0 ≤ q → q < n → rd M q = fst q w 0) →
      ∃ r : List Int, Ev (fun k => spec_l3Times.l0 k l x3 S now at_ low high i) r ∧ Ev (fun k => impl_Road_times.l1 k x3 M time at_ l l.length i n false) r ∧ r.length = n ∧ (∀ q, 0 ≤ q → q < n → (q ≠ a → 0 < rd r q) ∧ rd r q ≤ 100000000 ∧ max (q - a) (a - q) ≤ rd r q ∧ (q = a → rd r q = 0)) ∧ (x3 = 0 → ∀ q, 0 ≤ q → q < n → rd r q = fst q (walkF w at_ (l.drop i)) 0) := by
  intro d
  induction d with
  | zero =>
    intro i pr low high at_ now time S M w e hs h0 h1 h2 h3 h4 h5 hS hM hin hout hnow ht hw hw2 hg hgn hf
    rw [List.drop_eq_nil_of_le (by omega)] at hs
    have hs := srch_nil hs
    have hSM := rd_ext (by omega) fun q hq hq2 => (hin q (by omega) (by omega)).1
    refine ⟨S, Ev.step (fun k => by rw [spec_l3Times.l0]) (ev_neg (by omega) (ev_some rfl)), Ev.step (fun k => by rw [impl_Road_times.l1]) (ev_neg (by omega) (ev_some hSM.symm)), hS, fun q hq hq2 => ?_, fun hx q hq hq2 => ?_⟩
    · have h6 := hin q (by omega) (by omega)
      have h7 := hg q (by omega) (by omega)
      have h8 := h6.2.2.2
      rw [h6.1]
      exact ⟨h8, by omega, h7.1, h7.2⟩
    · rw [List.drop_eq_nil_of_le (by omega), walkF, hSM]
      exact (hf hx).2 q hq hq2
  | succ d ih =>
    intro i pr low high at_ now time S M w e hs h0 h1 h2 h3 h4 h5 hS hM hin hout hnow ht hw hw2 hg hgn hf
    have hi : i < l.length := by omega
    rw [List.drop_eq_getElem_cons hi] at hs
    obtain ⟨p0, p1, p2, p3, hs⟩ := srch_cons hs
    have hrd : rd l i = l[i] := rd_get rfl hi
    generalize hp0 : l[i] = p at *
    -- the program's turn
    obtain ⟨s, m, hsm, hway⟩ := straight_ev hn (tgt := p) (a := at_) ⟨p0, p1⟩ (by omega) [at_] (by simp) (by simp) rfl
    obtain ⟨M', m1, m2, m3⟩ := impl_times.go (n := n) l (way s at_ m) x3 p s i (by omega) hi hn (by omega) (by rw [way_length]; omega) m 0 at_ now M (by rw [way_length]; omega) rfl (by omega) (by omega) (by omega) hw (by omega) hM
    have hdrop : l.drop i = p :: l.drop (i + 1) := by rw [List.drop_eq_getElem_cons hi, hp0]
    have hf' : x3 = 0 → ((w ++ leg at_ p).length : Int) = now + m + x3 + 1 ∧ ∀ q, 0 ≤ q → q < n → rd M' q = fst q (w ++ leg at_ p) 0 := by
      intro hx
      obtain ⟨f1, f2⟩ := hf hx
      refine ⟨by rw [List.length_append]; have := leg_length at_ p; omega, fun q q1 q2 => ?_⟩
      have a2 := m2 q q1 q2
      have a3 := f2 q q1 q2
      rw [fst_append q w _ 0 (by omega), fst_leg]
      by_cases c : rd M q < 0
      · rw [if_pos (by omega)]
        by_cases c2 : at_ < q ∧ q ≤ p ∨ p ≤ q ∧ q < at_
        · rw [if_pos c2, a2.1 (by omega)]
          omega
        · rw [if_neg c2, a2.2 (by omega), a3]
          rcases fst_cases q w 0 with e | e <;> omega
      · rw [if_neg (by omega), a2.2 (by omega)]
        exact a3
    have himpl : ∀ r, Ev (fun k => impl_Road_times.l1 k x3 M' (now + m) p l l.length ((i + 1 : Nat) : Int) n false) r → Ev (fun k => impl_Road_times.l1 k x3 M time at_ l l.length i n false) r := by
      intro r hr
      have hj : Ev (fun k => impl_Road_times.j2 k x3 M now at_ p l l.length i n false) r := by
        refine Ev.step (fun k => by rw [impl_Road_times.j2]) (Ev.bind hway ?_)
        refine ev_pos (by simp; omega) ?_
        simp only [Option.bind_some, List.singleton_append, List.drop_succ_cons, List.drop_zero]
        exact m3 r hr
      refine Ev.step (fun k => by rw [impl_Road_times.l1]) (ev_pos (by omega) (ev_pos (by omega) (ev_pos (by omega) ?_)))
      rw [hrd]
      by_cases c : (i : Int) > 0
      · refine ev_pos c ?_
        rw [w64 (x := time + x3) (by omega) (by omega), show time + x3 = now from by omega]
        exact hj
      · refine ev_neg c ?_
        rw [show time = now from by omega]
        exact hj
    by_cases hpa : p > a
    · have hph := p2 hpa
      rw [if_pos hpa, if_pos hpa] at hs
      obtain ⟨S1, s1, s2, s3⟩ := spec_l3Times.right (n := n) l x3 now at_ low p i hi hrd hn ⟨p0, p1⟩ (by omega) ⟨hw, by omega⟩ (p - high).toNat high S (by omega) (by omega) hS
      have s4 : ∀ r, Ev (fun k => spec_l3Times.l0 k l x3 S1 (now + max (p - at_) (at_ - p) + x3) p low p ((i + 1 : Nat) : Int)) r → Ev (fun k => spec_l3Times.l2 k l x3 S1 now at_ low p i) r := by
        intro r hr
        refine Ev.step (fun k => by rw [spec_l3Times.l2]) (ev_pos (by omega) (ev_pos (by omega) ?_))
        rw [hrd]
        refine ev_neg (by omega) ?_
        rw [w64 (x := p - at_) (by omega) (by omega), w64 (x := at_ - p) (by omega) (by omega), spec_l1Most.at, w64 (x := (i : Int) + 1) (by omega) (by omega)]
        simp only [Option.bind_some]
        rw [w64 (x := now + max (p - at_) (at_ - p)) (by omega) (by omega), w64 (x := now + max (p - at_) (at_ - p) + x3) (by omega) (by omega)]
        exact hr
      have hmax : now + max (p - at_) (at_ - p) + x3 = now + m + x3 := by omega
      rw [hmax] at s4
      obtain ⟨r, r1, r2, r3, r4, r5⟩ := ih (i + 1) _ low p p (now + m + x3) (now + m) S1 M' (w ++ leg at_ p) (by omega) hs h0 (by omega) (by omega) p1 h4 (by omega) s1 m1
        (fun q q1 q2 => by
          have a1 := s2 q (by omega) (by omega)
          have a2 := m2 q (by omega) (by omega)
          by_cases c : q ≤ high
          · have b1 := hin q q1 c
            rw [a1.2 (by omega), a2.2 (by omega)]
            exact b1
          · have b1 := hout q (by omega) (by omega) (by omega)
            rw [a1.1 (by omega), a2.1 (by omega)]
            omega)
        (fun q q1 q2 q3 => by
          have a2 := m2 q (by omega) (by omega)
          rw [a2.2 (by omega)]
          exact hout q q1 q2 (by omega))
        (.inr ⟨by omega, rfl⟩) (by omega) (by omega) (by omega)
        (fun q q1 q2 => by
          have a2 := m2 q (by omega) (by omega)
          by_cases c : low ≤ q ∧ q ≤ high
          · have b1 := hin q c.1 c.2
            rw [a2.2 (by omega)]
            exact hg q c.1 c.2
          · have b1 := hout q (by omega) (by omega) (by omega)
            rw [a2.1 (by omega)]
            omega)
        (by omega) hf'
      refine ⟨r, ?_, himpl r r2, r3, r4, fun hx q hq hq2 => by rw [hdrop, walkF]; exact r5 hx q hq hq2⟩
      refine Ev.step (fun k => by rw [spec_l3Times.l0]) (ev_pos (by omega) ?_)
      exact s3 r (s4 r r1)
    · have hpl := p3 hpa
      rw [if_neg hpa, if_neg hpa] at hs
      obtain ⟨S1, s1, s2, s3⟩ := spec_l3Times.left (n := n) l x3 now at_ high p i (by omega) hi hrd hn ⟨p0, p1⟩ (by omega) ⟨hw, by omega⟩ hx3 (low - p).toNat low S (by omega) (by omega) hS
      have hmax : now + max (p - at_) (at_ - p) + x3 = now + m + x3 := by omega
      rw [hmax] at s3
      obtain ⟨r, r1, r2, r3, r4, r5⟩ := ih (i + 1) _ p high p (now + m + x3) (now + m) S1 M' (w ++ leg at_ p) (by omega) hs p0 (by omega) (by omega) h3 (by omega) h5 s1 m1
        (fun q q1 q2 => by
          have a1 := s2 q (by omega) (by omega)
          have a2 := m2 q (by omega) (by omega)
          by_cases c : low ≤ q
          · have b1 := hin q c q2
            rw [a1.2 (by omega), a2.2 (by omega)]
            exact b1
          · have b1 := hout q (by omega) (by omega) (by omega)
            rw [a1.1 (by omega), a2.1 (by omega)]
            omega)
        (fun q q1 q2 q3 => by
          have a2 := m2 q (by omega) (by omega)
          rw [a2.2 (by omega)]
          exact hout q q1 q2 (by omega))
        (.inr ⟨by omega, rfl⟩) (by omega) (by omega) (by omega)
        (fun q q1 q2 => by
          have a2 := m2 q (by omega) (by omega)
          by_cases c : low ≤ q ∧ q ≤ high
          · have b1 := hin q c.1 c.2
            rw [a2.2 (by omega)]
            exact hg q c.1 c.2
          · have b1 := hout q (by omega) (by omega) (by omega)
            rw [a2.1 (by omega)]
            omega)
        (by omega) hf'
      refine ⟨r, ?_, himpl r r2, r3, r4, fun hx q hq hq2 => by rw [hdrop, walkF]; exact r5 hx q hq hq2⟩
      refine Ev.step (fun k => by rw [spec_l3Times.l0]) (ev_pos (by omega) ?_)
      refine Ev.step (fun k => by rw [spec_l3Times.l1]) (ev_pos (by omega) (ev_pos (by omega) ?_))
      rw [hrd]
      refine ev_neg (by omega) ?_
      exact s3 r r1
/-- As times_evp, and more of what the times are. -/
theorem times_eva {n a : Int} {l : List Int} {x3 : Int} (hl : l.length ≤ 1048576) (h : okSearch n false a l = true) (hx3 : 0 ≤ x3 ∧ x3 ≤ 9) :
    ∃ r : List Int, Ev (fun k => spec_l3Times.f k n false a l x3) r ∧ Ev (fun k => impl_Road_times.f k n false a l x3) r ∧ r.length = n ∧ (∀ q, 0 ≤ q → q < n → (q ≠ a → 0 < rd r q) ∧ rd r q ≤ 100000000 ∧ max (q - a) (a - q) ≤ rd r q ∧ (q = a → rd r q = 0)) ∧ (x3 = 0 → ∀ q, 0 ≤ q → q < n → rd r q = fst q (walkF [a] a l) 0) := by
  simp only [okSearch, Bool.and_eq_true] at h
  have hb := okStart_b h.1
  have hn : 2 ≤ n ∧ n ≤ 24 := ⟨hb.2.2.1, hb.2.2.2.1⟩
  have ha : 0 ≤ a ∧ a ≤ n - 1 := hb.2.2.2.2
  have hrep : (List.replicate n.toNat (0 : Int)).length = n.toNat := by simp
  have hz : ∀ q : Int, rd (List.replicate n.toNat (0 : Int)) q = 0 := by
    intro q
    simp [rd, List.getD_eq_getElem?_getD, List.getElem?_replicate]
    split <;> rfl
  have hmin : ∀ (d i : Nat) (M : List Int), i + d = n.toNat → M.length = n → (∀ q : Int, 0 ≤ q → q < i → rd M q = -1) →
      ∃ M' : List Int, M'.length = n ∧ (∀ q, 0 ≤ q → q < n → rd M' q = if q = a then 0 else -1) ∧
        ∀ r, Ev (fun k => impl_Road_times.l1 k x3 M' 0 a l l.length 0 n false) r → Ev (fun k => impl_Road_times.l0 k a l x3 M (n.toNat : Int) i n false) r := by
    intro d
    induction d with
    | zero =>
      intro i M e hM hq
      refine ⟨M.set a.toNat 0, by simpa using hM, fun q h1 h2 => ?_, fun r hr => ?_⟩
      · rw [rd_set M ⟨ha.1, by omega⟩ h1, hq q h1 (by omega)]
      · refine Ev.step (fun k => by rw [impl_Road_times.l0]) (ev_neg (by omega) (ev_pos (by omega) (ev_pos (by omega) ?_)))
        exact hr
    | succ d ih =>
      intro i M e hM hq
      obtain ⟨M', h1, h2, h3⟩ := ih (i + 1) (M.set ((i : Nat) : Int).toNat (-1)) (by omega) (by simpa using hM) (fun q q1 q2 => by
        rw [rd_set M (by omega) q1]
        by_cases c : q = i
        · rw [if_pos c]
        · rw [if_neg c]
          exact hq q q1 (by omega))
      refine ⟨M', h1, h2, fun r hr => ?_⟩
      refine Ev.step (fun k => by rw [impl_Road_times.l0]) (ev_pos (by omega) (ev_pos (by omega) (ev_pos (by omega) ?_)))
      rw [w64 (x := (i : Int) + 1) (by omega) (by omega)]
      exact h3 r hr
  obtain ⟨M', m1, m2, m3⟩ := hmin n.toNat 0 (List.replicate n.toNat 0) (by omega) (by rw [hrep]; omega) (fun q q1 q2 => by omega)
  obtain ⟨r, r1, r2, r3⟩ := times_all (n := n) (a := a) l x3 hl hn hx3 l.length 0 none a a a 0 0 (List.replicate n.toNat 0) M' [a] (by omega) (by simpa using h.2) ha.1 (by omega) (by omega) ha.2 (by omega) (by omega) (by rw [hrep]; omega) m1
    (fun q q1 q2 => by
      rw [hz, m2 q (by omega) (by omega), if_pos (by omega)]
      omega)
    (fun q q1 q2 q3 => by
      rw [m2 q q1 q2, if_neg (by omega)]
      omega)
    (.inl ⟨rfl, rfl⟩) (by omega) (by omega) (by omega)
    (fun q q1 q2 => by
      rw [m2 q (by omega) (by omega), if_pos (by omega)]
      omega)
    (by omega)
    (fun _ => ⟨by simp, fun q q1 q2 => by
      rw [m2 q q1 q2]
      simp only [fst]
      by_cases c : q = a
      · rw [if_pos c, if_pos c.symm]
      · rw [if_neg c, if_neg (fun e => c e.symm)]⟩)
  refine ⟨r, ?_, ?_, r3.1, r3.2.1, by simpa using r3.2.2⟩
  · unfold spec_l3Times.f
    exact ev_pos (by omega) (ev_pos (by omega) r1)
  · unfold impl_Road_times.f
    refine ev_pos (by omega) (ev_pos (by omega) ?_)
    simp only [Option.bind_some]
    rw [hrep]
    exact m3 r r2
theorem gap_line (n a b : Int) : gap n false a b = max (a - b) (b - a) := by
  unfold gap
  rw [if_neg (by simp)]
/-- The worst place of some times: both sides go the same way. -/
theorem worst_both {n a : Int} (t : List Int) (hn : 2 ≤ n ∧ n ≤ 24) (ha : 0 ≤ a ∧ a ≤ n - 1) (ht : t.length = n) (hpos : ∀ q, 0 ≤ q → q < n → q ≠ a → 0 < rd t q ∧ rd t q ≤ 100000000) :
    ∀ (d i : Nat) (b pl x y : Int), i + d = n.toNat → (i = 0 ∨ i = 1 ∧ a = 0) ∧ x = 0 ∧ y = 1 ∨ b = pl ∧ 0 < x ∧ x ≤ 100000000 ∧ 0 < y ∧ y ≤ 24 →
      ∃ b' x' y' : Int, Ev (fun k => spec_l3Worst.l0 k a t b x y i n false) (b', x', y') ∧ 0 < x' ∧ x' ≤ 100000000 ∧ 0 < y' ∧ y' ≤ 24 ∧
        ∀ r, Ev (fun k => (impl_fraction.f k x' y').bind fun bt => some (bt.1, bt.2, b')) r → Ev (fun k => impl_Road_worst.l0 k a pl t t.length i n false x y) r := by
  intro d
  induction d with
  | zero =>
    intro i b pl x y e h
    refine ⟨b, x, y, Ev.step (fun k => by rw [spec_l3Worst.l0]) (ev_neg (by omega) (ev_some rfl)), by omega, by omega, by omega, by omega, fun r hr => ?_⟩
    refine Ev.step (fun k => by rw [impl_Road_worst.l0]) (ev_neg (by omega) ?_)
    rw [show pl = b from by omega]
    exact hr
  | succ d ih =>
    intro i b pl x y e h
    have e1 : wrap64 ((i : Int) + 1) = ((i + 1 : Nat) : Int) := by unfold wrap64; omega
    have hs : ∀ r, Ev (fun k => (if max (a - (i : Int)) ((i : Int) - a) > 0 then (if wrap64 (rd t i * y) > wrap64 (x * max (a - (i : Int)) ((i : Int) - a)) then spec_l3Worst.l0 k a t i (rd t i) (max (a - (i : Int)) ((i : Int) - a)) ((i + 1 : Nat) : Int) n false else spec_l3Worst.l0 k a t b x y ((i + 1 : Nat) : Int) n false) else spec_l3Worst.l0 k a t b x y ((i + 1 : Nat) : Int) n false)) r → Ev (fun k => spec_l3Worst.l0 k a t b x y i n false) r := by
      intro r hr
      refine Ev.step (fun k => by rw [spec_l3Worst.l0]) (ev_pos (by omega) ?_)
      rw [spec_l2Gap.at false hn ha (by omega), gap_line, e1]
      simp only [Option.bind_some]
      by_cases c : max (a - (i : Int)) ((i : Int) - a) > 0
      · exact ev_pos c (ev_pos (by omega) (ev_pos (by omega) (by simpa only [c, if_true] using hr)))
      · exact ev_neg c (by simpa only [c, if_false] using hr)
    have hi : ∀ r, Ev (fun k => (if (i : Int) = a then impl_Road_worst.l0 k a pl t t.length ((i + 1 : Nat) : Int) n false x y else (if wrap64 (rd t i * y) > wrap64 (x * max (a - (i : Int)) ((i : Int) - a)) then impl_Road_worst.l0 k a i t t.length ((i + 1 : Nat) : Int) n false (rd t i) (max (a - (i : Int)) ((i : Int) - a)) else impl_Road_worst.l0 k a pl t t.length ((i + 1 : Nat) : Int) n false x y))) r → Ev (fun k => impl_Road_worst.l0 k a pl t t.length i n false x y) r := by
      intro r hr
      refine Ev.step (fun k => by rw [impl_Road_worst.l0]) (ev_pos (by omega) (ev_pos (by omega) (ev_pos (by omega) ?_)))
      rw [impl_Road_gap.at false hn ha (by omega), gap_line, e1]
      simp only [Option.bind_some]
      exact hr
    by_cases c : (i : Int) = a
    · obtain ⟨b', x', y', r1, r2, r3, r4, r5, r6⟩ := ih (i + 1) b pl x y (by omega) (by omega)
      refine ⟨b', x', y', hs _ ?_, r2, r3, r4, r5, fun r hr => hi _ ?_⟩
      · exact ev_neg (by omega) r1
      · exact ev_pos c (r6 r hr)
    · have hp := hpos i (by omega) (by omega) c
      by_cases c2 : wrap64 (rd t i * y) > wrap64 (x * max (a - (i : Int)) ((i : Int) - a))
      · obtain ⟨b', x', y', r1, r2, r3, r4, r5, r6⟩ := ih (i + 1) i i (rd t i) (max (a - (i : Int)) ((i : Int) - a)) (by omega) (.inr (by omega))
        refine ⟨b', x', y', hs _ ?_, r2, r3, r4, r5, fun r hr => hi _ ?_⟩
        · exact ev_pos (by omega) (ev_pos c2 r1)
        · exact ev_neg c (ev_pos c2 (r6 r hr))
      · have h2 : b = pl ∧ 0 < x ∧ x ≤ 100000000 ∧ 0 < y ∧ y ≤ 24 := by
          rcases h with ⟨_, h0, h1⟩ | h
          · refine absurd ?_ c2
            rw [h0, h1, Int.mul_one, Int.zero_mul, w64 (x := rd t i) (by omega) (by omega), w64 (x := 0) (by omega) (by omega)]
            exact hp.1
          · exact h
        obtain ⟨b', x', y', r1, r2, r3, r4, r5, r6⟩ := ih (i + 1) b pl x y (by omega) (.inr h2)
        refine ⟨b', x', y', hs _ ?_, r2, r3, r4, r5, fun r hr => hi _ ?_⟩
        · exact ev_pos (by omega) (ev_neg c2 r1)
        · exact ev_neg c (ev_neg c2 (r6 r hr))
/-- What both sides find: the place, its time and its gap. -/
theorem worst_ev {n a : Int} {l : List Int} {x3 : Int} (hl : l.length ≤ 1048576) (h : okSearch n false a l = true) (hx3 : 0 ≤ x3 ∧ x3 ≤ 9) :
    ∃ b x y : Int, Ev (fun k => spec_l3Worst.f k n false a l x3) (b, x, y) ∧ 0 < x ∧ x ≤ 100000000 ∧ 0 < y ∧ y ≤ 24 ∧
      ∀ r, Ev (fun k => (impl_fraction.f k x y).bind fun bt => some (bt.1, bt.2, b)) r → Ev (fun k => impl_Road_worst.f k n false a l x3) r := by
  have h' := h
  simp only [okSearch, Bool.and_eq_true] at h'
  have hb := okStart_b h'.1
  obtain ⟨t, t1, t2, t3, t4⟩ := times_evp hl h hx3
  obtain ⟨b, x, y, r1, r2, r3, r4, r5, r6⟩ := worst_both t ⟨hb.2.2.1, hb.2.2.2.1⟩ hb.2.2.2.2 t3 t4 n.toNat 0 0 a 0 1 (by omega) (.inl ⟨.inl rfl, rfl, rfl⟩)
  refine ⟨b, x, y, ?_, r2, r3, r4, r5, fun r hr => ?_⟩
  · unfold spec_l3Worst.f
    exact Ev.bind t1 r1
  · unfold impl_Road_worst.f
    exact Ev.bind t2 (r6 r hr)
/-- The greatest common divisor, by both sides. -/
theorem impl_divisor.pos : ∀ (m : Nat) (a b : Int), b.toNat ≤ m → 0 ≤ b → 0 < a → ∃ g, 0 < g ∧ Ev (fun k => impl_divisor.l0 k a b) g := by
  intro m
  induction m with
  | zero =>
    intro a b h1 h2 h3
    exact ⟨a, h3, Ev.step (fun k => by rw [impl_divisor.l0]) (ev_pos (by omega) (ev_some rfl))⟩
  | succ m ih =>
    intro a b h1 h2 h3
    by_cases c : b = 0
    · exact ⟨a, h3, Ev.step (fun k => by rw [impl_divisor.l0]) (ev_pos c (ev_some rfl))⟩
    · have e : Int.tmod a b = a % b := Int.tmod_eq_emod_of_nonneg (by omega)
      have e0 := Int.emod_nonneg a c
      have e1 := Int.emod_lt_of_pos a (show 0 < b by omega)
      obtain ⟨g, g0, g1⟩ := ih b (a % b) (by omega) e0 (by omega)
      exact ⟨g, g0, Ev.step (fun k => by rw [impl_divisor.l0]) (ev_neg c (by rw [e]; exact g1))⟩
/-- b is the worst place among the first i. -/
def Wst (t : List Int) (n a b x y i : Int) : Prop := b ≠ a ∧ 0 ≤ b ∧ b < n ∧ x = rd t b ∧ y = max (a - b) (b - a) ∧ ∀ q, 0 ≤ q → q < i → q ≠ a → rd t q * y ≤ x * max (a - q) (q - a)
theorem bound {p q : Int} (hp : 0 ≤ p) (hp1 : p ≤ 100000000) (hq : 0 ≤ q) (hq1 : q ≤ 24) : wrap64 (p * q) = p * q := by
  have h1 := Int.mul_nonneg hp hq
  have h2 := Int.mul_le_mul hp1 hq1 hq (by omega)
  exact w64 (by omega) (by omega)
theorem frac_trans {A Y X G B H : Int} (hy : 0 < Y) (hG : 0 ≤ G) (hH : 0 ≤ H) (h1 : A * Y ≤ X * G) (h2 : X * H ≤ B * Y) : A * H ≤ B * G := by
  have e1 : A * Y * H ≤ X * G * H := Int.mul_le_mul_of_nonneg_right h1 hH
  have e2 : X * H * G ≤ B * Y * G := Int.mul_le_mul_of_nonneg_right h2 hG
  rw [Int.mul_right_comm A Y H] at e1
  rw [Int.mul_right_comm B Y G, Int.mul_right_comm X H G] at e2
  exact Int.le_of_mul_le_mul_right (Int.le_trans e1 e2) hy
theorem Wst.skip {t : List Int} {n a b x y : Int} {i : Nat} (h : Wst t n a b x y i) (c : (i : Int) = a) : Wst t n a b x y ((i + 1 : Nat) : Int) :=
  ⟨h.1, h.2.1, h.2.2.1, h.2.2.2.1, h.2.2.2.2.1, fun q q1 q2 q3 => h.2.2.2.2.2 q q1 (by omega) q3⟩
theorem Wst.keep {t : List Int} {n a b x y : Int} {i : Nat} (h : Wst t n a b x y i) (hp : 0 < rd t i ∧ rd t i ≤ 100000000) (hx : 0 < x ∧ x ≤ 100000000 ∧ 0 < y ∧ y ≤ 24) (hg : 0 ≤ max (a - (i : Int)) ((i : Int) - a) ∧ max (a - (i : Int)) ((i : Int) - a) ≤ 24) (c : ¬ wrap64 (rd t i * y) > wrap64 (x * max (a - (i : Int)) ((i : Int) - a))) : Wst t n a b x y ((i + 1 : Nat) : Int) := by
  rw [bound (by omega) (by omega) (by omega) (by omega), bound (by omega) (by omega) hg.1 hg.2] at c
  refine ⟨h.1, h.2.1, h.2.2.1, h.2.2.2.1, h.2.2.2.2.1, fun q q1 q2 q3 => ?_⟩
  by_cases d : q = i
  · subst d
    omega
  · exact h.2.2.2.2.2 q q1 (by omega) q3
theorem Wst.new {t : List Int} {n a b pl x y : Int} {i : Nat} (h1 : (i : Int) < n) (hg : 0 ≤ max (a - (i : Int)) ((i : Int) - a) ∧ max (a - (i : Int)) ((i : Int) - a) ≤ 24) (ci : ¬ (i : Int) = a) (h : 0 < x → Wst t n a b x y i) (hx : (i = 0 ∨ i = 1 ∧ a = 0) ∧ x = 0 ∧ y = 1 ∨ b = pl ∧ 0 < x ∧ x ≤ 100000000 ∧ 0 < y ∧ y ≤ 24) (hp : 0 < rd t i ∧ rd t i ≤ 100000000) (c : wrap64 (rd t i * y) > wrap64 (x * max (a - (i : Int)) ((i : Int) - a))) : Wst t n a i (rd t i) (max (a - (i : Int)) ((i : Int) - a)) ((i + 1 : Nat) : Int) := by
  refine ⟨ci, by omega, h1, rfl, rfl, fun q q1 q2 q3 => ?_⟩
  by_cases d : q = i
  · subst d
    exact Int.le_refl _
  · rcases hx with ⟨z, _, _⟩ | ⟨_, x1, x2, x3, x4⟩
    · omega
    · rw [bound (by omega) (by omega) (by omega) (by omega), bound (by omega) (by omega) hg.1 hg.2] at c
      exact frac_trans x3 (by omega) hg.1 ((h x1).2.2.2.2.2 q q1 (by omega) q3) (by omega)
/-- As worst_both, and what the worst place is. -/
theorem worst_all {n a : Int} (t : List Int) (hn : 2 ≤ n ∧ n ≤ 24) (ha : 0 ≤ a ∧ a ≤ n - 1) (ht : t.length = n) (hpos : ∀ q, 0 ≤ q → q < n → q ≠ a → 0 < rd t q ∧ rd t q ≤ 100000000) :
    ∀ (d i : Nat) (b pl x y : Int), i + d = n.toNat → (i = 0 ∨ i = 1 ∧ a = 0) ∧ x = 0 ∧ y = 1 ∨ b = pl ∧ 0 < x ∧ x ≤ 100000000 ∧ 0 < y ∧ y ≤ 24 → (0 < x → Wst t n a b x y i) →
      ∃ b' x' y' : Int, Ev (fun k => spec_l3Worst.l0 k a t b x y i n false) (b', x', y') ∧ 0 < x' ∧ x' ≤ 100000000 ∧ 0 < y' ∧ y' ≤ 24 ∧ Wst t n a b' x' y' n ∧
        ∀ r, Ev (fun k => (impl_fraction.f k x' y').bind fun bt => some (bt.1, bt.2, b')) r → Ev (fun k => impl_Road_worst.l0 k a pl t t.length i n false x y) r := by
  intro d
  induction d with
  | zero =>
    intro i b pl x y e h hG
    refine ⟨b, x, y, Ev.step (fun k => by rw [spec_l3Worst.l0]) (ev_neg (by omega) (ev_some rfl)), by omega, by omega, by omega, by omega, by rw [show n = ((i : Nat) : Int) by omega]; rw [show n = ((i : Nat) : Int) by omega] at hG; exact hG (by omega), fun r hr => ?_⟩
    refine Ev.step (fun k => by rw [impl_Road_worst.l0]) (ev_neg (by omega) ?_)
    rw [show pl = b from by omega]
    exact hr
  | succ d ih =>
    intro i b pl x y e h hG
    have e1 : wrap64 ((i : Int) + 1) = ((i + 1 : Nat) : Int) := by unfold wrap64; omega
    have hs : ∀ r, Ev (fun k => (if max (a - (i : Int)) ((i : Int) - a) > 0 then (if wrap64 (rd t i * y) > wrap64 (x * max (a - (i : Int)) ((i : Int) - a)) then spec_l3Worst.l0 k a t i (rd t i) (max (a - (i : Int)) ((i : Int) - a)) ((i + 1 : Nat) : Int) n false else spec_l3Worst.l0 k a t b x y ((i + 1 : Nat) : Int) n false) else spec_l3Worst.l0 k a t b x y ((i + 1 : Nat) : Int) n false)) r → Ev (fun k => spec_l3Worst.l0 k a t b x y i n false) r := by
      intro r hr
      refine Ev.step (fun k => by rw [spec_l3Worst.l0]) (ev_pos (by omega) ?_)
      rw [spec_l2Gap.at false hn ha (by omega), gap_line, e1]
      simp only [Option.bind_some]
      by_cases c : max (a - (i : Int)) ((i : Int) - a) > 0
      · exact ev_pos c (ev_pos (by omega) (ev_pos (by omega) (by simpa only [c, if_true] using hr)))
      · exact ev_neg c (by simpa only [c, if_false] using hr)
    have hi : ∀ r, Ev (fun k => (if (i : Int) = a then impl_Road_worst.l0 k a pl t t.length ((i + 1 : Nat) : Int) n false x y else (if wrap64 (rd t i * y) > wrap64 (x * max (a - (i : Int)) ((i : Int) - a)) then impl_Road_worst.l0 k a i t t.length ((i + 1 : Nat) : Int) n false (rd t i) (max (a - (i : Int)) ((i : Int) - a)) else impl_Road_worst.l0 k a pl t t.length ((i + 1 : Nat) : Int) n false x y))) r → Ev (fun k => impl_Road_worst.l0 k a pl t t.length i n false x y) r := by
      intro r hr
      refine Ev.step (fun k => by rw [impl_Road_worst.l0]) (ev_pos (by omega) (ev_pos (by omega) (ev_pos (by omega) ?_)))
      rw [impl_Road_gap.at false hn ha (by omega), gap_line, e1]
      simp only [Option.bind_some]
      exact hr
    by_cases c : (i : Int) = a
    · obtain ⟨b', x', y', r1, r2, r3, r4, r5, rW, r6⟩ := ih (i + 1) b pl x y (by omega) (by omega) (fun h0 => (hG h0).skip c)
      refine ⟨b', x', y', hs _ ?_, r2, r3, r4, r5, rW, fun r hr => hi _ ?_⟩
      · exact ev_neg (by omega) r1
      · exact ev_pos c (r6 r hr)
    · have hp := hpos i (by omega) (by omega) c
      by_cases c2 : wrap64 (rd t i * y) > wrap64 (x * max (a - (i : Int)) ((i : Int) - a))
      · obtain ⟨b', x', y', r1, r2, r3, r4, r5, rW, r6⟩ := ih (i + 1) i i (rd t i) (max (a - (i : Int)) ((i : Int) - a)) (by omega) (.inr (by omega)) (fun _ => Wst.new (by omega) (by omega) c hG h hp c2)
        refine ⟨b', x', y', hs _ ?_, r2, r3, r4, r5, rW, fun r hr => hi _ ?_⟩
        · exact ev_pos (by omega) (ev_pos c2 r1)
        · exact ev_neg c (ev_pos c2 (r6 r hr))
      · have h2 : b = pl ∧ 0 < x ∧ x ≤ 100000000 ∧ 0 < y ∧ y ≤ 24 := by
          rcases h with ⟨_, h0, h1⟩ | h
          · refine absurd ?_ c2
            rw [h0, h1, Int.mul_one, Int.zero_mul, w64 (x := rd t i) (by omega) (by omega), w64 (x := 0) (by omega) (by omega)]
            exact hp.1
          · exact h
        obtain ⟨b', x', y', r1, r2, r3, r4, r5, rW, r6⟩ := ih (i + 1) b pl x y (by omega) (.inr h2) (fun h0 => (hG h0).keep hp h2.2 (by omega) c2)
        refine ⟨b', x', y', hs _ ?_, r2, r3, r4, r5, rW, fun r hr => hi _ ?_⟩
        · exact ev_pos (by omega) (ev_neg c2 r1)
        · exact ev_neg c (ev_neg c2 (r6 r hr))
theorem spec_l3Extra.at (x : Int) : spec_l3Extra.f x = some (decide (0 ≤ x ∧ x ≤ 9)) := by
  unfold spec_l3Extra.f
  rw [spec_l1In.at]
  rfl
theorem impl_isExtra.at (x : Int) : impl_isExtra.f x = some (decide (0 ≤ x ∧ x ≤ 9)) := by
  unfold impl_isExtra.f
  rw [impl_within.at]
  rfl
theorem gcd_all : ∀ (m : Nat) (a b : Int), b.toNat ≤ m → 0 ≤ b → 0 < a → ∃ g, 0 < g ∧ g ∣ a ∧ g ∣ b ∧ Ev (fun k => impl_divisor.l0 k a b) g ∧ Ev (fun k => spec_l3Gcd.l0 k a b) g := by
  intro m
  induction m with
  | zero =>
    intro a b h1 h2 h3
    exact ⟨a, h3, Int.dvd_refl a, by rw [show b = 0 by omega]; exact Int.dvd_zero a, Ev.step (fun k => by rw [impl_divisor.l0]) (ev_pos (by omega) (ev_some rfl)), Ev.step (fun k => by rw [spec_l3Gcd.l0]) (ev_neg (by omega) (ev_some rfl))⟩
  | succ m ih =>
    intro a b h1 h2 h3
    by_cases c : b = 0
    · exact ⟨a, h3, Int.dvd_refl a, by rw [c]; exact Int.dvd_zero a, Ev.step (fun k => by rw [impl_divisor.l0]) (ev_pos c (ev_some rfl)), Ev.step (fun k => by rw [spec_l3Gcd.l0]) (ev_neg (by omega) (ev_some rfl))⟩
    · have e : Int.tmod a b = a % b := Int.tmod_eq_emod_of_nonneg (by omega)
      have e0 := Int.emod_nonneg a c
      have e1 := Int.emod_lt_of_pos a (show 0 < b by omega)
      obtain ⟨g, g0, g2, g3, g1, g4⟩ := ih b (a % b) (by omega) e0 (by omega)
      refine ⟨g, g0, ?_, g2, Ev.step (fun k => by rw [impl_divisor.l0]) (ev_neg c (by rw [e]; exact g1)), Ev.step (fun k => by rw [spec_l3Gcd.l0]) (ev_pos (by omega) (ev_neg c (by rw [e]; exact g4)))⟩
      rw [← Int.emod_add_mul_ediv a b]
      exact Int.dvd_add g3 (Int.dvd_mul_of_dvd_left g2)
/-- The times, the worst place, and its time and gap shortened by their greatest divisor. -/
theorem worst_eva {n a : Int} {l : List Int} {x3 : Int} (hl : l.length ≤ 1048576) (h : okSearch n false a l = true) (hx3 : 0 ≤ x3 ∧ x3 ≤ 9) :
    ∃ (t : List Int) (b x y p q d : Int), x = p * d ∧ y = q * d ∧ 0 < d ∧ 0 < p ∧ p ≤ 100000000 ∧ 0 < q ∧ q ≤ 24 ∧ Ev (fun k => spec_l3Times.f k n false a l x3) t ∧ Ev (fun k => impl_Road_times.f k n false a l x3) t ∧ t.length = n ∧
      (∀ r, 0 ≤ r → r < n → (r ≠ a → 0 < rd t r) ∧ rd t r ≤ 100000000 ∧ max (r - a) (a - r) ≤ rd t r ∧ (r = a → rd t r = 0)) ∧ (x3 = 0 → ∀ r, 0 ≤ r → r < n → rd t r = fst r (walkF [a] a l) 0) ∧
      Ev (fun k => spec_l3Worst.f k n false a l x3) (b, x, y) ∧ Ev (fun k => spec_l3Gcd.f k x y) d ∧ Int.tdiv x d = p ∧ Int.tdiv y d = q ∧ Ev (fun k => impl_Road_worst.f k n false a l x3) (p, q, b) ∧
      b ≠ a ∧ 0 ≤ b ∧ b < n ∧ rd t b * q = p * max (a - b) (b - a) ∧ ∀ r, 0 ≤ r → r < n → r ≠ a → rd t r * q ≤ p * max (a - r) (r - a) := by
  have h' := h
  simp only [okSearch, Bool.and_eq_true] at h'
  have hb := okStart_b h'.1
  obtain ⟨t, t1, t2, t3, t4, t5⟩ := times_eva hl h hx3
  obtain ⟨b, x, y, r1, r2, r3, r4, r5, rW, r6⟩ := worst_all t ⟨hb.2.2.1, hb.2.2.2.1⟩ hb.2.2.2.2 t3 (fun q q1 q2 q3 => ⟨(t4 q q1 q2).1 q3, (t4 q q1 q2).2.1⟩) n.toNat 0 0 a 0 1 (by omega) (.inl ⟨.inl rfl, rfl, rfl⟩) (fun z => absurd z (by omega))
  obtain ⟨d, d0, ⟨p, hp⟩, ⟨q, hq⟩, d3, d4⟩ := gcd_all y.toNat x y (by omega) (by omega) r2
  have p0 : 0 < p := by
    rcases Int.lt_or_le 0 p with h | h
    · exact h
    · have := Int.mul_le_mul_of_nonneg_left h (Int.le_of_lt d0)
      omega
  have q0 : 0 < q := by
    rcases Int.lt_or_le 0 q with h | h
    · exact h
    · have := Int.mul_le_mul_of_nonneg_left h (Int.le_of_lt d0)
      omega
  have pb := Int.mul_le_mul_of_nonneg_right (show 1 ≤ d by omega) (Int.le_of_lt p0)
  have qb := Int.mul_le_mul_of_nonneg_right (show 1 ≤ d by omega) (Int.le_of_lt q0)
  have ep : Int.tdiv x d = p := by rw [hp]; exact Int.mul_tdiv_cancel_left p (by omega)
  have eq : Int.tdiv y d = q := by rw [hq]; exact Int.mul_tdiv_cancel_left q (by omega)
  obtain ⟨w1, w2, w3, w4, w5, w6⟩ := rW
  have hcut : ∀ r, rd t r * y ≤ x * max (a - r) (r - a) → rd t r * q ≤ p * max (a - r) (r - a) := by
    intro r hr
    rw [hp, hq] at hr
    refine Int.le_of_mul_le_mul_left (a := d) ?_ d0
    rw [Int.mul_left_comm, ← Int.mul_assoc d p]
    exact hr
  have hcut2 : p * max (a - b) (b - a) ≤ rd t b * q := by
    refine Int.le_of_mul_le_mul_left (a := d) ?_ d0
    rw [← Int.mul_assoc, ← hp, Int.mul_left_comm, ← hq, w5, ← w4]
    exact Int.le_refl _
  refine ⟨t, b, x, y, p, q, d, by rw [hp, Int.mul_comm], by rw [hq, Int.mul_comm], d0, p0, by omega, q0, by omega, t1, t2, t3, t4, t5, ?_, ?_, ep, eq, ?_, w1, w2, w3, Int.le_antisymm (hcut b (w6 b w2 w3 w1)) hcut2, fun r q1 q2 q3 => hcut r (w6 r q1 q2 q3)⟩
  · unfold spec_l3Worst.f
    exact Ev.bind t1 r1
  · unfold spec_l3Gcd.f
    exact d4
  · unfold impl_Road_worst.f
    refine Ev.bind t2 (r6 _ ?_)
    unfold impl_fraction.f impl_divisor.f
    refine Ev.bind (a := (p, q)) (Ev.bind d3 (ev_neg (by omega) (ev_some ?_))) (ev_some rfl)
    rw [ep, eq, w64 (by omega) (by omega), w64 (by omega) (by omega)]
/-- The first half of FnSearches: what the four calls on the drawn search come to. -/
theorem partA (n : Int) (g : Bool) (a : Int) (l : List Int) (x3 : Int) (hl : l.length ≤ 1048576) : ∃ (T : List Int × Bool) (R : Int × Int × Bool) (W : Int × Bool),
    Ev (fun k => spec_SearchTimes.f k n g a l x3) T ∧ Ev (fun k => impl_SearchTimes.f k n g a l x3) T ∧ Ev (fun k => spec_SearchRatio.f k n g a l x3) R ∧ Ev (fun k => impl_SearchRatio.f k n g a l x3) R ∧
    Ev (fun k => spec_WorstPlace.f k n g a l x3) W ∧ Ev (fun k => impl_WorstPlace.f k n g a l x3) W ∧ T.2 = R.2.2 ∧ T.2 = W.2 ∧ T.1.length ≤ 1048576 ∧
    (T.2 = true → okSearch n g a l = true ∧ (T.1.length : Int) = n ∧ 0 < R.1 ∧ R.1 ≤ 100000000 ∧ 0 < R.2.1 ∧ R.2.1 ≤ 24 ∧ W.1 ≠ a ∧ 0 ≤ W.1 ∧ W.1 < n ∧ rd T.1 W.1 * R.2.1 = R.1 * max (a - W.1) (W.1 - a) ∧
      ∀ r, 0 ≤ r → r < n → rd T.1 r ≤ 100000000 ∧ max (r - a) (a - r) ≤ rd T.1 r ∧ (r = a → rd T.1 r = 0) ∧ (r ≠ a → rd T.1 r * R.2.1 ≤ R.1 * max (a - r) (r - a))) := by
  unfold spec_SearchTimes.f impl_SearchTimes.f spec_SearchRatio.f impl_SearchRatio.f spec_WorstPlace.f impl_WorstPlace.f
  have hs := spec_l3Good.ev n g a l (by omega)
  have hi := impl_isSought.ev n g a l (by omega)
  rw [spec_l3Extra.at, impl_isExtra.at]
  simp only [Option.bind_some]
  have bad : Ev (fun k => spec_SearchRatio.j0 k a l x3 true n g) (0, 0, false) := Ev.step (fun k => by rw [spec_SearchRatio.j0]) (ev_pos rfl (ev_some rfl))
  by_cases h : okSearch n g a l = true
  · by_cases hx : 0 ≤ x3 ∧ x3 ≤ 9
    · have h' := h
      simp only [okSearch, Bool.and_eq_true] at h'
      have hb := okStart_b h'.1
      have hg : g = false := hb.2.1
      subst hg
      obtain ⟨t, b, x, y, p, q, d, hp, hq, d0, p0, p1, q0, q1, t1, t2, t3, t4, t5, w1, w2, e1, e2, w3, b0, b1, b2, b3, b4⟩ := worst_eva (x3 := x3) hl h hx
      have hx' : decide (0 ≤ x3 ∧ x3 ≤ 9) = true := decide_eq_true hx
      refine ⟨(t, true), (p, q, true), (b, true), Ev.bind hs (ev_pos h (ev_pos hx' (Ev.bind t1 (ev_some rfl)))), Ev.bind hi (ev_pos h (ev_pos hx' (Ev.bind t2 (ev_some rfl)))), Ev.bind hs (ev_pos h ?_), Ev.bind hi (ev_pos h (ev_pos hx' (Ev.bind w3 (ev_some rfl)))), Ev.bind hs (ev_pos h (ev_pos hx' (Ev.bind w1 (ev_some rfl)))), Ev.bind hi (ev_pos h (ev_pos hx' (Ev.bind w3 (ev_some rfl)))), rfl, rfl, by simp only; omega, fun _ => ⟨h, t3, p0, p1, q0, q1, b0, b1, b2, b3, fun r r1 r2 => ⟨(t4 r r1 r2).2.1, (t4 r r1 r2).2.2.1, (t4 r r1 r2).2.2.2, b4 r r1 r2⟩⟩⟩
      rw [hx']
      refine Ev.step (fun k => by rw [spec_SearchRatio.j0]) (ev_neg (by simp) (Ev.bind w1 (Ev.bind w2 ?_)))
      refine ev_neg (show ¬ (d = 0) by omega) (ev_some ?_)
      show (wrap64 (Int.tdiv x d), wrap64 (Int.tdiv y d), true) = (p, q, true)
      rw [e1, e2, w64 (x := p) (by omega) (by omega), w64 (x := q) (by omega) (by omega)]
    · have hx' : ¬ decide (0 ≤ x3 ∧ x3 ≤ 9) = true := by simpa using hx
      refine ⟨([], false), (0, 0, false), (0, false), Ev.bind hs (ev_pos h (ev_neg hx' (ev_some rfl))), Ev.bind hi (ev_pos h (ev_neg hx' (ev_some rfl))), Ev.bind hs (ev_pos h ?_), Ev.bind hi (ev_pos h (ev_neg hx' (ev_some rfl))), Ev.bind hs (ev_pos h (ev_neg hx' (ev_some rfl))), Ev.bind hi (ev_pos h (ev_neg hx' (ev_some rfl))), rfl, rfl, by simp, fun z => by cases z⟩
      rw [decide_eq_false hx]
      exact bad
  · exact ⟨([], false), (0, 0, false), (0, false), Ev.bind hs (ev_neg h (ev_some rfl)), Ev.bind hi (ev_neg h (ev_some rfl)), Ev.bind hs (ev_neg h bad), Ev.bind hi (ev_neg h (ev_some rfl)), Ev.bind hs (ev_neg h (ev_some rfl)), Ev.bind hi (ev_neg h (ev_some rfl)), rfl, rfl, by simp, fun z => by cases z⟩
theorem impl_Road_isWalk.ev {n : Int} (g : Bool) (w : List Int) (hr : okRoad n g = true) (hl : w.length ≤ 35184372088832) : Ev (fun k => impl_Road_isWalk.f k n g w) (okWalk n g w) := by
  have hb := okRoad_b hr
  unfold impl_Road_isWalk.f okWalk
  rw [impl_within.at, hr, Bool.true_and]
  simp only [Option.bind_some]
  by_cases h : 1 ≤ (w.length : Int) ∧ (w.length : Int) ≤ 61
  · refine ev_pos (by simpa using h) ?_
    rw [decide_eq_true h, Bool.true_and]
    refine Ev.bind (impl_Road_has.ev g w ⟨hb.1, hb.2.1⟩ hl) ?_
    refine Ev.step (fun k => by rw [impl_Road_isWalk.j0]) ?_
    by_cases ha : (w.all fun x => decide (0 ≤ x ∧ x ≤ n - 1)) = true
    · rw [ha, Bool.true_and]
      refine ev_neg (by simp) ?_
      have main : ∀ (d i : Nat), i + d + 1 = w.length → Ev (fun k => impl_Road_isWalk.l0 k w ((i : Int) + 1) n g) (steps n g (w.drop i)) := by
        intro d
        induction d with
        | zero =>
          intro i e
          refine Ev.step (fun k => by rw [impl_Road_isWalk.l0]) ?_
          refine ev_neg (by omega) (ev_some ?_)
          rw [List.drop_eq_getElem_cons (by omega), List.drop_eq_nil_of_le (by omega)]
          rfl
        | succ d ih =>
          intro i e
          refine Ev.step (fun k => by rw [impl_Road_isWalk.l0]) ?_
          rw [show wrap64 ((i : Int) + 1 - 1) = (i : Int) from by unfold wrap64; omega, show wrap64 ((i : Int) + 1 + 1) = ((i + 1 : Nat) : Int) + 1 from by unfold wrap64; omega]
          refine ev_pos (by omega) ?_
          refine ev_pos (by omega) ?_
          refine ev_pos (by omega) ?_
          refine ev_pos (by omega) ?_
          rw [rd_get (n := i) rfl (by omega), rd_get (n := i + 1) (by omega) (by omega), impl_Road_gap.at g ⟨hb.1, hb.2.1⟩ (in_of_all ha _) (in_of_all ha _)]
          have ih := ih (i + 1) (by omega)
          rw [List.drop_eq_getElem_cons (by omega)] at ih ⊢
          rw [List.drop_eq_getElem_cons (show i + 1 < w.length by omega)]
          unfold steps
          simp only [Option.bind_some]
          by_cases hg : gap n g w[i] w[i + 1] ≤ 1
          · refine ev_neg (by omega) ?_
            rw [decide_eq_true hg, Bool.true_and]
            exact ih
          · refine ev_pos (by omega) (ev_some ?_)
            rw [decide_eq_false hg, Bool.false_and]
      have := main (w.length - 1) 0 (by omega)
      simpa using this
    · rw [Bool.not_eq_true] at ha
      rw [ha, Bool.false_and]
      exact ev_pos (by simp) (ev_some rfl)
  · refine ev_neg (by simpa using h) ?_
    rw [decide_eq_false h]
    refine Ev.step (fun k => by rw [impl_Road_isWalk.j0]) ?_
    exact ev_pos rfl (ev_some rfl)
theorem impl_areWalks.ev_all {n : Int} {g : Bool} (hr : okRoad n g = true) : ∀ (l : List (List Int)), (∀ x ∈ l, x.length ≤ 35184372088832) → Ev (fun k => impl_areWalks.all k n g l) (l.all (okWalk n g))
  | [], _ => ev_some rfl
  | x :: t, h => by
    refine Ev.bind (impl_Road_isWalk.ev g x hr (h x (by simp))) ?_
    rw [List.all_cons]
    by_cases hx : okWalk n g x = true
    · refine ev_pos hx ?_
      rw [hx, Bool.true_and]
      exact impl_areWalks.ev_all hr t (fun y hy => h y (by simp [hy]))
    · refine ev_neg hx (ev_some ?_)
      rw [Bool.not_eq_true] at hx
      rw [hx, Bool.false_and]
theorem impl_areWalks.ev (n : Int) (g : Bool) (l : List (List Int)) (h : ∀ x ∈ l, x.length ≤ 35184372088832) : Ev (fun k => impl_areWalks.f k n g l) (okRoad n g && l.all (okWalk n g)) := by
  unfold impl_areWalks.f
  rw [impl_IsRoad.at]
  simp only [Option.bind_some]
  by_cases hr : okRoad n g = true
  · refine ev_pos hr ?_
    rw [hr, Bool.true_and]
    exact impl_areWalks.ev_all hr l h
  · refine ev_neg hr (ev_some ?_)
    rw [Bool.not_eq_true] at hr
    rw [hr, Bool.false_and]
theorem impl_areWalks.ev1 (n : Int) (g : Bool) (w : List Int) (h : w.length ≤ 35184372088832) : Ev (fun k => impl_areWalks.f k n g [w]) (okWalk n g w) := by
  have := impl_areWalks.ev n g [w] (fun x hx => by simp at hx; subst hx; exact h)
  rw [List.all_cons, List.all_nil, Bool.and_true] at this
  by_cases hw : okWalk n g w = true
  · rw [hw, (okWalk_b hw).1, Bool.true_and] at this
    rw [hw]
    exact this
  · rw [Bool.not_eq_true] at hw
    rw [hw, Bool.and_false] at this
    rw [hw]
    exact this
theorem way_dir {n : Int} (hn : 2 ≤ n ∧ n ≤ 24) {x s : Int} (hs : s = 1 ∨ s = -1) (h0 : 0 ≤ x ∧ x ≤ n - 1) (h1 : 0 ≤ x + s ∧ x + s ≤ n - 1) : impl_Road_way.f n false x (x + s) = some s := by
  unfold impl_Road_way.f
  rw [w64 (x := x + 1) (by omega) (by omega), w64 (x := n - 1) (by omega) (by omega), if_neg (by omega)]
  rcases hs with rfl | rfl
  · simp
  · rw [if_neg (by omega)]
    simp
/-- One unit step: a turn is told where the way turns round. -/
theorem turns_step {n : Int} (hn : 2 ≤ n ∧ n ≤ 24) (w x : List Int) {i : Nat} {c s q : Int} (hs : s = 1 ∨ s = -1) (hw : w.length ≤ 1048576) (hx : x.length ≤ 1048576) (hi : i + 1 < w.length) (h0 : rd w i = q) (h1 : rd w ((i : Int) + 1) = q + s) (q0 : 0 ≤ q ∧ q ≤ n - 1) (q1 : 0 ≤ q + s ∧ q + s ≤ n - 1) (hc : c = 0 ∨ c = s ∨ c = -s) (r : List Int × Bool)
    (h : Ev (fun k => impl_TurnTimes.l0 k w (if c = -s then x ++ [(i : Int)] else x) s (((i + 1 : Nat) : Int) + 1) n false) r) : Ev (fun k => impl_TurnTimes.l0 k w x c ((i : Int) + 1) n false) r := by
  have e1 : wrap64 ((i : Int) + 1 - 1) = (i : Int) := by unfold wrap64; omega
  have e2 : wrap64 ((i : Int) + 1 + 1) = ((i + 1 : Nat) : Int) + 1 := by unfold wrap64; omega
  refine Ev.step (fun k => by rw [impl_TurnTimes.l0]) ?_
  rw [e1, e2, h0, h1, way_dir hn hs q0 q1]
  simp only [Option.bind_some]
  refine ev_pos (by omega) (ev_pos (by omega) (ev_pos (by omega) (ev_pos (by omega) (ev_neg (by omega) ?_))))
  by_cases c0 : c = 0
  · rw [if_neg (by omega)] at h
    exact ev_pos c0 h
  · by_cases c1 : c = s
    · rw [if_neg (by omega)] at h
      exact ev_neg c0 (ev_pos c1.symm h)
    · rw [if_pos (by omega)] at h
      exact ev_neg c0 (ev_neg (by omega) (ev_pos (by omega) h))
theorem turns_on {n : Int} (hn : 2 ≤ n ∧ n ≤ 24) (w x : List Int) {s : Int} (hs : s = 1 ∨ s = -1) (hw : w.length ≤ 1048576) (hx : x.length ≤ 1048576) (r : List Int × Bool) : ∀ (m i : Nat) (q : Int) (rest : List Int), w.drop i = q :: (way s q m ++ rest) → 0 ≤ q → q ≤ n - 1 → (m ≠ 0 → 0 ≤ q + s * m ∧ q + s * m ≤ n - 1) →
    Ev (fun k => impl_TurnTimes.l0 k w x s (((i + m : Nat) : Int) + 1) n false) r → Ev (fun k => impl_TurnTimes.l0 k w x s ((i : Int) + 1) n false) r := by
  intro m
  induction m with
  | zero => intro i q rest _ _ _ _ h; exact h
  | succ m ih =>
    intro i q rest e q0 q1 q2 h
    rw [way, List.cons_append] at e
    have hl := congrArg List.length e
    rw [List.length_drop, List.length_cons, List.length_cons] at hl
    have hi : i + 1 < w.length := by omega
    have e1 := e
    rw [List.drop_eq_getElem_cons (by omega), List.drop_eq_getElem_cons hi] at e1
    have a0 := (List.cons.inj e1).1
    have a1 := (List.cons.inj (List.cons.inj e1).2).1
    have e2 : w.drop (i + 1) = (q + s) :: (way s (q + s) m ++ rest) := by
      rw [List.drop_eq_getElem_cons (by omega)] at e
      exact (List.cons.inj e).2
    have q3 := q2 (by omega)
    have q4 : 0 ≤ q + s ∧ q + s ≤ n - 1 := by rcases hs with rfl | rfl <;> omega
    refine turns_step hn w x hs hw hx hi (by rw [rd_get rfl (by omega)]; exact a0) (by rw [rd_get (n := i + 1) (by omega) hi]; exact a1) ⟨q0, q1⟩ q4 (.inr (.inl rfl)) r ?_
    rw [if_neg (by omega)]
    refine ih (i + 1) (q + s) rest e2 q4.1 q4.2 (fun _ => by rcases hs with rfl | rfl <;> omega) ?_
    rw [show i + 1 + m = i + (m + 1) by omega]
    exact h
theorem rd_of_drop {w : List Int} {i : Nat} {q : Int} {r : List Int} (h : w.drop i = q :: r) : rd w i = q := by
  have hl := congrArg List.length h
  rw [List.length_drop, List.length_cons] at hl
  rw [List.drop_eq_getElem_cons (by omega)] at h
  rw [rd_get rfl (by omega)]
  exact (List.cons.inj h).1
theorem rd_of_drop2 {w : List Int} {i : Nat} {q : Int} {r : List Int} (h : w.drop (i + 1) = q :: r) : rd w ((i : Int) + 1) = q := rd_of_drop (i := i + 1) h
theorem walkF_prefix : ∀ (t w : List Int) (a : Int), ∃ rest, walkF w a t = w ++ rest
  | [], w, a => ⟨[], by simp [walkF]⟩
  | p :: t, w, a => by
    obtain ⟨rest, e⟩ := walkF_prefix t (w ++ leg a p) p
    exact ⟨leg a p ++ rest, by rw [walkF, e, List.append_assoc]⟩
/-- The turns along a search's walk: one less than its legs. -/
theorem turns_walk {n a : Int} (hn : 2 ≤ n ∧ n ≤ 24) (W : List Int) (hW : W.length ≤ 1048576) : ∀ (t : List Int) (pr : Option Bool) (low high at_ c : Int) (pre x : List Int), srch n a pr low high t = true → 0 ≤ low → low ≤ at_ → at_ ≤ high → high ≤ n - 1 → W = walkF (pre ++ [at_]) at_ t → x.length ≤ pre.length →
    (pr = none ∧ c = 0 ∨ ∃ d : Bool, pr = some d ∧ c = if d = true then 1 else -1) →
    ∃ y : List Int, Ev (fun k => impl_TurnTimes.l0 k W x c ((pre.length : Int) + 1) n false) (y, true) ∧ ((t = [] ∨ c ≠ 0) → y.length = x.length + t.length) ∧ (t ≠ [] → c = 0 → y.length + 1 = x.length + t.length)
  | [], pr, low, high, at_, c, pre, x, hs, h0, h1, h2, h3, e, hx, hc => by
    refine ⟨x, Ev.step (fun k => by rw [impl_TurnTimes.l0]) (ev_neg ?_ (ev_some rfl)), fun _ => by simp, fun h => absurd rfl h⟩
    rw [e, walkF, List.length_append, List.length_singleton]
    omega
  | p :: t, pr, low, high, at_, c, pre, x, hs, h0, h1, h2, h3, e, hx, hc => by
    have hpr : pr ≠ some (decide (p > a)) := by
      intro z
      unfold srch at hs
      rw [if_neg (fun y => y.2.2.2.1 z)] at hs
      cases hs
    obtain ⟨p0, p1, p2, p3, hs'⟩ := srch_cons hs
    obtain ⟨rest, er⟩ := walkF_prefix t ((pre ++ [at_]) ++ leg at_ p) p
    have e' : W = pre ++ at_ :: (leg at_ p ++ rest) := by rw [e, walkF, er]; simp
    obtain ⟨s, m, hs1, hm, hsp, hsd⟩ : ∃ (s : Int) (m : Nat), (s = 1 ∨ s = -1) ∧ p = at_ + s * ((m + 1 : Nat) : Int) ∧ leg at_ p = way s at_ (m + 1) ∧ s = if decide (p > a) = true then 1 else -1 := by
      by_cases d : p > a
      · have := p2 d
        refine ⟨1, (p - at_).toNat - 1, .inl rfl, by omega, (leg_eq (.inl ⟨rfl, by omega⟩)).symm, by simp [d]⟩
      · have := p3 d
        refine ⟨-1, (at_ - p).toNat - 1, .inr rfl, by omega, (leg_eq (.inr ⟨rfl, by omega⟩)).symm, by simp [d]⟩
    have hps : 0 ≤ at_ + s ∧ at_ + s ≤ n - 1 := by rcases hs1 with rfl | rfl <;> omega
    have ed : W.drop pre.length = at_ :: (way s at_ (m + 1) ++ rest) := by rw [e', hsp]; simp
    have ed2 : W.drop (pre.length + 1) = (at_ + s) :: (way s (at_ + s) m ++ rest) := by
      rw [← List.drop_drop, ed]
      simp [way]
    have hlen : pre.length + 1 + m < W.length := by
      have := congrArg List.length ed
      simp [way_length] at this
      omega
    have hcs : c = 0 ∨ c = -s := by
      rcases hc with ⟨_, z⟩ | ⟨d, z1, z2⟩
      · exact .inl z
      · refine .inr ?_
        have hd : d ≠ decide (p > a) := fun z => hpr (by rw [z1, z])
        rw [z2, hsd]
        exact (by decide : ∀ d b : Bool, d ≠ b → (if d = true then (1 : Int) else -1) = -(if b = true then 1 else -1)) _ _ hd
    have hpre : (pre ++ way s at_ (m + 1)).length = pre.length + (m + 1) := by simp [way_length]
    obtain ⟨pre', ep⟩ : ∃ pre', (pre ++ [at_]) ++ leg at_ p = pre' ++ [p] ∧ pre'.length = pre.length + (m + 1) := by
      obtain ⟨z, ez⟩ := way_end (s := s) (m + 1) at_ p (by rcases hs1 with rfl | rfl <;> omega)
      have hz := congrArg List.length ez
      rw [List.length_cons, way_length, List.length_append, List.length_singleton] at hz
      refine ⟨pre ++ z, ?_, by rw [List.length_append]; omega⟩
      rw [hsp, List.append_assoc, List.append_assoc, ← ez]
      rfl
    obtain ⟨y, y1, y2, y3⟩ := turns_walk hn W hW t (some (decide (p > a))) _ _ p s pre' (if c = -s then x ++ [(pre.length : Int)] else x) hs' (by split <;> omega) (by split <;> omega) (by split <;> omega) (by split <;> omega) (by rw [e, walkF, ep.1]) (by rw [ep.2]; split <;> (try simp) <;> omega) (.inr ⟨_, rfl, hsd⟩)
    have s0 : s ≠ 0 := by omega
    refine ⟨y, ?_, ?_, ?_⟩
    · refine turns_step hn W x hs1 hW (by omega) (by omega) (rd_of_drop ed) (rd_of_drop2 ed2) (by omega) hps (by omega) _ ?_
      refine turns_on hn W _ hs1 hW (by split <;> (try simp) <;> omega) _ m (pre.length + 1) (at_ + s) rest ed2 hps.1 hps.2 (fun _ => by rcases hs1 with rfl | rfl <;> omega) ?_
      rw [ep.2, show pre.length + (m + 1) = pre.length + 1 + m by omega] at y1
      exact y1
    · intro h
      have := y2 (.inr s0)
      rcases h with h | h
      · cases h
      · rw [if_pos (by omega)] at this
        simp at this ⊢
        omega
    · intro _ h
      have := y2 (.inr s0)
      rw [if_neg (by omega)] at this
      simp at this ⊢
      omega
/-- The walk of a search ends at a place that is new there. -/
theorem cover_walk {n a : Int} : ∀ (t : List Int) (pr : Option Bool) (low high at_ : Int) (w : List Int), srch n a pr low high t = true → low ≤ at_ → at_ ≤ high → 0 ≤ at_ → at_ ≤ n - 1 → (∀ q, ¬ (low ≤ q ∧ q ≤ high) → fst q w 0 < 0) → fst at_ w 0 = (w.length : Int) - 1 →
    ∃ q, 0 ≤ q ∧ q < n ∧ fst q (walkF w at_ t) 0 = ((walkF w at_ t).length : Int) - 1
  | [], pr, low, high, at_, w, _, _, _, h3, h4, _, h6 => ⟨at_, h3, by omega, by rw [walkF]; exact h6⟩
  | p :: t, pr, low, high, at_, w, hs, h1, h2, h3, h4, h5, h6 => by
    obtain ⟨p0, p1, p2, p3, hs'⟩ := srch_cons hs
    have hout : ¬ (low ≤ p ∧ p ≤ high) := by
      by_cases d : p > a
      · have := p2 d; omega
      · have := p3 d; omega
    have hl := leg_length at_ p
    rw [walkF]
    refine cover_walk t _ _ _ p (w ++ leg at_ p) hs' (by split <;> omega) (by split <;> omega) p0 p1 (fun q hq => ?_) ?_
    · have hq' : ¬ (low ≤ q ∧ q ≤ high) ∧ ¬ (at_ < q ∧ q ≤ p ∨ p ≤ q ∧ q < at_) := by
        by_cases d : p > a
        · rw [if_pos d, if_pos d] at hq
          have := p2 d
          omega
        · rw [if_neg d, if_neg d] at hq
          have := p3 d
          omega
      rw [fst_append q w _ 0 (by omega), if_pos (h5 q hq'.1), fst_leg, if_neg hq'.2]
      omega
    · rw [fst_append p w _ 0 (by omega), if_pos (h5 p hout), fst_leg, if_pos (by omega), List.length_append]
      omega
theorem rd_last (pre : List Int) (a : Int) (hl : pre.length ≤ 1000000000) : wrap64 (((pre ++ [a]).length : Int) - 1) = (pre.length : Int) ∧ rd (pre ++ [a]) pre.length = a := by
  refine ⟨by rw [List.length_append, List.length_singleton]; unfold wrap64; omega, ?_⟩
  rw [rd_get rfl (by simp)]
  simp
theorem spec_walk.up (l : List Int) (i : Nat) (hi : i < l.length) (p : Int) (hp : rd l i = p) (hp2 : -100 ≤ p ∧ p ≤ 100) (r : List Int × Bool) : ∀ (d : Nat) (a : Int) (pre : List Int), p = a + d → -100 ≤ a → pre.length + d ≤ 1000000000 →
    Ev (fun k => spec_SearchWalk.l2 k l ((pre ++ [a]) ++ way 1 a d) i) r → Ev (fun k => spec_SearchWalk.l1 k l (pre ++ [a]) i) r := by
  intro d
  induction d with
  | zero =>
    intro a pre e h0 hl hr
    have hh := rd_last pre a (by omega)
    refine Ev.step (fun k => by rw [spec_SearchWalk.l1]) ?_
    rw [hh.1, hh.2, hp]
    refine ev_pos (by omega) (ev_pos (by simp; omega) (ev_pos (by omega) (ev_pos (by omega) (ev_neg (by omega) ?_))))
    simpa [way] using hr
  | succ d ih =>
    intro a pre e h0 hl hr
    have hh := rd_last pre a (by omega)
    refine Ev.step (fun k => by rw [spec_SearchWalk.l1]) ?_
    rw [hh.1, hh.2, hp, w64 (x := a + 1) (by omega) (by omega)]
    refine ev_pos (by omega) (ev_pos (by simp; omega) (ev_pos (by omega) (ev_pos (by omega) (ev_pos (by omega) (ev_pos (by simp; omega) ?_)))))
    refine ih (a + 1) (pre ++ [a]) (by omega) (by omega) (by simp; omega) ?_
    rw [way] at hr
    simpa using hr
theorem spec_walk.down (l : List Int) (i : Nat) (hl : l.length ≤ 1048576) (hi : i < l.length) (p : Int) (hp : rd l i = p) (hp2 : -100 ≤ p ∧ p ≤ 100) (r : List Int × Bool) : ∀ (d : Nat) (a : Int) (pre : List Int), p = a - d → a ≤ 100 → pre.length + d ≤ 1000000000 →
    Ev (fun k => spec_SearchWalk.l0 k l ((pre ++ [a]) ++ way (-1) a d) ((i + 1 : Nat) : Int)) r → Ev (fun k => spec_SearchWalk.l2 k l (pre ++ [a]) i) r := by
  intro d
  induction d with
  | zero =>
    intro a pre e h0 hl hr
    have hh := rd_last pre a (by omega)
    refine Ev.step (fun k => by rw [spec_SearchWalk.l2]) ?_
    rw [hh.1, hh.2, hp, w64 (x := (i : Int) + 1) (by omega) (by omega)]
    refine ev_pos (by omega) (ev_pos (by simp; omega) (ev_pos (by omega) (ev_pos (by omega) (ev_neg (by omega) ?_))))
    simpa [way] using hr
  | succ d ih =>
    intro a pre e h0 hl hr
    have hh := rd_last pre a (by omega)
    refine Ev.step (fun k => by rw [spec_SearchWalk.l2]) ?_
    rw [hh.1, hh.2, hp, w64 (x := a - 1) (by omega) (by omega)]
    refine ev_pos (by omega) (ev_pos (by simp; omega) (ev_pos (by omega) (ev_pos (by omega) (ev_pos (by omega) (ev_pos (by simp; omega) ?_)))))
    have := ih (a - 1) (pre ++ [a]) (by omega) (by omega) (by simp; omega)
    refine this ?_
    rw [way] at hr
    rw [show a + -1 = a - 1 from by omega] at hr
    simpa using hr
theorem walk_all {n : Int} (l : List Int) (hl : l.length ≤ 1048576) (hn : 2 ≤ n ∧ n ≤ 24) (hall : (l.all fun x => decide (0 ≤ x ∧ x ≤ n - 1)) = true) :
    ∀ (d i : Nat) (a : Int) (pre : List Int), i + d = l.length → 0 ≤ a ∧ a ≤ n - 1 → pre.length ≤ 24 * i →
      ∃ w : List Int, w = walkF (pre ++ [a]) a (l.drop i) ∧ Ev (fun k => spec_SearchWalk.l0 k l (pre ++ [a]) i) (if (w.length : Int) > 61 then ([], false) else (w, true)) ∧ Ev (fun k => impl_Road_searchWalk.l0 k (pre ++ [a]) l l.length i n false) w := by
  intro d
  induction d with
  | zero =>
    intro i a pre e ha hpre
    refine ⟨pre ++ [a], by rw [List.drop_eq_nil_of_le (by omega), walkF], Ev.step (fun k => by rw [spec_SearchWalk.l0]) (ev_neg (by omega) ?_), Ev.step (fun k => by rw [impl_Road_searchWalk.l0]) (ev_neg (by omega) (ev_some rfl))⟩
    by_cases c : ((pre ++ [a]).length : Int) > 61
    · exact ev_pos c (ev_some (if_pos c).symm)
    · exact ev_neg c (ev_some (if_neg c).symm)
  | succ d ih =>
    intro i a pre e ha hpre
    have hi : i < l.length := by omega
    have hp := in_of_all hall hi
    have hrd : rd l i = l[i] := rd_get rfl hi
    generalize hp0 : l[i] = p at *
    obtain ⟨s, m, hsm, hway⟩ := straight_ev hn hp ha (pre ++ [a]) (by simp; omega) (by simp) (by simp)
    obtain ⟨pre', e'⟩ := way_end (s := s) m a p hsm
    have e2 : (pre ++ [a]) ++ way s a m = (pre ++ pre') ++ [p] := by
      rw [List.append_assoc, List.append_assoc, ← e']
      rfl
    have e3 : pre'.length = m := by
      have := congrArg List.length e'
      rw [List.length_cons, way_length, List.length_append, List.length_singleton] at this
      omega
    obtain ⟨w, w0, w1, w2⟩ := ih (i + 1) p (pre ++ pre') (by omega) hp (by rw [List.length_append]; omega)
    refine ⟨w, by rw [w0, List.drop_eq_getElem_cons hi, hp0, walkF, ← leg_eq hsm, e2], ?_, ?_⟩
    · refine Ev.step (fun k => by rw [spec_SearchWalk.l0]) (ev_pos (by omega) ?_)
      rcases hsm with ⟨rfl, hm⟩ | ⟨rfl, hm⟩
      · refine spec_walk.up l i hi p hrd (by omega) _ m a pre hm (by omega) (by omega) ?_
        rw [e2]
        have := spec_walk.down l i hl hi p hrd (by omega) (if (w.length : Int) > 61 then ([], false) else (w, true)) 0 p (pre ++ pre') (by omega) (by omega) (by rw [List.length_append]; omega)
        refine this ?_
        simpa [way] using w1
      · have := spec_walk.up l i hi p hrd (by omega) (if (w.length : Int) > 61 then ([], false) else (w, true))
        by_cases m0 : m = 0
        · subst m0
          refine this 0 a pre (by omega) (by omega) (by omega) ?_
          have h2 := spec_walk.down l i hl hi p hrd (by omega) (if (w.length : Int) > 61 then ([], false) else (w, true)) 0 a pre (by omega) (by omega) (by omega)
          rw [way, List.append_nil]
          refine h2 ?_
          rw [e2]
          exact w1
        · have hh := rd_last pre a (by omega)
          refine Ev.step (fun k => by rw [spec_SearchWalk.l1]) ?_
          rw [hh.1, hh.2, hrd]
          refine ev_pos (by omega) (ev_pos (by simp; omega) (ev_pos (by omega) (ev_pos (by omega) (ev_neg (by omega) ?_))))
          refine spec_walk.down l i hl hi p hrd (by omega) _ m a pre hm (by omega) (by omega) ?_
          rw [e2]
          exact w1
    · refine Ev.step (fun k => by rw [impl_Road_searchWalk.l0]) (ev_pos (by omega) (ev_pos (by omega) (ev_pos (by omega) ?_)))
      rw [hrd, w64 (x := (i : Int) + 1) (by omega) (by omega)]
      refine Ev.bind hway ?_
      rw [e2]
      exact w2
theorem slices_Contains_int_int.ev (l : List Int) (p : Int) (hl : l.length ≤ 35184372088832) : Ev (fun k => slices_Contains_int_int.f k l p) (decide (p ∈ l)) := by
  unfold slices_Contains_int_int.f
  refine Ev.bind (slices_Index_int_int.ev l p hl) (ev_some ?_)
  rcases fst_cases p l 0 with e | ⟨e, _⟩
  · rw [decide_eq_false (by rw [e]; omega), decide_eq_false ((fst_none (Int.le_refl 0)).1 e)]
  · rw [decide_eq_true (by omega)]
    symm
    rw [decide_eq_true_eq]
    exact Decidable.byContradiction fun h => by have := (fst_none (i := 0) (Int.le_refl 0)).2 h; omega
theorem slices_Max_int_int.ev (x : Int) (t : List Int) (hl : t.length ≤ 35184372088831) : Ev (fun k => slices_Max_int_int.f k (x :: t)) (t.foldl max x) := by
  have main : ∀ (d i : Nat) (m : Int), i + d = t.length → Ev (fun k => slices_Max_int_int.l0 k (x :: t) m ((i : Int) + 1)) ((t.drop i).foldl max m) := by
    intro d
    induction d with
    | zero =>
      intro i m e
      refine Ev.step (fun k => by rw [slices_Max_int_int.l0]) ?_
      refine ev_neg (by simp only [List.length_cons]; omega) (ev_some ?_)
      rw [List.drop_eq_nil_of_le (by omega)]
      rfl
    | succ d ih =>
      intro i m e
      refine Ev.step (fun k => by rw [slices_Max_int_int.l0]) ?_
      refine ev_pos (by simp only [List.length_cons]; omega) (ev_pos (by omega) ?_)
      rw [show wrap64 ((i : Int) + 1 + 1) = ((i + 1 : Nat) : Int) + 1 from by unfold wrap64; omega, rd_get (n := i + 1) (by omega) (by simp only [List.length_cons]; omega), mx_eq, List.drop_eq_getElem_cons (by omega)]
      exact ih (i + 1) _ (by omega)
  unfold slices_Max_int_int.f
  refine ev_neg (by simp only [List.length_cons]; omega) (ev_pos (by simp only [List.length_cons]; omega) ?_)
  exact main t.length 0 x (by omega)
theorem impl_GapOf.ev (n : Int) (g : Bool) (a b : Int) : Ev (fun k => impl_GapOf.f k n g a b) (if okRoad n g && decide (0 ≤ a ∧ a ≤ n - 1) && decide (0 ≤ b ∧ b ≤ n - 1) then (gap n g a b, true) else (0, false)) := by
  unfold impl_GapOf.f
  rw [impl_IsRoad.at]
  simp only [Option.bind_some]
  by_cases h : okRoad n g = true
  · have hb := okRoad_b h
    refine ev_pos h ?_
    refine Ev.bind (impl_Road_has.ev g [a, b] ⟨hb.1, hb.2.1⟩ (by simp)) ?_
    rw [h]
    simp only [List.all_cons, List.all_nil, Bool.and_true, Bool.true_and]
    by_cases h1 : 0 ≤ a ∧ a ≤ n - 1
    · by_cases h2 : 0 ≤ b ∧ b ≤ n - 1
      · rw [decide_eq_true h1, decide_eq_true h2]
        refine ev_pos rfl ?_
        rw [impl_Road_gap.at g ⟨hb.1, hb.2.1⟩ h1 h2]
        exact ev_some rfl
      · rw [decide_eq_false h2, Bool.and_false]
        exact ev_neg (by simp) (ev_some rfl)
    · rw [decide_eq_false h1, Bool.false_and]
      exact ev_neg (by simp) (ev_some rfl)
  · refine ev_neg h (ev_some ?_)
    rw [Bool.not_eq_true] at h
    rw [h]
    rfl
theorem steps_app {n : Int} {g : Bool} (a : Int) (y : List Int) (hy : steps n g (a :: y) = true) : ∀ (w : List Int), steps n g (w ++ [a]) = true → steps n g (w ++ a :: y) = true
  | [], _ => by simpa using hy
  | [x], h => by
    simp only [List.cons_append, List.nil_append, steps, Bool.and_eq_true, Bool.and_true] at h ⊢
    exact ⟨h, hy⟩
  | x :: z :: t, h => by
    have e1 : x :: z :: t ++ [a] = x :: z :: (t ++ [a]) := rfl
    have e2 : x :: z :: t ++ a :: y = x :: z :: (t ++ a :: y) := rfl
    rw [e1, steps, Bool.and_eq_true] at h
    rw [e2, steps, Bool.and_eq_true]
    exact ⟨h.1, steps_app a y hy (z :: t) h.2⟩
theorem steps_way {n s : Int} (hs : s = 1 ∨ s = -1) : ∀ (m : Nat) (a : Int), steps n false (a :: way s a m) = true
  | 0, a => rfl
  | m + 1, a => by
    rw [way, steps, Bool.and_eq_true, decide_eq_true_eq]
    refine ⟨?_, steps_way hs m (a + s)⟩
    unfold gap
    rw [if_neg (by simp)]
    omega
theorem way_in {n s : Int} (hs : s = 1 ∨ s = -1) : ∀ (m : Nat) (a tgt : Int), (s = 1 ∧ tgt = a + m ∨ s = -1 ∧ tgt = a - m) → 0 ≤ a ∧ a ≤ n - 1 → 0 ≤ tgt ∧ tgt ≤ n - 1 → ∀ x ∈ way s a m, 0 ≤ x ∧ x ≤ n - 1
  | 0, a, tgt, _, _, _, x, hx => by simp [way] at hx
  | m + 1, a, tgt, h, ha, ht, x, hx => by
    rw [way, List.mem_cons] at hx
    rcases hx with rfl | hx
    · omega
    · exact way_in hs m (a + s) tgt (by omega) (by omega) ht x hx
theorem leg_way (a p : Int) : ∃ (s : Int) (m : Nat), (s = 1 ∨ s = -1) ∧ (s = 1 ∧ p = a + m ∨ s = -1 ∧ p = a - m) ∧ leg a p = way s a m := by
  by_cases c : p < a
  · exact ⟨-1, (a - p).toNat, .inr rfl, by omega, (leg_eq (by omega)).symm⟩
  · exact ⟨1, (p - a).toNat, .inl rfl, by omega, (leg_eq (by omega)).symm⟩
/-- A search's whole walk stays on the line, and goes from neighbor to neighbor. -/
theorem walkF_ok {n : Int} : ∀ (t pre : List Int) (a : Int), (∀ x ∈ t, 0 ≤ x ∧ x ≤ n - 1) → (∀ x ∈ pre ++ [a], 0 ≤ x ∧ x ≤ n - 1) → steps n false (pre ++ [a]) = true → (∀ x ∈ walkF (pre ++ [a]) a t, 0 ≤ x ∧ x ≤ n - 1) ∧ steps n false (walkF (pre ++ [a]) a t) = true
  | [], pre, a, _, h1, h2 => ⟨h1, h2⟩
  | p :: t, pre, a, h0, h1, h2 => by
    obtain ⟨s, m, hs, hm, e⟩ := leg_way a p
    have hp := h0 p (by simp)
    have ha := h1 a (by simp)
    obtain ⟨q, eq⟩ := way_end (s := s) m a p hm
    have e2 : (pre ++ [a]) ++ leg a p = (pre ++ q) ++ [p] := by
      rw [e, List.append_assoc, List.append_assoc, ← eq]
      rfl
    rw [walkF, e2]
    refine walkF_ok t (pre ++ q) p (fun x hx => h0 x (by simp [hx])) (fun x hx => ?_) ?_
    · rw [← e2, List.mem_append] at hx
      rcases hx with hx | hx
      · exact h1 x hx
      · rw [e] at hx
        exact way_in hs m a p hm ha hp x hx
    · rw [← e2, e, List.append_assoc]
      exact steps_app a _ (steps_way hs m a) pre h2
theorem foldl_max_le {b : Int} : ∀ (t : List Int) (x : Int), x ≤ b → (∀ y ∈ t, y ≤ b) → t.foldl max x ≤ b
  | [], x, h, _ => h
  | y :: t, x, h, h2 => foldl_max_le t _ (Int.max_le.2 ⟨h, h2 y (by simp)⟩) fun z hz => h2 z (by simp [hz])
theorem foldl_max_ge : ∀ (t : List Int) (x : Int), x ≤ t.foldl max x ∧ ∀ y ∈ t, y ≤ t.foldl max x
  | [], x => ⟨Int.le_refl _, by simp⟩
  | y :: t, x => by
    have h := foldl_max_ge t (max x y)
    refine ⟨Int.le_trans (by omega) h.1, fun z hz => ?_⟩
    rcases List.mem_cons.1 hz with rfl | hz
    · exact Int.le_trans (by omega) h.1
    · exact h.2 z hz
theorem impl_SearchWalk.evw {n a : Int} {l : List Int} (hl : l.length ≤ 1048576) (h : okSearch n false a l = true) : ∃ w, w = walkF [a] a l ∧ Ev (fun k => spec_SearchWalk.f k n false a l) (if (w.length : Int) > 61 then ([], false) else (w, true)) ∧ Ev (fun k => impl_SearchWalk.f k n false a l) (if (w.length : Int) > 61 then ([], false) else (w, true)) := by
  have h' := h
  simp only [okSearch, Bool.and_eq_true] at h'
  have hb := okStart_b h'.1
  obtain ⟨w, w0, w1, w2⟩ := walk_all (n := n) l hl ⟨hb.2.2.1, hb.2.2.2.1⟩ (srch_all h'.2) l.length 0 a [] (by omega) hb.2.2.2.2 (by simp)
  refine ⟨w, w0, ?_, ?_⟩
  · unfold spec_SearchWalk.f
    exact Ev.bind (spec_l3Good.ev n false a l (by omega)) (ev_pos h w1)
  · unfold impl_SearchWalk.f
    refine Ev.bind (impl_isSought.ev n false a l (by omega)) (ev_pos h (Ev.bind (a := w) ?_ ?_))
    · unfold impl_Road_searchWalk.f
      exact w2
    · by_cases c : (w.length : Int) > 61
      · exact ev_pos c (ev_some (if_pos c).symm)
      · exact ev_neg c (ev_some (if_neg c).symm)
/-- What the law asks of a search's walk: first visits, cover time and turns. -/
theorem walk_facts {n a : Int} {l : List Int} (hl : l.length ≤ 1000) (h : okSearch n false a l = true) {W : List Int} (e : W = walkF [a] a l) (hW : (W.length : Int) ≤ 61) :
    ∃ (V B : List Int), Ev (fun k => impl_FirstVisits.f k n false W) (V, true) ∧ Ev (fun k => impl_SearchTimes.f k n false a l 0) (V, true) ∧ V.length ≤ 1048576 ∧ Ev (fun k => impl_CoverTime.f k n false W) ((W.length : Int) - 1, true) ∧ Ev (fun k => impl_TurnTimes.f k n false W) (B, true) ∧ (B.length : Int) = (l.length : Int) - 1 := by
  have h' := h
  simp only [okSearch, Bool.and_eq_true] at h'
  have hb := okStart_b h'.1
  have hall := srch_all h'.2
  have hw := walkF_ok (n := n) l [] a (fun x hx => by simpa using (List.all_eq_true.1 hall x hx)) (fun x hx => by simp at hx; omega) rfl
  rw [List.nil_append, ← e] at hw
  have hpos : 1 ≤ W.length := by
    obtain ⟨rest, er⟩ := walkF_prefix l [a] a
    rw [e, er, List.length_append, List.length_singleton]
    omega
  have hok : okWalk n false W = true := by
    unfold okWalk
    rw [hb.1, hw.2, decide_eq_true (by omega), List.all_eq_true.2 (fun x hx => decide_eq_true (hw.1 x hx))]
    rfl
  have hn : (0 : Int) ≤ n ∧ n ≤ 24 := by omega
  have hv := impl_Road_firstVisits.ev (n := n) false W hn (by omega)
  have hvl := visits_length n W
  obtain ⟨T, t1, t2, t3, t4, t5⟩ := times_eva (x3 := 0) (by omega) h (by omega)
  have hT : T = visits n W := by
    refine rd_ext (by omega) fun q q0 q1 => ?_
    rw [t5 rfl q q0 (by omega), ← e, rd_get (n := q.toNat) (by omega) (by omega)]
    simp only [visits, List.getElem_map, List.getElem_range']
    rw [show ((0 + 1 * q.toNat : Nat) : Int) = q by omega]
  have hge : ∀ x ∈ visits n W, 0 ≤ x ∧ x ≤ (W.length : Int) - 1 := by
    intro x hx
    obtain ⟨i, hi, rfl⟩ := List.getElem_of_mem hx
    have e1 : rd T (i : Int) = (visits n W)[i] := by rw [hT]; exact rd_get rfl hi
    have e2 := (t4 i (by omega) (by omega)).2.2.1
    have e3 := t5 rfl (i : Int) (by omega) (by omega)
    rw [← e] at e3
    rcases fst_cases (i : Int) W 0 with z | z <;> omega
  refine ⟨visits n W, ?_⟩
  obtain ⟨q, q0, q1, q2⟩ := cover_walk (n := n) (a := a) l none a a a [a] h'.2 (by omega) (by omega) (by omega) (by omega) (fun q hq => by rw [fst, if_neg (by omega)]; simp [fst]) (by simp [fst])
  rw [← e] at q2
  have hlast : (W.length : Int) - 1 ∈ visits n W := by
    rw [← q2]
    unfold visits
    exact List.mem_map.2 ⟨q.toNat, by simp [List.mem_range']; omega, by rw [show ((q.toNat : Nat) : Int) = q by omega]⟩
  have hne : l ≠ [] := by
    rintro rfl
    have := srch_nil h'.2
    omega
  obtain ⟨y, y1, _, y3⟩ := turns_walk (n := n) (a := a) ⟨hb.2.2.1, hb.2.2.2.1⟩ W (by omega) l none a a a 0 [] [] h'.2 (by omega) (by omega) (by omega) (by omega) (by rw [e]; rfl) (by simp) (.inl ⟨rfl, rfl⟩)
  have y4 := y3 hne rfl
  refine ⟨y, ?_, ?_, by omega, ?_, ?_, ?_⟩
  · unfold impl_FirstVisits.f
    exact Ev.bind (impl_areWalks.ev1 n false W (by omega)) (ev_pos hok (Ev.bind hv (ev_some rfl)))
  · unfold impl_SearchTimes.f
    rw [impl_isExtra.at, ← hT]
    simp only [Option.bind_some]
    exact Ev.bind (impl_isSought.ev n false a l (by omega)) (ev_pos h (ev_pos (by simp) (Ev.bind t2 (ev_some rfl))))
  · unfold impl_CoverTime.f
    refine Ev.bind (impl_areWalks.ev1 n false W (by omega)) (ev_pos hok (Ev.bind hv ?_))
    refine Ev.bind (slices_Contains_int_int.ev (visits n W) (-1) (by omega)) (ev_neg ?_ ?_)
    · have : (-1 : Int) ∉ visits n W := fun z => by have := hge _ z; omega
      simpa using this
    · generalize visits n W = v at *
      cases v with
      | nil => simp at hvl; omega
      | cons x t =>
        refine Ev.bind (slices_Max_int_int.ev x t (by simp at hvl; omega)) (ev_some ?_)
        have b0 := foldl_max_le (b := (W.length : Int) - 1) t x (hge x (by simp)).2 (fun z hz => (hge z (by simp [hz])).2)
        have b1 := foldl_max_ge t x
        have b2 : (W.length : Int) - 1 ≤ t.foldl max x := by
          rcases List.mem_cons.1 hlast with z | z
          · rw [z]; exact b1.1
          · exact b1.2 _ z
        rw [show t.foldl max x = (W.length : Int) - 1 by omega]
  · unfold impl_TurnTimes.f
    exact Ev.bind (impl_areWalks.ev1 n false W (by omega)) (ev_pos hok y1)
  · simp at y4
    omega
/-- The second half of FnSearches: the calls on the drawn walk. -/
theorem partB (n : Int) (g : Bool) (a : Int) (l : List Int) (hl : l.length ≤ 1000) : ∃ (W : List Int × Bool) (M : Int × Bool),
    Ev (fun k => spec_SearchWalk.f k n g a l) W ∧ Ev (fun k => impl_SearchWalk.f k n g a l) W ∧ Ev (fun k => spec_TurnCount.f k n g a l) M ∧ Ev (fun k => impl_TurnCount.f k n g a l) M ∧ W.1.length ≤ 1048576 ∧
    (W.2 = true → M.2 = true ∧ ∃ (V B : List Int), Ev (fun k => impl_FirstVisits.f k n g W.1) (V, true) ∧ Ev (fun k => impl_SearchTimes.f k n g a l 0) (V, true) ∧ V.length ≤ 1048576 ∧ Ev (fun k => impl_CoverTime.f k n g W.1) (wrap64 ((W.1.length : Int) - 1), true) ∧ Ev (fun k => impl_TurnTimes.f k n g W.1) (B, true) ∧ (B.length : Int) = M.1) := by
  have hs := spec_l3Good.ev n g a l (by omega)
  have hi := impl_isSought.ev n g a l (by omega)
  by_cases h : okSearch n g a l = true
  · have h' := h
    simp only [okSearch, Bool.and_eq_true] at h'
    have hg : g = false := (okStart_b h'.1).2.1
    subst hg
    obtain ⟨w, w0, w1, w2⟩ := impl_SearchWalk.evw (by omega) h
    refine ⟨_, ((l.length : Int) - 1, true), w1, w2, ?_, ?_, ?_, fun hc => ⟨rfl, ?_⟩⟩
    · unfold spec_TurnCount.f
      refine Ev.bind hs (ev_pos h (ev_some ?_))
      rw [w64 (by omega) (by omega)]
    · unfold impl_TurnCount.f
      refine Ev.bind hi (ev_pos h (ev_some ?_))
      rw [w64 (by omega) (by omega)]
    · by_cases c : (w.length : Int) > 61
      · rw [if_pos c]; simp
      · rw [if_neg c]; simp only; omega
    · by_cases c : (w.length : Int) > 61
      · rw [if_pos c] at hc
        cases hc
      · rw [if_neg c]
        obtain ⟨V, B, f1, f2, f3, f4, f5, f6⟩ := walk_facts hl h w0 (by omega)
        refine ⟨V, B, f1, f2, f3, ?_, f5, f6⟩
        simp only
        rw [w64 (x := (w.length : Int) - 1) (by omega) (by omega)]
        exact f4
  · refine ⟨([], false), (0, false), ?_, ?_, ?_, ?_, by simp, fun z => by cases z⟩
    · unfold spec_SearchWalk.f
      exact Ev.bind hs (ev_neg h (ev_some rfl))
    · unfold impl_SearchWalk.f
      exact Ev.bind hi (ev_neg h (ev_some rfl))
    · unfold spec_TurnCount.f
      exact Ev.bind hs (ev_neg h (ev_some rfl))
    · unfold impl_TurnCount.f
      exact Ev.bind hi (ev_neg h (ev_some rfl))
theorem bits_255 (x : Int) : 0 ≤ Go.bits .and .u64 x 255 ∧ Go.bits .and .u64 x 255 ≤ 255 := by
  have h : (BitVec.ofInt 64 x &&& BitVec.ofInt 64 255).toNat ≤ 255 := by
    rw [BitVec.toNat_and]
    exact Nat.le_trans Nat.and_le_right (by decide)
  have e : ∀ m : Nat, m ≤ 255 → 0 ≤ IntKind.u64.wrap (m : Int) ∧ IntKind.u64.wrap (m : Int) ≤ 255 := by
    intro m hm
    have e1 : IntKind.u64.wrap (m : Int) = (m : Int) % 18446744073709551616 := rfl
    rw [e1]
    omega
  exact e _ h
/-- The next byte of a draw: one place on, 0 to 255. -/
theorem next_tot (l : List Int) (hl8 : ∀ x ∈ l, 0 ≤ x ∧ x ≤ 255) (p s : Int) (h : 0 ≤ p ∧ p ≤ 1000000000) : ∃ v s', spec_l1Cur_next.f l p s = some (v, p + 1, s') ∧ 0 ≤ v ∧ v ≤ 255 := by
  unfold spec_l1Cur_next.f
  rw [w64 (x := p + 1) (by omega) (by omega)]
  have hb : ∀ x : Int, 0 ≤ wrap64 (Go.bits .and .u64 x 255) ∧ wrap64 (Go.bits .and .u64 x 255) ≤ 255 := by
    intro x
    have := bits_255 x
    rw [w64 (by omega) (by omega)]
    exact this
  by_cases c : p < (l.length : Int)
  · have hr : 0 ≤ rd l p ∧ rd l p ≤ 255 := by
      rw [rd_get (n := p.toNat) (by omega) (by omega)]
      exact hl8 _ (List.getElem_mem _)
    rw [if_pos c, if_pos h.1]
    by_cases c2 : p + 1 ≤ (l.length : Int)
    · rw [if_pos c2]
      exact ⟨_, _, rfl, by rw [w64 (by omega) (by omega)]; exact hr⟩
    · rw [if_neg c2]
      exact ⟨_, _, rfl, hb _⟩
  · rw [if_neg c]
    by_cases c2 : p + 1 ≤ (l.length : Int)
    · rw [if_pos c2]
      exact ⟨_, _, rfl, by omega⟩
    · rw [if_neg c2]
      exact ⟨_, _, rfl, hb _⟩
theorem pick_tot (l : List Int) (hl8 : ∀ x ∈ l, 0 ≤ x ∧ x ≤ 255) (p s n : Int) (h : 0 ≤ p ∧ p ≤ 900000000) : ∃ v p' s', spec_l1Cur_pick.f l p s n = some (v, p', s') ∧ 0 ≤ v ∧ (1 ≤ n → v < n) ∧ (n < 1 → v = 0) ∧ 0 ≤ p' ∧ p' ≤ p + 2 := by
  unfold spec_l1Cur_pick.f
  by_cases c : n ≤ 1
  · rw [if_pos c]
    exact ⟨_, _, _, rfl, by omega, by omega, fun _ => rfl, by omega, by omega⟩
  · rw [if_neg c]
    obtain ⟨v, s1, e1, v1, v2⟩ := next_tot l hl8 p s (by omega)
    rw [e1]
    simp only [Option.bind_some]
    by_cases c2 : n > 200
    · rw [if_pos c2]
      obtain ⟨u, s2, e2, u1, u2⟩ := next_tot l hl8 (p + 1) s1 (by omega)
      rw [e2]
      simp only [Option.bind_some]
      rw [if_neg (by omega), w64 (x := v * 256) (by omega) (by omega), w64 (x := v * 256 + u) (by omega) (by omega), Int.tmod_eq_emod_of_nonneg (by omega)]
      exact ⟨_, _, _, rfl, Int.emod_nonneg _ (by omega), fun _ => Int.emod_lt_of_pos _ (by omega), by omega, by omega, by omega⟩
    · rw [if_neg c2, if_neg (by omega), Int.tmod_eq_emod_of_nonneg v1]
      exact ⟨_, _, _, rfl, Int.emod_nonneg _ (by omega), fun _ => Int.emod_lt_of_pos _ (by omega), by omega, by omega, by omega⟩
theorem one_tot (l : List Int) (hl8 : ∀ x ∈ l, 0 ≤ x ∧ x ≤ 255) (p s n : Int) (h : 0 ≤ p ∧ p ≤ 900000000) : ∃ b p' s', spec_l1Cur_one.f l p s n = some (b, p', s') ∧ 0 ≤ p' ∧ p' ≤ p + 2 := by
  unfold spec_l1Cur_one.f
  obtain ⟨v, p', s', e, _, _, _, h1, h2⟩ := pick_tot l hl8 p s n h
  rw [e]
  exact ⟨_, _, _, rfl, h1, h2⟩
theorem among_tot (l : List Int) (hl8 : ∀ x ∈ l, 0 ≤ x ∧ x ≤ 255) (p s : Int) (xs : List Int) (hx : 1 ≤ xs.length ∧ xs.length ≤ 1000) (h : 0 ≤ p ∧ p ≤ 900000000) : ∃ v p' s', spec_l1Cur_among.f l p s xs = some (v, p', s') ∧ v ∈ xs ∧ 0 ≤ p' ∧ p' ≤ p + 2 := by
  unfold spec_l1Cur_among.f
  obtain ⟨v, p', s', e, v0, v1, _, h1, h2⟩ := pick_tot l hl8 p s xs.length h
  have := v1 (by omega)
  rw [e]
  simp only [Option.bind_some]
  rw [if_pos v0, if_pos this, rd_get (n := v.toNat) (by omega) (by omega)]
  exact ⟨_, _, _, rfl, List.getElem_mem _, h1, h2⟩
theorem size_tot (l : List Int) (hl8 : ∀ x ∈ l, 0 ≤ x ∧ x ≤ 255) (p s : Int) (h : 0 ≤ p ∧ p ≤ 800000000) : ∃ v p' s', spec_l1Cur_size.f l p s = some (v, p', s') ∧ (-1 ≤ v ∧ v ≤ 4611686018427387904) ∧ 0 ≤ p' ∧ p' ≤ p + 4 := by
  unfold spec_l1Cur_size.f
  obtain ⟨b, p1, s1, e, h1, h2⟩ := one_tot l hl8 p s 40 (by omega)
  rw [e]
  simp only [Option.bind_some]
  cases b with
  | true =>
    rw [if_pos rfl]
    obtain ⟨v, p2, s2, e2, hv, h3, h4⟩ := among_tot l hl8 p1 s1 [1, 2, 24, 25, 0, (-1), 4611686018427387904] (by simp) (by omega)
    rw [e2]
    refine ⟨_, _, _, rfl, ?_, h3, by simp only; omega⟩
    simp at hv
    rcases hv with rfl | rfl | rfl | rfl | rfl | rfl | rfl <;> simp
  | false =>
    rw [if_neg (by simp)]
    obtain ⟨v, p2, s2, e2, hv, h3, h4⟩ := among_tot l hl8 p1 s1 [5, 6, 4, 8, 3, 10, 7, 13, 24, 2] (by simp) (by omega)
    rw [e2]
    refine ⟨_, _, _, rfl, ?_, h3, by simp only; omega⟩
    simp at hv
    rcases hv with rfl | rfl | rfl | rfl | rfl | rfl | rfl | rfl | rfl | rfl <;> simp
theorem road_tot (l : List Int) (hl8 : ∀ x ∈ l, 0 ≤ x ∧ x ≤ 255) (p s : Int) (h : 0 ≤ p ∧ p ≤ 700000000) : ∃ n g p' s', spec_l1Cur_road.f l p s = some (n, g, p', s') ∧ (-1 ≤ n ∧ n ≤ 4611686018427387904) ∧ 0 ≤ p' ∧ p' ≤ p + 8 := by
  unfold spec_l1Cur_road.f
  obtain ⟨b, p1, s1, e, h1, h2⟩ := one_tot l hl8 p s 2 (by omega)
  rw [e]
  simp only [Option.bind_some]
  obtain ⟨v, p2, s2, e2, hv, h3, h4⟩ := size_tot l hl8 p1 s1 (by omega)
  cases b with
  | true =>
    rw [if_pos rfl]
    unfold spec_l1Cur_line.f
    rw [e2]
    exact ⟨_, _, _, _, rfl, hv, h3, by simp only; omega⟩
  | false =>
    rw [if_neg (by simp)]
    unfold spec_l1Cur_ring.f
    rw [e2]
    simp only [Option.bind_some]
    by_cases c : v = 2
    · rw [if_pos c]
      obtain ⟨b2, p3, s3, e3, h5, h6⟩ := one_tot l hl8 p2 s2 4 (by omega)
      rw [e3]
      cases b2 with
      | true => exact ⟨_, _, _, _, rfl, hv, h5, by simp only; omega⟩
      | false => exact ⟨_, _, _, _, rfl, by omega, h5, by simp only; omega⟩
    · rw [if_neg c]
      exact ⟨_, _, _, _, rfl, hv, h3, by simp only; omega⟩
theorem placeOn_tot (l : List Int) (hl8 : ∀ x ∈ l, 0 ≤ x ∧ x ≤ 255) (p s n : Int) (g : Bool) (hn : -1 ≤ n ∧ n ≤ 4611686018427387904) (h : 0 ≤ p ∧ p ≤ 700000000) : ∃ a p' s', spec_l1Cur_placeOn.f l p s n g = some (a, p', s') ∧ (-2 ≤ a ∧ a ≤ 4611686018427387904) ∧ 0 ≤ p' ∧ p' ≤ p + 4 := by
  unfold spec_l1Cur_placeOn.f
  obtain ⟨b, p1, s1, e, h1, h2⟩ := one_tot l hl8 p s 30 (by omega)
  rw [e]
  simp only [Option.bind_some]
  cases b with
  | true =>
    rw [if_pos rfl]
    rw [w64 (x := n - 1) (by omega) (by omega)]
    obtain ⟨v, p2, s2, e2, hv, h3, h4⟩ := among_tot l hl8 p1 s1 [(-1), 0, n, n - 1, 4611686018427387904] (by simp) (by omega)
    rw [e2]
    refine ⟨_, _, _, rfl, ?_, h3, by simp only; omega⟩
    simp at hv
    simp only
    omega
  | false =>
    rw [if_neg (by simp), spec_l1Least.at]
    simp only [Option.bind_some]
    rw [spec_l1Most.at]
    simp only [Option.bind_some]
    obtain ⟨v, p2, s2, e2, v0, v1, v2, h3, h4⟩ := pick_tot l hl8 p1 s1 (max (min n 24) 1) (by omega)
    have := v1 (by omega)
    rw [e2]
    exact ⟨_, _, _, rfl, by simp only; omega, h3, by simp only; omega⟩
theorem straight3_tot (a : Int) (l : List Int) (hl : l.length ≤ 100000) : ∃ r, Ev (fun k => spec_l3Straight.f k a l) r ∧ r.length ≤ l.length := by
  have main : ∀ (d i : Nat) (x : List Int), i + d = l.length → x.length ≤ i → ∃ r, Ev (fun k => spec_l3Straight.l0 k a l x i) r ∧ r.length ≤ l.length := by
    intro d
    induction d with
    | zero =>
      intro i x e hx
      exact ⟨x, Ev.step (fun k => by rw [spec_l3Straight.l0]) (ev_neg (by omega) (ev_some rfl)), by omega⟩
    | succ d ih =>
      intro i x e hx
      have e1 : wrap64 ((i : Int) + 1) = ((i + 1 : Nat) : Int) := by unfold wrap64; omega
      obtain ⟨r1, h1, g1⟩ := ih (i + 1) (x ++ [rd l i]) (by omega) (by simp; omega)
      obtain ⟨r2, h2, g2⟩ := ih (i + 1) x (by omega) (by omega)
      by_cases c : (((i + 1 : Nat) : Int)) = (l.length : Int)
      · refine ⟨r1, Ev.step (fun k => by rw [spec_l3Straight.l0]) ?_, g1⟩
        rw [e1]
        exact ev_pos (by omega) (ev_pos c (ev_pos (by omega) (ev_pos (by omega) h1)))
      · by_cases c2 : (decide (rd l i > a) != decide (rd l ((i + 1 : Nat) : Int) > a)) = true
        · refine ⟨r1, Ev.step (fun k => by rw [spec_l3Straight.l0]) ?_, g1⟩
          rw [e1]
          exact ev_pos (by omega) (ev_neg c (ev_pos (by omega) (ev_pos (by omega) (ev_pos (by omega) (ev_pos c2 (ev_pos (by omega) h1))))))
        · refine ⟨r2, Ev.step (fun k => by rw [spec_l3Straight.l0]) ?_, g2⟩
          rw [e1]
          exact ev_pos (by omega) (ev_neg c (ev_pos (by omega) (ev_pos (by omega) (ev_pos (by omega) (ev_neg c2 h2)))))
  unfold spec_l3Straight.f
  exact main l.length 0 [] (by omega) (by simp)
theorem turns3_loop (l : List Int) (hl8 : ∀ x ∈ l, 0 ≤ x ∧ x ≤ 255) {n a : Int} (hn : 2 ≤ n ∧ n ≤ 24) : ∀ (d : Nat) (low high : Int) (right : Bool) (out : List Int) (p s : Int), 0 ≤ low → high ≤ n - 1 → low ≤ 24 → 0 ≤ high →
    2 * (low + (n - 1 - high)) + (if right = true then (if high < n - 1 then 0 else 1) else (if low > 0 then 0 else 1)) ≤ d → out.length + d ≤ 1000 → 0 ≤ p → p + 4 * (d : Int) ≤ 600000000 →
    ∃ r p' s', Ev (fun k => spec_l1Cur_turns3.l0 k a low high right out l p s n false) (r, p', s') ∧ r.length ≤ out.length + d + 1 ∧ 0 ≤ p' ∧ p' ≤ p + 4 * d + 20 := by
  intro d
  induction d with
  | zero =>
    intro low high right out p s h0 h1 h2 h3 hm ho hp hp2
    exfalso
    cases right <;> simp at hm <;> omega
  | succ d ih =>
    intro low high right out p s h0 h1 h2 h3 hm ho hp hp2
    have en : wrap64 (n - 1) = n - 1 := w64 (by omega) (by omega)
    have ol : out.length < 17592186044416 := by omega
    by_cases c : low > 0 ∨ high < n - 1
    · -- one turn more
      have enter : ∀ r, Ev (fun k => spec_l1Cur_turns3.j1 k a low high right out true l p s n false) r → Ev (fun k => spec_l1Cur_turns3.l0 k a low high right out l p s n false) r := by
        intro r hr
        refine Ev.step (fun k => by rw [spec_l1Cur_turns3.l0]) ?_
        by_cases c1 : low > 0
        · exact ev_pos c1 hr
        · refine ev_neg c1 ?_
          rw [en, decide_eq_true (show high < n - 1 by omega)]
          exact hr
      have on3 : ∀ (hi : Int) (o : List Int) (q t : Int) r, Ev (fun k => spec_l1Cur_turns3.l0 k a low hi false o l q t n false) r → Ev (fun k => spec_l1Cur_turns3.j3 k a low hi true o l q t n false) r := by
        intro hi o q t r hr
        refine Ev.step (fun k => by rw [spec_l1Cur_turns3.j3]) (ev_pos rfl (Ev.step (fun k => by rw [spec_l1Cur_turns3.j4]) (ev_neg (by decide) ?_)))
        exact hr
      cases right with
      | true =>
        rw [if_pos rfl] at hm
        by_cases c2 : high < n - 1
        · rw [if_pos c2] at hm
          obtain ⟨v, p1, s1, e1, v0, v1, _, p2, p3⟩ := pick_tot l hl8 p s 5 (by omega)
          have v2 := v1 (by omega)
          have w1 : wrap64 (high + 1) = high + 1 := w64 (by omega) (by omega)
          have w2 : wrap64 (high + 1 + v) = high + 1 + v := w64 (by omega) (by omega)
          obtain ⟨r, p', s', h, g1, g2, g3⟩ := ih low (min (n - 1) (high + 1 + v)) false (out ++ [min (n - 1) (high + 1 + v)]) p1 s1 h0 (by omega) h2 (by omega) (by rw [if_neg (by decide)]; split <;> omega) (by rw [List.length_append, List.length_singleton]; omega) p2 (by omega)
          rw [List.length_append, List.length_singleton] at g1
          refine ⟨r, p', s', enter _ (Ev.step (fun k => by rw [spec_l1Cur_turns3.j1]) (ev_pos rfl (ev_pos rfl (Ev.step (fun k => by rw [spec_l1Cur_turns3.j2]) ?_)))), by omega, g2, by omega⟩
          rw [en, decide_eq_true c2]
          refine ev_pos rfl ?_
          rw [e1]
          simp only [Option.bind_some]
          rw [w1, w2, spec_l1Least.at]
          simp only [Option.bind_some]
          exact ev_pos ol (on3 _ _ _ _ _ h)
        · rw [if_neg c2] at hm
          obtain ⟨r, p', s', h, g1, g2, g3⟩ := ih low high false out p s h0 h1 h2 h3 (by rw [if_neg (by decide), if_pos (by omega)]; omega) (by omega) hp (by omega)
          refine ⟨r, p', s', enter _ (Ev.step (fun k => by rw [spec_l1Cur_turns3.j1]) (ev_pos rfl (ev_pos rfl (Ev.step (fun k => by rw [spec_l1Cur_turns3.j2]) ?_)))), by omega, g2, by omega⟩
          rw [en, decide_eq_false c2]
          exact ev_neg (by decide) (on3 _ _ _ _ _ h)
      | false =>
        rw [if_neg (by decide)] at hm
        by_cases c2 : low > 0
        · rw [if_pos c2] at hm
          obtain ⟨v, p1, s1, e1, v0, v1, _, p2, p3⟩ := pick_tot l hl8 p s 5 (by omega)
          have v2 := v1 (by omega)
          have w1 : wrap64 (low - 1) = low - 1 := w64 (by omega) (by omega)
          have w2 : wrap64 (low - 1 - v) = low - 1 - v := w64 (by omega) (by omega)
          obtain ⟨r, p', s', h, g1, g2, g3⟩ := ih (max 0 (low - 1 - v)) high true (out ++ [max 0 (low - 1 - v)]) p1 s1 (by omega) h1 (by omega) h3 (by rw [if_pos rfl]; split <;> omega) (by rw [List.length_append, List.length_singleton]; omega) p2 (by omega)
          rw [List.length_append, List.length_singleton] at g1
          refine ⟨r, p', s', enter _ (Ev.step (fun k => by rw [spec_l1Cur_turns3.j1]) (ev_pos rfl (ev_neg (by decide) (Ev.step (fun k => by rw [spec_l1Cur_turns3.j2]) (ev_neg (by decide) (Ev.step (fun k => by rw [spec_l1Cur_turns3.j3]) (ev_neg (by decide) (Ev.step (fun k => by rw [spec_l1Cur_turns3.j4]) ?_)))))))), by omega, g2, by omega⟩
          rw [decide_eq_true c2]
          refine ev_pos rfl ?_
          rw [e1]
          simp only [Option.bind_some]
          rw [w1, w2, spec_l1Most.at]
          simp only [Option.bind_some]
          exact ev_pos ol h
        · rw [if_neg c2] at hm
          obtain ⟨r, p', s', h, g1, g2, g3⟩ := ih low high true out p s h0 h1 h2 h3 (by rw [if_pos rfl, if_pos (by omega)]; omega) (by omega) hp (by omega)
          refine ⟨r, p', s', enter _ (Ev.step (fun k => by rw [spec_l1Cur_turns3.j1]) (ev_pos rfl (ev_neg (by decide) (Ev.step (fun k => by rw [spec_l1Cur_turns3.j2]) (ev_neg (by decide) (Ev.step (fun k => by rw [spec_l1Cur_turns3.j3]) (ev_neg (by decide) (Ev.step (fun k => by rw [spec_l1Cur_turns3.j4]) ?_)))))))), by omega, g2, by omega⟩
          rw [decide_eq_false c2]
          exact ev_neg (by decide) h
    · obtain ⟨b, p1, s1, e1, p2, p3⟩ := one_tot l hl8 p s 24 (by omega)
      have enter : ∀ r, Ev (fun k => if b = true then ((spec_l1Cur_among.f l p1 s1 [(-1), a, 0, 24]).bind fun bt336 => (if out.length < 17592186044416 then (some ((out ++ [bt336.1]), bt336.2.1, bt336.2.2)) else (none))) else ((spec_l3Straight.f k a out).bind fun t342 => (some (t342, p1, s1)))) r → Ev (fun k => spec_l1Cur_turns3.l0 k a low high right out l p s n false) r := by
        intro r hr
        refine Ev.step (fun k => by rw [spec_l1Cur_turns3.l0]) (ev_neg (by omega) ?_)
        rw [en, decide_eq_false (show ¬ (high < n - 1) by omega)]
        refine Ev.step (fun k => by rw [spec_l1Cur_turns3.j1]) (ev_neg (by decide) ?_)
        rw [e1]
        simp only [Option.bind_some]
        exact hr
      cases b with
      | true =>
        obtain ⟨v, p4, s4, e4, _, p5, p6⟩ := among_tot l hl8 p1 s1 [(-1), a, 0, 24] (by simp) (by omega)
        refine ⟨out ++ [v], p4, s4, enter _ (ev_pos rfl ?_), by rw [List.length_append, List.length_singleton]; omega, p5, by omega⟩
        rw [e4]
        exact ev_pos ol (ev_some rfl)
      | false =>
        obtain ⟨r, h, g⟩ := straight3_tot a out (by omega)
        exact ⟨r, p1, s1, enter _ (ev_neg (by decide) (Ev.bind h (ev_some rfl))), by omega, p2, by omega⟩
theorem turns3_tot (l : List Int) (hl8 : ∀ x ∈ l, 0 ≤ x ∧ x ≤ 255) (p s n : Int) (g : Bool) (a : Int) (h : 0 ≤ p ∧ p ≤ 100000) : ∃ r p' s', Ev (fun k => spec_l1Cur_turns3.f k l p s n g a) (r, p', s') ∧ r.length ≤ 200 ∧ 0 ≤ p' ∧ p' ≤ p + 1000 := by
  unfold spec_l1Cur_turns3.f
  rw [spec_l3Line.at]
  simp only [Option.bind_some]
  by_cases c : okStart n g a = true
  · obtain ⟨_, rfl, h2, h3, h4, h5⟩ := okStart_b c
    obtain ⟨b, p1, s1, e1, p2, p3⟩ := one_tot l hl8 p s 2 (by omega)
    obtain ⟨r, p', s', h6, g1, g2, g3⟩ := turns3_loop l hl8 (a := a) ⟨h2, h3⟩ 100 a a b [] p1 s1 (by omega) (by omega) (by omega) (by omega) (by split <;> split <;> omega) (by simp) p2 (by omega)
    refine ⟨r, p', s', ev_pos c ?_, by simp at g1; omega, g2, by omega⟩
    rw [e1]
    simp only [Option.bind_some]
    exact h6
  · exact ⟨[0, 1], p, s, ev_neg c (ev_some rfl), by simp, h.1, by omega⟩
theorem linePlace_tot (l : List Int) (hl8 : ∀ x ∈ l, 0 ≤ x ∧ x ≤ 255) (p s : Int) (h : 0 ≤ p ∧ p ≤ 100000) : ∃ n g a p' s', spec_l1Cur_linePlace.f l p s = some (n, g, a, p', s') ∧ (-1 ≤ n ∧ n ≤ 4611686018427387904) ∧ (-2 ≤ a ∧ a ≤ 4611686018427387904) ∧ 0 ≤ p' ∧ p' ≤ p + 100 := by
  unfold spec_l1Cur_linePlace.f spec_l1Cur_line.f
  obtain ⟨v, p1, s1, e1, v1, p2, p3⟩ := size_tot l hl8 p s (by omega)
  rw [e1]
  simp only [Option.bind_some]
  obtain ⟨b, p4, s4, e4, p5, p6⟩ := one_tot l hl8 p1 s1 24 (by omega)
  rw [e4]
  simp only [Option.bind_some]
  cases b with
  | true =>
    rw [if_pos rfl]
    obtain ⟨n, g, p7, s7, e7, n1, p8, p9⟩ := road_tot l hl8 p4 s4 (by omega)
    rw [e7]
    simp only [Option.bind_some]
    obtain ⟨a, q1, t1, e8, a1, q2, q3⟩ := placeOn_tot l hl8 p7 s7 n g n1 (by omega)
    rw [e8]
    exact ⟨n, g, a, q1, t1, rfl, n1, a1, q2, by omega⟩
  | false =>
    rw [if_neg (by decide)]
    obtain ⟨a, q1, t1, e8, a1, q2, q3⟩ := placeOn_tot l hl8 p4 s4 v false v1 (by omega)
    rw [e8]
    exact ⟨v, false, a, q1, t1, rfl, v1, a1, q2, by omega⟩
theorem drawIsSearch_tot (l : List Int) (hl8 : ∀ x ∈ l, 0 ≤ x ∧ x ≤ 255) : ∃ n g a t, Ev (fun k => spec_DrawIsSearch.f k l) (n, g, a, t) ∧ t.length ≤ 200 := by
  unfold spec_DrawIsSearch.f spec_DrawIsSearch.inn
  obtain ⟨n, g, a, p1, s1, e1, _, _, p2, p3⟩ := linePlace_tot l hl8 0 0 (by omega)
  obtain ⟨t, p4, s4, e4, t1, _, _⟩ := turns3_tot l hl8 p1 s1 n g a (by omega)
  refine ⟨n, g, a, t, ?_, t1⟩
  rw [e1]
  simp only [Option.bind_some]
  exact Ev.bind (a := (n, g, a, t, p4, s4)) (Ev.bind e4 (ev_some rfl)) (ev_some rfl)
theorem drawSearchWalk_tot (l : List Int) (hl8 : ∀ x ∈ l, 0 ≤ x ∧ x ≤ 255) : ∃ n g a t, Ev (fun k => spec_DrawSearchWalk.f k l) (n, g, a, t) ∧ t.length ≤ 200 := by
  obtain ⟨n, g, a, t, h, e⟩ := drawIsSearch_tot l hl8
  unfold spec_DrawSearchWalk.f
  exact ⟨n, g, a, t, Ev.bind h (ev_some rfl), e⟩
theorem extra_list (m : Int) (h : 0 ≤ m ∧ m < 24) : 0 ≤ wrap64 (5 + wrap64 (Int.tdiv m 11)) ∧ wrap64 (5 + wrap64 (Int.tdiv m 11)) ≤ 7 ∧ 5 ≤ wrap64 (5 + wrap64 (Int.tdiv m 11)) := by
  rw [Int.tdiv_eq_ediv_of_nonneg h.1]
  have h1 : 0 ≤ m / 11 ∧ m / 11 ≤ 2 := by omega
  rw [w64 (x := m / 11) (by omega) (by omega), w64 (by omega) (by omega)]
  omega
theorem drawSearchTimes_tot (l : List Int) (hl8 : ∀ x ∈ l, 0 ≤ x ∧ x ≤ 255) : ∃ n g a t x, Ev (fun k => spec_DrawSearchTimes.f k l) (n, g, a, t, x) ∧ t.length ≤ 200 := by
  unfold spec_DrawSearchTimes.f spec_DrawSearchTimes.inn
  obtain ⟨n, g, a, p1, s1, e1, _, _, p2, p3⟩ := linePlace_tot l hl8 0 0 (by omega)
  obtain ⟨t, p4, s4, e4, t1, p5, p6⟩ := turns3_tot l hl8 p1 s1 n g a (by omega)
  obtain ⟨v, p7, s7, e7, v0, v1, _, p8, p9⟩ := pick_tot l hl8 p4 s4 24 (by omega)
  have hx := extra_list v ⟨v0, v1 (by omega)⟩
  obtain ⟨x, q1, u1, e8, _, _, _⟩ := among_tot l hl8 p7 s7 (([0, 0, 1, 2, 9, 10, (-1)] : List Int).take (wrap64 (5 + wrap64 (Int.tdiv v 11))).toNat) (by rw [List.length_take]; simp; omega) (by omega)
  refine ⟨n, g, a, t, x, ?_, t1⟩
  rw [e1]
  simp only [Option.bind_some]
  refine Ev.bind (a := (n, g, a, t, x, q1, u1)) (Ev.bind e4 ?_) (ev_some rfl)
  rw [e7]
  simp only [Option.bind_some]
  refine ev_pos hx.1 (ev_pos (by simp; omega) ?_)
  rw [e8]
  exact ev_some rfl
theorem vInts_self (l : List Int) (hl : l.length ≤ 1048576) : Ev (fun k => laws_vInts.f k l l) true := by
  have main : ∀ (d i : Nat), i + d = l.length → Ev (fun k => laws_vInts.l0 k l l i) true := by
    intro d
    induction d with
    | zero => exact fun i e => Ev.step (fun k => by rw [laws_vInts.l0]) (ev_neg (by omega) (ev_some rfl))
    | succ d ih =>
      intro i e
      refine Ev.step (fun k => by rw [laws_vInts.l0]) (ev_pos (by omega) (ev_pos (by omega) (ev_pos (by omega) (ev_pos rfl ?_))))
      rw [show wrap64 ((i : Int) + 1) = ((i + 1 : Nat) : Int) from by unfold wrap64; omega]
      exact ih (i + 1) (by omega)
  unfold laws_vInts.f
  exact ev_pos rfl (main l.length 0 (by omega))
theorem vCut_tot (l : List Int) (hl8 : ∀ x ∈ l, 0 ≤ x ∧ x ≤ 255) (hl : l.length ≤ 65536) (m : Int) (hm : 0 ≤ m ∧ m ≤ 2) : ∃ r, laws_vCut.f l m = some r ∧ ∀ x ∈ r, 0 ≤ x ∧ x ≤ 255 := by
  unfold laws_vCut.f
  by_cases c : m > (l.length : Int)
  · rw [if_pos c]
    simp only [Option.bind_some]
    rw [if_pos (by omega), if_pos (by omega), if_pos (by simp), if_pos (by simp)]
    refine ⟨_, rfl, fun x hx => ?_⟩
    simp at hx
    omega
  · rw [if_neg c]
    simp only [Option.bind_some, List.nil_append]
    have hd : (l.drop m.toNat).length ≤ 65536 := by rw [List.length_drop]; omega
    rw [if_pos (by omega), if_pos (by omega), if_pos (by simp only [List.length_nil]; omega), if_pos (by omega)]
    refine ⟨_, rfl, fun x hx => ?_⟩
    rcases List.mem_append.1 hx with hx | hx
    · exact hl8 x (List.mem_of_mem_drop hx)
    · simp at hx
      omega
theorem isSearch_pair (n : Int) (g : Bool) (a : Int) (l : List Int) (hl : l.length ≤ 1048576) : Ev (fun k => spec_IsSearch.f k n g a l) (okSearch n g a l, okStart n g a) ∧ Ev (fun k => impl_IsSearch.f k n g a l) (okSearch n g a l, okStart n g a) := by
  unfold spec_IsSearch.f impl_IsSearch.f okSearch
  have hs := impl_isStart.ev n g a
  rw [spec_l3Line.at]
  simp only [Option.bind_some]
  by_cases h : okStart n g a = true
  · obtain ⟨_, _, h2, h3, h4, h5⟩ := okStart_b h
    rw [h] at hs ⊢
    rw [Bool.true_and]
    exact ⟨ev_pos rfl (Ev.bind (spec_l3Search.ev g l ⟨h2, h3⟩ ⟨h4, h5⟩ (by omega)) (ev_some rfl)), Ev.bind hs (ev_pos rfl (Ev.bind (impl_Road_isSearch.ev g l ⟨h2, h3⟩ ⟨h4, h5⟩ (by omega)) (ev_some rfl)))⟩
  · rw [Bool.not_eq_true] at h
    rw [h] at hs ⊢
    exact ⟨ev_neg (by decide) (ev_some rfl), Ev.bind hs (ev_neg (by decide) (ev_some rfl))⟩
theorem w64_mul {p q : Int} (hp : 0 ≤ p) (hp1 : p ≤ 100000000) (hq : 0 ≤ q) (hq1 : q ≤ 24) : wrap64 (p * q) = p * q := by
  have h1 := Int.mul_nonneg hp hq
  have h2 := Int.mul_le_mul hp1 hq1 hq (by omega)
  exact w64 (by omega) (by omega)
theorem places_loop {n a b p q : Int} {T : List Int} (hn : 2 ≤ n ∧ n ≤ 24) (ha : 0 ≤ a ∧ a ≤ n - 1) (hT : (T.length : Int) = n) (hp : 0 < p ∧ p ≤ 100000000) (hq : 0 < q ∧ q ≤ 24) (hb : b ≠ a) (hbq : rd T b * q = p * max (a - b) (b - a))
    (hr : ∀ r, 0 ≤ r → r < n → rd T r ≤ 100000000 ∧ max (r - a) (a - r) ≤ rd T r ∧ (r = a → rd T r = 0) ∧ (r ≠ a → rd T r * q ≤ p * max (a - r) (r - a))) :
    ∀ (d i : Nat), i + d = n.toNat → Ev (fun k => laws_FnSearches.l0 k a T b i n false p q) true := by
  intro d
  induction d with
  | zero =>
    intro i e
    exact Ev.step (fun k => by rw [laws_FnSearches.l0]) (ev_neg (by omega) (ev_some (by simpa using hb)))
  | succ d ih =>
    intro i e
    obtain ⟨r0, r1, r2, r3⟩ := hr i (by omega) (by omega)
    have hnx := ih (i + 1) (by omega)
    rw [show (((i + 1 : Nat) : Int)) = wrap64 ((i : Int) + 1) from by unfold wrap64; omega] at hnx
    have hok : okRoad n false = true := by simp [okRoad]; omega
    have hg := impl_GapOf.ev n false a i
    rw [hok, decide_eq_true (show 0 ≤ a ∧ a ≤ n - 1 from ha), decide_eq_true (show 0 ≤ (i : Int) ∧ (i : Int) ≤ n - 1 by omega), gap_line] at hg
    simp only [Bool.and_self, if_true] at hg
    have m1 : wrap64 (rd T i * q) = rd T i * q := w64_mul (by omega) (by omega) (by omega) (by omega)
    have m2 : wrap64 (p * max (a - (i : Int)) ((i : Int) - a)) = p * max (a - (i : Int)) ((i : Int) - a) := w64_mul (by omega) (by omega) (by omega) (by omega)
    refine Ev.step (fun k => by rw [laws_FnSearches.l0]) (ev_pos (by omega) (Ev.bind hg ?_))
    refine ev_pos rfl ?_
    refine ev_pos (by omega) ?_
    refine ev_pos (by omega) ?_
    refine ev_neg (by simp only [Int.not_lt]; omega) ?_
    by_cases c : (i : Int) = a
    · exact ev_pos c (ev_pos (r2 c) (ev_neg (by omega) hnx))
    · refine ev_neg c (ev_neg ?_ ?_)
      · simp only
        rw [m1, m2]
        have := r3 c
        omega
      · by_cases c2 : (i : Int) = b
        · refine ev_pos c2 (ev_pos ?_ hnx)
          simp only
          rw [m1, m2, c2]
          exact hbq
        · exact ev_neg c2 hnx
theorem FnSearches (l : List Int) (hl : l.length ≤ maxLen) (hl2 : l.length * 1 ≤ 140737488351232) (hw : ∀ x ∈ l, (Lit.int .u8 x).wf = true) : ∃ k, laws_FnSearches.f k l = some true := by
  have hl8 : ∀ x ∈ l, 0 ≤ x ∧ x ≤ 255 := by
    intro x hx
    have h2 : IntKind.u8.min ≤ x ∧ x ≤ IntKind.u8.max := by simpa [Lit.wf] using hw x hx
    rw [show IntKind.u8.min = 0 from rfl, show IntKind.u8.max = 255 from rfl] at h2
    exact h2
  refine Ev.rounds (r := true) ?_
  unfold laws_FnSearches.f laws_vBig.f
  simp only [Option.bind_some]
  by_cases hb : (l.length : Int) > 65536
  · exact ev_pos (by simpa using hb) (ev_some rfl)
  refine ev_neg (by simpa using hb) ?_
  obtain ⟨n, g, a, t, x, hD, ht⟩ := drawSearchTimes_tot l hl8
  obtain ⟨T, R, W, t1, t2, r1, r2, w1, w2, e1, e2, hT, hfull⟩ := partA n g a t x (by omega)
  obtain ⟨i1, i2⟩ := isSearch_pair n g a t (by omega)
  obtain ⟨y, ey, hy8⟩ := vCut_tot l hl8 (by omega) 1 (by omega)
  obtain ⟨m, f, b, u, hE, hu⟩ := drawSearchWalk_tot y hy8
  obtain ⟨X, M, x1, x2, m1, m2, hX, hwalk⟩ := partB m f b u (by omega)
  have ne : ∀ z : Bool, ¬ ((z != z) = true) := by decide
  refine Ev.bind hD (Ev.bind t2 (Ev.bind t1 (Ev.bind r2 (Ev.bind r1 (Ev.bind w2 (Ev.bind w1 (Ev.bind i2 (Ev.bind i1 (Ev.bind (ev_const ey) (Ev.bind hE (Ev.bind x2 (Ev.bind x1 (Ev.bind m2 (Ev.bind m1 ?_))))))))))))))
  refine ev_neg (ne _) (Ev.bind (vInts_self T.1 hT) (ev_pos rfl (ev_pos rfl (ev_pos rfl (ev_neg (ne _) (ev_pos rfl (ev_neg (ne _) (ev_neg (ne _) (ev_neg (ne _) (ev_neg (ne _) (Ev.bind (vInts_self X.1 hX) (ev_pos rfl (ev_pos rfl (ev_neg (ne _) (ev_neg ?_ (ev_neg ?_ ?_))))))))))))))))
  · rw [e1]; exact ne _
  · rw [e2]; exact ne _
  have fin : T.2 = true → Ev (fun k => laws_FnSearches.l0 k a T.1 W.1 0 n g R.1 R.2.1) true := by
    intro h
    obtain ⟨h0, h1, h2, h3, h4, h5, h6, h7, h8, h9, h10⟩ := hfull h
    have h' := h0
    simp only [okSearch, Bool.and_eq_true] at h'
    obtain ⟨_, rfl, k2, k3, k4, k5⟩ := okStart_b h'.1
    exact places_loop ⟨k2, k3⟩ ⟨k4, k5⟩ h1 ⟨h2, h3⟩ ⟨h4, h5⟩ h6 h9 (fun r r0 r1 => h10 r r0 r1) n.toNat 0 (by omega)
  by_cases c : T.2 = true
  · refine ev_pos c (ev_pos (hfull c).1 ?_)
    have fin2 : Ev (fun k => laws_FnSearches.j0 k a T.1 T.2 W.1 n g R.1 R.2.1) true := Ev.step (fun k => by rw [laws_FnSearches.j0]) (ev_pos c (fin c))
    by_cases d : X.2 = true
    · obtain ⟨q0, V, B, q1, q2, q3, q4, q5, q6⟩ := hwalk d
      exact ev_pos d (Ev.bind q1 (Ev.bind q2 (Ev.bind q4 (Ev.bind q5 (ev_pos rfl (ev_pos rfl (ev_pos rfl (ev_pos rfl (ev_pos q0 (Ev.bind (vInts_self V q3) (ev_pos rfl (ev_pos rfl (ev_pos q6 fin2)))))))))))))
    · exact ev_neg d fin2
  · refine ev_neg c ?_
    have fin2 : Ev (fun k => laws_FnSearches.j2 k a T.1 T.2 W.1 n g R.1 R.2.1) true := Ev.step (fun k => by rw [laws_FnSearches.j2]) (ev_neg c (ev_some rfl))
    by_cases d : X.2 = true
    · obtain ⟨q0, V, B, q1, q2, q3, q4, q5, q6⟩ := hwalk d
      exact ev_pos d (Ev.bind q1 (Ev.bind q2 (Ev.bind q4 (Ev.bind q5 (ev_pos rfl (ev_pos rfl (ev_pos rfl (ev_pos rfl (ev_pos q0 (Ev.bind (vInts_self V q3) (ev_pos rfl (ev_pos rfl (ev_pos q6 fin2)))))))))))))
    · exact ev_neg d fin2

end Go.Proofs.Ytogflbocmiogpaa.Pure
