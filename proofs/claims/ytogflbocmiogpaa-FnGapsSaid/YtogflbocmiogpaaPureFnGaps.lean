/- The plain side of the law FnGaps: the printed law, whatever its input (within the form's bounds), comes to true. No other condition. -/
import Derived.Test.YtogflbocmiogpaaPFnGapsx6
import Derived.Test.YtogflbocmiogpaaBase
import Derived.Test.YtogflbocmiogpaaMath
namespace Go.Proofs.Ytogflbocmiogpaa.Pure
open Go.RowKit Go.Proofs.Ytogflbocmiogpaa.PFnGaps Go.Proofs.YtogflbocmiogpaaW.PrintWords Go.Proofs.YtogflbocmiogpaaW.PrintLast Go.Proofs.YtogflbocmiogpaaW.PrintMore Go.Proofs.Ytogflbocmiogpaa.Base Go.Proofs.Ytogflbocmiogpaa.M
set_option linter.unusedVariables false
set_option linter.unusedSimpArgs false

theorem spec_l1In.at (a b c : Int) : spec_l1In.f a b c = some (decide (b ≤ a ∧ a ≤ c)) := by
  unfold spec_l1In.f
  by_cases h : a ≥ b
  · rw [if_pos h]
    simp [show b ≤ a from h]
  · rw [if_neg h]
    simp [show ¬ b ≤ a from h]
theorem impl_within.at (a b c : Int) : impl_within.f a b c = some (decide (b ≤ a ∧ a ≤ c)) := by
  unfold impl_within.f
  by_cases h : a ≥ b
  · rw [if_pos h]
    simp [show b ≤ a from h]
  · rw [if_neg h]
    simp [show ¬ b ≤ a from h]
theorem spec_l2Road.at (n : Int) (g : Bool) : spec_l2Road.f n g = some (okRoad n g) := by
  unfold spec_l2Road.f okRoad
  rw [spec_l1In.at]
  simp only [Option.bind_some]
  by_cases h : 2 ≤ n ∧ n ≤ 24
  · rw [if_pos (by simpa using h)]
    cases g with
    | false => simp [h]
    | true =>
      simp only [if_true, h, true_and, Option.some.injEq]
      exact decide_eq_decide.2 (by simp; omega)
  · rw [if_neg (by simpa using h)]
    simp only [Option.some.injEq]
    exact (decide_eq_false (fun h' => h ⟨h'.1, h'.2.1⟩)).symm
theorem impl_IsRoad.at (n : Int) (g : Bool) : impl_IsRoad.f n g = some (okRoad n g) := by
  unfold impl_IsRoad.f okRoad
  rw [impl_within.at]
  simp only [Option.bind_some]
  by_cases h : 2 ≤ n ∧ n ≤ 24
  · rw [if_pos (by simpa using h)]
    cases g with
    | false => simp [h]
    | true =>
      simp only [if_true, h, true_and, Option.some.injEq]
      exact decide_eq_decide.2 (by simp)
  · rw [if_neg (by simpa using h)]
    simp only [Option.some.injEq]
    exact (decide_eq_false (fun h' => h ⟨h'.1, h'.2.1⟩)).symm
theorem spec_l2Place.at (n : Int) (g : Bool) (p : Int) : spec_l2Place.f n g p = some (okRoad n g && decide (0 ≤ p ∧ p ≤ n - 1)) := by
  unfold spec_l2Place.f
  rw [spec_l2Road.at]
  simp only [Option.bind_some]
  by_cases h : okRoad n g = true
  · have hb := okRoad_b h
    rw [if_pos h, w64 (x := n - 1) (by omega) (by omega), spec_l1In.at, h]
    rfl
  · rw [if_neg h]
    rw [Bool.not_eq_true] at h
    rw [h]
    rfl
theorem spec_l1Most.at (a b : Int) : spec_l1Most.f a b = some (max a b) := by
  unfold spec_l1Most.f
  by_cases h : a > b
  · rw [if_pos h, Int.max_eq_left (by omega)]
  · rw [if_neg h, Int.max_eq_right (by omega)]
theorem spec_l1Least.at (a b : Int) : spec_l1Least.f a b = some (min a b) := by
  unfold spec_l1Least.f
  by_cases h : a < b
  · rw [if_pos h, Int.min_eq_left (by omega)]
  · rw [if_neg h, Int.min_eq_right (by omega)]
theorem spec_l2Gap.at {n : Int} (g : Bool) {a b : Int} (hn : 2 ≤ n ∧ n ≤ 24) (ha : 0 ≤ a ∧ a ≤ n - 1) (hb : 0 ≤ b ∧ b ≤ n - 1) : spec_l2Gap.f n g a b = some (gap n g a b) := by
  unfold spec_l2Gap.f gap
  rw [w64 (x := a - b) (by omega) (by omega), w64 (x := b - a) (by omega) (by omega), spec_l1Most.at]
  simp only [Option.bind_some]
  cases g with
  | false => simp
  | true => rw [if_pos rfl, if_pos rfl, w64 (by omega) (by omega), spec_l1Least.at]; rfl
theorem impl_Road_gap.at {n : Int} (g : Bool) {a b : Int} (hn : 2 ≤ n ∧ n ≤ 24) (ha : 0 ≤ a ∧ a ≤ n - 1) (hb : 0 ≤ b ∧ b ≤ n - 1) : impl_Road_gap.f n g a b = some (gap n g a b) := by
  unfold impl_Road_gap.f gap
  rw [w64 (x := a - b) (by omega) (by omega), w64 (x := b - a) (by omega) (by omega)]
  simp only [mx_eq, mn_eq]
  cases g with
  | false => simp
  | true => rw [if_pos rfl, if_pos rfl, w64 (by omega) (by omega)]
theorem impl_allWithin.ev (l : List Int) (lo hi : Int) (hl : l.length ≤ 35184372088832) : Ev (fun k => impl_allWithin.f k l lo hi) (l.all fun x => decide (lo ≤ x ∧ x ≤ hi)) := by
  have main : ∀ (d i : Nat), i + d = l.length → Ev (fun k => impl_allWithin.l0 k lo hi l l.length i) ((l.drop i).all fun x => decide (lo ≤ x ∧ x ≤ hi)) := by
    intro d
    induction d with
    | zero =>
      intro i e
      refine Ev.step (fun k => by rw [impl_allWithin.l0]) ?_
      refine ev_neg (by omega) (ev_some ?_)
      rw [List.drop_eq_nil_of_le (by omega)]
      rfl
    | succ d ih =>
      intro i e
      refine Ev.step (fun k => by rw [impl_allWithin.l0]) ?_
      refine ev_pos (by omega) ?_
      refine ev_pos (by omega) ?_
      refine ev_pos (by omega) ?_
      rw [w64 (x := (i : Int) + 1) (by omega) (by omega), rd_get rfl (by omega), List.drop_eq_getElem_cons (by omega), List.all_cons, impl_within.at]
      simp only [Option.bind_some]
      by_cases h : lo ≤ l[i] ∧ l[i] ≤ hi
      · refine ev_pos (by simpa using h) ?_
        rw [decide_eq_true h, Bool.true_and]
        exact ih (i + 1) (by omega)
      · refine ev_neg (by simpa using h) (ev_some ?_)
        rw [decide_eq_false h, Bool.false_and]
  unfold impl_allWithin.f
  exact main l.length 0 (by omega)
theorem impl_Road_has.ev {n : Int} (g : Bool) (l : List Int) (hn : 2 ≤ n ∧ n ≤ 24) (hl : l.length ≤ 35184372088832) : Ev (fun k => impl_Road_has.f k n g l) (l.all fun x => decide (0 ≤ x ∧ x ≤ n - 1)) := by
  unfold impl_Road_has.f
  rw [w64 (x := n - 1) (by omega) (by omega)]
  exact Ev.bind (impl_allWithin.ev l 0 (n - 1) hl) (ev_some rfl)
theorem spec_GapOf.at (n : Int) (g : Bool) (a b : Int) : spec_GapOf.f n g a b = some (if okRoad n g && decide (0 ≤ a ∧ a ≤ n - 1) && decide (0 ≤ b ∧ b ≤ n - 1) then (gap n g a b, true) else (0, false)) := by
  unfold spec_GapOf.f
  rw [spec_l2Place.at, spec_l2Place.at]
  simp only [Option.bind_some]
  by_cases h : okRoad n g = true
  · have hb := okRoad_b h
    rw [h, Bool.true_and, Bool.true_and]
    by_cases h1 : 0 ≤ a ∧ a ≤ n - 1
    · rw [decide_eq_true h1, if_pos rfl, Bool.true_and]
      by_cases h2 : 0 ≤ b ∧ b ≤ n - 1
      · rw [decide_eq_true h2, if_pos rfl, if_pos rfl, spec_l2Gap.at g ⟨hb.1, hb.2.1⟩ h1 h2]
        rfl
      · rw [decide_eq_false h2]
        rfl
    · rw [decide_eq_false h1]
      rfl
  · rw [Bool.not_eq_true] at h
    rw [h]
    rfl
theorem impl_GapOf.ev (n : Int) (g : Bool) (a b : Int) : Ev (fun k => impl_GapOf.f k n g a b) (if okRoad n g && decide (0 ≤ a ∧ a ≤ n - 1) && decide (0 ≤ b ∧ b ≤ n - 1) then (gap n g a b, true) else (0, false)) := by
  unfold impl_GapOf.f
  rw [impl_IsRoad.at]
  simp only [Option.bind_some]
  by_cases h : okRoad n g = true
  · have hb := okRoad_b h
    refine ev_pos h ?_
    refine Ev.bind (impl_Road_has.ev g [a, b] ⟨hb.1, hb.2.1⟩ (by simp)) ?_
    rw [h]
    simp only [List.all_cons, List.all_nil, Bool.and_true, Bool.true_and]
    by_cases h1 : 0 ≤ a ∧ a ≤ n - 1
    · by_cases h2 : 0 ≤ b ∧ b ≤ n - 1
      · rw [decide_eq_true h1, decide_eq_true h2]
        refine ev_pos rfl ?_
        rw [impl_Road_gap.at g ⟨hb.1, hb.2.1⟩ h1 h2]
        exact ev_some rfl
      · rw [decide_eq_false h2, Bool.and_false]
        exact ev_neg (by simp) (ev_some rfl)
    · rw [decide_eq_false h1, Bool.false_and]
      exact ev_neg (by simp) (ev_some rfl)
  · refine ev_neg h (ev_some ?_)
    rw [Bool.not_eq_true] at h
    rw [h]
    rfl
theorem bits_255 (x : Int) : 0 ≤ Go.bits .and .u64 x 255 ∧ Go.bits .and .u64 x 255 ≤ 255 := by
  have h : (BitVec.ofInt 64 x &&& BitVec.ofInt 64 255).toNat ≤ 255 := by
    rw [BitVec.toNat_and]
    exact Nat.le_trans Nat.and_le_right (by decide)
  have e : ∀ m : Nat, m ≤ 255 → 0 ≤ IntKind.u64.wrap (m : Int) ∧ IntKind.u64.wrap (m : Int) ≤ 255 := by
    intro m hm
    have e1 : IntKind.u64.wrap (m : Int) = (m : Int) % 18446744073709551616 := rfl
    rw [e1]
    omega
  exact e _ h
/-- The next byte of a draw: one place on, 0 to 255. -/
theorem next_tot (l : List Int) (hl8 : ∀ x ∈ l, 0 ≤ x ∧ x ≤ 255) (p s : Int) (h : 0 ≤ p ∧ p ≤ 1000000000) : ∃ v s', spec_l1Cur_next.f l p s = some (v, p + 1, s') ∧ 0 ≤ v ∧ v ≤ 255 := by
  unfold spec_l1Cur_next.f
  rw [w64 (x := p + 1) (by omega) (by omega)]
  have hb : ∀ x : Int, 0 ≤ wrap64 (Go.bits .and .u64 x 255) ∧ wrap64 (Go.bits .and .u64 x 255) ≤ 255 := by
    intro x
    have := bits_255 x
    rw [w64 (by omega) (by omega)]
    exact this
  by_cases c : p < (l.length : Int)
  · have hr : 0 ≤ rd l p ∧ rd l p ≤ 255 := by
      rw [rd_get (n := p.toNat) (by omega) (by omega)]
      exact hl8 _ (List.getElem_mem _)
    rw [if_pos c, if_pos h.1]
    by_cases c2 : p + 1 ≤ (l.length : Int)
    · rw [if_pos c2]
      exact ⟨_, _, rfl, by rw [w64 (by omega) (by omega)]; exact hr⟩
    · rw [if_neg c2]
      exact ⟨_, _, rfl, hb _⟩
  · rw [if_neg c]
    by_cases c2 : p + 1 ≤ (l.length : Int)
    · rw [if_pos c2]
      exact ⟨_, _, rfl, by omega⟩
    · rw [if_neg c2]
      exact ⟨_, _, rfl, hb _⟩
theorem pick_tot (l : List Int) (hl8 : ∀ x ∈ l, 0 ≤ x ∧ x ≤ 255) (p s n : Int) (h : 0 ≤ p ∧ p ≤ 900000000) : ∃ v p' s', spec_l1Cur_pick.f l p s n = some (v, p', s') ∧ 0 ≤ v ∧ (1 ≤ n → v < n) ∧ (n < 1 → v = 0) ∧ 0 ≤ p' ∧ p' ≤ p + 2 := by
  unfold spec_l1Cur_pick.f
  by_cases c : n ≤ 1
  · rw [if_pos c]
    exact ⟨_, _, _, rfl, by omega, by omega, fun _ => rfl, by omega, by omega⟩
  · rw [if_neg c]
    obtain ⟨v, s1, e1, v1, v2⟩ := next_tot l hl8 p s (by omega)
    rw [e1]
    simp only [Option.bind_some]
    by_cases c2 : n > 200
    · rw [if_pos c2]
      obtain ⟨u, s2, e2, u1, u2⟩ := next_tot l hl8 (p + 1) s1 (by omega)
      rw [e2]
      simp only [Option.bind_some]
      rw [if_neg (by omega), w64 (x := v * 256) (by omega) (by omega), w64 (x := v * 256 + u) (by omega) (by omega), Int.tmod_eq_emod_of_nonneg (by omega)]
      exact ⟨_, _, _, rfl, Int.emod_nonneg _ (by omega), fun _ => Int.emod_lt_of_pos _ (by omega), by omega, by omega, by omega⟩
    · rw [if_neg c2, if_neg (by omega), Int.tmod_eq_emod_of_nonneg v1]
      exact ⟨_, _, _, rfl, Int.emod_nonneg _ (by omega), fun _ => Int.emod_lt_of_pos _ (by omega), by omega, by omega, by omega⟩
theorem one_tot (l : List Int) (hl8 : ∀ x ∈ l, 0 ≤ x ∧ x ≤ 255) (p s n : Int) (h : 0 ≤ p ∧ p ≤ 900000000) : ∃ b p' s', spec_l1Cur_one.f l p s n = some (b, p', s') ∧ 0 ≤ p' ∧ p' ≤ p + 2 := by
  unfold spec_l1Cur_one.f
  obtain ⟨v, p', s', e, _, _, _, h1, h2⟩ := pick_tot l hl8 p s n h
  rw [e]
  exact ⟨_, _, _, rfl, h1, h2⟩
theorem among_tot (l : List Int) (hl8 : ∀ x ∈ l, 0 ≤ x ∧ x ≤ 255) (p s : Int) (xs : List Int) (hx : 1 ≤ xs.length ∧ xs.length ≤ 1000) (h : 0 ≤ p ∧ p ≤ 900000000) : ∃ v p' s', spec_l1Cur_among.f l p s xs = some (v, p', s') ∧ v ∈ xs ∧ 0 ≤ p' ∧ p' ≤ p + 2 := by
  unfold spec_l1Cur_among.f
  obtain ⟨v, p', s', e, v0, v1, _, h1, h2⟩ := pick_tot l hl8 p s xs.length h
  have := v1 (by omega)
  rw [e]
  simp only [Option.bind_some]
  rw [if_pos v0, if_pos this, rd_get (n := v.toNat) (by omega) (by omega)]
  exact ⟨_, _, _, rfl, List.getElem_mem _, h1, h2⟩
theorem size_tot (l : List Int) (hl8 : ∀ x ∈ l, 0 ≤ x ∧ x ≤ 255) (p s : Int) (h : 0 ≤ p ∧ p ≤ 800000000) : ∃ v p' s', spec_l1Cur_size.f l p s = some (v, p', s') ∧ (-1 ≤ v ∧ v ≤ 4611686018427387904) ∧ 0 ≤ p' ∧ p' ≤ p + 4 := by
  unfold spec_l1Cur_size.f
  obtain ⟨b, p1, s1, e, h1, h2⟩ := one_tot l hl8 p s 40 (by omega)
  rw [e]
  simp only [Option.bind_some]
  cases b with
  | true =>
    rw [if_pos rfl]
    obtain ⟨v, p2, s2, e2, hv, h3, h4⟩ := among_tot l hl8 p1 s1 [1, 2, 24, 25, 0, (-1), 4611686018427387904] (by simp) (by omega)
    rw [e2]
    refine ⟨_, _, _, rfl, ?_, h3, by simp only; omega⟩
    simp at hv
    rcases hv with rfl | rfl | rfl | rfl | rfl | rfl | rfl <;> simp
  | false =>
    rw [if_neg (by simp)]
    obtain ⟨v, p2, s2, e2, hv, h3, h4⟩ := among_tot l hl8 p1 s1 [5, 6, 4, 8, 3, 10, 7, 13, 24, 2] (by simp) (by omega)
    rw [e2]
    refine ⟨_, _, _, rfl, ?_, h3, by simp only; omega⟩
    simp at hv
    rcases hv with rfl | rfl | rfl | rfl | rfl | rfl | rfl | rfl | rfl | rfl <;> simp
theorem road_tot (l : List Int) (hl8 : ∀ x ∈ l, 0 ≤ x ∧ x ≤ 255) (p s : Int) (h : 0 ≤ p ∧ p ≤ 700000000) : ∃ n g p' s', spec_l1Cur_road.f l p s = some (n, g, p', s') ∧ (-1 ≤ n ∧ n ≤ 4611686018427387904) ∧ 0 ≤ p' ∧ p' ≤ p + 8 := by
  unfold spec_l1Cur_road.f
  obtain ⟨b, p1, s1, e, h1, h2⟩ := one_tot l hl8 p s 2 (by omega)
  rw [e]
  simp only [Option.bind_some]
  obtain ⟨v, p2, s2, e2, hv, h3, h4⟩ := size_tot l hl8 p1 s1 (by omega)
  cases b with
  | true =>
    rw [if_pos rfl]
    unfold spec_l1Cur_line.f
    rw [e2]
    exact ⟨_, _, _, _, rfl, hv, h3, by simp only; omega⟩
  | false =>
    rw [if_neg (by simp)]
    unfold spec_l1Cur_ring.f
    rw [e2]
    simp only [Option.bind_some]
    by_cases c : v = 2
    · rw [if_pos c]
      obtain ⟨b2, p3, s3, e3, h5, h6⟩ := one_tot l hl8 p2 s2 4 (by omega)
      rw [e3]
      cases b2 with
      | true => exact ⟨_, _, _, _, rfl, hv, h5, by simp only; omega⟩
      | false => exact ⟨_, _, _, _, rfl, by omega, h5, by simp only; omega⟩
    · rw [if_neg c]
      exact ⟨_, _, _, _, rfl, hv, h3, by simp only; omega⟩
theorem placeOn_tot (l : List Int) (hl8 : ∀ x ∈ l, 0 ≤ x ∧ x ≤ 255) (p s n : Int) (g : Bool) (hn : -1 ≤ n ∧ n ≤ 4611686018427387904) (h : 0 ≤ p ∧ p ≤ 700000000) : ∃ a p' s', spec_l1Cur_placeOn.f l p s n g = some (a, p', s') ∧ (-2 ≤ a ∧ a ≤ 4611686018427387904) ∧ 0 ≤ p' ∧ p' ≤ p + 4 := by
  unfold spec_l1Cur_placeOn.f
  obtain ⟨b, p1, s1, e, h1, h2⟩ := one_tot l hl8 p s 30 (by omega)
  rw [e]
  simp only [Option.bind_some]
  cases b with
  | true =>
    rw [if_pos rfl]
    rw [w64 (x := n - 1) (by omega) (by omega)]
    obtain ⟨v, p2, s2, e2, hv, h3, h4⟩ := among_tot l hl8 p1 s1 [(-1), 0, n, n - 1, 4611686018427387904] (by simp) (by omega)
    rw [e2]
    refine ⟨_, _, _, rfl, ?_, h3, by simp only; omega⟩
    simp at hv
    simp only
    omega
  | false =>
    rw [if_neg (by simp), spec_l1Least.at]
    simp only [Option.bind_some]
    rw [spec_l1Most.at]
    simp only [Option.bind_some]
    obtain ⟨v, p2, s2, e2, v0, v1, v2, h3, h4⟩ := pick_tot l hl8 p1 s1 (max (min n 24) 1) (by omega)
    have := v1 (by omega)
    rw [e2]
    exact ⟨_, _, _, rfl, by simp only; omega, h3, by simp only; omega⟩
theorem drawGapOf_tot (l : List Int) (hl8 : ∀ x ∈ l, 0 ≤ x ∧ x ≤ 255) : ∃ n g a b, spec_DrawGapOf.f l = some (n, g, a, b) ∧ (-1 ≤ n ∧ n ≤ 4611686018427387904) ∧ (-2 ≤ a ∧ a ≤ 4611686018427387904) ∧ -2 ≤ b ∧ b ≤ 4611686018427387904 := by
  unfold spec_DrawGapOf.f
  obtain ⟨n, g, p1, s1, e1, hn, h1, h2⟩ := road_tot l hl8 0 0 (by omega)
  obtain ⟨a, p2, s2, e2, ha, h3, h4⟩ := placeOn_tot l hl8 p1 s1 n g hn (by omega)
  obtain ⟨b, p3, s3, e3, hb, h5, h6⟩ := placeOn_tot l hl8 p2 s2 n g hn (by omega)
  rw [e1]
  simp only [Option.bind_some]
  rw [e2]
  simp only [Option.bind_some]
  rw [e3]
  exact ⟨n, g, a, b, rfl, hn, ha, hb.1, hb.2⟩
theorem drawNeighborsOn_tot (l : List Int) (hl8 : ∀ x ∈ l, 0 ≤ x ∧ x ≤ 255) : ∃ n g a, spec_DrawNeighborsOn.f l = some (n, g, a) ∧ (-1 ≤ n ∧ n ≤ 4611686018427387904) ∧ -2 ≤ a ∧ a ≤ 4611686018427387904 := by
  unfold spec_DrawNeighborsOn.f
  obtain ⟨n, g, p1, s1, e1, hn, h1, h2⟩ := road_tot l hl8 0 0 (by omega)
  obtain ⟨a, p2, s2, e2, ha, h3, h4⟩ := placeOn_tot l hl8 p1 s1 n g hn (by omega)
  rw [e1]
  simp only [Option.bind_some]
  rw [e2]
  exact ⟨n, g, a, rfl, hn, ha.1, ha.2⟩
/-- Both sides' straight walk at one road and two places: the same, of gap + 1 places, to the other place, a walk. -/
def chkS (n : Nat) (g : Bool) (a b : Nat) : Bool :=
  match spec_StraightWalk.f 60 n g a b, impl_StraightWalk.f 60 n g a b with
  | some r, some q => decide (r.1 = q.1) && (r.2 == q.2) && r.2 && decide ((r.1.length : Int) = gap n g a b + 1) && decide (rd r.1 (gap n g a b) = b) && (impl_IsWalk.f 60 n g r.1 == some (true, true))
  | _, _ => false
def chkS_road (n : Nat) (g : Bool) : Bool := (List.range n).all fun a => (List.range n).all fun b => chkS n g a b
theorem chkS_line : ((List.range 25).all fun n => decide (n < 2) || chkS_road n false) = true := by decide +kernel
theorem chkS_ring3 : chkS_road 3 true = true := by decide +kernel
theorem chkS_ring4 : chkS_road 4 true = true := by decide +kernel
theorem chkS_ring5 : chkS_road 5 true = true := by decide +kernel
theorem chkS_ring6 : chkS_road 6 true = true := by decide +kernel
theorem chkS_ring7 : chkS_road 7 true = true := by decide +kernel
theorem chkS_ring8 : chkS_road 8 true = true := by decide +kernel
theorem chkS_ring9 : chkS_road 9 true = true := by decide +kernel
theorem chkS_ring10 : chkS_road 10 true = true := by decide +kernel
theorem chkS_ring11 : chkS_road 11 true = true := by decide +kernel
theorem chkS_ring12 : chkS_road 12 true = true := by decide +kernel
theorem chkS_ring13 : chkS_road 13 true = true := by decide +kernel
theorem chkS_ring14 : chkS_road 14 true = true := by decide +kernel
theorem chkS_ring15 : chkS_road 15 true = true := by decide +kernel
theorem chkS_ring16 : chkS_road 16 true = true := by decide +kernel
theorem chkS_ring17 : chkS_road 17 true = true := by decide +kernel
theorem chkS_ring18 : chkS_road 18 true = true := by decide +kernel
theorem chkS_ring19 : chkS_road 19 true = true := by decide +kernel
theorem chkS_ring20 : chkS_road 20 true = true := by decide +kernel
theorem chkS_ring21 : chkS_road 21 true = true := by decide +kernel
theorem chkS_ring22 : chkS_road 22 true = true := by decide +kernel
theorem chkS_ring23 : chkS_road 23 true = true := by decide +kernel
theorem chkS_ring24 : chkS_road 24 true = true := by decide +kernel
theorem chkS_ring : ((List.range 25).all fun n => decide (n < 3) || chkS_road n true) = true := by
  rw [List.all_eq_true]
  intro n hn
  rw [List.mem_range] at hn
  by_cases h : n < 3
  · rw [decide_eq_true h, Bool.true_or]
  · have h' : n = 3 ∨ n = 4 ∨ n = 5 ∨ n = 6 ∨ n = 7 ∨ n = 8 ∨ n = 9 ∨ n = 10 ∨ n = 11 ∨ n = 12 ∨ n = 13 ∨ n = 14 ∨ n = 15 ∨ n = 16 ∨ n = 17 ∨ n = 18 ∨ n = 19 ∨ n = 20 ∨ n = 21 ∨ n = 22 ∨ n = 23 ∨ n = 24 := by omega
    rw [Bool.or_eq_true]
    refine Or.inr ?_
    rcases h' with rfl | rfl | rfl | rfl | rfl | rfl | rfl | rfl | rfl | rfl | rfl | rfl | rfl | rfl | rfl | rfl | rfl | rfl | rfl | rfl | rfl | rfl
    · exact chkS_ring3
    · exact chkS_ring4
    · exact chkS_ring5
    · exact chkS_ring6
    · exact chkS_ring7
    · exact chkS_ring8
    · exact chkS_ring9
    · exact chkS_ring10
    · exact chkS_ring11
    · exact chkS_ring12
    · exact chkS_ring13
    · exact chkS_ring14
    · exact chkS_ring15
    · exact chkS_ring16
    · exact chkS_ring17
    · exact chkS_ring18
    · exact chkS_ring19
    · exact chkS_ring20
    · exact chkS_ring21
    · exact chkS_ring22
    · exact chkS_ring23
    · exact chkS_ring24
/-- Both sides' neighbors of one place: the same, and those with the gap 1. -/
def chkN (n : Nat) (g : Bool) (p : Nat) : Bool :=
  match spec_NeighborsOn.f 80 n g p, impl_NeighborsOn.f 80 n g p with
  | some r, some q => decide (r.1 = q.1) && (r.2 == q.2) && r.2 && decide (r.1.length ≤ 100) && (List.range n).all fun x => laws_rHas.f 60 r.1 x == some (gap n g p x == 1)
  | _, _ => false
def chkN_road (n : Nat) (g : Bool) : Bool := (List.range n).all fun p => chkN n g p
theorem chkN_line : ((List.range 25).all fun n => decide (n < 2) || chkN_road n false) = true := by decide +kernel
theorem chkN_ring : ((List.range 25).all fun n => decide (n < 3) || chkN_road n true) = true := by decide +kernel
/-- A gap is no longer by a detour. -/
theorem gap_detour {n : Int} (g : Bool) {a b c : Int} (hn : 2 ≤ n) (ha : 0 ≤ a ∧ a ≤ n - 1) (hb : 0 ≤ b ∧ b ≤ n - 1) (hc : 0 ≤ c ∧ c ≤ n - 1) : gap n g a b ≤ gap n g a c + gap n g c b := by
  unfold gap
  cases g with
  | false => simp only [Bool.false_eq_true, if_false]; omega
  | true => simp only [if_true]; omega
theorem gap_back (n : Int) (g : Bool) (a b : Int) : gap n g b a = gap n g a b := by
  unfold gap
  rw [show max (b - a) (a - b) = max (a - b) (b - a) from by omega]
theorem rInts_self (l : List Int) (hl : l.length ≤ 1000) : Ev (fun k => laws_rInts.f k l l) true := by
  have main : ∀ (d i : Nat), i + d = l.length → Ev (fun k => laws_rInts.l0 k l l i) true := by
    intro d
    induction d with
    | zero =>
      intro i e
      exact Ev.step (fun k => by rw [laws_rInts.l0]) (ev_neg (by omega) (ev_some rfl))
    | succ d ih =>
      intro i e
      refine Ev.step (fun k => by rw [laws_rInts.l0]) (ev_pos (by omega) (ev_pos (by omega) (ev_pos (by omega) (ev_pos rfl ?_))))
      rw [w64 (x := (i : Int) + 1) (by omega) (by omega)]
      exact ih (i + 1) (by omega)
  unfold laws_rInts.f
  refine ev_pos rfl ?_
  exact main l.length 0 (by omega)
theorem road_of {f : Nat → Bool → Bool} {n : Nat} {g : Bool} (h : okRoad n g = true) (h1 : ((List.range 25).all fun n => decide (n < 2) || f n false) = true) (h2 : ((List.range 25).all fun n => decide (n < 3) || f n true) = true) : f n g = true := by
  have hb := okRoad_b h
  cases g with
  | false =>
    rw [List.all_eq_true] at h1
    have := h1 n (List.mem_range.2 (by omega))
    rwa [decide_eq_false (by omega), Bool.false_or] at this
  | true =>
    have h3 := hb.2.2 rfl
    rw [List.all_eq_true] at h2
    have := h2 n (List.mem_range.2 (by omega))
    rwa [decide_eq_false (by omega), Bool.false_or] at this
theorem straight_ok {n : Int} {g : Bool} {a b : Int} (h : okRoad n g = true) (ha : 0 ≤ a ∧ a ≤ n - 1) (hb : 0 ≤ b ∧ b ≤ n - 1) :
    ∃ l : List Int, Ev (fun k => spec_StraightWalk.f k n g a b) (l, true) ∧ Ev (fun k => impl_StraightWalk.f k n g a b) (l, true) ∧ (l.length : Int) = gap n g a b + 1 ∧ rd l (gap n g a b) = b ∧ Ev (fun k => impl_IsWalk.f k n g l) (true, true) := by
  have hr := okRoad_b h
  obtain ⟨n, rfl⟩ : ∃ m : Nat, n = m := ⟨n.toNat, by omega⟩
  obtain ⟨a, rfl⟩ : ∃ m : Nat, a = m := ⟨a.toNat, by omega⟩
  obtain ⟨b, rfl⟩ : ∃ m : Nat, b = m := ⟨b.toNat, by omega⟩
  have h2 := road_of h chkS_line chkS_ring
  unfold chkS_road at h2
  rw [List.all_eq_true] at h2
  have h2 := h2 a (List.mem_range.2 (by omega))
  rw [List.all_eq_true] at h2
  have h2 := h2 b (List.mem_range.2 (by omega))
  unfold chkS at h2
  cases e1 : spec_StraightWalk.f 60 n g a b with
  | none => simp [e1] at h2
  | some r =>
    cases e2 : impl_StraightWalk.f 60 n g a b with
    | none => simp [e1, e2] at h2
    | some q =>
      simp only [e1, e2, Bool.and_eq_true, decide_eq_true_eq, beq_iff_eq] at h2
      obtain ⟨r, r'⟩ := r
      obtain ⟨q, q'⟩ := q
      obtain ⟨⟨⟨⟨⟨h3, h4⟩, h5⟩, h6⟩, h7⟩, h8⟩ := h2
      simp only at h3 h4 h5 h6 h7 h8
      subst h3 h4 h5
      exact ⟨r, Ev.of (spec_StraightWalk.mono _ _ _ _) e1, Ev.of (impl_StraightWalk.mono _ _ _ _) e2, h6, h7, Ev.of (impl_IsWalk.mono _ _ _) h8⟩
theorem near_ok {n : Int} {g : Bool} {p : Int} (h : okRoad n g = true) (hp : 0 ≤ p ∧ p ≤ n - 1) :
    ∃ l : List Int, Ev (fun k => spec_NeighborsOn.f k n g p) (l, true) ∧ Ev (fun k => impl_NeighborsOn.f k n g p) (l, true) ∧ l.length ≤ 100 ∧ ∀ x : Int, 0 ≤ x → x ≤ n - 1 → Ev (fun k => laws_rHas.f k l x) (gap n g p x == 1) := by
  have hr := okRoad_b h
  obtain ⟨n, rfl⟩ : ∃ m : Nat, n = m := ⟨n.toNat, by omega⟩
  obtain ⟨p, rfl⟩ : ∃ m : Nat, p = m := ⟨p.toNat, by omega⟩
  have h2 := road_of h chkN_line chkN_ring
  unfold chkN_road at h2
  rw [List.all_eq_true] at h2
  have h2 := h2 p (List.mem_range.2 (by omega))
  unfold chkN at h2
  cases e1 : spec_NeighborsOn.f 80 n g p with
  | none => simp [e1] at h2
  | some r =>
    cases e2 : impl_NeighborsOn.f 80 n g p with
    | none => simp [e1, e2] at h2
    | some q =>
      simp only [e1, e2, Bool.and_eq_true, decide_eq_true_eq, beq_iff_eq] at h2
      obtain ⟨r, r'⟩ := r
      obtain ⟨q, q'⟩ := q
      obtain ⟨⟨⟨⟨h3, h4⟩, h5⟩, h6⟩, h7⟩ := h2
      simp only at h3 h4 h5 h6 h7
      subst h3 h4 h5
      refine ⟨r, Ev.of (spec_NeighborsOn.mono _ _ _) e1, Ev.of (impl_NeighborsOn.mono _ _ _) e2, h6, fun x h8 h9 => ?_⟩
      obtain ⟨x, rfl⟩ : ∃ m : Nat, x = m := ⟨x.toNat, by omega⟩
      rw [List.all_eq_true] at h7
      have h10 := h7 x (List.mem_range.2 (by omega))
      rw [beq_iff_eq] at h10
      exact Ev.of (laws_rHas.mono _ _) h10
theorem straight_no {n : Int} {g : Bool} {a b : Int} (h : ¬ ((okRoad n g && decide (0 ≤ a ∧ a ≤ n - 1) && decide (0 ≤ b ∧ b ≤ n - 1)) = true)) :
    Ev (fun k => spec_StraightWalk.f k n g a b) ([], false) ∧ Ev (fun k => impl_StraightWalk.f k n g a b) ([], false) := by
  unfold spec_StraightWalk.f impl_StraightWalk.f
  rw [spec_l2Place.at, spec_l2Place.at, impl_IsRoad.at]
  simp only [Option.bind_some]
  by_cases hr : okRoad n g = true
  · have hb := okRoad_b hr
    have hh := impl_Road_has.ev g [a, b] ⟨hb.1, hb.2.1⟩ (by simp)
    have hab : ¬ ((0 ≤ a ∧ a ≤ n - 1) ∧ 0 ≤ b ∧ b ≤ n - 1) := fun e => h (by rw [hr, decide_eq_true e.1, decide_eq_true e.2]; rfl)
    have e : ([a, b].all fun x => decide (0 ≤ x ∧ x ≤ n - 1)) = false := by
      rw [← Bool.not_eq_true, List.all_eq_true]
      intro hx
      exact hab ⟨of_decide_eq_true (hx a (by simp)), of_decide_eq_true (hx b (by simp))⟩
    rw [e] at hh
    rw [hr]
    simp only [Bool.true_and]
    refine ⟨?_, ev_pos (by trivial) (Ev.bind hh (ev_neg (by simp) (ev_some rfl)))⟩
    by_cases ha : 0 ≤ a ∧ a ≤ n - 1
    · exact ev_pos (by simpa using ha) (ev_neg (by simp only [decide_eq_true_eq]; exact fun e => hab ⟨ha, e⟩) (ev_some rfl))
    · exact ev_neg (by simpa using ha) (ev_some rfl)
  · exact ⟨ev_neg (by simp [hr]) (ev_some rfl), ev_neg hr (ev_some rfl)⟩
theorem near_no {n : Int} {g : Bool} {p : Int} (h : ¬ ((okRoad n g && decide (0 ≤ p ∧ p ≤ n - 1)) = true)) :
    Ev (fun k => spec_NeighborsOn.f k n g p) ([], false) ∧ Ev (fun k => impl_NeighborsOn.f k n g p) ([], false) := by
  unfold spec_NeighborsOn.f impl_NeighborsOn.f
  rw [spec_l2Place.at, impl_IsRoad.at]
  simp only [Option.bind_some]
  refine ⟨ev_neg h (ev_some rfl), ?_⟩
  by_cases hr : okRoad n g = true
  · have hb := okRoad_b hr
    have hh := impl_Road_has.ev g [p] ⟨hb.1, hb.2.1⟩ (by simp)
    have e : ([p].all fun x => decide (0 ≤ x ∧ x ≤ n - 1)) = false := by
      rw [List.all_cons, List.all_nil, Bool.and_true]
      exact decide_eq_false fun e => h (by rw [hr, decide_eq_true e]; rfl)
    rw [e] at hh
    exact ev_pos hr (Ev.bind hh (ev_neg (by simp) (ev_some rfl)))
  · exact ev_neg hr (ev_some rfl)
theorem FnGaps : laws_FnGaps.Pure := by
  intro l0 _ _ h8
  have h8 : ∀ x ∈ l0, 0 ≤ x ∧ x ≤ 255 := fun x hx => by
    have := h8 x hx
    simp [Lit.wf] at this
    have m0 : IntKind.u8.min = 0 := rfl
    have m1 : IntKind.u8.max = 255 := rfl
    omega
  refine Ev.rounds (r := true) ?_
  unfold laws_FnGaps.f laws_rBig.f
  simp only [Option.bind_some]
  by_cases big : (l0.length : Int) > 65536
  · exact ev_pos (decide_eq_true big) (ev_some rfl)
  refine ev_neg (by simpa using big) ?_
  obtain ⟨n, g, a, b, e1, hn, ha, hb⟩ := drawGapOf_tot l0 h8
  obtain ⟨m, g', p, e2, hm, hp⟩ := drawNeighborsOn_tot l0 h8
  rw [e1]
  simp only [Option.bind_some]
  refine Ev.bind (impl_GapOf.ev n g a b) ?_
  rw [spec_GapOf.at]
  simp only [Option.bind_some]
  refine ev_pos (by trivial) ?_
  -- the last part: behind the neighbors
  have last : ∀ l : List Int, ((okRoad n g && decide (0 ≤ a ∧ a ≤ n - 1) && decide (0 ≤ b ∧ b ≤ n - 1)) = true → (l.length : Int) = gap n g a b + 1 ∧ rd l (gap n g a b) = b ∧ Ev (fun k => impl_IsWalk.f k n g l) (true, true)) →
      Ev (fun k => laws_FnGaps.j4 k a b (if (okRoad n g && decide (0 ≤ a ∧ a ≤ n - 1) && decide (0 ≤ b ∧ b ≤ n - 1)) = true then (gap n g a b, true) else (0, false)).1 (if (okRoad n g && decide (0 ≤ a ∧ a ≤ n - 1) && decide (0 ≤ b ∧ b ≤ n - 1)) = true then (gap n g a b, true) else (0, false)).2 l n g) true := by
    intro l hl
    by_cases c : (okRoad n g && decide (0 ≤ a ∧ a ≤ n - 1) && decide (0 ≤ b ∧ b ≤ n - 1)) = true
    · obtain ⟨hl1, hl2, hl3⟩ := hl c
      rw [if_pos c]
      rw [Bool.and_eq_true, Bool.and_eq_true, decide_eq_true_eq, decide_eq_true_eq] at c
      have hr := okRoad_b c.1.1
      have hg0 : 0 ≤ gap n g a b ∧ gap n g a b ≤ n := by
        unfold gap
        cases g with
        | false => simp only [Bool.false_eq_true, if_false]; omega
        | true => simp only [if_true]; omega
      refine Ev.step (fun k => by rw [laws_FnGaps.j4]) (ev_pos rfl ?_)
      have hback := impl_GapOf.ev n g b a
      rw [if_pos (by rw [c.1.1, decide_eq_true c.1.2, decide_eq_true c.2]; rfl), gap_back] at hback
      refine Ev.bind hback (Ev.bind hl3 (ev_pos rfl (ev_pos rfl (ev_pos rfl (ev_pos rfl ?_)))))
      simp only
      rw [w64 (x := gap n g a b + 1) (by omega) (by omega)]
      refine ev_pos hl1 (ev_pos hg0.1 (ev_pos (by omega) ?_))
      rw [hl2, show (b != b) = false from bne_self_eq_false b]
      refine Ev.step (fun k => by rw [laws_FnGaps.j5]) (ev_neg (by simp) ?_)
      have main : ∀ (d i : Nat), i + d = n.toNat → Ev (fun k => laws_FnGaps.l1 k a b (gap n g a b) i n g) true := by
        intro d
        induction d with
        | zero =>
          intro i e
          exact Ev.step (fun k => by rw [laws_FnGaps.l1]) (ev_neg (by omega) (ev_some rfl))
        | succ d ih =>
          intro i e
          have hi : 0 ≤ (i : Int) ∧ (i : Int) ≤ n - 1 := by omega
          refine Ev.step (fun k => by rw [laws_FnGaps.l1]) (ev_pos (by omega) ?_)
          have x1 := impl_GapOf.ev n g a i
          have x2 := impl_GapOf.ev n g i b
          rw [if_pos (by rw [c.1.1, decide_eq_true c.1.2, decide_eq_true hi]; rfl)] at x1
          rw [if_pos (by rw [c.1.1, decide_eq_true c.2, decide_eq_true hi]; rfl)] at x2
          refine Ev.bind x1 (Ev.bind x2 (ev_pos rfl (ev_pos rfl ?_)))
          simp only
          have y := gap_detour g hr.1 c.1.2 c.2 hi
          have y1 : 0 ≤ gap n g a i ∧ gap n g a i ≤ n := by
            unfold gap
            cases g with
            | false => simp only [Bool.false_eq_true, if_false]; omega
            | true => simp only [if_true]; omega
          have y2 : 0 ≤ gap n g i b ∧ gap n g i b ≤ n := by
            unfold gap
            cases g with
            | false => simp only [Bool.false_eq_true, if_false]; omega
            | true => simp only [if_true]; omega
          rw [w64 (x := gap n g a i + gap n g i b) (by omega) (by omega), w64 (x := (i : Int) + 1) (by omega) (by omega)]
          exact ev_neg (by omega) (ih (i + 1) (by omega))
      exact main n.toNat 0 (by omega)
    · rw [if_neg c]
      exact Ev.step (fun k => by rw [laws_FnGaps.j4]) (ev_neg (by simp) (ev_some rfl))
  -- the neighbors
  have mid : ∀ l : List Int, ((okRoad n g && decide (0 ≤ a ∧ a ≤ n - 1) && decide (0 ≤ b ∧ b ≤ n - 1)) = true → (l.length : Int) = gap n g a b + 1 ∧ rd l (gap n g a b) = b ∧ Ev (fun k => impl_IsWalk.f k n g l) (true, true)) →
      Ev (fun k => laws_FnGaps.j1 k l0 a b (if (okRoad n g && decide (0 ≤ a ∧ a ≤ n - 1) && decide (0 ≤ b ∧ b ≤ n - 1)) = true then (gap n g a b, true) else (0, false)).1 (if (okRoad n g && decide (0 ≤ a ∧ a ≤ n - 1) && decide (0 ≤ b ∧ b ≤ n - 1)) = true then (gap n g a b, true) else (0, false)).2 l false n g) true := by
    intro l hl
    have hlast := last l hl
    generalize (if (okRoad n g && decide (0 ≤ a ∧ a ≤ n - 1) && decide (0 ≤ b ∧ b ≤ n - 1)) = true then (gap n g a b, true) else (0, false)) = z at *
    refine Ev.step (fun k => by rw [laws_FnGaps.j1]) (ev_neg (by simp) ?_)
    rw [e2]
    simp only [Option.bind_some]
    have hroad : spec_IsRoad.f m g' = some (okRoad m g') := by
      unfold spec_IsRoad.f
      rw [spec_l2Road.at]
      rfl
    rw [impl_IsRoad.at, hroad]
    simp only [Option.bind_some, bne_self_eq_false]
    by_cases c : (okRoad m g' && decide (0 ≤ p ∧ p ≤ m - 1)) = true
    · rw [Bool.and_eq_true, decide_eq_true_eq] at c
      have hr := okRoad_b c.1
      obtain ⟨near, s1, s2, s3, s4⟩ := near_ok c.1 c.2
      refine Ev.bind s2 (Ev.bind s1 (ev_neg (by simp) (Ev.bind (rInts_self near (by omega)) (ev_pos rfl ?_))))
      refine Ev.step (fun k => by rw [laws_FnGaps.j2]) (ev_neg (by simp) (ev_pos rfl ?_))
      have main : ∀ (d i : Nat), i + d = m.toNat → Ev (fun k => laws_FnGaps.l0 k a b z.1 z.2 l p near i n g m g') true := by
        intro d
        induction d with
        | zero =>
          intro i e
          exact Ev.step (fun k => by rw [laws_FnGaps.l0]) (ev_neg (by omega) hlast)
        | succ d ih =>
          intro i e
          have hi : 0 ≤ (i : Int) ∧ (i : Int) ≤ m - 1 := by omega
          refine Ev.step (fun k => by rw [laws_FnGaps.l0]) (ev_pos (by omega) ?_)
          have x1 := impl_GapOf.ev m g' p i
          rw [if_pos (by rw [c.1, decide_eq_true c.2, decide_eq_true hi]; rfl)] at x1
          refine Ev.bind x1 (ev_pos rfl (Ev.bind (s4 i hi.1 hi.2) ?_))
          simp only [bne_self_eq_false]
          rw [w64 (x := (i : Int) + 1) (by omega) (by omega)]
          exact ev_neg (by simp) (ih (i + 1) (by omega))
      exact main m.toNat 0 (by omega)
    · obtain ⟨s1, s2⟩ := near_no c
      refine Ev.bind s2 (Ev.bind s1 (ev_neg (by simp) (Ev.bind (rInts_self [] (by simp)) (ev_pos rfl ?_))))
      exact Ev.step (fun k => by rw [laws_FnGaps.j2]) (ev_neg (by simp) (ev_neg (by simp) hlast))
  -- the straight walk
  simp only [bne_self_eq_false]
  refine Ev.step (fun k => by rw [laws_FnGaps.j0]) (ev_neg (by simp) ?_)
  by_cases c : (okRoad n g && decide (0 ≤ a ∧ a ≤ n - 1) && decide (0 ≤ b ∧ b ≤ n - 1)) = true
  · have c' := c
    rw [Bool.and_eq_true, Bool.and_eq_true, decide_eq_true_eq, decide_eq_true_eq] at c'
    have hr := okRoad_b c'.1.1
    obtain ⟨l, s1, s2, s3, s4, s5⟩ := straight_ok c'.1.1 c'.1.2 c'.2
    have hmid := mid l (fun _ => ⟨s3, s4, s5⟩)
    rw [if_pos c] at hmid ⊢
    have hg0 : gap n g a b ≤ n := by
      unfold gap
      cases g with
      | false => simp only [Bool.false_eq_true, if_false]; omega
      | true => simp only [if_true]; omega
    exact Ev.bind s2 (Ev.bind s1 (ev_neg (by simp) (ev_neg (by simp) (Ev.bind (rInts_self l (by omega)) hmid))))
  · obtain ⟨s1, s2⟩ := straight_no c
    have hmid := mid [] (fun e => absurd e c)
    rw [if_neg c] at hmid ⊢
    exact Ev.bind s2 (Ev.bind s1 (ev_neg (by simp) (ev_neg (by simp) (Ev.bind (rInts_self [] (by simp)) hmid))))

end Go.Proofs.Ytogflbocmiogpaa.Pure
