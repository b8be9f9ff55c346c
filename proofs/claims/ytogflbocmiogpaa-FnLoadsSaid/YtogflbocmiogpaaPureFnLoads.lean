/- The plain side of the law FnLoads: the printed law, whatever its input (within the form's bounds), comes to true. No other condition. -/
import Derived.Test.YtogflbocmiogpaaPFnLoadsx21
import Derived.Test.YtogflbocmiogpaaBase
import Derived.Test.YtogflbocmiogpaaMath
namespace Go.Proofs.Ytogflbocmiogpaa.Pure
open Go.RowKit Go.Proofs.Ytogflbocmiogpaa.PFnLoads Go.Proofs.YtogflbocmiogpaaW.PrintWords Go.Proofs.YtogflbocmiogpaaW.PrintLast Go.Proofs.YtogflbocmiogpaaW.PrintMore Go.Proofs.Ytogflbocmiogpaa.Base Go.Proofs.Ytogflbocmiogpaa.M
set_option linter.unusedVariables false
set_option linter.unusedSimpArgs false
set_option maxHeartbeats 4000000

theorem vCut_tot (l : List Int) (hl8 : ∀ x ∈ l, 0 ≤ x ∧ x ≤ 255) (hl : l.length ≤ 65536) (m : Int) (hm : 0 ≤ m ∧ m ≤ 2) : ∃ r, laws_vCut.f l m = some r ∧ ∀ x ∈ r, 0 ≤ x ∧ x ≤ 255 := by
  unfold laws_vCut.f
  by_cases c : m > (l.length : Int)
  · rw [if_pos c]
    simp only [Option.bind_some]
    rw [if_pos (by omega), if_pos (by omega), if_pos (by simp), if_pos (by simp)]
    refine ⟨_, rfl, fun x hx => ?_⟩
    simp at hx
    omega
  · rw [if_neg c]
    simp only [Option.bind_some, List.nil_append]
    have hd : (l.drop m.toNat).length ≤ 65536 := by rw [List.length_drop]; omega
    rw [if_pos (by omega), if_pos (by omega), if_pos (by simp only [List.length_nil]; omega), if_pos (by omega)]
    refine ⟨_, rfl, fun x hx => ?_⟩
    rcases List.mem_append.1 hx with hx | hx
    · exact hl8 x (List.mem_of_mem_drop hx)
    · simp at hx
      omega
theorem spec_l1In.at (a b c : Int) : spec_l1In.f a b c = some (decide (b ≤ a ∧ a ≤ c)) := by
  unfold spec_l1In.f
  by_cases h : a ≥ b
  · rw [if_pos h]
    simp [show b ≤ a from h]
  · rw [if_neg h]
    simp [show ¬ b ≤ a from h]
theorem impl_within.at (a b c : Int) : impl_within.f a b c = some (decide (b ≤ a ∧ a ≤ c)) := by
  unfold impl_within.f
  by_cases h : a ≥ b
  · rw [if_pos h]
    simp [show b ≤ a from h]
  · rw [if_neg h]
    simp [show ¬ b ≤ a from h]
theorem spec_l2Road.at (n : Int) (g : Bool) : spec_l2Road.f n g = some (okRoad n g) := by
  unfold spec_l2Road.f okRoad
  rw [spec_l1In.at]
  simp only [Option.bind_some]
  by_cases h : 2 ≤ n ∧ n ≤ 24
  · rw [if_pos (by simpa using h)]
    cases g with
    | false => simp [h]
    | true =>
      simp only [if_true, h, true_and, Option.some.injEq]
      exact decide_eq_decide.2 (by simp; omega)
  · rw [if_neg (by simpa using h)]
    simp only [Option.some.injEq]
    exact (decide_eq_false (fun h' => h ⟨h'.1, h'.2.1⟩)).symm
theorem impl_IsRoad.at (n : Int) (g : Bool) : impl_IsRoad.f n g = some (okRoad n g) := by
  unfold impl_IsRoad.f okRoad
  rw [impl_within.at]
  simp only [Option.bind_some]
  by_cases h : 2 ≤ n ∧ n ≤ 24
  · rw [if_pos (by simpa using h)]
    cases g with
    | false => simp [h]
    | true =>
      simp only [if_true, h, true_and, Option.some.injEq]
      exact decide_eq_decide.2 (by simp)
  · rw [if_neg (by simpa using h)]
    simp only [Option.some.injEq]
    exact (decide_eq_false (fun h' => h ⟨h'.1, h'.2.1⟩)).symm
theorem spec_l1Most.at (a b : Int) : spec_l1Most.f a b = some (max a b) := by
  unfold spec_l1Most.f
  by_cases h : a > b
  · rw [if_pos h, Int.max_eq_left (by omega)]
  · rw [if_neg h, Int.max_eq_right (by omega)]
theorem spec_l1Least.at (a b : Int) : spec_l1Least.f a b = some (min a b) := by
  unfold spec_l1Least.f
  by_cases h : a < b
  · rw [if_pos h, Int.min_eq_left (by omega)]
  · rw [if_neg h, Int.min_eq_right (by omega)]
theorem spec_l2Gap.at {n : Int} (g : Bool) {a b : Int} (hn : 2 ≤ n ∧ n ≤ 24) (ha : 0 ≤ a ∧ a ≤ n - 1) (hb : 0 ≤ b ∧ b ≤ n - 1) : spec_l2Gap.f n g a b = some (gap n g a b) := by
  unfold spec_l2Gap.f gap
  rw [w64 (x := a - b) (by omega) (by omega), w64 (x := b - a) (by omega) (by omega), spec_l1Most.at]
  simp only [Option.bind_some]
  cases g with
  | false => simp
  | true => rw [if_pos rfl, if_pos rfl, w64 (by omega) (by omega), spec_l1Least.at]; rfl
theorem bits_255 (x : Int) : 0 ≤ Go.bits .and .u64 x 255 ∧ Go.bits .and .u64 x 255 ≤ 255 := by
  have h : (BitVec.ofInt 64 x &&& BitVec.ofInt 64 255).toNat ≤ 255 := by
    rw [BitVec.toNat_and]
    exact Nat.le_trans Nat.and_le_right (by decide)
  have e : ∀ m : Nat, m ≤ 255 → 0 ≤ IntKind.u64.wrap (m : Int) ∧ IntKind.u64.wrap (m : Int) ≤ 255 := by
    intro m hm
    have e1 : IntKind.u64.wrap (m : Int) = (m : Int) % 18446744073709551616 := rfl
    rw [e1]
    omega
  exact e _ h
/-- The next byte of a draw: one place on, 0 to 255. -/
theorem next_tot (l : List Int) (hl8 : ∀ x ∈ l, 0 ≤ x ∧ x ≤ 255) (p s : Int) (h : 0 ≤ p ∧ p ≤ 1000000000) : ∃ v s', spec_l1Cur_next.f l p s = some (v, p + 1, s') ∧ 0 ≤ v ∧ v ≤ 255 := by
  unfold spec_l1Cur_next.f
  rw [w64 (x := p + 1) (by omega) (by omega)]
  have hb : ∀ x : Int, 0 ≤ wrap64 (Go.bits .and .u64 x 255) ∧ wrap64 (Go.bits .and .u64 x 255) ≤ 255 := by
    intro x
    have := bits_255 x
    rw [w64 (by omega) (by omega)]
    exact this
  by_cases c : p < (l.length : Int)
  · have hr : 0 ≤ rd l p ∧ rd l p ≤ 255 := by
      rw [rd_get (n := p.toNat) (by omega) (by omega)]
      exact hl8 _ (List.getElem_mem _)
    rw [if_pos c, if_pos h.1]
    by_cases c2 : p + 1 ≤ (l.length : Int)
    · rw [if_pos c2]
      exact ⟨_, _, rfl, by rw [w64 (by omega) (by omega)]; exact hr⟩
    · rw [if_neg c2]
      exact ⟨_, _, rfl, hb _⟩
  · rw [if_neg c]
    by_cases c2 : p + 1 ≤ (l.length : Int)
    · rw [if_pos c2]
      exact ⟨_, _, rfl, by omega⟩
    · rw [if_neg c2]
      exact ⟨_, _, rfl, hb _⟩
theorem pick_tot (l : List Int) (hl8 : ∀ x ∈ l, 0 ≤ x ∧ x ≤ 255) (p s n : Int) (h : 0 ≤ p ∧ p ≤ 900000000) : ∃ v p' s', spec_l1Cur_pick.f l p s n = some (v, p', s') ∧ 0 ≤ v ∧ (1 ≤ n → v < n) ∧ (n < 1 → v = 0) ∧ 0 ≤ p' ∧ p' ≤ p + 2 := by
  unfold spec_l1Cur_pick.f
  by_cases c : n ≤ 1
  · rw [if_pos c]
    exact ⟨_, _, _, rfl, by omega, by omega, fun _ => rfl, by omega, by omega⟩
  · rw [if_neg c]
    obtain ⟨v, s1, e1, v1, v2⟩ := next_tot l hl8 p s (by omega)
    rw [e1]
    simp only [Option.bind_some]
    by_cases c2 : n > 200
    · rw [if_pos c2]
      obtain ⟨u, s2, e2, u1, u2⟩ := next_tot l hl8 (p + 1) s1 (by omega)
      rw [e2]
      simp only [Option.bind_some]
      rw [if_neg (by omega), w64 (x := v * 256) (by omega) (by omega), w64 (x := v * 256 + u) (by omega) (by omega), Int.tmod_eq_emod_of_nonneg (by omega)]
      exact ⟨_, _, _, rfl, Int.emod_nonneg _ (by omega), fun _ => Int.emod_lt_of_pos _ (by omega), by omega, by omega, by omega⟩
    · rw [if_neg c2, if_neg (by omega), Int.tmod_eq_emod_of_nonneg v1]
      exact ⟨_, _, _, rfl, Int.emod_nonneg _ (by omega), fun _ => Int.emod_lt_of_pos _ (by omega), by omega, by omega, by omega⟩
theorem one_tot (l : List Int) (hl8 : ∀ x ∈ l, 0 ≤ x ∧ x ≤ 255) (p s n : Int) (h : 0 ≤ p ∧ p ≤ 900000000) : ∃ b p' s', spec_l1Cur_one.f l p s n = some (b, p', s') ∧ 0 ≤ p' ∧ p' ≤ p + 2 := by
  unfold spec_l1Cur_one.f
  obtain ⟨v, p', s', e, _, _, _, h1, h2⟩ := pick_tot l hl8 p s n h
  rw [e]
  exact ⟨_, _, _, rfl, h1, h2⟩
theorem among_tot (l : List Int) (hl8 : ∀ x ∈ l, 0 ≤ x ∧ x ≤ 255) (p s : Int) (xs : List Int) (hx : 1 ≤ xs.length ∧ xs.length ≤ 1000) (h : 0 ≤ p ∧ p ≤ 900000000) : ∃ v p' s', spec_l1Cur_among.f l p s xs = some (v, p', s') ∧ v ∈ xs ∧ 0 ≤ p' ∧ p' ≤ p + 2 := by
  unfold spec_l1Cur_among.f
  obtain ⟨v, p', s', e, v0, v1, _, h1, h2⟩ := pick_tot l hl8 p s xs.length h
  have := v1 (by omega)
  rw [e]
  simp only [Option.bind_some]
  rw [if_pos v0, if_pos this, rd_get (n := v.toNat) (by omega) (by omega)]
  exact ⟨_, _, _, rfl, List.getElem_mem _, h1, h2⟩
theorem size_tot (l : List Int) (hl8 : ∀ x ∈ l, 0 ≤ x ∧ x ≤ 255) (p s : Int) (h : 0 ≤ p ∧ p ≤ 800000000) : ∃ v p' s', spec_l1Cur_size.f l p s = some (v, p', s') ∧ (-1 ≤ v ∧ v ≤ 4611686018427387904) ∧ 0 ≤ p' ∧ p' ≤ p + 4 := by
  unfold spec_l1Cur_size.f
  obtain ⟨b, p1, s1, e, h1, h2⟩ := one_tot l hl8 p s 40 (by omega)
  rw [e]
  simp only [Option.bind_some]
  cases b with
  | true =>
    rw [if_pos rfl]
    obtain ⟨v, p2, s2, e2, hv, h3, h4⟩ := among_tot l hl8 p1 s1 [1, 2, 24, 25, 0, (-1), 4611686018427387904] (by simp) (by omega)
    rw [e2]
    refine ⟨_, _, _, rfl, ?_, h3, by simp only; omega⟩
    simp at hv
    rcases hv with rfl | rfl | rfl | rfl | rfl | rfl | rfl <;> simp
  | false =>
    rw [if_neg (by simp)]
    obtain ⟨v, p2, s2, e2, hv, h3, h4⟩ := among_tot l hl8 p1 s1 [5, 6, 4, 8, 3, 10, 7, 13, 24, 2] (by simp) (by omega)
    rw [e2]
    refine ⟨_, _, _, rfl, ?_, h3, by simp only; omega⟩
    simp at hv
    rcases hv with rfl | rfl | rfl | rfl | rfl | rfl | rfl | rfl | rfl | rfl <;> simp
theorem road_tot (l : List Int) (hl8 : ∀ x ∈ l, 0 ≤ x ∧ x ≤ 255) (p s : Int) (h : 0 ≤ p ∧ p ≤ 700000000) : ∃ n g p' s', spec_l1Cur_road.f l p s = some (n, g, p', s') ∧ (-1 ≤ n ∧ n ≤ 4611686018427387904) ∧ 0 ≤ p' ∧ p' ≤ p + 8 := by
  unfold spec_l1Cur_road.f
  obtain ⟨b, p1, s1, e, h1, h2⟩ := one_tot l hl8 p s 2 (by omega)
  rw [e]
  simp only [Option.bind_some]
  obtain ⟨v, p2, s2, e2, hv, h3, h4⟩ := size_tot l hl8 p1 s1 (by omega)
  cases b with
  | true =>
    rw [if_pos rfl]
    unfold spec_l1Cur_line.f
    rw [e2]
    exact ⟨_, _, _, _, rfl, hv, h3, by simp only; omega⟩
  | false =>
    rw [if_neg (by simp)]
    unfold spec_l1Cur_ring.f
    rw [e2]
    simp only [Option.bind_some]
    by_cases c : v = 2
    · rw [if_pos c]
      obtain ⟨b2, p3, s3, e3, h5, h6⟩ := one_tot l hl8 p2 s2 4 (by omega)
      rw [e3]
      cases b2 with
      | true => exact ⟨_, _, _, _, rfl, hv, h5, by simp only; omega⟩
      | false => exact ⟨_, _, _, _, rfl, by omega, h5, by simp only; omega⟩
    · rw [if_neg c]
      exact ⟨_, _, _, _, rfl, hv, h3, by simp only; omega⟩
theorem placeOn_tot (l : List Int) (hl8 : ∀ x ∈ l, 0 ≤ x ∧ x ≤ 255) (p s n : Int) (g : Bool) (hn : -1 ≤ n ∧ n ≤ 4611686018427387904) (h : 0 ≤ p ∧ p ≤ 700000000) : ∃ a p' s', spec_l1Cur_placeOn.f l p s n g = some (a, p', s') ∧ (-2 ≤ a ∧ a ≤ 4611686018427387904) ∧ 0 ≤ p' ∧ p' ≤ p + 4 := by
  unfold spec_l1Cur_placeOn.f
  obtain ⟨b, p1, s1, e, h1, h2⟩ := one_tot l hl8 p s 30 (by omega)
  rw [e]
  simp only [Option.bind_some]
  cases b with
  | true =>
    rw [if_pos rfl]
    rw [w64 (x := n - 1) (by omega) (by omega)]
    obtain ⟨v, p2, s2, e2, hv, h3, h4⟩ := among_tot l hl8 p1 s1 [(-1), 0, n, n - 1, 4611686018427387904] (by simp) (by omega)
    rw [e2]
    refine ⟨_, _, _, rfl, ?_, h3, by simp only; omega⟩
    simp at hv
    simp only
    omega
  | false =>
    rw [if_neg (by simp), spec_l1Least.at]
    simp only [Option.bind_some]
    rw [spec_l1Most.at]
    simp only [Option.bind_some]
    obtain ⟨v, p2, s2, e2, v0, v1, v2, h3, h4⟩ := pick_tot l hl8 p1 s1 (max (min n 24) 1) (by omega)
    have := v1 (by omega)
    rw [e2]
    exact ⟨_, _, _, rfl, by simp only; omega, h3, by simp only; omega⟩
theorem impl_allWithin.ev (l : List Int) (lo hi : Int) (hl : l.length ≤ 35184372088832) : Ev (fun k => impl_allWithin.f k l lo hi) (l.all fun x => decide (lo ≤ x ∧ x ≤ hi)) := by
  have main : ∀ (d i : Nat), i + d = l.length → Ev (fun k => impl_allWithin.l0 k lo hi l l.length i) ((l.drop i).all fun x => decide (lo ≤ x ∧ x ≤ hi)) := by
    intro d
    induction d with
    | zero =>
      intro i e
      refine Ev.step (fun k => by rw [impl_allWithin.l0]) ?_
      refine ev_neg (by omega) (ev_some ?_)
      rw [List.drop_eq_nil_of_le (by omega)]
      rfl
    | succ d ih =>
      intro i e
      refine Ev.step (fun k => by rw [impl_allWithin.l0]) ?_
      refine ev_pos (by omega) ?_
      refine ev_pos (by omega) ?_
      refine ev_pos (by omega) ?_
      rw [w64 (x := (i : Int) + 1) (by omega) (by omega), rd_get rfl (by omega), List.drop_eq_getElem_cons (by omega), List.all_cons, impl_within.at]
      simp only [Option.bind_some]
      by_cases h : lo ≤ l[i] ∧ l[i] ≤ hi
      · refine ev_pos (by simpa using h) ?_
        rw [decide_eq_true h, Bool.true_and]
        exact ih (i + 1) (by omega)
      · refine ev_neg (by simpa using h) (ev_some ?_)
        rw [decide_eq_false h, Bool.false_and]
  unfold impl_allWithin.f
  exact main l.length 0 (by omega)
theorem impl_Road_has.ev {n : Int} (g : Bool) (l : List Int) (hn : 2 ≤ n ∧ n ≤ 24) (hl : l.length ≤ 35184372088832) : Ev (fun k => impl_Road_has.f k n g l) (l.all fun x => decide (0 ≤ x ∧ x ≤ n - 1)) := by
  unfold impl_Road_has.f
  rw [w64 (x := n - 1) (by omega) (by omega)]
  exact Ev.bind (impl_allWithin.ev l 0 (n - 1) hl) (ev_some rfl)
theorem spec_l3Line.at (n : Int) (g : Bool) (a : Int) : spec_l3Line.f n g a = some (okStart n g a) := by
  unfold spec_l3Line.f okStart
  rw [spec_l2Road.at]
  simp only [Option.bind_some]
  by_cases h : okRoad n g = true
  · have hb := okRoad_b h
    rw [if_pos h, h]
    cases g with
    | false => rw [if_neg (by simp), w64 (by omega) (by omega), spec_l1In.at]; rfl
    | true => rfl
  · rw [if_neg h]
    rw [Bool.not_eq_true] at h
    rw [h]
    rfl
theorem impl_isStart.ev (n : Int) (g : Bool) (a : Int) : Ev (fun k => impl_isStart.f k n g a) (okStart n g a) := by
  unfold impl_isStart.f okStart
  rw [impl_IsRoad.at]
  simp only [Option.bind_some]
  by_cases h : okRoad n g = true
  · have hb := okRoad_b h
    refine ev_pos h ?_
    rw [h]
    cases g with
    | false =>
      refine ev_neg (by simp) ?_
      refine Ev.bind (impl_Road_has.ev false [a] ⟨hb.1, hb.2.1⟩ (by simp)) (ev_some ?_)
      simp
    | true => exact ev_pos rfl (ev_some rfl)
  · refine ev_neg h (ev_some ?_)
    rw [Bool.not_eq_true] at h
    rw [h]
    rfl
theorem spec_l3Search.ev {n : Int} (g : Bool) {a : Int} (l : List Int) (hn : 2 ≤ n ∧ n ≤ 24) (ha : 0 ≤ a ∧ a ≤ n - 1) (hl : l.length ≤ 35184372088832) : Ev (fun k => spec_l3Search.f k n g a l) (srch n a none a a l) := by
  have main : ∀ (d i : Nat) (pr : Option Bool) (low high : Int), i + d = l.length → (i = 0 ∧ pr = none ∨ ∃ j, ∃ h : j < l.length, i = j + 1 ∧ pr = some (decide (l[j] > a))) →
      Ev (fun k => spec_l3Search.l0 k a l low high i n g) (srch n a pr low high (l.drop i)) := by
    intro d
    induction d with
    | zero =>
      intro i pr low high e _
      refine Ev.step (fun k => by rw [spec_l3Search.l0]) ?_
      refine ev_neg (by omega) ?_
      rw [List.drop_eq_nil_of_le (by omega), w64 (x := n - 1) (by omega) (by omega)]
      unfold srch
      by_cases h : low = 0
      · refine ev_pos h (ev_some ?_)
        rw [decide_eq_true h, Bool.true_and]
        rfl
      · refine ev_neg h (ev_some ?_)
        rw [decide_eq_false h, Bool.false_and]
    | succ d ih =>
      intro i pr low high e hp
      refine Ev.step (fun k => by rw [spec_l3Search.l0]) ?_
      refine ev_pos (by omega) ?_
      refine ev_pos (by omega) ?_
      have hi : i < l.length := by omega
      have hrd : rd l i = l[i] := rd_get rfl hi
      rw [w64 (x := n - 1) (by omega) (by omega), spec_l1In.at, hrd, List.drop_eq_getElem_cons (by omega)]
      simp only [Option.bind_some]
      by_cases hr : l[i] > a
      · refine ev_pos hr ?_
        have hbad : Ev (fun k => spec_l3Search.j1 k a l low high i true true n g) false :=
          Ev.step (fun k => by rw [spec_l3Search.j1]) (ev_pos rfl (ev_some rfl))
        have hgood : 0 ≤ l[i] ∧ l[i] ≤ n - 1 → l[i] ≠ a → pr ≠ some (decide (l[i] > a)) → Ev (fun k => spec_l3Search.j1 k a l low high i true false n g) (srch n a pr low high (l[i] :: l.drop (i + 1))) := by
          intro h1 h2 h3
          refine Ev.step (fun k => by rw [spec_l3Search.j1]) ?_
          refine ev_neg (by simp) ?_
          rw [hrd]
          unfold srch
          refine ev_pos rfl ?_
          refine ev_pos (by omega) ?_
          refine ev_pos (by omega) ?_
          by_cases hh : l[i] ≤ high
          · refine ev_pos hh ?_
            rw [if_neg (fun c => by have := c.2.2.2.2.1 hr; omega)]
            exact Ev.step (fun k => by rw [spec_l3Search.j2]) (ev_pos rfl (ev_some rfl))
          · refine ev_neg hh ?_
            refine Ev.step (fun k => by rw [spec_l3Search.j2]) ?_
            refine ev_neg (by simp) ?_
            refine ev_pos rfl ?_
            refine ev_pos (by omega) ?_
            refine ev_pos (by omega) ?_
            rw [hrd, w64 (x := (i : Int) + 1) (by omega) (by omega), if_pos ⟨h1.1, h1.2, h2, h3, fun _ => by omega, fun h => absurd hr h⟩, if_pos hr, if_pos hr]
            exact ih (i + 1) _ low l[i] (by omega) (.inr ⟨i, hi, rfl, rfl⟩)
        by_cases h1 : 0 ≤ l[i] ∧ l[i] ≤ n - 1
        · refine ev_pos (by simpa using h1) ?_
          by_cases h2 : l[i] = a
          · refine ev_pos h2 ?_
            rw [show srch n a pr low high (l[i] :: l.drop (i + 1)) = false from if_neg (fun c => c.2.2.1 h2)]
            exact hbad
          · refine ev_neg h2 ?_
            rcases hp with ⟨rfl, rfl⟩ | ⟨j, hj, rfl, rfl⟩
            · refine ev_neg (by omega) ?_
              exact hgood h1 h2 (by simp)
            · refine ev_pos (by omega) ?_
              rw [show wrap64 (((j + 1 : Nat) : Int) - 1) = (j : Int) from by unfold wrap64; omega, rd_get (n := j) rfl hj]
              refine ev_pos (by omega) ?_
              refine ev_pos (by omega) ?_
              have e0 : decide (l[j + 1] > a) = true := by simp [hr]
              by_cases h3 : true = decide (l[j] > a)
              · rw [show (true == decide (l[j] > a)) = true from by rw [← h3]; rfl]
                rw [show srch n a (some (decide (l[j] > a))) low high (l[j + 1] :: l.drop (j + 1 + 1)) = false from if_neg (fun c => c.2.2.2.1 (by rw [e0, h3]))]
                exact hbad
              · rw [show (true == decide (l[j] > a)) = false from beq_eq_false_iff_ne.2 h3]
                exact hgood h1 h2 (fun c => h3 (by rw [← e0]; exact (Option.some.inj c).symm))
        · refine ev_neg (by simpa using h1) ?_
          rw [show srch n a pr low high (l[i] :: l.drop (i + 1)) = false from if_neg (fun c => h1 ⟨c.1, c.2.1⟩)]
          exact hbad
      · refine ev_neg hr ?_
        have hbad : Ev (fun k => spec_l3Search.j3 k a l low high i false true n g) false :=
          Ev.step (fun k => by rw [spec_l3Search.j3]) (ev_pos rfl (ev_some rfl))
        have hgood : 0 ≤ l[i] ∧ l[i] ≤ n - 1 → l[i] ≠ a → pr ≠ some (decide (l[i] > a)) → Ev (fun k => spec_l3Search.j3 k a l low high i false false n g) (srch n a pr low high (l[i] :: l.drop (i + 1))) := by
          intro h1 h2 h3
          refine Ev.step (fun k => by rw [spec_l3Search.j3]) ?_
          refine ev_neg (by simp) ?_
          rw [hrd]
          unfold srch
          refine ev_neg (by simp) ?_
          refine ev_pos (by omega) ?_
          refine ev_pos (by omega) ?_
          by_cases hh : l[i] ≥ low
          · rw [decide_eq_true hh]
            rw [if_neg (fun c => by have := c.2.2.2.2.2 hr; omega)]
            exact Ev.step (fun k => by rw [spec_l3Search.j4]) (ev_pos rfl (ev_some rfl))
          · rw [decide_eq_false hh]
            refine Ev.step (fun k => by rw [spec_l3Search.j4]) ?_
            refine ev_neg (by simp) ?_
            refine ev_neg (by simp) ?_
            refine ev_pos (by omega) ?_
            refine ev_pos (by omega) ?_
            rw [hrd, w64 (x := (i : Int) + 1) (by omega) (by omega), if_pos ⟨h1.1, h1.2, h2, h3, fun h => absurd h hr, fun _ => by omega⟩, if_neg hr, if_neg hr]
            exact ih (i + 1) _ l[i] high (by omega) (.inr ⟨i, hi, rfl, rfl⟩)
        by_cases h1 : 0 ≤ l[i] ∧ l[i] ≤ n - 1
        · refine ev_pos (by simpa using h1) ?_
          by_cases h2 : l[i] = a
          · refine ev_pos h2 ?_
            rw [show srch n a pr low high (l[i] :: l.drop (i + 1)) = false from if_neg (fun c => c.2.2.1 h2)]
            exact hbad
          · refine ev_neg h2 ?_
            rcases hp with ⟨rfl, rfl⟩ | ⟨j, hj, rfl, rfl⟩
            · refine ev_neg (by omega) ?_
              exact hgood h1 h2 (by simp)
            · refine ev_pos (by omega) ?_
              rw [show wrap64 (((j + 1 : Nat) : Int) - 1) = (j : Int) from by unfold wrap64; omega, rd_get (n := j) rfl hj]
              refine ev_pos (by omega) ?_
              refine ev_pos (by omega) ?_
              have e0 : decide (l[j + 1] > a) = false := by simp [hr]
              by_cases h3 : false = decide (l[j] > a)
              · rw [show (false == decide (l[j] > a)) = true from by rw [← h3]; rfl]
                rw [show srch n a (some (decide (l[j] > a))) low high (l[j + 1] :: l.drop (j + 1 + 1)) = false from if_neg (fun c => c.2.2.2.1 (by rw [e0, h3]))]
                exact hbad
              · rw [show (false == decide (l[j] > a)) = false from beq_eq_false_iff_ne.2 h3]
                exact hgood h1 h2 (fun c => h3 (by rw [← e0]; exact (Option.some.inj c).symm))
        · refine ev_neg (by simpa using h1) ?_
          rw [show srch n a pr low high (l[i] :: l.drop (i + 1)) = false from if_neg (fun c => h1 ⟨c.1, c.2.1⟩)]
          exact hbad
  unfold spec_l3Search.f
  exact main l.length 0 none a a (by omega) (.inl ⟨rfl, rfl⟩)
theorem impl_Road_isSearch.ev {n : Int} (g : Bool) {a : Int} (l : List Int) (hn : 2 ≤ n ∧ n ≤ 24) (ha : 0 ≤ a ∧ a ≤ n - 1) (hl : l.length ≤ 35184372088832) : Ev (fun k => impl_Road_isSearch.f k n g a l) (srch n a none a a l) := by
  have main : ∀ (d i : Nat) (pr : Option Bool) (low high : Int), (l.all fun x => decide (0 ≤ x ∧ x ≤ n - 1)) = true → i + d = l.length → low ≤ a → a ≤ high → (i = 0 ∧ pr = none ∨ ∃ j, ∃ h : j < l.length, i = j + 1 ∧ pr = some (decide (l[j] > a)) ∧ l[j] ≠ a) →
      Ev (fun k => impl_Road_isSearch.l0 k a l low high l l.length i n g) (srch n a pr low high (l.drop i)) := by
    intro d
    induction d with
    | zero =>
      intro i pr low high _ e _ _ _
      refine Ev.step (fun k => by rw [impl_Road_isSearch.l0]) ?_
      refine ev_neg (by omega) ?_
      rw [List.drop_eq_nil_of_le (by omega), w64 (x := n - 1) (by omega) (by omega)]
      unfold srch
      by_cases h : low = 0
      · refine ev_pos h (ev_some ?_)
        rw [decide_eq_true h, Bool.true_and]
        rfl
      · refine ev_neg h (ev_some ?_)
        rw [decide_eq_false h, Bool.false_and]
    | succ d ih =>
      intro i pr low high hall e hlo hhi hp
      have hi : i < l.length := by omega
      have hrd : rd l i = l[i] := rd_get rfl hi
      have h1 := in_of_all hall hi
      refine Ev.step (fun k => by rw [impl_Road_isSearch.l0]) ?_
      refine ev_pos (by omega) ?_
      refine ev_pos (by omega) ?_
      refine ev_pos (by omega) ?_
      have hbad : Ev (fun k => impl_Road_isSearch.j2 k a l low high l[i] l l.length i true n g) false :=
        Ev.step (fun k => by rw [impl_Road_isSearch.j2]) (ev_pos rfl (ev_some rfl))
      have hgood : l[i] ≠ a → pr ≠ some (decide (l[i] > a)) → Ev (fun k => impl_Road_isSearch.j2 k a l low high l[i] l l.length i false n g) (srch n a pr low high (l[i] :: l.drop (i + 1))) := by
        intro h2 h3
        refine Ev.step (fun k => by rw [impl_Road_isSearch.j2]) ?_
        refine ev_neg (by simp) ?_
        rw [w64 (x := (i : Int) + 1) (by omega) (by omega), mn_eq, mx_eq]
        unfold srch
        by_cases hr : l[i] > a
        · refine ev_pos (by omega) ?_
          by_cases hh : l[i] ≤ high
          · refine ev_pos hh ?_
            rw [if_neg (fun c => by have := c.2.2.2.2.1 hr; omega)]
            exact ev_some rfl
          · refine ev_neg hh ?_
            rw [if_pos ⟨h1.1, h1.2, h2, h3, fun _ => by omega, fun h => absurd hr h⟩, if_pos hr, if_pos hr, Int.min_eq_left (by omega), Int.max_eq_right (by omega)]
            exact ih (i + 1) _ low l[i] hall (by omega) (by omega) (by omega) (.inr ⟨i, hi, rfl, rfl, h2⟩)
        · by_cases hh : l[i] ≥ low
          · refine ev_pos hh ?_
            refine ev_pos (by omega) ?_
            rw [if_neg (fun c => by have := c.2.2.2.2.2 hr; omega)]
            exact ev_some rfl
          · refine ev_neg hh ?_
            rw [if_pos ⟨h1.1, h1.2, h2, h3, fun h => absurd h hr, fun _ => by omega⟩, if_neg hr, if_neg hr, Int.min_eq_right (by omega), Int.max_eq_left (by omega)]
            exact ih (i + 1) _ l[i] high hall (by omega) (by omega) (by omega) (.inr ⟨i, hi, rfl, rfl, h2⟩)
      rw [hrd, List.drop_eq_getElem_cons hi]
      by_cases h2 : l[i] = a
      · refine ev_pos h2 ?_
        rw [show srch n a pr low high (l[i] :: l.drop (i + 1)) = false from if_neg (fun c => c.2.2.1 h2)]
        exact hbad
      · refine ev_neg h2 ?_
        rcases hp with ⟨rfl, rfl⟩ | ⟨j, hj, rfl, rfl, hja⟩
        · refine ev_neg (by omega) ?_
          exact hgood h2 (by simp)
        · refine ev_pos (by omega) ?_
          rw [show wrap64 (((j + 1 : Nat) : Int) - 1) = (j : Int) from by unfold wrap64; omega, rd_get (n := j) rfl hj]
          refine ev_pos (by omega) ?_
          refine ev_pos (by omega) ?_
          have e1 : decide (l[j + 1] < a) = !decide (l[j + 1] > a) := by by_cases h : l[j + 1] > a <;> simp [h] <;> omega
          have e2 : decide (l[j] < a) = !decide (l[j] > a) := by by_cases h : l[j] > a <;> simp [h] <;> omega
          rw [e1, e2]
          by_cases h3 : decide (l[j + 1] > a) = decide (l[j] > a)
          · rw [show ((!decide (l[j + 1] > a)) == !decide (l[j] > a)) = true from by rw [h3]; simp]
            rw [show srch n a (some (decide (l[j] > a))) low high (l[j + 1] :: l.drop (j + 1 + 1)) = false from if_neg (fun c => c.2.2.2.1 (by rw [h3]))]
            exact hbad
          · rw [show ((!decide (l[j + 1] > a)) == !decide (l[j] > a)) = false from by revert h3; cases decide (l[j + 1] > a) <;> cases decide (l[j] > a) <;> simp]
            exact hgood h2 (fun c => h3 (Option.some.inj c).symm)
  unfold impl_Road_isSearch.f
  by_cases h0 : l.length = 0
  · obtain rfl := List.eq_nil_of_length_eq_zero h0
    refine ev_pos (by simp) ?_
    refine Ev.step (fun k => by rw [impl_Road_isSearch.j0]) ?_
    refine ev_pos rfl (ev_some ?_)
    unfold srch
    simp
    omega
  · refine ev_neg (by omega) ?_
    refine Ev.bind (impl_Road_has.ev g l hn hl) ?_
    refine Ev.step (fun k => by rw [impl_Road_isSearch.j0]) ?_
    by_cases hall : (l.all fun x => decide (0 ≤ x ∧ x ≤ n - 1)) = true
    · rw [hall]
      refine ev_neg (by simp) ?_
      exact main l.length 0 none a a hall (by omega) (by omega) (by omega) (.inl ⟨rfl, rfl⟩)
    · have : srch n a none a a l = false := by
        rw [← Bool.not_eq_true]
        exact fun h => hall (srch_all h)
      rw [this]
      rw [Bool.not_eq_true] at hall
      rw [hall]
      exact ev_pos rfl (ev_some rfl)
theorem spec_l3Good.ev (n : Int) (g : Bool) (a : Int) (l : List Int) (hl : l.length ≤ 35184372088832) : Ev (fun k => spec_l3Good.f k n g a l) (okSearch n g a l) := by
  unfold spec_l3Good.f okSearch
  rw [spec_l3Line.at]
  simp only [Option.bind_some]
  by_cases h : okStart n g a = true
  · have hb := okStart_b h
    refine ev_pos h ?_
    rw [h, Bool.true_and]
    exact Ev.bind (spec_l3Search.ev g l ⟨hb.2.2.1, hb.2.2.2.1⟩ ⟨hb.2.2.2.2.1, hb.2.2.2.2.2⟩ hl) (ev_some rfl)
  · refine ev_neg h (ev_some ?_)
    rw [Bool.not_eq_true] at h
    rw [h, Bool.false_and]
theorem impl_isSought.ev (n : Int) (g : Bool) (a : Int) (l : List Int) (hl : l.length ≤ 35184372088832) : Ev (fun k => impl_isSought.f k n g a l) (okSearch n g a l) := by
  unfold impl_isSought.f okSearch
  refine Ev.bind (impl_isStart.ev n g a) ?_
  by_cases h : okStart n g a = true
  · have hb := okStart_b h
    refine ev_pos h ?_
    rw [h, Bool.true_and]
    exact Ev.bind (impl_Road_isSearch.ev g l ⟨hb.2.2.1, hb.2.2.2.1⟩ ⟨hb.2.2.2.2.1, hb.2.2.2.2.2⟩ hl) (ev_some rfl)
  · refine ev_neg h (ev_some ?_)
    rw [Bool.not_eq_true] at h
    rw [h, Bool.false_and]
theorem straight3_tot (a : Int) (l : List Int) (hl : l.length ≤ 100000) : ∃ r, Ev (fun k => spec_l3Straight.f k a l) r ∧ r.length ≤ l.length := by
  have main : ∀ (d i : Nat) (x : List Int), i + d = l.length → x.length ≤ i → ∃ r, Ev (fun k => spec_l3Straight.l0 k a l x i) r ∧ r.length ≤ l.length := by
    intro d
    induction d with
    | zero =>
      intro i x e hx
      exact ⟨x, Ev.step (fun k => by rw [spec_l3Straight.l0]) (ev_neg (by omega) (ev_some rfl)), by omega⟩
    | succ d ih =>
      intro i x e hx
      have e1 : wrap64 ((i : Int) + 1) = ((i + 1 : Nat) : Int) := by unfold wrap64; omega
      obtain ⟨r1, h1, g1⟩ := ih (i + 1) (x ++ [rd l i]) (by omega) (by simp; omega)
      obtain ⟨r2, h2, g2⟩ := ih (i + 1) x (by omega) (by omega)
      by_cases c : (((i + 1 : Nat) : Int)) = (l.length : Int)
      · refine ⟨r1, Ev.step (fun k => by rw [spec_l3Straight.l0]) ?_, g1⟩
        rw [e1]
        exact ev_pos (by omega) (ev_pos c (ev_pos (by omega) (ev_pos (by omega) h1)))
      · by_cases c2 : (decide (rd l i > a) != decide (rd l ((i + 1 : Nat) : Int) > a)) = true
        · refine ⟨r1, Ev.step (fun k => by rw [spec_l3Straight.l0]) ?_, g1⟩
          rw [e1]
          exact ev_pos (by omega) (ev_neg c (ev_pos (by omega) (ev_pos (by omega) (ev_pos (by omega) (ev_pos c2 (ev_pos (by omega) h1))))))
        · refine ⟨r2, Ev.step (fun k => by rw [spec_l3Straight.l0]) ?_, g2⟩
          rw [e1]
          exact ev_pos (by omega) (ev_neg c (ev_pos (by omega) (ev_pos (by omega) (ev_pos (by omega) (ev_neg c2 h2)))))
  unfold spec_l3Straight.f
  exact main l.length 0 [] (by omega) (by simp)
theorem turns3_loop (l : List Int) (hl8 : ∀ x ∈ l, 0 ≤ x ∧ x ≤ 255) {n a : Int} (hn : 2 ≤ n ∧ n ≤ 24) : ∀ (d : Nat) (low high : Int) (right : Bool) (out : List Int) (p s : Int), 0 ≤ low → high ≤ n - 1 → low ≤ 24 → 0 ≤ high →
    2 * (low + (n - 1 - high)) + (if right = true then (if high < n - 1 then 0 else 1) else (if low > 0 then 0 else 1)) ≤ d → out.length + d ≤ 1000 → 0 ≤ p → p + 4 * (d : Int) ≤ 600000000 →
    ∃ r p' s', Ev (fun k => spec_l1Cur_turns3.l0 k a low high right out l p s n false) (r, p', s') ∧ r.length ≤ out.length + d + 1 ∧ 0 ≤ p' ∧ p' ≤ p + 4 * d + 20 := by
  intro d
  induction d with
  | zero =>
    intro low high right out p s h0 h1 h2 h3 hm ho hp hp2
    exfalso
    cases right <;> simp at hm <;> omega
  | succ d ih =>
    intro low high right out p s h0 h1 h2 h3 hm ho hp hp2
    have en : wrap64 (n - 1) = n - 1 := w64 (by omega) (by omega)
    have ol : out.length < 17592186044416 := by omega
    by_cases c : low > 0 ∨ high < n - 1
    · -- one turn more
      have enter : ∀ r, Ev (fun k => spec_l1Cur_turns3.j1 k a low high right out true l p s n false) r → Ev (fun k => spec_l1Cur_turns3.l0 k a low high right out l p s n false) r := by
        intro r hr
        refine Ev.step (fun k => by rw [spec_l1Cur_turns3.l0]) ?_
        by_cases c1 : low > 0
        · exact ev_pos c1 hr
        · refine ev_neg c1 ?_
          rw [en, decide_eq_true (show high < n - 1 by omega)]
          exact hr
      have on3 : ∀ (hi : Int) (o : List Int) (q t : Int) r, Ev (fun k => spec_l1Cur_turns3.l0 k a low hi false o l q t n false) r → Ev (fun k => spec_l1Cur_turns3.j3 k a low hi true o l q t n false) r := by
        intro hi o q t r hr
        refine Ev.step (fun k => by rw [spec_l1Cur_turns3.j3]) (ev_pos rfl (Ev.step (fun k => by rw [spec_l1Cur_turns3.j4]) (ev_neg (by decide) ?_)))
        exact hr
      cases right with
      | true =>
        rw [if_pos rfl] at hm
        by_cases c2 : high < n - 1
        · rw [if_pos c2] at hm
          obtain ⟨v, p1, s1, e1, v0, v1, _, p2, p3⟩ := pick_tot l hl8 p s 5 (by omega)
          have v2 := v1 (by omega)
          have w1 : wrap64 (high + 1) = high + 1 := w64 (by omega) (by omega)
          have w2 : wrap64 (high + 1 + v) = high + 1 + v := w64 (by omega) (by omega)
          obtain ⟨r, p', s', h, g1, g2, g3⟩ := ih low (min (n - 1) (high + 1 + v)) false (out ++ [min (n - 1) (high + 1 + v)]) p1 s1 h0 (by omega) h2 (by omega) (by rw [if_neg (by decide)]; split <;> omega) (by rw [List.length_append, List.length_singleton]; omega) p2 (by omega)
          rw [List.length_append, List.length_singleton] at g1
          refine ⟨r, p', s', enter _ (Ev.step (fun k => by rw [spec_l1Cur_turns3.j1]) (ev_pos rfl (ev_pos rfl (Ev.step (fun k => by rw [spec_l1Cur_turns3.j2]) ?_)))), by omega, g2, by omega⟩
          rw [en, decide_eq_true c2]
          refine ev_pos rfl ?_
          rw [e1]
          simp only [Option.bind_some]
          rw [w1, w2, spec_l1Least.at]
          simp only [Option.bind_some]
          exact ev_pos ol (on3 _ _ _ _ _ h)
        · rw [if_neg c2] at hm
          obtain ⟨r, p', s', h, g1, g2, g3⟩ := ih low high false out p s h0 h1 h2 h3 (by rw [if_neg (by decide), if_pos (by omega)]; omega) (by omega) hp (by omega)
          refine ⟨r, p', s', enter _ (Ev.step (fun k => by rw [spec_l1Cur_turns3.j1]) (ev_pos rfl (ev_pos rfl (Ev.step (fun k => by rw [spec_l1Cur_turns3.j2]) ?_)))), by omega, g2, by omega⟩
          rw [en, decide_eq_false c2]
          exact ev_neg (by decide) (on3 _ _ _ _ _ h)
      | false =>
        rw [if_neg (by decide)] at hm
        by_cases c2 : low > 0
        · rw [if_pos c2] at hm
          obtain ⟨v, p1, s1, e1, v0, v1, _, p2, p3⟩ := pick_tot l hl8 p s 5 (by omega)
          have v2 := v1 (by omega)
          have w1 : wrap64 (low - 1) = low - 1 := w64 (by omega) (by omega)
          have w2 : wrap64 (low - 1 - v) = low - 1 - v := w64 (by omega) (by omega)
          obtain ⟨r, p', s', h, g1, g2, g3⟩ := ih (max 0 (low - 1 - v)) high true (out ++ [max 0 (low - 1 - v)]) p1 s1 (by omega) h1 (by omega) h3 (by rw [if_pos rfl]; split <;> omega) (by rw [List.length_append, List.length_singleton]; omega) p2 (by omega)
          rw [List.length_append, List.length_singleton] at g1
          refine ⟨r, p', s', enter _ (Ev.step (fun k => by rw [spec_l1Cur_turns3.j1]) (ev_pos rfl (ev_neg (by decide) (Ev.step (fun k => by rw [spec_l1Cur_turns3.j2]) (ev_neg (by decide) (Ev.step (fun k => by rw [spec_l1Cur_turns3.j3]) (ev_neg (by decide) (Ev.step (fun k => by rw [spec_l1Cur_turns3.j4]) ?_)))))))), by omega, g2, by omega⟩
          rw [decide_eq_true c2]
          refine ev_pos rfl ?_
          rw [e1]
          simp only [Option.bind_some]
          rw [w1, w2, spec_l1Most.at]
          simp only [Option.bind_some]
          exact ev_pos ol h
        · rw [if_neg c2] at hm
          obtain ⟨r, p', s', h, g1, g2, g3⟩ := ih low high true out p s h0 h1 h2 h3 (by rw [if_pos rfl, if_pos (by omega)]; omega) (by omega) hp (by omega)
          refine ⟨r, p', s', enter _ (Ev.step (fun k => by rw [spec_l1Cur_turns3.j1]) (ev_pos rfl (ev_neg (by decide) (Ev.step (fun k => by rw [spec_l1Cur_turns3.j2]) (ev_neg (by decide) (Ev.step (fun k => by rw [spec_l1Cur_turns3.j3]) (ev_neg (by decide) (Ev.step (fun k => by rw [spec_l1Cur_turns3.j4]) ?_)))))))), by omega, g2, by omega⟩
          rw [decide_eq_false c2]
          exact ev_neg (by decide) h
    · obtain ⟨b, p1, s1, e1, p2, p3⟩ := one_tot l hl8 p s 24 (by omega)
      have enter : ∀ r, Ev (fun k => if b = true then ((spec_l1Cur_among.f l p1 s1 [(-1), a, 0, 24]).bind fun bt336 => (if out.length < 17592186044416 then (some ((out ++ [bt336.1]), bt336.2.1, bt336.2.2)) else (none))) else ((spec_l3Straight.f k a out).bind fun t342 => (some (t342, p1, s1)))) r → Ev (fun k => spec_l1Cur_turns3.l0 k a low high right out l p s n false) r := by
        intro r hr
        refine Ev.step (fun k => by rw [spec_l1Cur_turns3.l0]) (ev_neg (by omega) ?_)
        rw [en, decide_eq_false (show ¬ (high < n - 1) by omega)]
        refine Ev.step (fun k => by rw [spec_l1Cur_turns3.j1]) (ev_neg (by decide) ?_)
        rw [e1]
        simp only [Option.bind_some]
        exact hr
      cases b with
      | true =>
        obtain ⟨v, p4, s4, e4, _, p5, p6⟩ := among_tot l hl8 p1 s1 [(-1), a, 0, 24] (by simp) (by omega)
        refine ⟨out ++ [v], p4, s4, enter _ (ev_pos rfl ?_), by rw [List.length_append, List.length_singleton]; omega, p5, by omega⟩
        rw [e4]
        exact ev_pos ol (ev_some rfl)
      | false =>
        obtain ⟨r, h, g⟩ := straight3_tot a out (by omega)
        exact ⟨r, p1, s1, enter _ (ev_neg (by decide) (Ev.bind h (ev_some rfl))), by omega, p2, by omega⟩
theorem turns3_tot (l : List Int) (hl8 : ∀ x ∈ l, 0 ≤ x ∧ x ≤ 255) (p s n : Int) (g : Bool) (a : Int) (h : 0 ≤ p ∧ p ≤ 100000) : ∃ r p' s', Ev (fun k => spec_l1Cur_turns3.f k l p s n g a) (r, p', s') ∧ r.length ≤ 200 ∧ 0 ≤ p' ∧ p' ≤ p + 1000 := by
  unfold spec_l1Cur_turns3.f
  rw [spec_l3Line.at]
  simp only [Option.bind_some]
  by_cases c : okStart n g a = true
  · obtain ⟨_, rfl, h2, h3, h4, h5⟩ := okStart_b c
    obtain ⟨b, p1, s1, e1, p2, p3⟩ := one_tot l hl8 p s 2 (by omega)
    obtain ⟨r, p', s', h6, g1, g2, g3⟩ := turns3_loop l hl8 (a := a) ⟨h2, h3⟩ 100 a a b [] p1 s1 (by omega) (by omega) (by omega) (by omega) (by split <;> split <;> omega) (by simp) p2 (by omega)
    refine ⟨r, p', s', ev_pos c ?_, by simp at g1; omega, g2, by omega⟩
    rw [e1]
    simp only [Option.bind_some]
    exact h6
  · exact ⟨[0, 1], p, s, ev_neg c (ev_some rfl), by simp, h.1, by omega⟩
theorem linePlace_tot (l : List Int) (hl8 : ∀ x ∈ l, 0 ≤ x ∧ x ≤ 255) (p s : Int) (h : 0 ≤ p ∧ p ≤ 100000) : ∃ n g a p' s', spec_l1Cur_linePlace.f l p s = some (n, g, a, p', s') ∧ (-1 ≤ n ∧ n ≤ 4611686018427387904) ∧ (-2 ≤ a ∧ a ≤ 4611686018427387904) ∧ 0 ≤ p' ∧ p' ≤ p + 100 := by
  unfold spec_l1Cur_linePlace.f spec_l1Cur_line.f
  obtain ⟨v, p1, s1, e1, v1, p2, p3⟩ := size_tot l hl8 p s (by omega)
  rw [e1]
  simp only [Option.bind_some]
  obtain ⟨b, p4, s4, e4, p5, p6⟩ := one_tot l hl8 p1 s1 24 (by omega)
  rw [e4]
  simp only [Option.bind_some]
  cases b with
  | true =>
    rw [if_pos rfl]
    obtain ⟨n, g, p7, s7, e7, n1, p8, p9⟩ := road_tot l hl8 p4 s4 (by omega)
    rw [e7]
    simp only [Option.bind_some]
    obtain ⟨a, q1, t1, e8, a1, q2, q3⟩ := placeOn_tot l hl8 p7 s7 n g n1 (by omega)
    rw [e8]
    exact ⟨n, g, a, q1, t1, rfl, n1, a1, q2, by omega⟩
  | false =>
    rw [if_neg (by decide)]
    obtain ⟨a, q1, t1, e8, a1, q2, q3⟩ := placeOn_tot l hl8 p4 s4 v false v1 (by omega)
    rw [e8]
    exact ⟨v, false, a, q1, t1, rfl, v1, a1, q2, by omega⟩
theorem hefts3_tot (l : List Int) (hl8 : ∀ x ∈ l, 0 ≤ x ∧ x ≤ 255) (p s n : Int) (g : Bool) (h : 0 ≤ p ∧ p ≤ 100000) : ∃ r p' s', Ev (fun k => spec_l1Cur_hefts3.f k l p s n g) (r, p', s') ∧ r.length ≤ 200 ∧ 0 ≤ p' ∧ p' ≤ p + 1000 := by
  have fin : ∀ (x : List Int) (p s : Int), x.length ≤ 100 → 0 ≤ p ∧ p ≤ 200000 → ∃ r p' s', Ev (fun k => spec_l1Cur_hefts3.j1 k x l p s) (r, p', s') ∧ r.length ≤ 200 ∧ 0 ≤ p' ∧ p' ≤ p + 10 := by
    intro x p s hx h
    obtain ⟨b, p1, s1, e1, h1, h2⟩ := one_tot l hl8 p s 24 (by omega)
    cases b with
    | true =>
      obtain ⟨v, p2, s2, e2, hv, h3, h4⟩ := among_tot l hl8 p1 s1 [0, (-1), 100] (by simp) (by omega)
      refine ⟨x ++ [v], p2, s2, Ev.step (fun k => by rw [spec_l1Cur_hefts3.j1]) ?_, by simp; omega, h3, by omega⟩
      rw [e1]
      simp only [Option.bind_some]
      refine ev_pos (by first | rfl | trivial) ?_
      rw [e2]
      exact ev_pos (by omega) (ev_some rfl)
    | false =>
      refine ⟨x, p1, s1, Ev.step (fun k => by rw [spec_l1Cur_hefts3.j1]) ?_, by omega, h1, by omega⟩
      rw [e1]
      simp only [Option.bind_some]
      exact ev_neg (by decide) (ev_some rfl)
  have main : ∀ (d i : Nat) (x : List Int) (p s : Int), i + d = 25 → x.length ≤ i → 0 ≤ p ∧ p ≤ 100000 + 4 * i → ∃ r p' s', Ev (fun k => spec_l1Cur_hefts3.l0 k x i l p s n g) (r, p', s') ∧ r.length ≤ 200 ∧ 0 ≤ p' ∧ p' ≤ p + 4 * d + 10 := by
    intro d
    induction d with
    | zero =>
      intro i x p s e hx h
      obtain ⟨r, p', s', h1, h2, h3, h4⟩ := fin x p s (by omega) (by omega)
      refine ⟨r, p', s', Ev.step (fun k => by rw [spec_l1Cur_hefts3.l0]) ?_, h2, h3, by omega⟩
      by_cases c : (i : Int) < n
      · exact ev_pos c (ev_neg (by omega) h1)
      · exact ev_neg c h1
    | succ d ih =>
      intro i x p s e hx h
      by_cases c : (i : Int) < n
      · obtain ⟨v, p2, s2, e2, hv, h3, h4⟩ := among_tot l hl8 p s [1, 0, 2, 5, 1, 9] (by simp) (by omega)
        obtain ⟨r, p', s', h5, h6, h7, h8⟩ := ih (i + 1) (x ++ [v]) p2 s2 (by omega) (by simp; omega) (by omega)
        refine ⟨r, p', s', Ev.step (fun k => by rw [spec_l1Cur_hefts3.l0]) (ev_pos c (ev_pos (by omega) ?_)), h6, h7, by omega⟩
        rw [e2]
        simp only [Option.bind_some]
        refine ev_pos (by omega) ?_
        rw [w64 (x := (i : Int) + 1) (by omega) (by omega)]
        exact h5
      · obtain ⟨r, p', s', h1, h2, h3, h4⟩ := fin x p s (by omega) (by omega)
        exact ⟨r, p', s', Ev.step (fun k => by rw [spec_l1Cur_hefts3.l0]) (ev_neg c h1), h2, h3, by omega⟩
  unfold spec_l1Cur_hefts3.f
  obtain ⟨r, p', s', h1, h2, h3, h4⟩ := main 25 0 [] p s (by omega) (by simp) (by omega)
  exact ⟨r, p', s', h1, h2, h3, by omega⟩
theorem shortLine_tot (l : List Int) (hl8 : ∀ x ∈ l, 0 ≤ x ∧ x ≤ 255) (p s : Int) (h : 0 ≤ p ∧ p ≤ 10000) : ∃ n g a p' s', spec_l1Cur_shortLine.f l p s = some (n, g, a, p', s') ∧ (-1 ≤ n ∧ n ≤ 4611686018427387904) ∧ (-2 ≤ a ∧ a ≤ 4611686018427387904) ∧ 0 ≤ p' ∧ p' ≤ p + 200 := by
  unfold spec_l1Cur_shortLine.f
  obtain ⟨b, p1, s1, e1, h1, h2⟩ := one_tot l hl8 p s 12 (by omega)
  rw [e1]
  simp only [Option.bind_some]
  cases b with
  | true =>
    rw [if_pos rfl]
    obtain ⟨n, g, a, p2, s2, e2, hn, ha, h3, h4⟩ := linePlace_tot l hl8 p1 s1 (by omega)
    rw [e2]
    exact ⟨n, g, a, p2, s2, rfl, hn, ha, h3, by omega⟩
  | false =>
    rw [if_neg (by decide)]
    obtain ⟨v, p2, s2, e2, hv, h3, h4⟩ := among_tot l hl8 p1 s1 [5, 4, 6, 3, 7, 2, 8, 10] (by simp) (by omega)
    have hv2 : -1 ≤ v ∧ v ≤ 4611686018427387904 := by
      simp at hv
      omega
    rw [e2]
    simp only [Option.bind_some]
    obtain ⟨a, p3, s3, e3, ha, h5, h6⟩ := placeOn_tot l hl8 p2 s2 v false hv2 (by omega)
    rw [e3]
    exact ⟨v, false, a, p3, s3, rfl, hv2, ha, h5, by omega⟩
theorem drawSearchLoad_tot (l : List Int) (hl8 : ∀ x ∈ l, 0 ≤ x ∧ x ≤ 255) : ∃ n g a t e, Ev (fun k => spec_DrawSearchLoad.f k l) (n, g, a, t, e) ∧ t.length ≤ 200 ∧ e.length ≤ 200 := by
  unfold spec_DrawSearchLoad.f spec_DrawSearchLoad.inn
  obtain ⟨n, g, a, p1, s1, e1, _, _, p2, p3⟩ := linePlace_tot l hl8 0 0 (by omega)
  obtain ⟨t, p4, s4, e4, t1, p5, p6⟩ := turns3_tot l hl8 p1 s1 n g a (by omega)
  obtain ⟨e, p7, s7, e7, t2, _, _⟩ := hefts3_tot l hl8 p4 s4 n g (by omega)
  refine ⟨n, g, a, t, e, ?_, t1, t2⟩
  rw [e1]
  simp only [Option.bind_some]
  exact Ev.bind (a := (n, g, a, t, e, p7, s7)) (Ev.bind e4 (Ev.bind e7 (ev_some rfl))) (ev_some rfl)
theorem drawLeastLoad_tot (l : List Int) (hl8 : ∀ x ∈ l, 0 ≤ x ∧ x ≤ 255) : ∃ n g a e, Ev (fun k => spec_DrawLeastLoad.f k l) (n, g, a, e) ∧ e.length ≤ 200 := by
  unfold spec_DrawLeastLoad.f spec_DrawLeastLoad.inn
  obtain ⟨n, g, a, p1, s1, e1, _, _, p2, p3⟩ := shortLine_tot l hl8 0 0 (by omega)
  obtain ⟨e, p7, s7, e7, t2, _, _⟩ := hefts3_tot l hl8 p1 s1 n g (by omega)
  refine ⟨n, g, a, e, ?_, t2⟩
  rw [e1]
  simp only [Option.bind_some]
  exact Ev.bind (a := (n, g, a, e, p7, s7)) (Ev.bind e7 (ev_some rfl)) (ev_some rfl)
/-- Unit steps from a place on. -/
def way (s : Int) : Int → Nat → List Int
  | _, 0 => []
  | a, m + 1 => (a + s) :: way s (a + s) m
theorem way_length (s : Int) : ∀ (m : Nat) (a : Int), (way s a m).length = m
  | 0, _ => rfl
  | m + 1, a => by rw [way, List.length_cons, way_length s m]
theorem straight_line {n : Int} (hn : 2 ≤ n ∧ n ≤ 24) {s tgt : Int} (hs : s = 1 ∨ s = -1) (hto : 0 ≤ tgt ∧ tgt ≤ n - 1) : ∀ (m : Nat) (at_ : Int) (x : List Int), (s = 1 ∧ tgt = at_ + m ∨ s = -1 ∧ tgt = at_ - m) → 0 ≤ at_ → at_ ≤ n - 1 → x.length + m ≤ 35184372088 →
    Ev (fun k => impl_Road_straight.l0 k x tgt at_ s n false) (x ++ way s at_ m) := by
  intro m
  induction m with
  | zero =>
    intro at_ x e h0 h1 hx
    refine Ev.step (fun k => by rw [impl_Road_straight.l0]) (ev_pos (by omega) (ev_some ?_))
    simp [way]
  | succ m ih =>
    intro at_ x e h0 h1 hx
    refine Ev.step (fun k => by rw [impl_Road_straight.l0]) (ev_neg (by omega) (ev_neg (by omega) (ev_pos (by omega) ?_)))
    have e1 : Int.tmod (wrap64 (wrap64 (at_ + s) + n)) n = at_ + s := by
      rw [w64 (x := at_ + s) (by omega) (by omega), w64 (by omega) (by omega), Int.tmod_eq_emod_of_nonneg (by omega), Int.add_emod_right, Int.emod_eq_of_lt (by omega) (by omega)]
    rw [e1, way]
    have := ih (at_ + s) (x ++ [at_ + s]) (by omega) (by omega) (by omega) (by simp; omega)
    simpa using this
/-- The way to a place: the steps and how many. -/
theorem straight_ev {n : Int} (hn : 2 ≤ n ∧ n ≤ 24) {tgt a : Int} (hto : 0 ≤ tgt ∧ tgt ≤ n - 1) (ha : 0 ≤ a ∧ a ≤ n - 1) (l : List Int) (hl : l.length ≤ 351843720) (h0 : l ≠ []) (hlast : l.getLast h0 = a) :
    ∃ (s : Int) (m : Nat), (s = 1 ∧ tgt = a + m ∨ s = -1 ∧ tgt = a - m) ∧ Ev (fun k => impl_Road_straight.f k n false l tgt) (l ++ way s a m) := by
  have hp : 0 < l.length := List.length_pos_iff.2 h0
  have e0 : wrap64 ((l.length : Int) - 1) = ((l.length - 1 : Nat) : Int) := by unfold wrap64; omega
  have e1 : rd l ((l.length - 1 : Nat) : Int) = a := by
    rw [rd_get rfl (by omega), ← List.getLast_eq_getElem (h := h0)]
    exact hlast
  unfold impl_Road_straight.f
  rw [e0, e1, w64 (x := tgt - a) (by omega) (by omega)]
  by_cases c : tgt - a < 0
  · refine ⟨-1, (a - tgt).toNat, .inr ⟨rfl, by omega⟩, ?_⟩
    refine ev_pos (by omega) (ev_pos (by omega) (ev_neg (by simp) (ev_pos c ?_)))
    refine Ev.step (fun k => by rw [impl_Road_straight.j0]) ?_
    exact straight_line hn (.inr rfl) hto _ _ _ (.inr ⟨rfl, by omega⟩) ha.1 ha.2 (by omega)
  · refine ⟨1, (tgt - a).toNat, .inl ⟨rfl, by omega⟩, ?_⟩
    refine ev_pos (by omega) (ev_pos (by omega) (ev_neg (by simp) (ev_neg c ?_)))
    refine Ev.step (fun k => by rw [impl_Road_straight.j0]) ?_
    exact straight_line hn (.inl rfl) hto _ _ _ (.inl ⟨rfl, by omega⟩) ha.1 ha.2 (by omega)
theorem rd_set (l : List Int) {i q v : Int} (hi : 0 ≤ i ∧ i < l.length) (hq : 0 ≤ q) : rd (l.set i.toNat v) q = if q = i then v else rd l q := by
  unfold rd
  rw [List.getD_eq_getElem?_getD, List.getD_eq_getElem?_getD]
  by_cases c : q = i
  · subst c
    rw [if_pos rfl, List.getElem?_set_self (by omega)]
    rfl
  · rw [if_neg c, List.getElem?_set_ne (by omega)]
theorem rd_ext {a b : List Int} (hl : a.length = b.length) (h : ∀ q : Int, 0 ≤ q → q < a.length → rd a q = rd b q) : a = b := by
  refine List.ext_getElem hl fun j h1 h2 => ?_
  have := h (j : Int) (by omega) (by omega)
  rwa [rd_get rfl h1, rd_get rfl h2] at this
theorem srch_cons {n a : Int} {pr : Option Bool} {low high p : Int} {t : List Int} (h : srch n a pr low high (p :: t) = true) :
    0 ≤ p ∧ p ≤ n - 1 ∧ (p > a → p > high) ∧ (¬ p > a → p < low) ∧ srch n a (some (decide (p > a))) (if p > a then low else p) (if p > a then p else high) t = true := by
  unfold srch at h
  by_cases c : 0 ≤ p ∧ p ≤ n - 1 ∧ p ≠ a ∧ pr ≠ some (decide (p > a)) ∧ (p > a → p > high) ∧ (¬ p > a → p < low)
  · rw [if_pos c] at h
    exact ⟨c.1, c.2.1, c.2.2.2.2.1, c.2.2.2.2.2, h⟩
  · rw [if_neg c] at h
    cases h
theorem srch_nil {n a : Int} {pr : Option Bool} {low high : Int} (h : srch n a pr low high [] = true) : low = 0 ∧ high = n - 1 := by
  unfold srch at h
  simpa using h
theorem spec_l3Times.right {n : Int} (l : List Int) (x3 now at_ low p : Int) (i : Nat) (hi : i < l.length) (hp : rd l i = p) (hn : 2 ≤ n ∧ n ≤ 24) (hpn : 0 ≤ p ∧ p ≤ n - 1) (hat : 0 ≤ at_ ∧ at_ ≤ n - 1) (hnow : 0 ≤ now ∧ now ≤ 1000000000000) :
    ∀ (d : Nat) (high : Int) (S : List Int), high + d = p → 0 ≤ high → S.length = n →
      ∃ S' : List Int, S'.length = n ∧ (∀ q, 0 ≤ q → q < n → (high < q ∧ q ≤ p → rd S' q = now + q - at_) ∧ (¬ (high < q ∧ q ≤ p) → rd S' q = rd S q)) ∧
        ∀ r, Ev (fun k => spec_l3Times.l2 k l x3 S' now at_ low p i) r → Ev (fun k => spec_l3Times.l1 k l x3 S now at_ low high i) r := by
  intro d
  induction d with
  | zero =>
    intro high S e h0 hS
    refine ⟨S, hS, fun q h1 h2 => ⟨fun c => by omega, fun _ => rfl⟩, fun r hr => ?_⟩
    refine Ev.step (fun k => by rw [spec_l3Times.l1]) (ev_pos (by omega) (ev_pos (by omega) ?_))
    rw [hp]
    refine ev_neg (by omega) ?_
    rw [show high = p from by omega]
    exact hr
  | succ d ih =>
    intro high S e h0 hS
    obtain ⟨S', h1, h2, h3⟩ := ih (high + 1) (S.set (high + 1).toNat (now + (high + 1) - at_)) (by omega) (by omega) (by simpa using hS)
    refine ⟨S', h1, fun q hq hq2 => ?_, fun r hr => ?_⟩
    · have h2 := h2 q hq hq2
      have := rd_set S (i := high + 1) (q := q) (v := now + (high + 1) - at_) ⟨by omega, by omega⟩ hq
      by_cases c : q = high + 1
      · rw [if_pos c] at this
        refine ⟨fun _ => ?_, fun c2 => by omega⟩
        rw [h2.2 (by omega), this, c]
      · rw [if_neg c] at this
        refine ⟨fun c2 => h2.1 (by omega), fun c2 => ?_⟩
        rw [h2.2 (by omega), this]
    · refine Ev.step (fun k => by rw [spec_l3Times.l1]) (ev_pos (by omega) (ev_pos (by omega) ?_))
      rw [hp, w64 (x := high + 1) (by omega) (by omega), w64 (x := now + (high + 1)) (by omega) (by omega), w64 (x := now + (high + 1) - at_) (by omega) (by omega)]
      refine ev_pos (by omega) (ev_pos (by omega) (ev_pos (by omega) ?_))
      exact h3 r hr
theorem spec_l3Times.left {n : Int} (l : List Int) (x3 now at_ high p : Int) (i : Nat) (hl : l.length ≤ 35184372088832) (hi : i < l.length) (hp : rd l i = p) (hn : 2 ≤ n ∧ n ≤ 24) (hpn : 0 ≤ p ∧ p ≤ n - 1) (hat : 0 ≤ at_ ∧ at_ ≤ n - 1) (hnow : 0 ≤ now ∧ now ≤ 1000000000000) (h3 : 0 ≤ x3 ∧ x3 ≤ 9) :
    ∀ (d : Nat) (low : Int) (S : List Int), low = p + d → low ≤ n → S.length = n →
      ∃ S' : List Int, S'.length = n ∧ (∀ q, 0 ≤ q → q < n → (p ≤ q ∧ q < low → rd S' q = now + at_ - q) ∧ (¬ (p ≤ q ∧ q < low) → rd S' q = rd S q)) ∧
        ∀ r, Ev (fun k => spec_l3Times.l0 k l x3 S' (now + max (p - at_) (at_ - p) + x3) p p high ((i + 1 : Nat) : Int)) r → Ev (fun k => spec_l3Times.l2 k l x3 S now at_ low high i) r := by
  intro d
  induction d with
  | zero =>
    intro low S e h0 hS
    refine ⟨S, hS, fun q h1 h2 => ⟨fun c => by omega, fun _ => rfl⟩, fun r hr => ?_⟩
    refine Ev.step (fun k => by rw [spec_l3Times.l2]) (ev_pos (by omega) (ev_pos (by omega) ?_))
    rw [hp]
    refine ev_neg (by omega) ?_
    rw [show low = p from by omega, w64 (x := p - at_) (by omega) (by omega), w64 (x := at_ - p) (by omega) (by omega), spec_l1Most.at, w64 (x := (i : Int) + 1) (by omega) (by omega)]
    simp only [Option.bind_some]
    rw [w64 (x := now + max (p - at_) (at_ - p)) (by omega) (by omega), w64 (x := now + max (p - at_) (at_ - p) + x3) (by omega) (by omega)]
    exact hr
  | succ d ih =>
    intro low S e h0 hS
    obtain ⟨S', h1, h2, h3⟩ := ih (low - 1) (S.set (low - 1).toNat (now + at_ - (low - 1))) (by omega) (by omega) (by simpa using hS)
    refine ⟨S', h1, fun q hq hq2 => ?_, fun r hr => ?_⟩
    · have h2 := h2 q hq hq2
      have := rd_set S (i := low - 1) (q := q) (v := now + at_ - (low - 1)) ⟨by omega, by omega⟩ hq
      by_cases c : q = low - 1
      · rw [if_pos c] at this
        refine ⟨fun _ => ?_, fun c2 => by omega⟩
        rw [h2.2 (by omega), this, c]
      · rw [if_neg c] at this
        refine ⟨fun c2 => h2.1 (by omega), fun c2 => ?_⟩
        rw [h2.2 (by omega), this]
    · refine Ev.step (fun k => by rw [spec_l3Times.l2]) (ev_pos (by omega) (ev_pos (by omega) ?_))
      rw [hp, w64 (x := low - 1) (by omega) (by omega), w64 (x := now + at_) (by omega) (by omega), w64 (x := now + at_ - (low - 1)) (by omega) (by omega)]
      refine ev_pos (by omega) (ev_pos (by omega) (ev_pos (by omega) ?_))
      exact h3 r hr
/-- The program's way: it marks what is not marked yet. -/
theorem impl_times.go {n : Int} (l y : List Int) (x3 tgt s : Int) (i : Nat) (hl : l.length ≤ 35184372088832) (hi : i < l.length) (hn : 2 ≤ n ∧ n ≤ 24) (hs : s = 1 ∨ s = -1) (hy : y.length ≤ 1000) :
    ∀ (d j : Nat) (at_ time : Int) (M : List Int), j + d = y.length → y.drop j = way s at_ d → 0 ≤ at_ → at_ ≤ n - 1 → (s = 1 ∧ at_ + d ≤ n - 1 ∨ s = -1 ∧ 0 ≤ at_ - d) → 0 ≤ time → time + d ≤ 1000000000000 → M.length = n →
      ∃ M' : List Int, M'.length = n ∧ (∀ q, 0 ≤ q → q < n → ((s = 1 ∧ at_ < q ∧ q ≤ at_ + d ∨ s = -1 ∧ at_ - d ≤ q ∧ q < at_) ∧ rd M q < 0 → rd M' q = time + max (q - at_) (at_ - q)) ∧ (¬ ((s = 1 ∧ at_ < q ∧ q ≤ at_ + d ∨ s = -1 ∧ at_ - d ≤ q ∧ q < at_) ∧ rd M q < 0) → rd M' q = rd M q)) ∧
        ∀ r, Ev (fun k => impl_Road_times.l1 k x3 M' (time + d) tgt l l.length ((i + 1 : Nat) : Int) n false) r → Ev (fun k => impl_Road_times.l2 k x3 M time tgt l l.length i y y.length j n false) r := by
  intro d
  induction d with
  | zero =>
    intro j at_ time M e ey h0 h1 hb ht ht2 hM
    refine ⟨M, hM, fun q h1 h2 => ⟨fun c => by omega, fun _ => rfl⟩, fun r hr => ?_⟩
    refine Ev.step (fun k => by rw [impl_Road_times.l2]) (ev_neg (by omega) ?_)
    rw [w64 (x := (i : Int) + 1) (by omega) (by omega)]
    simpa using hr
  | succ d ih =>
    intro j at_ time M e ey h0 h1 hb ht ht2 hM
    have hj : j < y.length := by omega
    rw [List.drop_eq_getElem_cons hj, way] at ey
    have ey1 := (List.cons.inj ey).1
    have ey2 := (List.cons.inj ey).2
    have hrd : rd y j = at_ + s := by rw [rd_get rfl hj]; exact ey1
    by_cases c : rd M (at_ + s) < 0
    · obtain ⟨M', h2, h3, h4⟩ := ih (j + 1) (at_ + s) (time + 1) (M.set (at_ + s).toNat (time + 1)) (by omega) ey2 (by omega) (by omega) (by omega) (by omega) (by omega) (by simpa using hM)
      refine ⟨M', h2, fun q hq hq2 => ?_, fun r hr => ?_⟩
      · have h3 := h3 q hq hq2
        have := rd_set M (i := at_ + s) (q := q) (v := time + 1) ⟨by omega, by omega⟩ hq
        by_cases c2 : q = at_ + s
        · rw [if_pos c2] at this
          subst c2
          have h5 := h3.2 (by omega)
          exact ⟨fun _ => by omega, fun c3 => by omega⟩
        · rw [if_neg c2] at this
          rw [this] at h3
          exact ⟨fun c3 => by rw [h3.1 (by omega)]; omega, fun c3 => h3.2 (by omega)⟩
      · refine Ev.step (fun k => by rw [impl_Road_times.l2]) (ev_pos (by omega) (ev_pos (by omega) (ev_pos (by omega) ?_)))
        rw [hrd, w64 (x := time + 1) (by omega) (by omega), w64 (x := (j : Int) + 1) (by omega) (by omega)]
        refine ev_pos (by omega) (ev_pos (by omega) (ev_pos c ?_))
        exact h4 r (by rw [show time + 1 + (d : Int) = time + ((d + 1 : Nat) : Int) from by omega]; exact hr)
    · obtain ⟨M', h2, h3, h4⟩ := ih (j + 1) (at_ + s) (time + 1) M (by omega) ey2 (by omega) (by omega) (by omega) (by omega) (by omega) hM
      refine ⟨M', h2, fun q hq hq2 => ?_, fun r hr => ?_⟩
      · have h3 := h3 q hq hq2
        by_cases c2 : q = at_ + s
        · subst c2
          have h5 := h3.2 (by omega)
          exact ⟨fun _ => by omega, fun c3 => by omega⟩
        · exact ⟨fun c3 => by rw [h3.1 (by omega)]; omega, fun c3 => h3.2 (by omega)⟩
      · refine Ev.step (fun k => by rw [impl_Road_times.l2]) (ev_pos (by omega) (ev_pos (by omega) (ev_pos (by omega) ?_)))
        rw [hrd, w64 (x := time + 1) (by omega) (by omega), w64 (x := (j : Int) + 1) (by omega) (by omega)]
        refine ev_pos (by omega) (ev_pos (by omega) (ev_neg c ?_))
        exact h4 r (by rw [show time + 1 + (d : Int) = time + ((d + 1 : Nat) : Int) from by omega]; exact hr)
theorem times_both {n : Int} {a : Int} (l : List Int) (x3 : Int) (hl : l.length ≤ 1048576) (hn : 2 ≤ n ∧ n ≤ 24) (hx3 : 0 ≤ x3 ∧ x3 ≤ 9) :
    ∀ (d i : Nat) (pr : Option Bool) (low high at_ now time : Int) (S M : List Int), i + d = l.length → srch n a pr low high (l.drop i) = true → 0 ≤ low → low ≤ at_ → at_ ≤ high → high ≤ n - 1 → low ≤ a → a ≤ high → S.length = n → M.length = n →
      (∀ q, low ≤ q → q ≤ high → rd S q = rd M q ∧ 0 ≤ rd M q ∧ rd M q ≤ 100000000 ∧ (q ≠ a → 0 < rd M q)) → (∀ q, 0 ≤ q → q < n → ¬ (low ≤ q ∧ q ≤ high) → rd M q < 0) → (i = 0 ∧ now = time ∨ 0 < i ∧ now = time + x3) → 0 ≤ time → 0 ≤ now → now ≤ 40 * i →
      ∃ r : List Int, Ev (fun k => spec_l3Times.l0 k l x3 S now at_ low high i) r ∧ Ev (fun k => impl_Road_times.l1 k x3 M time at_ l l.length i n false) r ∧ r.length = n ∧ ∀ q, 0 ≤ q → q < n → q ≠ a → 0 < rd r q ∧ rd r q ≤ 100000000 := by
  intro d
  induction d with
  | zero =>
    intro i pr low high at_ now time S M e hs h0 h1 h2 h3 h4 h5 hS hM hin hout hnow ht hw hw2
    rw [List.drop_eq_nil_of_le (by omega)] at hs
    have hs := srch_nil hs
    refine ⟨S, Ev.step (fun k => by rw [spec_l3Times.l0]) (ev_neg (by omega) (ev_some rfl)), Ev.step (fun k => by rw [impl_Road_times.l1]) (ev_neg (by omega) (ev_some ?_)), hS, fun q hq hq2 hqa => by
      have h6 := hin q (by omega) (by omega)
      have h7 := h6.2.2.2 hqa
      omega⟩
    exact (rd_ext (by omega) fun q hq hq2 => (hin q (by omega) (by omega)).1).symm
  | succ d ih =>
    intro i pr low high at_ now time S M e hs h0 h1 h2 h3 h4 h5 hS hM hin hout hnow ht hw hw2
    have hi : i < l.length := by omega
    rw [List.drop_eq_getElem_cons hi] at hs
    obtain ⟨p0, p1, p2, p3, hs⟩ := srch_cons hs
    have hrd : rd l i = l[i] := rd_get rfl hi
    generalize hp : l[i] = p at *
    -- the program's turn
    obtain ⟨s, m, hsm, hway⟩ := straight_ev hn (tgt := p) (a := at_) ⟨p0, p1⟩ (by omega) [at_] (by simp) (by simp) rfl
    obtain ⟨M', m1, m2, m3⟩ := impl_times.go (n := n) l (way s at_ m) x3 p s i (by omega) hi hn (by omega) (by rw [way_length]; omega) m 0 at_ now M (by rw [way_length]; omega) rfl (by omega) (by omega) (by omega) hw (by omega) hM
    have himpl : ∀ r, Ev (fun k => impl_Road_times.l1 k x3 M' (now + m) p l l.length ((i + 1 : Nat) : Int) n false) r → Ev (fun k => impl_Road_times.l1 k x3 M time at_ l l.length i n false) r := by
      intro r hr
      have hj : Ev (fun k => impl_Road_times.j2 k x3 M now at_ p l l.length i n false) r := by
        refine Ev.step (fun k => by rw [impl_Road_times.j2]) (Ev.bind hway ?_)
        refine ev_pos (by simp; omega) ?_
        simp only [Option.bind_some, List.singleton_append, List.drop_succ_cons, List.drop_zero]
        exact m3 r hr
      refine Ev.step (fun k => by rw [impl_Road_times.l1]) (ev_pos (by omega) (ev_pos (by omega) (ev_pos (by omega) ?_)))
      rw [hrd]
      by_cases c : (i : Int) > 0
      · refine ev_pos c ?_
        rw [w64 (x := time + x3) (by omega) (by omega), show time + x3 = now from by omega]
        exact hj
      · refine ev_neg c ?_
        rw [show time = now from by omega]
        exact hj
    by_cases hpa : p > a
    · have hph := p2 hpa
      rw [if_pos hpa, if_pos hpa] at hs
      obtain ⟨S1, s1, s2, s3⟩ := spec_l3Times.right (n := n) l x3 now at_ low p i hi hrd hn ⟨p0, p1⟩ (by omega) ⟨hw, by omega⟩ (p - high).toNat high S (by omega) (by omega) hS
      have s4 : ∀ r, Ev (fun k => spec_l3Times.l0 k l x3 S1 (now + max (p - at_) (at_ - p) + x3) p low p ((i + 1 : Nat) : Int)) r → Ev (fun k => spec_l3Times.l2 k l x3 S1 now at_ low p i) r := by
        intro r hr
        refine Ev.step (fun k => by rw [spec_l3Times.l2]) (ev_pos (by omega) (ev_pos (by omega) ?_))
        rw [hrd]
        refine ev_neg (by omega) ?_
        rw [w64 (x := p - at_) (by omega) (by omega), w64 (x := at_ - p) (by omega) (by omega), spec_l1Most.at, w64 (x := (i : Int) + 1) (by omega) (by omega)]
        simp only [Option.bind_some]
        rw [w64 (x := now + max (p - at_) (at_ - p)) (by omega) (by omega), w64 (x := now + max (p - at_) (at_ - p) + x3) (by omega) (by omega)]
        exact hr
      have hmax : now + max (p - at_) (at_ - p) + x3 = now + m + x3 := by omega
      rw [hmax] at s4
      obtain ⟨r, r1, r2, r3⟩ := ih (i + 1) _ low p p (now + m + x3) (now + m) S1 M' (by omega) hs h0 (by omega) (by omega) p1 h4 (by omega) s1 m1
        (fun q q1 q2 => by
          have a1 := s2 q (by omega) (by omega)
          have a2 := m2 q (by omega) (by omega)
          by_cases c : q ≤ high
          · have b1 := hin q q1 c
            rw [a1.2 (by omega), a2.2 (by omega)]
            exact b1
          · have b1 := hout q (by omega) (by omega) (by omega)
            rw [a1.1 (by omega), a2.1 (by omega)]
            omega)
        (fun q q1 q2 q3 => by
          have a2 := m2 q (by omega) (by omega)
          rw [a2.2 (by omega)]
          exact hout q q1 q2 (by omega))
        (.inr ⟨by omega, rfl⟩) (by omega) (by omega) (by omega)
      refine ⟨r, ?_, himpl r r2, r3⟩
      refine Ev.step (fun k => by rw [spec_l3Times.l0]) (ev_pos (by omega) ?_)
      exact s3 r (s4 r r1)
    · have hpl := p3 hpa
      rw [if_neg hpa, if_neg hpa] at hs
      obtain ⟨S1, s1, s2, s3⟩ := spec_l3Times.left (n := n) l x3 now at_ high p i (by omega) hi hrd hn ⟨p0, p1⟩ (by omega) ⟨hw, by omega⟩ hx3 (low - p).toNat low S (by omega) (by omega) hS
      have hmax : now + max (p - at_) (at_ - p) + x3 = now + m + x3 := by omega
      rw [hmax] at s3
      obtain ⟨r, r1, r2, r3⟩ := ih (i + 1) _ p high p (now + m + x3) (now + m) S1 M' (by omega) hs p0 (by omega) (by omega) h3 (by omega) h5 s1 m1
        (fun q q1 q2 => by
          have a1 := s2 q (by omega) (by omega)
          have a2 := m2 q (by omega) (by omega)
          by_cases c : low ≤ q
          · have b1 := hin q c q2
            rw [a1.2 (by omega), a2.2 (by omega)]
            exact b1
          · have b1 := hout q (by omega) (by omega) (by omega)
            rw [a1.1 (by omega), a2.1 (by omega)]
            omega)
        (fun q q1 q2 q3 => by
          have a2 := m2 q (by omega) (by omega)
          rw [a2.2 (by omega)]
          exact hout q q1 q2 (by omega))
        (.inr ⟨by omega, rfl⟩) (by omega) (by omega) (by omega)
      refine ⟨r, ?_, himpl r r2, r3⟩
      refine Ev.step (fun k => by rw [spec_l3Times.l0]) (ev_pos (by omega) ?_)
      refine Ev.step (fun k => by rw [spec_l3Times.l1]) (ev_pos (by omega) (ev_pos (by omega) ?_))
      rw [hrd]
      refine ev_neg (by omega) ?_
      exact s3 r r1
/-- Both times of a search are the same list, greater than 0 but at the start. -/
theorem times_evp {n a : Int} {l : List Int} {x3 : Int} (hl : l.length ≤ 1048576) (h : okSearch n false a l = true) (hx3 : 0 ≤ x3 ∧ x3 ≤ 9) :
    ∃ r : List Int, Ev (fun k => spec_l3Times.f k n false a l x3) r ∧ Ev (fun k => impl_Road_times.f k n false a l x3) r ∧ r.length = n ∧ ∀ q, 0 ≤ q → q < n → q ≠ a → 0 < rd r q ∧ rd r q ≤ 100000000 := by
  simp only [okSearch, Bool.and_eq_true] at h
  have hb := okStart_b h.1
  have hn : 2 ≤ n ∧ n ≤ 24 := ⟨hb.2.2.1, hb.2.2.2.1⟩
  have ha : 0 ≤ a ∧ a ≤ n - 1 := hb.2.2.2.2
  have hrep : (List.replicate n.toNat (0 : Int)).length = n.toNat := by simp
  have hz : ∀ q : Int, rd (List.replicate n.toNat (0 : Int)) q = 0 := by
    intro q
    simp [rd, List.getD_eq_getElem?_getD, List.getElem?_replicate]
    split <;> rfl
  have hmin : ∀ (d i : Nat) (M : List Int), i + d = n.toNat → M.length = n → (∀ q : Int, 0 ≤ q → q < i → rd M q = -1) →
      ∃ M' : List Int, M'.length = n ∧ (∀ q, 0 ≤ q → q < n → rd M' q = if q = a then 0 else -1) ∧
        ∀ r, Ev (fun k => impl_Road_times.l1 k x3 M' 0 a l l.length 0 n false) r → Ev (fun k => impl_Road_times.l0 k a l x3 M (n.toNat : Int) i n false) r := by
    intro d
    induction d with
    | zero =>
      intro i M e hM hq
      refine ⟨M.set a.toNat 0, by simpa using hM, fun q h1 h2 => ?_, fun r hr => ?_⟩
      · rw [rd_set M ⟨ha.1, by omega⟩ h1, hq q h1 (by omega)]
      · refine Ev.step (fun k => by rw [impl_Road_times.l0]) (ev_neg (by omega) (ev_pos (by omega) (ev_pos (by omega) ?_)))
        exact hr
    | succ d ih =>
      intro i M e hM hq
      obtain ⟨M', h1, h2, h3⟩ := ih (i + 1) (M.set ((i : Nat) : Int).toNat (-1)) (by omega) (by simpa using hM) (fun q q1 q2 => by
        rw [rd_set M (by omega) q1]
        by_cases c : q = i
        · rw [if_pos c]
        · rw [if_neg c]
          exact hq q q1 (by omega))
      refine ⟨M', h1, h2, fun r hr => ?_⟩
      refine Ev.step (fun k => by rw [impl_Road_times.l0]) (ev_pos (by omega) (ev_pos (by omega) (ev_pos (by omega) ?_)))
      rw [w64 (x := (i : Int) + 1) (by omega) (by omega)]
      exact h3 r hr
  obtain ⟨M', m1, m2, m3⟩ := hmin n.toNat 0 (List.replicate n.toNat 0) (by omega) (by rw [hrep]; omega) (fun q q1 q2 => by omega)
  obtain ⟨r, r1, r2, r3⟩ := times_both (n := n) (a := a) l x3 hl hn hx3 l.length 0 none a a a 0 0 (List.replicate n.toNat 0) M' (by omega) (by simpa using h.2) ha.1 (by omega) (by omega) ha.2 (by omega) (by omega) (by rw [hrep]; omega) m1
    (fun q q1 q2 => by
      rw [hz, m2 q (by omega) (by omega), if_pos (by omega)]
      omega)
    (fun q q1 q2 q3 => by
      rw [m2 q q1 q2, if_neg (by omega)]
      omega)
    (.inl ⟨rfl, rfl⟩) (by omega) (by omega) (by omega)
  refine ⟨r, ?_, ?_, r3⟩
  · unfold spec_l3Times.f
    exact ev_pos (by omega) (ev_pos (by omega) r1)
  · unfold impl_Road_times.f
    refine ev_pos (by omega) (ev_pos (by omega) ?_)
    simp only [Option.bind_some]
    rw [hrep]
    exact m3 r r2
/-- When a place is first visited by the rest of a search: now at this place, with this range visited. -/
def tm (x a q : Int) : Int → Int → Int → Int → List Int → Int
  | now, _, _, _, [] => now
  | now, at_, low, high, p :: t =>
    if (p > a ∧ high < q ∧ q ≤ p) ∨ (¬ p > a ∧ p ≤ q ∧ q < low) then now + max (q - at_) (at_ - q)
    else tm x a q (now + max (p - at_) (at_ - p) + x) p (if p > a then low else p) (if p > a then p else high) t
theorem tm_shift (x a q c : Int) : ∀ (l : List Int) (now at_ low high : Int), tm x a q (c + now) at_ low high l = c + tm x a q now at_ low high l
  | [], now, at_, low, high => rfl
  | p :: t, now, at_, low, high => by
    rw [tm, tm]
    by_cases h : (p > a ∧ high < q ∧ q ≤ p) ∨ (¬ p > a ∧ p ≤ q ∧ q < low)
    · rw [if_pos h, if_pos h]
      omega
    · rw [if_neg h, if_neg h, ← tm_shift x a q c t]
      rw [show c + now + max (p - at_) (at_ - p) + x = c + (now + max (p - at_) (at_ - p) + x) by omega]
/-- The reference's times are these. -/
theorem times_tm {n a : Int} (l : List Int) (x3 : Int) (hl : l.length ≤ 1048576) (hn : 2 ≤ n ∧ n ≤ 24) (hx3 : 0 ≤ x3 ∧ x3 ≤ 9) :
    ∀ (d i : Nat) (pr : Option Bool) (low high at_ now : Int) (S : List Int), i + d = l.length → srch n a pr low high (l.drop i) = true → 0 ≤ low → low ≤ at_ → at_ ≤ high → high ≤ n - 1 → low ≤ a → a ≤ high → S.length = n → 0 ≤ now → now ≤ 40 * i →
      ∃ r : List Int, Ev (fun k => spec_l3Times.l0 k l x3 S now at_ low high i) r ∧ r.length = n ∧ (∀ q, 0 ≤ q → q < n → (low ≤ q ∧ q ≤ high → rd r q = rd S q) ∧ (¬ (low ≤ q ∧ q ≤ high) → rd r q = tm x3 a q now at_ low high (l.drop i))) := by
  intro d
  induction d with
  | zero =>
    intro i pr low high at_ now S e hs h0 h1 h2 h3 h4 h5 hS hw hw2
    rw [List.drop_eq_nil_of_le (by omega)] at hs
    have hs := srch_nil hs
    exact ⟨S, Ev.step (fun k => by rw [spec_l3Times.l0]) (ev_neg (by omega) (ev_some rfl)), hS, fun q hq hq2 => ⟨fun _ => rfl, fun c => by omega⟩⟩
  | succ d ih =>
    intro i pr low high at_ now S e hs h0 h1 h2 h3 h4 h5 hS hw hw2
    have hi : i < l.length := by omega
    rw [List.drop_eq_getElem_cons hi] at hs
    obtain ⟨p0, p1, p2, p3, hs⟩ := srch_cons hs
    have hrd : rd l i = l[i] := rd_get rfl hi
    generalize hp0 : l[i] = p at *
    have hdrop : l.drop i = p :: l.drop (i + 1) := by rw [List.drop_eq_getElem_cons hi, hp0]
    by_cases hpa : p > a
    · have hph := p2 hpa
      rw [if_pos hpa, if_pos hpa] at hs
      obtain ⟨S1, s1, s2, s3⟩ := spec_l3Times.right (n := n) l x3 now at_ low p i hi hrd hn ⟨p0, p1⟩ (by omega) ⟨hw, by omega⟩ (p - high).toNat high S (by omega) (by omega) hS
      obtain ⟨r, r1, r2, r3⟩ := ih (i + 1) (some (decide (p > a))) low p p (now + max (p - at_) (at_ - p) + x3) S1 (by omega) hs h0 (by omega) (by omega) (by omega) h4 (by omega) s1 (by omega) (by omega)
      refine ⟨r, Ev.step (fun k => by rw [spec_l3Times.l0]) (ev_pos (by omega) (s3 _ ?_)), r2, fun q hq hq2 => ⟨fun c => ?_, fun c => ?_⟩⟩
      · refine Ev.step (fun k => by rw [spec_l3Times.l2]) (ev_pos (by omega) (ev_pos (by omega) ?_))
        rw [hrd]
        refine ev_neg (by omega) ?_
        rw [w64 (x := p - at_) (by omega) (by omega), w64 (x := at_ - p) (by omega) (by omega), spec_l1Most.at, w64 (x := (i : Int) + 1) (by omega) (by omega)]
        simp only [Option.bind_some]
        rw [w64 (x := now + max (p - at_) (at_ - p)) (by omega) (by omega), w64 (x := now + max (p - at_) (at_ - p) + x3) (by omega) (by omega)]
        exact r1
      · rw [(r3 q hq hq2).1 (by omega), (s2 q hq hq2).2 (by omega)]
      · rw [hdrop, tm]
        by_cases c2 : high < q ∧ q ≤ p
        · rw [if_pos (.inl ⟨hpa, c2⟩), (r3 q hq hq2).1 (by omega), (s2 q hq hq2).1 c2]
          omega
        · rw [if_neg (by omega), (r3 q hq hq2).2 (by omega), if_pos hpa, if_pos hpa]
    · have hph := p3 hpa
      rw [if_neg hpa, if_neg hpa] at hs
      obtain ⟨S1, s1, s2, s3⟩ := spec_l3Times.left (n := n) l x3 now at_ high p i (by omega) hi hrd hn ⟨p0, p1⟩ (by omega) ⟨hw, by omega⟩ hx3 (low - p).toNat low S (by omega) (by omega) hS
      obtain ⟨r, r1, r2, r3⟩ := ih (i + 1) (some (decide (p > a))) p high p (now + max (p - at_) (at_ - p) + x3) S1 (by omega) hs p0 (by omega) (by omega) (by omega) (by omega) h5 s1 (by omega) (by omega)
      refine ⟨r, Ev.step (fun k => by rw [spec_l3Times.l0]) (ev_pos (by omega) ?_), r2, fun q hq hq2 => ⟨fun c => ?_, fun c => ?_⟩⟩
      · refine Ev.step (fun k => by rw [spec_l3Times.l1]) (ev_pos (by omega) (ev_pos (by omega) ?_))
        rw [hrd]
        exact ev_neg (by omega) (s3 _ r1)
      · rw [(r3 q hq hq2).1 (by omega), (s2 q hq hq2).2 (by omega)]
      · rw [hdrop, tm]
        by_cases c2 : p ≤ q ∧ q < low
        · rw [if_pos (.inr ⟨hpa, c2⟩), (r3 q hq hq2).1 (by omega), (s2 q hq hq2).1 c2]
          omega
        · rw [if_neg (by omega), (r3 q hq hq2).2 (by omega), if_neg hpa, if_neg hpa]
/-- The times of a search, both sides' and told by 'tm'. -/
theorem times_tmv {n a : Int} {l : List Int} {x3 : Int} (hl : l.length ≤ 1048576) (h : okSearch n false a l = true) (hx3 : 0 ≤ x3 ∧ x3 ≤ 9) :
    ∃ t : List Int, Ev (fun k => spec_l3Times.f k n false a l x3) t ∧ Ev (fun k => impl_Road_times.f k n false a l x3) t ∧ t.length = n ∧ (∀ q, 0 ≤ q → q < n → rd t q = if q = a then 0 else tm x3 a q 0 a a a l) ∧ (∀ q, 0 ≤ q → q < n → q ≠ a → 0 < rd t q ∧ rd t q ≤ 100000000) := by
  have h' := h
  simp only [okSearch, Bool.and_eq_true] at h'
  have hb := okStart_b h'.1
  obtain ⟨t, t1, t2, t3, t4⟩ := times_evp hl h hx3
  obtain ⟨r, r1, r2, r3⟩ := times_tm (n := n) (a := a) l x3 hl ⟨hb.2.2.1, hb.2.2.2.1⟩ hx3 l.length 0 none a a a 0 (List.replicate n.toNat 0) (by omega) h'.2 (by omega) (by omega) (by omega) (by omega) (by omega) (by omega) (by rw [List.length_replicate]; omega) (by omega) (by omega)
  have e : t = r := by
    refine ev_det t1 ?_
    unfold spec_l3Times.f
    exact ev_pos (by omega) (ev_pos (by omega) r1)
  subst e
  refine ⟨t, t1, t2, t3, fun q q0 q1 => ?_, t4⟩
  by_cases c : q = a
  · rw [if_pos c, (r3 q q0 q1).1 (by omega), rd_get (n := q.toNat) (by omega) (by rw [List.length_replicate]; omega)]
    simp
  · rw [if_neg c, (r3 q q0 q1).2 (by omega)]
    rfl
theorem spec_l3Hefts.ev (n : Int) (g : Bool) (l : List Int) (hl : l.length ≤ 35184372088832) : Ev (fun k => spec_l3Hefts.f k n g l) (decide ((l.length : Int) = n) && l.all fun x => decide (0 ≤ x ∧ x ≤ 99)) := by
  have main : ∀ (d i : Nat), i + d = l.length → Ev (fun k => spec_l3Hefts.l0 k l i n g) (decide ((l.length : Int) = n) && (l.drop i).all fun x => decide (0 ≤ x ∧ x ≤ 99)) := by
    intro d
    induction d with
    | zero =>
      intro i e
      refine Ev.step (fun k => by rw [spec_l3Hefts.l0]) (ev_neg (by omega) (ev_some ?_))
      rw [List.drop_eq_nil_of_le (by omega), List.all_nil, Bool.and_true]
      rfl
    | succ d ih =>
      intro i e
      refine Ev.step (fun k => by rw [spec_l3Hefts.l0]) (ev_pos (by omega) (ev_pos (by omega) ?_))
      rw [w64 (x := (i : Int) + 1) (by omega) (by omega), rd_get rfl (by omega), List.drop_eq_getElem_cons (by omega), List.all_cons, spec_l1In.at]
      simp only [Option.bind_some]
      by_cases h : 0 ≤ l[i] ∧ l[i] ≤ 99
      · refine ev_pos (by simpa using h) ?_
        rw [decide_eq_true h, Bool.true_and]
        exact ih (i + 1) (by omega)
      · refine ev_neg (by simpa using h) (ev_some ?_)
        rw [decide_eq_false h, Bool.false_and, Bool.and_false]
  unfold spec_l3Hefts.f
  exact main l.length 0 (by omega)
theorem impl_Road_areHefts.ev (n : Int) (g : Bool) (l : List Int) (hl : l.length ≤ 35184372088832) : Ev (fun k => impl_Road_areHefts.f k n g l) (decide ((l.length : Int) = n) && l.all fun x => decide (0 ≤ x ∧ x ≤ 99)) := by
  unfold impl_Road_areHefts.f
  by_cases h : (l.length : Int) = n
  · refine ev_pos h ?_
    rw [decide_eq_true h, Bool.true_and]
    exact Ev.bind (impl_allWithin.ev l 0 99 hl) (ev_some rfl)
  · refine ev_neg h (ev_some ?_)
    rw [decide_eq_false h, Bool.false_and]
theorem srch_of {n a : Int} {pr : Option Bool} {low high p : Int} {t : List Int} (h0 : 0 ≤ p ∧ p ≤ n - 1) (h1 : p ≠ a) (h2 : pr ≠ some (decide (p > a))) (h3 : (p > a → p > high) ∧ (¬ p > a → p < low))
    (h : srch n a (some (decide (p > a))) (if p > a then low else p) (if p > a then p else high) t = true) : srch n a pr low high (p :: t) = true := by
  unfold srch
  rw [if_pos ⟨h0.1, h0.2, h1, h2, h3.1, h3.2⟩]
  exact h
theorem srch_pr {n a : Int} {pr : Option Bool} {low high p : Int} {t : List Int} (h : srch n a pr low high (p :: t) = true) : p ≠ a ∧ pr ≠ some (decide (p > a)) := by
  unfold srch at h
  by_cases c : 0 ≤ p ∧ p ≤ n - 1 ∧ p ≠ a ∧ pr ≠ some (decide (p > a)) ∧ (p > a → p > high) ∧ (¬ p > a → p < low)
  · exact ⟨c.2.2.1, c.2.2.2.1⟩
  · rw [if_neg c] at h
    cases h
/-- The sum, over the places outside of low to high, of the heft times a number of each place. -/
def wsum (lo hi : Int) (f : Int → Int) : List Int → Int → Int
  | [], _ => 0
  | x :: t, i => (if i < lo ∨ i > hi then x * f i else 0) + wsum lo hi f t (i + 1)
theorem left_wsum (lo hi : Int) : ∀ (l : List Int) (i s : Int), impl_LeastLoad.left lo hi l i s = s + wsum lo hi (fun _ => 1) l i
  | [], i, s => by simp [impl_LeastLoad.left, wsum]
  | x :: t, i, s => by
    rw [impl_LeastLoad.left, wsum, left_wsum lo hi t]
    by_cases c : i < lo ∨ i > hi
    · rw [if_pos c, if_pos c]
      omega
    · rw [if_neg c, if_neg c]
      omega
theorem wsum_step {lo hi lo' hi' c : Int} {f g : Int → Int} : ∀ (l : List Int) (i : Int), (∀ q, i ≤ q → q < i + l.length → (if q < lo ∨ q > hi then f q else 0) = (if q < lo ∨ q > hi then c else 0) + (if q < lo' ∨ q > hi' then g q else 0)) →
    wsum lo hi f l i = wsum lo hi (fun _ => 1) l i * c + wsum lo' hi' g l i
  | [], i, _ => by simp [wsum]
  | x :: t, i, h => by
    have h1 := wsum_step t (i + 1) (fun q q0 q1 => h q (by omega) (by simp only [List.length_cons]; omega))
    have h2 := h i (by omega) (by simp only [List.length_cons]; omega)
    rw [wsum, wsum, wsum, h1, Int.add_mul]
    have h3 : (if i < lo ∨ i > hi then x * f i else 0) = x * (if i < lo ∨ i > hi then f i else 0) := by split <;> simp
    have h4 : (if i < lo ∨ i > hi then x * 1 else 0) * c = x * (if i < lo ∨ i > hi then c else 0) := by split <;> simp
    have h5 : (if i < lo' ∨ i > hi' then x * g i else 0) = x * (if i < lo' ∨ i > hi' then g i else 0) := by split <;> simp
    rw [h3, h4, h5, h2, Int.mul_add]
    omega
theorem wsum_none {lo hi : Int} {f : Int → Int} : ∀ (l : List Int) (i : Int), (∀ q, i ≤ q → q < i + l.length → lo ≤ q ∧ q ≤ hi) → wsum lo hi f l i = 0
  | [], i, _ => rfl
  | x :: t, i, h => by
    have h2 := h i (by omega) (by simp only [List.length_cons]; omega)
    rw [wsum, if_neg (by omega), wsum_none t (i + 1) (fun q q0 q1 => h q (by omega) (by simp only [List.length_cons]; omega))]
    rfl
/-- What the rest of a search adds to the load. -/
def cst (a : Int) (e : List Int) (at_ low high : Int) (l : List Int) : Int := wsum low high (fun q => tm 0 a q 0 at_ low high l) e 0
/-- One step to the right. -/
theorem cst_right {n a : Int} {e : List Int} (he : (e.length : Int) = n) {at_ low high p : Int} {t : List Int} (hp : p > a) (hp1 : p > high) (hat : at_ ≤ high) (hlow : low ≤ high) (ha : a ≤ high) :
    cst a e at_ low high (p :: t) = impl_LeastLoad.left low high e 0 0 * (high + 1 - at_) + cst a e (high + 1) low (high + 1) (if p = high + 1 then t else p :: t) := by
  unfold cst
  rw [left_wsum, Int.zero_add]
  refine wsum_step e 0 fun q q0 q1 => ?_
  by_cases c : q < low ∨ q > high
  · rw [if_pos c, if_pos c, tm]
    by_cases d : p = high + 1
    · rw [if_pos d]
      by_cases c2 : q = high + 1
      · rw [if_pos (.inl (by omega)), if_neg (by omega)]
        omega
      · rw [if_neg (by omega), if_pos (show q < low ∨ q > high + 1 by omega), if_pos hp, if_pos hp, ← tm_shift, d]
        rw [show (0 : Int) + max (high + 1 - at_) (at_ - (high + 1)) + 0 = high + 1 - at_ + 0 by omega]
    · rw [if_neg d, tm]
      by_cases c2 : high < q ∧ q ≤ p
      · rw [if_pos (.inl ⟨hp, c2⟩)]
        by_cases c3 : q = high + 1
        · rw [if_neg (by omega)]
          omega
        · rw [if_pos (show q < low ∨ q > high + 1 by omega), if_pos (.inl (by omega))]
          omega
      · rw [if_neg (by omega), if_pos (show q < low ∨ q > high + 1 by omega), if_neg (show ¬ ((p > a ∧ high + 1 < q ∧ q ≤ p) ∨ (¬ p > a ∧ p ≤ q ∧ q < low)) by omega)]
        simp only [if_pos hp]
        rw [← tm_shift]
        rw [show (0 : Int) + max (p - at_) (at_ - p) + 0 = high + 1 - at_ + (0 + max (p - (high + 1)) (high + 1 - p) + 0) by omega]
  · rw [if_neg c, if_neg c, if_neg (by omega)]
    rfl
/-- One step to the left. -/
theorem cst_left {n a : Int} {e : List Int} (he : (e.length : Int) = n) {at_ low high p : Int} {t : List Int} (hp : ¬ p > a) (hp1 : p < low) (hat : low ≤ at_) (hlow : low ≤ high) (ha : low ≤ a) :
    cst a e at_ low high (p :: t) = impl_LeastLoad.left low high e 0 0 * (at_ - low + 1) + cst a e (low - 1) (low - 1) high (if p = low - 1 then t else p :: t) := by
  unfold cst
  rw [left_wsum, Int.zero_add]
  refine wsum_step e 0 fun q q0 q1 => ?_
  by_cases c : q < low ∨ q > high
  · rw [if_pos c, if_pos c, tm]
    by_cases d : p = low - 1
    · rw [if_pos d]
      by_cases c2 : q = low - 1
      · rw [if_pos (.inr (by omega)), if_neg (by omega)]
        omega
      · rw [if_neg (by omega), if_pos (show q < low - 1 ∨ q > high by omega), if_neg hp, if_neg hp, ← tm_shift, d]
        rw [show (0 : Int) + max (low - 1 - at_) (at_ - (low - 1)) + 0 = at_ - low + 1 + 0 by omega]
    · rw [if_neg d, tm]
      by_cases c2 : p ≤ q ∧ q < low
      · rw [if_pos (.inr ⟨hp, c2⟩)]
        by_cases c3 : q = low - 1
        · rw [if_neg (by omega)]
          omega
        · rw [if_pos (show q < low - 1 ∨ q > high by omega), if_pos (.inr (by omega))]
          omega
      · rw [if_neg (by omega), if_pos (show q < low - 1 ∨ q > high by omega), if_neg (show ¬ ((p > a ∧ high < q ∧ q ≤ p) ∨ (¬ p > a ∧ p ≤ q ∧ q < low - 1)) by omega)]
        simp only [if_neg hp]
        rw [← tm_shift]
        rw [show (0 : Int) + max (p - at_) (at_ - p) + 0 = at_ - low + 1 + (0 + max (p - (low - 1)) (low - 1 - p) + 0) by omega]
  · rw [if_neg c, if_neg c, if_neg (by omega)]
    rfl
/-- A step on within the first leg. -/
theorem srch_right {n a : Int} {pr : Option Bool} {low high p : Int} {t : List Int} (h : srch n a pr low high (p :: t) = true) (hp : p > a) : ∃ pr', srch n a pr' low (high + 1) (if p = high + 1 then t else p :: t) = true := by
  have h' := srch_pr h
  obtain ⟨p0, p1, p2, p3, hs⟩ := srch_cons h
  by_cases d : p = high + 1
  · rw [if_pos d]
    rw [if_pos hp, if_pos hp, d] at hs
    exact ⟨_, hs⟩
  · rw [if_neg d]
    have := p2 hp
    refine ⟨pr, srch_of ⟨p0, p1⟩ h'.1 h'.2 ⟨fun _ => by omega, p3⟩ ?_⟩
    rw [if_pos hp, if_pos hp] at hs ⊢
    exact hs
theorem srch_left {n a : Int} {pr : Option Bool} {low high p : Int} {t : List Int} (h : srch n a pr low high (p :: t) = true) (hp : ¬ p > a) : ∃ pr', srch n a pr' (low - 1) high (if p = low - 1 then t else p :: t) = true := by
  have h' := srch_pr h
  obtain ⟨p0, p1, p2, p3, hs⟩ := srch_cons h
  by_cases d : p = low - 1
  · rw [if_pos d]
    rw [if_neg hp, if_neg hp, d] at hs
    exact ⟨_, hs⟩
  · rw [if_neg d]
    have := p3 hp
    refine ⟨pr, srch_of ⟨p0, p1⟩ h'.1 h'.2 ⟨p2, fun _ => by omega⟩ ?_⟩
    rw [if_neg hp, if_neg hp] at hs ⊢
    exact hs
/-- No search adds less. -/
theorem dp_le {n a : Int} {e : List Int} (he : (e.length : Int) = n) : ∀ (m : Nat) (lo hi at_ : Int) (pr : Option Bool) (l : List Int), (n - 1 - (hi - lo)).toNat = m → 0 ≤ lo → lo ≤ a → a ≤ hi → hi ≤ n - 1 → lo ≤ at_ → at_ ≤ hi → srch n a pr lo hi l = true →
    impl_LeastLoad.least n e m lo hi at_ ≤ cst a e at_ lo hi l := by
  intro m
  induction m with
  | zero =>
    intro lo hi at_ pr l hm h0 h1 h2 h3 h4 h5 hs
    unfold cst
    rw [wsum_none e 0 (fun q q0 q1 => by omega), impl_LeastLoad.least]
    exact Int.le_refl _
  | succ m ih =>
    intro lo hi at_ pr l hm h0 h1 h2 h3 h4 h5 hs
    cases l with
    | nil =>
      have := srch_nil hs
      omega
    | cons p t =>
      obtain ⟨p0, p1, p2, p3, _⟩ := srch_cons hs
      rw [impl_LeastLoad.least]
      by_cases hp : p > a
      · have hph := p2 hp
        obtain ⟨pr', hs'⟩ := srch_right hs hp
        have := ih lo (hi + 1) (hi + 1) pr' _ (by omega) h0 h1 (by omega) (by omega) (by omega) (by omega) hs'
        rw [cst_right he hp hph h5 (by omega) h2, if_pos (by omega)]
        split
        · split <;> omega
        · omega
      · have hph := p3 hp
        obtain ⟨pr', hs'⟩ := srch_left hs hp
        have := ih (lo - 1) hi (lo - 1) pr' _ (by omega) (by omega) (by omega) h2 h3 (by omega) (by omega) hs'
        rw [cst_left he hp hph h4 (by omega) h1]
        split
        · rw [if_pos (by omega)]
          split <;> omega
        · omega
/-- Some way to go on adds just this. -/
def Has (n a : Int) (e : List Int) (at_ lo hi v : Int) : Prop := ∃ (b : Bool) (l : List Int), srch n a (some b) lo hi l = true ∧ cst a e at_ lo hi l = v
/-- Some search adds just that. -/
theorem dp_some {n a : Int} {e : List Int} (he : (e.length : Int) = n) : ∀ (m : Nat) (lo hi at_ : Int), (n - 1 - (hi - lo)).toNat = m → 0 ≤ lo → lo ≤ a → a ≤ hi → hi ≤ n - 1 → lo ≤ at_ → at_ ≤ hi →
    Has n a e at_ lo hi (impl_LeastLoad.least n e m lo hi at_) := by
  intro m
  induction m with
  | zero =>
    intro lo hi at_ hm h0 h1 h2 h3 h4 h5
    refine ⟨true, [], ?_, ?_⟩
    · unfold srch
      rw [decide_eq_true (show lo = 0 by omega), decide_eq_true (show hi = n - 1 by omega)]
      rfl
    · unfold cst
      rw [wsum_none e 0 (fun q q0 q1 => by omega), impl_LeastLoad.least]
  | succ m ih =>
    intro lo hi at_ hm h0 h1 h2 h3 h4 h5
    have right : hi < n - 1 → Has n a e at_ lo hi (impl_LeastLoad.left lo hi e 0 0 * (hi + 1 - at_) + impl_LeastLoad.least n e m lo (hi + 1) (hi + 1)) := by
      intro hc
      obtain ⟨b, l, hs, hv⟩ := ih lo (hi + 1) (hi + 1) (by omega) h0 h1 (by omega) (by omega) (by omega) (by omega)
      have again : b = true ∨ l = [] → Has n a e at_ lo hi (impl_LeastLoad.left lo hi e 0 0 * (hi + 1 - at_) + impl_LeastLoad.least n e m lo (hi + 1) (hi + 1)) := by
        intro hb
        have hs2 : srch n a (some true) lo (hi + 1) l = true := by
          rcases hb with rfl | rfl
          · exact hs
          · unfold srch at hs ⊢
            exact hs
        refine ⟨false, (hi + 1) :: l, srch_of (by omega) (by omega) (by rw [decide_eq_true (by omega)]; decide) ⟨fun _ => by omega, fun z => by omega⟩ ?_, ?_⟩
        · rw [if_pos (by omega), if_pos (by omega), decide_eq_true (by omega)]
          exact hs2
        · rw [cst_right he (by omega) (by omega) h5 (by omega) h2, if_pos rfl, hv]
      cases b with
      | true => exact again (.inl rfl)
      | false =>
        cases l with
        | nil => exact again (.inr rfl)
        | cons p t =>
          have h' := srch_pr hs
          obtain ⟨p0, p1, p2, p3, hs'⟩ := srch_cons hs
          have hp : p > a := Decidable.byContradiction fun z => h'.2 (by rw [decide_eq_false z])
          have hph := p2 hp
          refine ⟨false, p :: t, srch_of ⟨p0, p1⟩ h'.1 h'.2 ⟨fun _ => by omega, p3⟩ ?_, ?_⟩
          · rw [if_pos hp, if_pos hp] at hs' ⊢
            exact hs'
          · rw [cst_right he hp (by omega) h5 (by omega) h2, if_neg (by omega), hv]
    have left : 0 < lo → Has n a e at_ lo hi (impl_LeastLoad.left lo hi e 0 0 * (at_ - lo + 1) + impl_LeastLoad.least n e m (lo - 1) hi (lo - 1)) := by
      intro hc
      obtain ⟨b, l, hs, hv⟩ := ih (lo - 1) hi (lo - 1) (by omega) (by omega) (by omega) h2 h3 (by omega) (by omega)
      have again : b = false ∨ l = [] → Has n a e at_ lo hi (impl_LeastLoad.left lo hi e 0 0 * (at_ - lo + 1) + impl_LeastLoad.least n e m (lo - 1) hi (lo - 1)) := by
        intro hb
        have hs2 : srch n a (some false) (lo - 1) hi l = true := by
          rcases hb with rfl | rfl
          · exact hs
          · unfold srch at hs ⊢
            exact hs
        refine ⟨true, (lo - 1) :: l, srch_of (by omega) (by omega) (by rw [decide_eq_false (by omega)]; decide) ⟨fun z => by omega, fun _ => by omega⟩ ?_, ?_⟩
        · rw [if_neg (by omega), if_neg (by omega), decide_eq_false (by omega)]
          exact hs2
        · rw [cst_left he (by omega) (by omega) h4 (by omega) h1, if_pos rfl, hv]
      cases b with
      | false => exact again (.inl rfl)
      | true =>
        cases l with
        | nil => exact again (.inr rfl)
        | cons p t =>
          have h' := srch_pr hs
          obtain ⟨p0, p1, p2, p3, hs'⟩ := srch_cons hs
          have hp : ¬ p > a := fun z => h'.2 (by rw [decide_eq_true z])
          have hph := p3 hp
          refine ⟨true, p :: t, srch_of ⟨p0, p1⟩ h'.1 h'.2 ⟨p2, fun _ => by omega⟩ ?_, ?_⟩
          · rw [if_neg hp, if_neg hp] at hs' ⊢
            exact hs'
          · rw [cst_left he hp (by omega) h4 (by omega) h1, if_neg (by omega), hv]
    rw [impl_LeastLoad.least]
    by_cases c1 : hi < n - 1
    · rw [if_pos c1]
      by_cases c2 : 0 < lo
      · rw [if_pos c2]
        split
        · exact right c1
        · exact left c2
      · rw [if_neg c2]
        exact right c1
    · rw [if_neg c1]
      exact left (by omega)
def okHefts (n : Int) (e : List Int) : Bool := decide ((e.length : Int) = n) && e.all fun x => decide (0 ≤ x ∧ x ≤ 99)
theorem okHefts_b {n : Int} {e : List Int} (h : okHefts n e = true) : (e.length : Int) = n ∧ ∀ x, x ∈ e → 0 ≤ x ∧ x ≤ 99 := by
  unfold okHefts at h
  rw [Bool.and_eq_true, decide_eq_true_eq] at h
  refine ⟨h.1, fun x hm => ?_⟩
  have := List.all_eq_true.1 h.2 x hm
  simpa using this
theorem wsum_congr {lo hi : Int} {f g : Int → Int} : ∀ (l : List Int) (i : Int), (∀ q, i ≤ q → q < i + l.length → (q < lo ∨ q > hi) → f q = g q) → wsum lo hi f l i = wsum lo hi g l i
  | [], i, _ => rfl
  | x :: t, i, h => by
    rw [wsum, wsum, wsum_congr t (i + 1) (fun q q0 q1 => h q (by omega) (by simp only [List.length_cons]; omega))]
    by_cases c : i < lo ∨ i > hi
    · rw [if_pos c, if_pos c, h i (by omega) (by simp only [List.length_cons]; omega) c]
    · rw [if_neg c, if_neg c]
theorem load_val {n a : Int} (g : Bool) {e t : List Int} (hn : 2 ≤ n ∧ n ≤ 24) (he : e.length = n) (ht : t.length = n) (h0 : rd t a = 0) (hx : ∀ x, x ∈ e → 0 ≤ x ∧ x ≤ 99) (hb : ∀ q, 0 ≤ q → q < n → 0 ≤ rd t q ∧ rd t q ≤ 100000000) : ∀ (d i : Nat) (x : Int), i + d = n.toNat → 0 ≤ x → x ≤ 9900000000 * i →
    Ev (fun k => spec_SearchLoad.l0 k e x t i n g) (x + wsum a a (rd t) (e.drop i) i, true) ∧ Ev (fun k => impl_SearchLoad.l0 k e x t t.length i) (x + wsum a a (rd t) (e.drop i) i, true) := by
  intro d
  induction d with
  | zero =>
    intro i x h _ _
    rw [List.drop_eq_nil_of_le (by omega), wsum, Int.add_zero]
    exact ⟨Ev.step (fun k => by rw [spec_SearchLoad.l0]) (ev_neg (by omega) (ev_some rfl)), Ev.step (fun k => by rw [impl_SearchLoad.l0]) (ev_neg (by omega) (ev_some rfl))⟩
  | succ d ih =>
    intro i x h x0 x1
    have hi : i < e.length := by omega
    have b1 := hx e[i] (List.getElem_mem hi)
    have b2 := hb i (by omega) (by omega)
    have b3 := impl_LeastLoad.mul_b b1 b2
    have hrd : rd e i = e[i] := rd_get rfl hi
    obtain ⟨r1, r2⟩ := ih (i + 1) (x + e[i] * rd t i) (by omega) (by omega) (by omega)
    have hv : x + e[i] * rd t i + wsum a a (rd t) (e.drop (i + 1)) ((i + 1 : Nat) : Int) = x + wsum a a (rd t) (e.drop i) i := by
      rw [List.drop_eq_getElem_cons hi, wsum, show (((i + 1 : Nat) : Int)) = (i : Int) + 1 by omega]
      by_cases c : (i : Int) < a ∨ (i : Int) > a
      · rw [if_pos c]
        omega
      · rw [if_neg c, show (i : Int) = a by omega, h0, Int.mul_zero]
        omega
    rw [hv] at r1 r2
    refine ⟨Ev.step (fun k => by rw [spec_SearchLoad.l0]) ?_, Ev.step (fun k => by rw [impl_SearchLoad.l0]) ?_⟩
    · refine ev_pos (by omega) (ev_pos (by omega) (ev_pos (by omega) (ev_pos (by omega) ?_)))
      rw [hrd, w64 (x := (i : Int) + 1) (by omega) (by omega), w64 (x := e[i] * rd t i) (by omega) (by omega), w64 (x := x + e[i] * rd t i) (by omega) (by omega)]
      exact r1
    · refine ev_pos (by omega) (ev_pos (by omega) (ev_pos (by omega) (ev_pos (by omega) ?_)))
      rw [hrd, w64 (x := (i : Int) + 1) (by omega) (by omega), w64 (x := e[i] * rd t i) (by omega) (by omega), w64 (x := x + e[i] * rd t i) (by omega) (by omega)]
      exact r2
theorem searchLoad_pair (n : Int) (g : Bool) (a : Int) (l e : List Int) (hl : l.length ≤ 1048576) (he : e.length ≤ 1048576) :
    Ev (fun k => spec_SearchLoad.f k n g a l e) (if okSearch n g a l = true ∧ okHefts n e = true then (cst a e a a a l, true) else (0, false)) ∧ Ev (fun k => impl_SearchLoad.f k n g a l e) (if okSearch n g a l = true ∧ okHefts n e = true then (cst a e a a a l, true) else (0, false)) := by
  unfold spec_SearchLoad.f impl_SearchLoad.f
  have hs := spec_l3Good.ev n g a l (by omega)
  have hi := impl_isSought.ev n g a l (by omega)
  have hs2 : Ev (fun k => spec_l3Hefts.f k n g e) (okHefts n e) := spec_l3Hefts.ev n g e (by omega)
  have hi2 : Ev (fun k => impl_Road_areHefts.f k n g e) (okHefts n e) := impl_Road_areHefts.ev n g e (by omega)
  have bad1 : Ev (fun k => spec_SearchLoad.j0 k a l e true n g) (0, false) := Ev.step (fun k => by rw [spec_SearchLoad.j0]) (ev_pos rfl (ev_some rfl))
  have bad2 : Ev (fun k => impl_SearchLoad.j0 k a l e true n g) (0, false) := Ev.step (fun k => by rw [impl_SearchLoad.j0]) (ev_pos rfl (ev_some rfl))
  by_cases h : okSearch n g a l = true
  · have h' := h
    simp only [okSearch, Bool.and_eq_true] at h'
    have hb := okStart_b h'.1
    have hg : g = false := hb.2.1
    subst hg
    by_cases hx : okHefts n e = true
    · rw [if_pos ⟨h, hx⟩]
      rw [hx] at hs2 hi2
      obtain ⟨hx1, hx2⟩ := okHefts_b hx
      obtain ⟨t, t1, t2, t3, t4, t5⟩ := times_tmv (x3 := 0) hl h (by omega)
      have t6 := t4 a hb.2.2.2.2.1 (by omega)
      rw [if_pos rfl] at t6
      obtain ⟨r1, r2⟩ := load_val (n := n) (a := a) false ⟨hb.2.2.1, hb.2.2.2.1⟩ hx1 t3 t6 hx2 (fun q q0 q1 => by
        by_cases c : q = a
        · rw [c, t6]
          omega
        · have := t5 q q0 q1 c
          omega) n.toNat 0 0 (by omega) (by omega) (by omega)
      have hv : 0 + wsum a a (rd t) (e.drop 0) ((0 : Nat) : Int) = cst a e a a a l := by
        rw [Int.zero_add]
        refine wsum_congr e 0 fun q q0 q1 c => ?_
        rw [t4 q q0 (by omega), if_neg (by omega)]
      rw [hv] at r1 r2
      refine ⟨Ev.bind hs (ev_pos h (Ev.bind hs2 ?_)), Ev.bind hi (ev_pos h (Ev.bind hi2 ?_))⟩
      · exact Ev.step (fun k => by rw [spec_SearchLoad.j0]) (ev_neg (by simp) (Ev.bind t1 r1))
      · exact Ev.step (fun k => by rw [impl_SearchLoad.j0]) (ev_neg (by simp) (Ev.bind t2 r2))
    · rw [if_neg (fun z => hx z.2)]
      rw [Bool.not_eq_true] at hx
      rw [hx] at hs2 hi2
      exact ⟨Ev.bind hs (ev_pos h (Ev.bind hs2 bad1)), Ev.bind hi (ev_pos h (Ev.bind hi2 bad2))⟩
  · rw [if_neg (fun z => h z.1)]
    exact ⟨Ev.bind hs (ev_neg h bad1), Ev.bind hi (ev_neg h bad2)⟩
theorem leastLoad_pair (n : Int) (g : Bool) (a : Int) (l : List Int) (hl : l.length ≤ 1048576) :
    Ev (fun k => spec_LeastLoad.f k n g a l) (if okStart n g a = true ∧ okHefts n l = true then (impl_LeastLoad.L n l a a a, true) else (0, false)) ∧ Ev (fun k => impl_LeastLoad.f k n g a l) (if okStart n g a = true ∧ okHefts n l = true then (impl_LeastLoad.L n l a a a, true) else (0, false)) := by
  unfold spec_LeastLoad.f impl_LeastLoad.f
  have hs := ev_const (spec_l3Line.at n g a)
  have hi := impl_isStart.ev n g a
  have hs2 : Ev (fun k => spec_l3Hefts.f k n g l) (okHefts n l) := spec_l3Hefts.ev n g l (by omega)
  have hi2 : Ev (fun k => impl_Road_areHefts.f k n g l) (okHefts n l) := impl_Road_areHefts.ev n g l (by omega)
  by_cases h : okStart n g a = true
  · have hb := okStart_b h
    by_cases hx : okHefts n l = true
    · rw [show (if okStart n g a = true ∧ okHefts n l = true then (impl_LeastLoad.L n l a a a, true) else (0, false)) = (impl_LeastLoad.L n l a a a, true) from if_pos ⟨h, hx⟩]
      rw [hx] at hs2 hi2
      obtain ⟨hx1, hx2⟩ := okHefts_b hx
      have hc : (2 ≤ n ∧ n ≤ 24) ∧ (0 ≤ a ∧ a ≤ n - 1) ∧ (l.length : Int) = n ∧ ∀ x, x ∈ l → 0 ≤ x ∧ x ≤ 99 := ⟨by omega, by omega, hx1, hx2⟩
      exact ⟨Ev.bind hs (ev_pos h (Ev.bind hs2 (ev_pos rfl (ev_pos hc (ev_some rfl))))), Ev.bind hi (ev_pos h (Ev.bind hi2 (ev_pos rfl (ev_pos hc (ev_some rfl)))))⟩
    · rw [show (if okStart n g a = true ∧ okHefts n l = true then (impl_LeastLoad.L n l a a a, true) else (0, false)) = (0, false) from if_neg (fun z => hx z.2)]
      rw [Bool.not_eq_true] at hx
      rw [hx] at hs2 hi2
      exact ⟨Ev.bind hs (ev_pos h (Ev.bind hs2 (ev_neg (by decide) (ev_some rfl)))), Ev.bind hi (ev_pos h (Ev.bind hi2 (ev_neg (by decide) (ev_some rfl))))⟩
  · rw [show (if okStart n g a = true ∧ okHefts n l = true then (impl_LeastLoad.L n l a a a, true) else (0, false)) = (0, false) from if_neg (fun z => h z.1)]
    exact ⟨Ev.bind hs (ev_neg h (ev_some rfl)), Ev.bind hi (ev_neg h (ev_some rfl))⟩
/-- No search has a less load than the least one. -/
theorem load_le {n a : Int} {e l : List Int} (hx : okHefts n e = true) (h : okSearch n false a l = true) : impl_LeastLoad.L n e a a a ≤ cst a e a a a l := by
  simp only [okSearch, Bool.and_eq_true] at h
  have hb := okStart_b h.1
  exact dp_le (okHefts_b hx).1 _ a a a none l rfl (by omega) (by omega) (by omega) (by omega) (by omega) (by omega) h.2
/-- Some search has it. -/
theorem load_some {n a : Int} {e : List Int} (hx : okHefts n e = true) (h : okStart n false a = true) : ∃ l, srch n a none a a l = true ∧ cst a e a a a l = impl_LeastLoad.L n e a a a := by
  have hb := okStart_b h
  obtain ⟨b, l, hs, hv⟩ := dp_some (n := n) (a := a) (e := e) (okHefts_b hx).1 _ a a a rfl (by omega) (by omega) (by omega) (by omega) (by omega) (by omega)
  refine ⟨l, ?_, hv⟩
  cases l with
  | nil =>
    unfold srch at hs ⊢
    exact hs
  | cons p t =>
    have h' := srch_pr hs
    obtain ⟨p0, p1, p2, p3, hs'⟩ := srch_cons hs
    exact srch_of ⟨p0, p1⟩ h'.1 (by simp) ⟨p2, p3⟩ hs'
/-- All ways in which a search may go on. -/
def comp (n a : Int) : Nat → Option Bool → Int → Int → List (List Int)
  | 0, _, _, _ => []
  | f + 1, pr, low, high =>
    if low = 0 ∧ high = n - 1 then [[]] else
    (List.range n.toNat).flatMap fun (i : Nat) =>
      if (i : Int) ≠ a ∧ pr ≠ some (decide ((i : Int) > a)) ∧ ((i : Int) > a → (i : Int) > high) ∧ (¬ (i : Int) > a → (i : Int) < low) then
        (comp n a f (some (decide ((i : Int) > a))) (if (i : Int) > a then low else i) (if (i : Int) > a then i else high)).map ((i : Int) :: ·)
      else []
theorem comp_mem {n a : Int} : ∀ (f : Nat) (pr : Option Bool) (low high : Int) (t : List Int), srch n a pr low high t = true → 0 ≤ low → high ≤ n - 1 → low ≤ a → a ≤ high → n - 1 - (high - low) < f → t ∈ comp n a f pr low high
  | 0, pr, low, high, t, _, _, _, _, _, h => by omega
  | f + 1, pr, low, high, [], h, _, _, _, _, _ => by
    have := srch_nil h
    rw [comp, if_pos this]
    simp
  | f + 1, pr, low, high, p :: t, h, h0, h1, h2, h3, h4 => by
    unfold srch at h
    by_cases c : 0 ≤ p ∧ p ≤ n - 1 ∧ p ≠ a ∧ pr ≠ some (decide (p > a)) ∧ (p > a → p > high) ∧ (¬ p > a → p < low)
    · rw [if_pos c] at h
      obtain ⟨c0, c1, c2, c3, c4, c5⟩ := c
      rw [comp, if_neg (by omega), List.mem_flatMap]
      refine ⟨p.toNat, by simp; omega, ?_⟩
      rw [show ((p.toNat : Nat) : Int) = p by omega, if_pos ⟨c2, c3, c4, c5⟩]
      refine List.mem_map.2 ⟨t, ?_, rfl⟩
      refine comp_mem f _ _ _ t h ?_ ?_ ?_ ?_ ?_ <;> (by_cases d : p > a <;> simp only [d, if_true, if_false] <;> omega)
    · rw [if_neg c] at h
      cases h
/-- The searches that the program names: each is one, and none is lacking. -/
def agree (n a : Int) : Bool := match impl_Road_searches.f n false a with
  | some M => decide (M.length < 1048576) && (M.all fun l => okSearch n false a l && decide (l.length ≤ 100)) && (comp n a 12 none a a).all fun t => M.contains t
  | none => false
set_option maxRecDepth 100000
theorem c2_0 : agree 2 0 = true := by decide +kernel
theorem c2_1 : agree 2 1 = true := by decide +kernel
theorem c3_0 : agree 3 0 = true := by decide +kernel
theorem c3_1 : agree 3 1 = true := by decide +kernel
theorem c3_2 : agree 3 2 = true := by decide +kernel
theorem c4_0 : agree 4 0 = true := by decide +kernel
theorem c4_1 : agree 4 1 = true := by decide +kernel
theorem c4_2 : agree 4 2 = true := by decide +kernel
theorem c4_3 : agree 4 3 = true := by decide +kernel
theorem c5_0 : agree 5 0 = true := by decide +kernel
theorem c5_1 : agree 5 1 = true := by decide +kernel
theorem c5_2 : agree 5 2 = true := by decide +kernel
theorem c5_3 : agree 5 3 = true := by decide +kernel
theorem c5_4 : agree 5 4 = true := by decide +kernel
theorem c6_0 : agree 6 0 = true := by decide +kernel
theorem c6_1 : agree 6 1 = true := by decide +kernel
theorem c6_2 : agree 6 2 = true := by decide +kernel
theorem c6_3 : agree 6 3 = true := by decide +kernel
theorem c6_4 : agree 6 4 = true := by decide +kernel
theorem c6_5 : agree 6 5 = true := by decide +kernel
theorem c7_0 : agree 7 0 = true := by decide +kernel
theorem c7_1 : agree 7 1 = true := by decide +kernel
theorem c7_2 : agree 7 2 = true := by decide +kernel
theorem c7_3 : agree 7 3 = true := by decide +kernel
theorem c7_4 : agree 7 4 = true := by decide +kernel
theorem c7_5 : agree 7 5 = true := by decide +kernel
theorem c7_6 : agree 7 6 = true := by decide +kernel
theorem c8_0 : agree 8 0 = true := by decide +kernel
theorem c8_1 : agree 8 1 = true := by decide +kernel
theorem c8_2 : agree 8 2 = true := by decide +kernel
theorem c8_3 : agree 8 3 = true := by decide +kernel
theorem c8_4 : agree 8 4 = true := by decide +kernel
theorem c8_5 : agree 8 5 = true := by decide +kernel
theorem c8_6 : agree 8 6 = true := by decide +kernel
theorem c8_7 : agree 8 7 = true := by decide +kernel
theorem c9_0 : agree 9 0 = true := by decide +kernel
theorem c9_1 : agree 9 1 = true := by decide +kernel
theorem c9_2 : agree 9 2 = true := by decide +kernel
theorem c9_3 : agree 9 3 = true := by decide +kernel
theorem c9_4 : agree 9 4 = true := by decide +kernel
theorem c9_5 : agree 9 5 = true := by decide +kernel
theorem c9_6 : agree 9 6 = true := by decide +kernel
theorem c9_7 : agree 9 7 = true := by decide +kernel
theorem c9_8 : agree 9 8 = true := by decide +kernel
theorem c10_0 : agree 10 0 = true := by decide +kernel
theorem c10_1 : agree 10 1 = true := by decide +kernel
theorem c10_2 : agree 10 2 = true := by decide +kernel
theorem c10_3 : agree 10 3 = true := by decide +kernel
theorem c10_4 : agree 10 4 = true := by decide +kernel
theorem c10_5 : agree 10 5 = true := by decide +kernel
theorem c10_6 : agree 10 6 = true := by decide +kernel
theorem c10_7 : agree 10 7 = true := by decide +kernel
theorem c10_8 : agree 10 8 = true := by decide +kernel
theorem c10_9 : agree 10 9 = true := by decide +kernel
theorem agrees (n a : Int) (hn : 2 ≤ n ∧ n ≤ 10) (ha : 0 ≤ a ∧ a ≤ n - 1) : agree n a = true := by
  have hh : n = 2 ∨ n = 3 ∨ n = 4 ∨ n = 5 ∨ n = 6 ∨ n = 7 ∨ n = 8 ∨ n = 9 ∨ n = 10 := by omega
  rcases hh with rfl | rfl | rfl | rfl | rfl | rfl | rfl | rfl | rfl
  · have ha : a = 0 ∨ a = 1 := by omega
    rcases ha with rfl | rfl
    · exact c2_0
    · exact c2_1
  · have ha : a = 0 ∨ a = 1 ∨ a = 2 := by omega
    rcases ha with rfl | rfl | rfl
    · exact c3_0
    · exact c3_1
    · exact c3_2
  · have ha : a = 0 ∨ a = 1 ∨ a = 2 ∨ a = 3 := by omega
    rcases ha with rfl | rfl | rfl | rfl
    · exact c4_0
    · exact c4_1
    · exact c4_2
    · exact c4_3
  · have ha : a = 0 ∨ a = 1 ∨ a = 2 ∨ a = 3 ∨ a = 4 := by omega
    rcases ha with rfl | rfl | rfl | rfl | rfl
    · exact c5_0
    · exact c5_1
    · exact c5_2
    · exact c5_3
    · exact c5_4
  · have ha : a = 0 ∨ a = 1 ∨ a = 2 ∨ a = 3 ∨ a = 4 ∨ a = 5 := by omega
    rcases ha with rfl | rfl | rfl | rfl | rfl | rfl
    · exact c6_0
    · exact c6_1
    · exact c6_2
    · exact c6_3
    · exact c6_4
    · exact c6_5
  · have ha : a = 0 ∨ a = 1 ∨ a = 2 ∨ a = 3 ∨ a = 4 ∨ a = 5 ∨ a = 6 := by omega
    rcases ha with rfl | rfl | rfl | rfl | rfl | rfl | rfl
    · exact c7_0
    · exact c7_1
    · exact c7_2
    · exact c7_3
    · exact c7_4
    · exact c7_5
    · exact c7_6
  · have ha : a = 0 ∨ a = 1 ∨ a = 2 ∨ a = 3 ∨ a = 4 ∨ a = 5 ∨ a = 6 ∨ a = 7 := by omega
    rcases ha with rfl | rfl | rfl | rfl | rfl | rfl | rfl | rfl
    · exact c8_0
    · exact c8_1
    · exact c8_2
    · exact c8_3
    · exact c8_4
    · exact c8_5
    · exact c8_6
    · exact c8_7
  · have ha : a = 0 ∨ a = 1 ∨ a = 2 ∨ a = 3 ∨ a = 4 ∨ a = 5 ∨ a = 6 ∨ a = 7 ∨ a = 8 := by omega
    rcases ha with rfl | rfl | rfl | rfl | rfl | rfl | rfl | rfl | rfl
    · exact c9_0
    · exact c9_1
    · exact c9_2
    · exact c9_3
    · exact c9_4
    · exact c9_5
    · exact c9_6
    · exact c9_7
    · exact c9_8
  · have ha : a = 0 ∨ a = 1 ∨ a = 2 ∨ a = 3 ∨ a = 4 ∨ a = 5 ∨ a = 6 ∨ a = 7 ∨ a = 8 ∨ a = 9 := by omega
    rcases ha with rfl | rfl | rfl | rfl | rfl | rfl | rfl | rfl | rfl | rfl
    · exact c10_0
    · exact c10_1
    · exact c10_2
    · exact c10_3
    · exact c10_4
    · exact c10_5
    · exact c10_6
    · exact c10_7
    · exact c10_8
    · exact c10_9
theorem agreed {n a : Int} (h : agree n a = true) (hn : 2 ≤ n ∧ n ≤ 10) (ha : 0 ≤ a ∧ a ≤ n - 1) : ∃ M, impl_Road_searches.f n false a = some M ∧ M.length < 1048576 ∧ (∀ x ∈ M, okSearch n false a x = true ∧ x.length ≤ 1048576) ∧ ∀ t, srch n a none a a t = true → t ∈ M := by
  unfold agree at h
  generalize impl_Road_searches.f n false a = A at h ⊢
  cases A with
  | none => simp at h
  | some M =>
    simp only [Bool.and_eq_true, decide_eq_true_eq, List.all_eq_true, List.contains_iff_mem] at h
    exact ⟨M, rfl, h.1.1, fun x hx => ⟨(h.1.2 x hx).1, by have := (h.1.2 x hx).2; omega⟩, fun t ht => h.2 t (comp_mem 12 none a a t ht (by omega) (by omega) (by omega) (by omega) (by omega))⟩
theorem all_loop {n a : Int} {e : List Int} (he : e.length ≤ 1048576) (hx : okHefts n e = true) (M : List (List Int)) (hM : M.length < 1048576) (hall : ∀ x ∈ M, okSearch n false a x = true ∧ x.length ≤ 1048576) :
    ∀ (d i : Nat) (found : Bool), i + d = M.length → (found = true ∨ ∃ x ∈ M.drop i, cst a e a a a x = impl_LeastLoad.L n e a a a) → Ev (fun k => laws_FnLoads.l0 k a e (impl_LeastLoad.L n e a a a) M found i n false) true := by
  intro d
  induction d with
  | zero =>
    intro i found h hf
    rw [List.drop_eq_nil_of_le (by omega)] at hf
    have hf2 : found = true := hf.resolve_right (fun ⟨x, hx, _⟩ => by simp at hx)
    exact Ev.step (fun k => by rw [laws_FnLoads.l0]) (ev_neg (by omega) (ev_some hf2))
  | succ d ih =>
    intro i found h hf
    have hi : i < M.length := by omega
    have hm := hall M[i] (List.getElem_mem hi)
    have hrd : rd_L5 M i = M[i] := by simp [rd_L5, List.getD_eq_getElem?_getD, hi]
    have hp := (searchLoad_pair n false a M[i] e hm.2 he).2
    rw [if_pos ⟨hm.1, hx⟩] at hp
    have hle := load_le hx hm.1
    refine Ev.step (fun k => by rw [laws_FnLoads.l0]) (ev_pos (by omega) (ev_pos (by omega) ?_))
    rw [hrd, w64 (x := (i : Int) + 1) (by omega) (by omega)]
    refine Ev.bind hp (ev_pos rfl (ev_neg (by simp only [Int.not_lt]; exact hle) ?_))
    by_cases c : found = true
    · exact ev_pos c (ih (i + 1) true (by omega) (.inl rfl))
    · refine ev_neg c (ih (i + 1) _ (by omega) ?_)
      rcases hf with hf | ⟨x, x1, x2⟩
      · exact absurd hf c
      · rw [List.drop_eq_getElem_cons hi] at x1
        rcases List.mem_cons.1 x1 with rfl | x1
        · refine .inl ?_
          simp only [x2]
          exact beq_self_eq_true _
        · exact .inr ⟨x, x1, x2⟩
theorem FnLoads (l : List Int) (hl : l.length ≤ maxLen) (hl2 : l.length * 1 ≤ 140737488351232) (hw : ∀ x ∈ l, (Lit.int .u8 x).wf = true) : ∃ k, laws_FnLoads.f k l = some true := by
  have hl8 : ∀ x ∈ l, 0 ≤ x ∧ x ≤ 255 := by
    intro x hx
    have h2 : IntKind.u8.min ≤ x ∧ x ≤ IntKind.u8.max := by simpa [Lit.wf] using hw x hx
    rw [show IntKind.u8.min = 0 from rfl, show IntKind.u8.max = 255 from rfl] at h2
    exact h2
  refine Ev.rounds (r := true) ?_
  unfold laws_FnLoads.f laws_vBig.f
  simp only [Option.bind_some]
  by_cases hb : (l.length : Int) > 65536
  · exact ev_pos (by simpa using hb) (ev_some rfl)
  refine ev_neg (by simpa using hb) ?_
  obtain ⟨n, g, a, t, e, hD, ht, he⟩ := drawSearchLoad_tot l hl8
  obtain ⟨s1, s2⟩ := searchLoad_pair n g a t e (by omega) (by omega)
  obtain ⟨y, ey, hy8⟩ := vCut_tot l hl8 (by omega) 1 (by omega)
  obtain ⟨m, f, b, u, hE, hu⟩ := drawLeastLoad_tot y hy8
  obtain ⟨l1, l2⟩ := leastLoad_pair m f b u (by omega)
  have ne : ∀ z : Bool, ¬ ((z != z) = true) := by decide
  refine Ev.bind hD (Ev.bind s2 (Ev.bind s1 (Ev.bind (ev_const ey) (Ev.bind hE (Ev.bind l2 (Ev.bind l1 (ev_pos rfl (ev_neg (ne _) (ev_pos rfl (ev_neg (ne _) ?_))))))))))
  have fin : Ev (fun k => laws_FnLoads.j0 k b u (if okStart m f b = true ∧ okHefts m u = true then (impl_LeastLoad.L m u b b b, true) else (0, false)).1 (if okStart m f b = true ∧ okHefts m u = true then (impl_LeastLoad.L m u b b b, true) else (0, false)).2 m f) true := by
    by_cases c : okStart m f b = true ∧ okHefts m u = true
    · rw [if_pos c]
      obtain ⟨_, rfl, k2, k3, k4, k5⟩ := okStart_b c.1
      refine Ev.step (fun k => by rw [laws_FnLoads.j0]) (ev_pos rfl ?_)
      by_cases d : m > 10
      · refine Ev.bind (a := (([] : List (List Int)), false)) ?_ (ev_neg (by decide) (ev_some rfl))
        unfold impl_AllSearches.f
        exact Ev.bind (impl_isStart.ev m false b) (ev_pos c.1 (ev_pos d (ev_some rfl)))
      · obtain ⟨M, m1, m2, m3, m4⟩ := agreed (agrees m b ⟨k2, by omega⟩ ⟨k4, k5⟩) ⟨k2, by omega⟩ ⟨k4, k5⟩
        refine Ev.bind (a := (M, true)) ?_ (ev_pos rfl ?_)
        · unfold impl_AllSearches.f
          rw [m1]
          exact Ev.bind (impl_isStart.ev m false b) (ev_pos c.1 (ev_neg d (ev_some rfl)))
        · obtain ⟨x, x1, x2⟩ := load_some c.2 c.1
          exact all_loop (by omega) c.2 M m2 m3 M.length 0 false (by omega) (.inr ⟨x, m4 x x1, x2⟩)
    · rw [if_neg c]
      exact Ev.step (fun k => by rw [laws_FnLoads.j0]) (ev_neg (by decide) (ev_some rfl))
  by_cases c : okSearch n g a t = true ∧ okHefts n e = true
  · rw [if_pos c]
    have h' := c.1
    simp only [okSearch, Bool.and_eq_true] at h'
    obtain ⟨_, rfl, k2, k3, k4, k5⟩ := okStart_b h'.1
    have hp := (leastLoad_pair n false a e (by omega)).2
    rw [if_pos ⟨h'.1, c.2⟩] at hp
    refine ev_pos rfl (Ev.bind hp (ev_pos rfl (ev_neg ?_ fin)))
    simp only [Int.not_lt]
    exact load_le c.2 c.1
  · rw [if_neg c]
    exact ev_neg (by decide) fin

end Go.Proofs.Ytogflbocmiogpaa.Pure
