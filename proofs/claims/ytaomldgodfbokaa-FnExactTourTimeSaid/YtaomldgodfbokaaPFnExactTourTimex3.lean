-- Written for this claim by this session's turned copy of the printer.
import Derived.Test.YtaomldgodfbokaaPFnExactTourTimex0
namespace Go.Proofs.Ytaomldgodfbokaa.PFnExactTourTime
open Go.RowKit Go.Proofs.YtaomldgodfbokaaW.PrintWords Go.Proofs.YtaomldgodfbokaaW.PrintLast Go.Proofs.YtaomldgodfbokaaW.PrintMore
attribute [local go_sem] max2_int min2_int max_two min_two max_three min_three max_four min_four   -- for this text's walks alone
set_option linter.unusedVariables false
set_option linter.unusedSimpArgs false

/-! ### impl_within: function 60 -/
def impl_within.f (a0 : Int) (a1 : Int) (a2 : Int) : Option (Bool) := if a0 ≥ a1 then (some (decide (a0 ≤ a2))) else (some false)
set_option maxHeartbeats 8000000 in
set_option maxRecDepth 100000 in
theorem impl_within.calls (a0 : Int) (a1 : Int) (a2 : Int) (r : Bool) (w : World) (h : impl_within.f a0 a1 a2 = some r) :
    Calls Try.prog 60 #[.int .i64 a0, .int .i64 a1, .int .i64 a2] w fun e w' => e = .returned (.bool r) ∧ Drawn0 w w' := by
  have H : (if a0 ≥ a1 then (some (decide (a0 ≤ a2))) else (some false)) = some r := h
  clear h
  by_cases c4 : a0 ≥ a1
  · rw [if_pos c4] at H
    have c4b0 : decide (a1 ≤ a0) = true := decide_eq_true c4
    clear c4
    obtain rfl := Option.some.inj H
    go_enter Try.func60, Try.ntmps60
    go_wp2
    go_ret
    exact ⟨by first | rfl | (simp; done) | (simp only [i64_w, i32_w]; done) | (simp only [i64_w, i32_w] <;> (first | rfl | simp)) | (simp [*]; done), by repeat (first | exact Drawn0.refl _ | apply Drawn0.step)⟩
  · rw [if_neg c4] at H
    have c4b0 : decide (a1 ≤ a0) = false := decide_eq_false c4
    clear c4
    obtain rfl := Option.some.inj H
    go_enter Try.func60, Try.ntmps60
    go_wp2
    go_ret
    exact ⟨by first | rfl | (simp; done) | (simp only [i64_w, i32_w]; done) | (simp only [i64_w, i32_w] <;> (first | rfl | simp)) | (simp [*]; done), by repeat (first | exact Drawn0.refl _ | apply Drawn0.step)⟩

/-! ### impl_IsRoad: function 50 -/
def impl_IsRoad.f (a0_0 : Int) (a0_1 : Bool) : Option (Bool) := (impl_within.f a0_0 2 24).bind fun t133 => (if t133 = true then (if a0_1 = true then (some (decide (a0_0 ≥ 3))) else (some true)) else (some false))
set_option maxHeartbeats 8000000 in
set_option maxRecDepth 100000 in
theorem impl_IsRoad.calls (a0_0 : Int) (a0_1 : Bool) (r : Bool) (w : World) (h : impl_IsRoad.f a0_0 a0_1 = some r) :
    Calls Try.prog 50 #[.agg #[.int .i64 a0_0, .bool a0_1]] w fun e w' => e = .returned (.bool r) ∧ Below w.heap.size w w' := by
  have hu27 := Try.underlying27
  have HB := Aside0.mk (Below.refl w.heap.size w)
  have H : ((impl_within.f a0_0 2 24).bind fun t133 => (if t133 = true then (if a0_1 = true then (some (decide (a0_0 ≥ 3))) else (some true)) else (some false))) = some r := h
  clear h
  replace H := Option.bind_eq_some_iff.mp H
  obtain ⟨t133, A20, H⟩ := H
  replace H : (if t133 = true then (if a0_1 = true then (some (decide (a0_0 ≥ 3))) else (some true)) else (some false)) = some r := H
  have A2 := Aside0.mk A20
  clear A20
  by_cases c3 : t133 = true
  · subst c3
    have H1 : (if a0_1 = true then (some (decide (a0_0 ≥ 3))) else (some true)) = some r := by rw [if_pos rfl] at H; exact H
    clear H
    have H := H1
    clear H1
    by_cases c4 : a0_1 = true
    · subst c4
      have H1 : (some (decide (a0_0 ≥ 3))) = some r := by rw [if_pos rfl] at H; exact H
      clear H
      have H := H1
      clear H1
      obtain rfl := Option.some.inj H
      go_enter Try.func50, Try.ntmps50
      go_wp2_with (first | ((with_reducible refine gate_dst (N := 1) rfl ?_); refine box_event ?hg (N := 1) ?hd (cs := #[.int .i64 a0_0, .bool true]) (t := 27) ?hr ?_; (case hd => rfl); (case hg => rfl); (case hr => first | (go_simp; done) | (go_simp; rfl)); intro gb132 hg w5 hbox hb; have n0_ := Aside0.mk (below_step (by repeat (first | (with_reducible first | exact HB.out | apply below_alloc | apply pw_below_drewN | apply below_drew1) | exact HB.out)) hb); have n1_ := Aside0.mk (hbox); have n2_ := Aside0.mk ((by rw [hg]; exact (below_size (by repeat (first | (with_reducible first | exact HB.out | apply below_alloc | apply pw_below_drewN | apply below_drew1) | exact HB.out))) : w.heap.size ≤ gb132)); have n3_ := Aside0.mk ((by rw [hg]; exact (below_size (by repeat (first | (with_reducible first | exact HB.out | apply below_alloc | apply pw_below_drewN | apply below_drew1) | exact HB.out))) : w.heap.size ≤ gb132)); clear HB; have HB := n0_; have BK132 := n1_; have GW132 := n2_; have GE132 := n3_; clear n0_ n1_ n2_ n3_; clear hb hbox hg; have hcz6_0 : w5.cell? ⟨gb132, 0, none⟩ = some (.int .i64 a0_0) := (blk_cell BK132.out 0).trans rfl; have hcz6_1 : w5.cell? ⟨gb132, 1, none⟩ = some (.bool true) := (blk_cell BK132.out 1).trans rfl; have hfz6_0 := blk_frozen BK132.out 0; have hfz6_1 := blk_frozen BK132.out 1) | ((with_reducible refine gate_callee (f := 60) rfl ?_); refine goesL_ (some 5) rfl rfl Try.func60 (by kernel_rfl) rfl #[.int .i64 a0_0, .int .i64 2, .int .i64 24] rfl (by (try simp only [List.map_toArray, List.map_cons, List.map_nil]); first | done | rfl | (simp only [List.length_drop, List.length_take]; rfl)) ?_; (with_reducible refine (impl_within.calls a0_0 2 24 true _ A2.out).mono ?_); rintro e w' ⟨rfl, ⟨nd, rfl⟩⟩; refine ⟨_, rfl, ?_⟩))
      go_ret
      exact ⟨by first | rfl | (simp [errW_none, errW_some] <;> rfl) | (simp [*, errW_none, errW_some] <;> rfl), by repeat (first | (with_reducible first | exact HB.out | apply below_alloc | apply pw_below_drewN | apply below_drew1 | refine below_set ?_ GE132.out) | exact HB.out)⟩
    · replace c4 := Bool.eq_false_iff.mpr c4
      subst c4
      have H1 : (some true) = some r := by rw [if_neg (show ¬ (false = true) by decide)] at H; exact H
      clear H
      have H := H1
      clear H1
      obtain rfl := Option.some.inj H
      go_enter Try.func50, Try.ntmps50
      go_wp2_with (first | ((with_reducible refine gate_dst (N := 1) rfl ?_); refine box_event ?hg (N := 1) ?hd (cs := #[.int .i64 a0_0, .bool false]) (t := 27) ?hr ?_; (case hd => rfl); (case hg => rfl); (case hr => first | (go_simp; done) | (go_simp; rfl)); intro gb132 hg w7 hbox hb; have n0_ := Aside0.mk (below_step (by repeat (first | (with_reducible first | exact HB.out | apply below_alloc | apply pw_below_drewN | apply below_drew1) | exact HB.out)) hb); have n1_ := Aside0.mk (hbox); have n2_ := Aside0.mk ((by rw [hg]; exact (below_size (by repeat (first | (with_reducible first | exact HB.out | apply below_alloc | apply pw_below_drewN | apply below_drew1) | exact HB.out))) : w.heap.size ≤ gb132)); have n3_ := Aside0.mk ((by rw [hg]; exact (below_size (by repeat (first | (with_reducible first | exact HB.out | apply below_alloc | apply pw_below_drewN | apply below_drew1) | exact HB.out))) : w.heap.size ≤ gb132)); clear HB; have HB := n0_; have BK132 := n1_; have GW132 := n2_; have GE132 := n3_; clear n0_ n1_ n2_ n3_; clear hb hbox hg; have hcz8_0 : w7.cell? ⟨gb132, 0, none⟩ = some (.int .i64 a0_0) := (blk_cell BK132.out 0).trans rfl; have hcz8_1 : w7.cell? ⟨gb132, 1, none⟩ = some (.bool false) := (blk_cell BK132.out 1).trans rfl; have hfz8_0 := blk_frozen BK132.out 0; have hfz8_1 := blk_frozen BK132.out 1) | ((with_reducible refine gate_callee (f := 60) rfl ?_); refine goesL_ (some 5) rfl rfl Try.func60 (by kernel_rfl) rfl #[.int .i64 a0_0, .int .i64 2, .int .i64 24] rfl (by (try simp only [List.map_toArray, List.map_cons, List.map_nil]); first | done | rfl | (simp only [List.length_drop, List.length_take]; rfl)) ?_; (with_reducible refine (impl_within.calls a0_0 2 24 true _ A2.out).mono ?_); rintro e w' ⟨rfl, ⟨nd, rfl⟩⟩; refine ⟨_, rfl, ?_⟩))
      go_ret
      exact ⟨by first | rfl | (simp [errW_none, errW_some] <;> rfl) | (simp [*, errW_none, errW_some] <;> rfl), by repeat (first | (with_reducible first | exact HB.out | apply below_alloc | apply pw_below_drewN | apply below_drew1 | refine below_set ?_ GE132.out) | exact HB.out)⟩
  · replace c3 := Bool.eq_false_iff.mpr c3
    subst c3
    have H1 : (some false) = some r := by rw [if_neg (show ¬ (false = true) by decide)] at H; exact H
    clear H
    have H := H1
    clear H1
    obtain rfl := Option.some.inj H
    go_enter Try.func50, Try.ntmps50
    go_wp2_with (first | ((with_reducible refine gate_dst (N := 1) rfl ?_); refine box_event ?hg (N := 1) ?hd (cs := #[.int .i64 a0_0, .bool a0_1]) (t := 27) ?hr ?_; (case hd => rfl); (case hg => rfl); (case hr => first | (go_simp; done) | (go_simp; rfl)); intro gb132 hg w9 hbox hb; have n0_ := Aside0.mk (below_step (by repeat (first | (with_reducible first | exact HB.out | apply below_alloc | apply pw_below_drewN | apply below_drew1) | exact HB.out)) hb); have n1_ := Aside0.mk (hbox); have n2_ := Aside0.mk ((by rw [hg]; exact (below_size (by repeat (first | (with_reducible first | exact HB.out | apply below_alloc | apply pw_below_drewN | apply below_drew1) | exact HB.out))) : w.heap.size ≤ gb132)); have n3_ := Aside0.mk ((by rw [hg]; exact (below_size (by repeat (first | (with_reducible first | exact HB.out | apply below_alloc | apply pw_below_drewN | apply below_drew1) | exact HB.out))) : w.heap.size ≤ gb132)); clear HB; have HB := n0_; have BK132 := n1_; have GW132 := n2_; have GE132 := n3_; clear n0_ n1_ n2_ n3_; clear hb hbox hg; have hcz10_0 : w9.cell? ⟨gb132, 0, none⟩ = some (.int .i64 a0_0) := (blk_cell BK132.out 0).trans rfl; have hcz10_1 : w9.cell? ⟨gb132, 1, none⟩ = some (.bool a0_1) := (blk_cell BK132.out 1).trans rfl; have hfz10_0 := blk_frozen BK132.out 0; have hfz10_1 := blk_frozen BK132.out 1) | ((with_reducible refine gate_callee (f := 60) rfl ?_); refine goesL_ (some 5) rfl rfl Try.func60 (by kernel_rfl) rfl #[.int .i64 a0_0, .int .i64 2, .int .i64 24] rfl (by (try simp only [List.map_toArray, List.map_cons, List.map_nil]); first | done | rfl | (simp only [List.length_drop, List.length_take]; rfl)) ?_; (with_reducible refine (impl_within.calls a0_0 2 24 false _ A2.out).mono ?_); rintro e w' ⟨rfl, ⟨nd, rfl⟩⟩; refine ⟨_, rfl, ?_⟩))
    go_ret
    exact ⟨by first | rfl | (simp [errW_none, errW_some] <;> rfl) | (simp [*, errW_none, errW_some] <;> rfl), by repeat (first | (with_reducible first | exact HB.out | apply below_alloc | apply pw_below_drewN | apply below_drew1 | refine below_set ?_ GE132.out) | exact HB.out)⟩

/-! ### impl_allWithin: function 55 -/
def impl_allWithin.l0 : Nat → Int → Int → List Int → Int → Int → Option (Bool)
  | 0, _, _, _, _, _ => none
  | k + 1, x1, x2, x9, x10, x11 => if x11 < x10 then (if 0 ≤ x11 then (if x11 < (x9.length : Int) then ((impl_within.f (rd x9 x11) x1 x2).bind fun t135 => (if t135 = true then (impl_allWithin.l0 k x1 x2 x9 x10 (wrap64 (x11 + 1))) else (some false))) else (none)) else (none)) else (some true)
def impl_allWithin.f (k : Nat) (l0 : List Int) (a1 : Int) (a2 : Int) : Option (Bool) := impl_allWithin.l0 k a1 a2 l0 (l0.length : Int) 0
theorem impl_allWithin.mono_l : ∀ k, (∀ y0 y1 y2 y3 y4, LeO (impl_allWithin.l0 k y0 y1 y2 y3 y4) (impl_allWithin.l0 (k + 1) y0 y1 y2 y3 y4))
  | 0 => fun _ _ _ _ _ r h => by simp [impl_allWithin.l0] at h
  | k + 1 => by
    have ih0 := impl_allWithin.mono_l k
    · intro y0 y1 y2 y3 y4
      unfold impl_allWithin.l0
      repeat' first
      | (with_reducible exact ih0 _ _ _ _ _)
      | (with_reducible exact LeO.refl _)
      | (with_reducible exact LeO.none _)
      | (with_reducible refine LeO.ite ?_ ?_)
      | (with_reducible refine LeO.bind ?_ (fun _ => ?_))
      | exact ih0 _ _ _ _ _
      | exact LeO.none _
      | refine LeO.ite ?_ ?_
      | refine LeO.bind ?_ (fun _ => ?_)
theorem impl_allWithin.mono : ∀ a0 a1 a2 k, LeO (impl_allWithin.f k a0 a1 a2) (impl_allWithin.f (k + 1) a0 a1 a2) := by
  intro a0 a1 a2 k
  have ih0 := impl_allWithin.mono_l k
  unfold impl_allWithin.f
  repeat' first
      | (with_reducible exact ih0 _ _ _ _ _)
      | (with_reducible exact LeO.refl _)
      | (with_reducible exact LeO.none _)
      | (with_reducible refine LeO.ite ?_ ?_)
      | (with_reducible refine LeO.bind ?_ (fun _ => ?_))
      | exact ih0 _ _ _ _ _
      | exact LeO.none _
      | refine LeO.ite ?_ ?_
      | refine LeO.bind ?_ (fun _ => ?_)
set_option maxHeartbeats 8000000 in
set_option maxRecDepth 100000 in
theorem impl_allWithin.calls (k : Nat) (A0 : Option Addr) (c0 : Nat) (l0 : List Int) (a1 : Int) (a2 : Int) (r : Bool) (w : World) (hr0 : Kd.C (Kd.int .i64) w A0 l0.length l0) (hc0 : l0.length ≤ c0) (h : impl_allWithin.f k l0 a1 a2 = some r) :
    Calls Try.prog 55 #[.slice A0 l0.length c0, .int .i64 a1, .int .i64 a2] w fun e w' => e = .returned (.bool r) ∧ Drawn0 w w' := by
  have HR0 := Aside0.mk hr0
  have HC0 := Aside0.mk hc0
  clear hr0 hc0
  have H : (impl_allWithin.l0 k a1 a2 l0 (l0.length : Int) 0) = some r := h
  clear h
  have H' := Aside0.mk H
  clear H
  go_enter Try.func55, Try.ntmps55
  go_wp2
  go_loopg [11] k (fun kq v11 w' => ∃ (x11_1 : Int), v11 = .int .i64 x11_1 ∧ Aside0 (impl_allWithin.l0 kq a1 a2 l0 (l0.length : Int) x11_1 = some r) ∧ Aside0 (kq ≤ k) ∧ Drawn0 w w')
  case atStart => exact ⟨(0), (by first | rfl | (simp; done) | (simp only [i64_w, i32_w]; done) | (simp only [i64_w, i32_w] <;> (first | rfl | simp)) | (simp [*]; done)), H', ⟨Nat.le_refl _⟩, by repeat (first | exact Drawn0.refl _ | apply Drawn0.step)⟩
  case round =>
    clear H'
    try clear p2
    obtain ⟨x11_1, rfl, HA, HK1, ⟨m1, rfl⟩⟩ := hrel
    cases gk with
    | zero => exact absurd HA.out (by simp [impl_allWithin.l0])
    | succ k1 =>
      have H := HA.out
      clear HA
      simp only [impl_allWithin.l0] at H
      by_cases c4 : x11_1 < (l0.length : Int)
      · rw [if_pos c4] at H
        have c4b0 : decide (x11_1 < (l0.length : Int)) = true := decide_eq_true c4
        clear c4
        by_cases c5 : 0 ≤ x11_1
        · rw [if_pos c5] at H
          have c5b0 : decide (0 ≤ x11_1) = true := decide_eq_true c5
          clear c5
          by_cases c6 : x11_1 < (l0.length : Int)
          · rw [if_pos c6] at H
            have c6b0 : decide (x11_1 < (l0.length : Int)) = true := decide_eq_true c6
            clear c6
            replace H := Option.bind_eq_some_iff.mp H
            obtain ⟨t135, A70, H⟩ := H
            replace H : (if t135 = true then (impl_allWithin.l0 k1 a1 a2 l0 (l0.length : Int) (wrap64 (x11_1 + 1))) else (some false)) = some r := H
            have A7 := Aside0.mk A70
            clear A70
            by_cases c8 : t135 = true
            · subst c8
              have H1 : (impl_allWithin.l0 k1 a1 a2 l0 (l0.length : Int) (wrap64 (x11_1 + 1))) = some r := by rw [if_pos rfl] at H; exact H
              clear H
              have H := H1
              clear H1
              have H' := Aside0.mk H
              clear H
              have p134 : 0 ≤ (x11_1 : Int) := of_decide_eq_true (by first | (with_reducible assumption) | assumption)
              have q134 : x11_1 < (l0.length : Int) := of_decide_eq_true (by first | (with_reducible assumption) | assumption)
              obtain ⟨ad134, e134, hx134_0⟩ := Kd.at_int HR0.out x11_1 p134 q134
              cases e134
              replace p134 := eq_true p134
              replace q134 := eq_true q134
              go_wp2_with (first | ((with_reducible refine gate_callee (f := 60) rfl ?_); refine goesL_ (some 18) rfl rfl Try.func60 (by kernel_rfl) rfl #[.int .i64 (rd l0 x11_1), .int .i64 a1, .int .i64 a2] rfl (by (try simp only [List.map_toArray, List.map_cons, List.map_nil]); first | done | rfl | (simp only [List.length_drop, List.length_take]; rfl)) ?_; (with_reducible refine (impl_within.calls (rd l0 x11_1) a1 a2 true _ A7.out).mono ?_); rintro e w' ⟨rfl, ⟨nd, rfl⟩⟩; refine ⟨_, rfl, ?_⟩))
              go_roundg k1
              case measure => have := HK1.out; omega
              case rel => exact ⟨(wrap64 (x11_1 + 1)), (by first | rfl | (simp; done) | (simp only [i64_w, i32_w]; done) | (simp only [i64_w, i32_w] <;> (first | rfl | simp)) | (simp [*]; done)), H', ⟨by have := HK1.out; omega⟩, by repeat (first | exact Drawn0.refl _ | apply Drawn0.step)⟩
            · replace c8 := Bool.eq_false_iff.mpr c8
              subst c8
              have H1 : (some false) = some r := by rw [if_neg (show ¬ (false = true) by decide)] at H; exact H
              clear H
              have H := H1
              clear H1
              obtain rfl := Option.some.inj H
              have p134 : 0 ≤ (x11_1 : Int) := of_decide_eq_true (by first | (with_reducible assumption) | assumption)
              have q134 : x11_1 < (l0.length : Int) := of_decide_eq_true (by first | (with_reducible assumption) | assumption)
              obtain ⟨ad134, e134, hx134_0⟩ := Kd.at_int HR0.out x11_1 p134 q134
              cases e134
              replace p134 := eq_true p134
              replace q134 := eq_true q134
              go_wp2_with (first | ((with_reducible refine gate_callee (f := 60) rfl ?_); refine goesL_ (some 18) rfl rfl Try.func60 (by kernel_rfl) rfl #[.int .i64 (rd l0 x11_1), .int .i64 a1, .int .i64 a2] rfl (by (try simp only [List.map_toArray, List.map_cons, List.map_nil]); first | done | rfl | (simp only [List.length_drop, List.length_take]; rfl)) ?_; (with_reducible refine (impl_within.calls (rd l0 x11_1) a1 a2 false _ A7.out).mono ?_); rintro e w' ⟨rfl, ⟨nd, rfl⟩⟩; refine ⟨_, rfl, ?_⟩))
              go_ret
              exact ⟨by first | rfl | (simp; done) | (simp only [i64_w, i32_w]; done) | (simp only [i64_w, i32_w] <;> (first | rfl | simp)) | (simp [*]; done), by repeat (first | exact Drawn0.refl _ | apply Drawn0.step)⟩
          · rw [if_neg c6] at H
            exact absurd H (by simp)
        · rw [if_neg c5] at H
          exact absurd H (by simp)
      · rw [if_neg c4] at H
        have c4b0 : decide (x11_1 < (l0.length : Int)) = false := decide_eq_false c4
        clear c4
        obtain rfl := Option.some.inj H
        go_wp2
        go_ret
        exact ⟨by first | rfl | (simp; done) | (simp only [i64_w, i32_w]; done) | (simp only [i64_w, i32_w] <;> (first | rfl | simp)) | (simp [*]; done), by repeat (first | exact Drawn0.refl _ | apply Drawn0.step)⟩

/-! ### impl_Road_has: function 51 -/
def impl_Road_has.f (k : Nat) (a0_0 : Int) (a0_1 : Bool) (l1 : List Int) : Option (Bool) := (impl_allWithin.f k l1 0 (wrap64 (a0_0 - 1))).bind fun t137 => (some t137)
theorem impl_Road_has.mono : ∀ a0 a1 a2 k, LeO (impl_Road_has.f k a0 a1 a2) (impl_Road_has.f (k + 1) a0 a1 a2) := by
  intro a0 a1 a2 k
  unfold impl_Road_has.f
  repeat' first
      | (with_reducible exact impl_allWithin.mono _ _ _ _)
      | (with_reducible exact LeO.refl _)
      | (with_reducible exact LeO.none _)
      | (with_reducible refine LeO.ite ?_ ?_)
      | (with_reducible refine LeO.bind ?_ (fun _ => ?_))
      | exact impl_allWithin.mono _ _ _ _
      | exact LeO.none _
      | refine LeO.ite ?_ ?_
      | refine LeO.bind ?_ (fun _ => ?_)
set_option maxHeartbeats 8000000 in
set_option maxRecDepth 100000 in
theorem impl_Road_has.calls (k : Nat) (a0_0 : Int) (a0_1 : Bool) (A1 : Option Addr) (c1 : Nat) (l1 : List Int) (r : Bool) (w : World) (hr1 : Kd.C (Kd.int .i64) w A1 l1.length l1) (hc1 : l1.length ≤ c1) (h : impl_Road_has.f k a0_0 a0_1 l1 = some r) :
    Calls Try.prog 51 #[.agg #[.int .i64 a0_0, .bool a0_1], .slice A1 l1.length c1] w fun e w' => e = .returned (.bool r) ∧ Below w.heap.size w w' := by
  have hu27 := Try.underlying27
  have HR1 := Aside0.mk hr1
  have HC1 := Aside0.mk hc1
  clear hr1 hc1
  have HB := Aside0.mk (Below.refl w.heap.size w)
  have H : ((impl_allWithin.f k l1 0 (wrap64 (a0_0 - 1))).bind fun t137 => (some t137)) = some r := h
  clear h
  replace H := Option.bind_eq_some_iff.mp H
  obtain ⟨t137, A30, H⟩ := H
  replace H : (some t137) = some r := H
  have A3 := Aside0.mk A30
  clear A30
  obtain rfl := Option.some.inj H
  go_enter Try.func51, Try.ntmps51
  go_wp2_with (first | ((with_reducible refine gate_dst (N := 2) rfl ?_); refine box_event ?hg (N := 2) ?hd (cs := #[.int .i64 a0_0, .bool a0_1]) (t := 27) ?hr ?_; (case hd => rfl); (case hg => rfl); (case hr => first | (go_simp; done) | (go_simp; rfl)); intro gb136 hg w4 hbox hb; have n0_ := Aside0.mk (below_step (by repeat (first | (with_reducible first | exact HB.out | apply below_alloc | apply pw_below_drewN | apply below_drew1) | exact HB.out)) hb); have n1_ := Aside0.mk (hbox); have n2_ := Aside0.mk ((by rw [hg]; exact (below_size (by repeat (first | (with_reducible first | exact HB.out | apply below_alloc | apply pw_below_drewN | apply below_drew1) | exact HB.out))) : w.heap.size ≤ gb136)); have n3_ := Aside0.mk ((by rw [hg]; exact (below_size (by repeat (first | (with_reducible first | exact HB.out | apply below_alloc | apply pw_below_drewN | apply below_drew1) | exact HB.out))) : w.heap.size ≤ gb136)); clear HB; have HB := n0_; have BK136 := n1_; have GW136 := n2_; have GE136 := n3_; clear n0_ n1_ n2_ n3_; clear hb hbox hg; have hcz5_0 : w4.cell? ⟨gb136, 0, none⟩ = some (.int .i64 a0_0) := (blk_cell BK136.out 0).trans rfl; have hcz5_1 : w4.cell? ⟨gb136, 1, none⟩ = some (.bool a0_1) := (blk_cell BK136.out 1).trans rfl; have hfz5_0 := blk_frozen BK136.out 0; have hfz5_1 := blk_frozen BK136.out 1) | ((with_reducible refine gate_callee (f := 55) rfl ?_); refine goesL_ (some 9) rfl rfl Try.func55 (by kernel_rfl) rfl #[.slice A1 l1.length c1, .int .i64 0, .int .i64 (wrap64 (a0_0 - 1))] rfl (by (try simp only [List.map_toArray, List.map_cons, List.map_nil]); first | done | rfl | (simp only [List.length_drop, List.length_take]; rfl)) ?_; (with_reducible refine (impl_allWithin.calls k _ _ l1 0 (wrap64 (a0_0 - 1)) t137 _ ?side1 ?side2 A3.out).mono ?_); (case side1 => repeat (first | exact (Kd.C_below HR1.out HB.out) | (with_reducible refine Kd.C_alloc ?_ _) | (with_reducible refine Kd.C_drewN ?_ _) | (with_reducible refine Kd.C_drew ?_))); (case side2 => exact HC1.out); rintro e w' ⟨rfl, ⟨nd, rfl⟩⟩; refine ⟨_, rfl, ?_⟩))
  go_ret
  exact ⟨by first | rfl | (simp [errW_none, errW_some] <;> rfl) | (simp [*, errW_none, errW_some] <;> rfl), by repeat (first | (with_reducible first | exact HB.out | apply below_alloc | apply pw_below_drewN | apply below_drew1 | refine below_set ?_ GE136.out) | exact HB.out)⟩

/-! ### impl_mapped: function 71 -/
theorem impl_mapped.info : (Try.prog.info? 3).map (fun i => (i.zero, i.size, i.bytes)) = some (some (.int .i64 0), 1, 8) := by kernel_rfl
set_option maxHeartbeats 1600000 in
set_option maxRecDepth 100000 in
theorem impl_mapped.calls_cap72 (p1 p2 : Option Addr) (φ : Int → Int) (A0 : Option Addr) (c0 : Nat) (l0 : List Int) (w : World) (hr0 : Kd.C (Kd.int .i64) w A0 l0.length l0) (hc0 : l0.length ≤ c0) (hl : l0.length < 17592186044416)
    (hφ : ∀ W : World, Below w.heap.size w W → ∀ x : Int, x ∈ l0 → Calls Try.prog 72 #[.int .i64 x, .pointer p1, .pointer p2] W fun e W' => e = .returned (.int .i64 (φ x)) ∧ Below W.heap.size W W') :
    Calls Try.prog 71 #[.slice A0 l0.length c0, .func (.func 72) #[] #[.pointer p1, .pointer p2]] w fun e w' => ∃ v0_ : Value, e = .returned v0_ ∧ Kd.R (Kd.int .i64) 3 w' w.heap.size (fun _ => True) v0_ (l0.map φ) ∧ Below w.heap.size w w' := by
  have HR := Aside0.mk hr0
  have HC := Aside0.mk hc0
  have HL := Aside0.mk hl
  have HF := Aside0.mk hφ
  clear hr0 hc0 hl hφ
  have HB := Aside0.mk (Below.refl w.heap.size w)
  go_enter Try.func71, Try.ntmps71
  go_wp2_with ((with_reducible refine gate_dst (N := 8) rfl ?_); refine Kd.R_lit (Kd.int .i64) _ 3 ?hg (N := 8) ?hd (xs := ([] : List Int)) (inner := []) (ok := fun _ => True) (okp := fun _ => True) ?hr ?hp (fun _ hk => hk) trivial (Below.refl _ _) (Nat.le_refl _) (by simp) ?_; (case hd => rfl); (case hg => rfl); (case hr => first | (go_simp; done) | (go_simp; rfl)); (case hp => exact (Reps.none _ _)); intro v1 w1 ho hb hg_ hnew_; clear hg_ hnew_; have n0_ := Aside0.mk (Kd.R_lower ho (below_size HB.out)); have n1_ := Aside0.mk (below_step HB.out hb); clear HB; have HO := n0_; have HB := n1_; clear n0_ n1_; clear hb ho)
  go_loopg [5, 11] l0.length (fun d v5 v11 w' => ∃ (x5 : List Int) (i : Int), v11 = .int .i64 i ∧ Aside0 (0 ≤ i) ∧ Aside0 (i + d = l0.length) ∧ Aside0 (x5 ++ (l0.drop i.toNat).map φ = l0.map φ) ∧ Aside0 (x5.length ≤ i) ∧ Aside0 (Kd.R (Kd.int .i64) 3 w' w.heap.size (fun _ => True) v5 x5) ∧ Aside0 (Below w.heap.size w w'))
  case atStart => exact ⟨[], 0, rfl, ⟨by omega⟩, ⟨by omega⟩, ⟨by simp⟩, ⟨by simp⟩, HO, HB⟩
  case round =>
    clear HO HB
    obtain ⟨x5, i, rfl, HI, HD, HX, HN, HO, HB⟩ := hrel
    by_cases hlt : i < (l0.length : Int)
    · have hi0 := HI.out
      have hL := HL.out
      have hD := HD.out
      obtain ⟨ad, e, hx⟩ := Kd.at_int HR.out i hi0 hlt
      cases e
      have hx' := (HB.out.cell (World.block_lt_of_cell? w _ hx)).trans hx
      have hmem : rd l0 i ∈ l0 := by
        unfold rd
        rw [List.getD_eq_getElem?_getD, List.getElem?_eq_getElem (by omega)]
        exact List.getElem_mem _
      have HM := Aside0.mk hmem
      have hdrop : l0.drop i.toNat = rd l0 i :: l0.drop (i.toNat + 1) := by
        rw [List.drop_eq_getElem_cons (by omega)]
        unfold rd
        rw [List.getD_eq_getElem?_getD, List.getElem?_eq_getElem (by omega)]
        rfl
      have HDR := Aside0.mk hdrop
      have hn : x5.length < 17592186044416 := by have := HN.out; omega
      have HNN := Aside0.mk hn
      have GD : ∀ gk : Nat, i + gk = l0.length → 0 < gk := fun gk h => by omega
      have HGD := Aside0.mk GD
      have w1 : wrap64 (i + 1) = i + 1 := by unfold wrap64; omega
      have W1 := Aside0.mk w1
      have d0 : decide (i < (l0.length : Int)) = true := decide_eq_true hlt
      have p0 := eq_true hi0
      have q0 := eq_true hlt
      clear hx hmem hdrop hn GD w1 hi0 hL hD hlt
      go_wp2_with (first | (go_at_call 72; refine (HF.out _ HB.out (rd l0 i) HM.out).mono ?_; rintro e w' ⟨rfl, hb⟩; have n0_ := Aside0.mk (Kd.R_below HO.out hb); have n1_ := Aside0.mk (below_step HB.out hb); clear HB HO; have HO := n0_; have HB := n1_; clear n0_ n1_; clear hb) | ((with_reducible refine gate_builtin (b := .append) (xs := #[.tmp 15, .tmp 19]) rfl ?_); at_builtin; refine Kd.R_append (Kd.int .i64) (w0 := w) w.heap.size rfl (.tmp 15) (.tmp 19) 24 3 (.int .i64 0) 8 rfl Try.underlying24 impl_mapped.info rfl (by decide) (by omega) u5 x5 (φ (rd l0 i)) [.int .i64 (φ (rd l0 i))] (fun _ => True) (fun _ => False) rfl rfl ?aP (fun _ hk => hk.elim) ?aF ?aO ?aB ?aS ?aL ?_; (case aP => exact rfl); (case aB => exact (by repeat (first | (with_reducible first | exact HB.out | apply below_alloc | apply pw_below_drewN | apply below_drew1) | exact HB.out))); (case aF => exact (fun _ _ => trivial)); (case aO => exact (by (with_reducible repeat (first | apply Kd.R_alloc | apply Kd.R_drewN | apply Kd.R_drew)); exact HO.out)); (case aS => exact (below_size (by repeat (first | (with_reducible first | exact HB.out | apply below_alloc | apply pw_below_drewN | apply below_drew1) | exact HB.out)))); (case aL => have := HNN.out; omega); intro v2 w2 ho hb hg hat; have n1_ := Aside0.mk (hb); have n2_ := Aside0.mk (ho); clear HB; clear HO; have HB := n1_; have HO := n2_; clear n1_ n2_; clear ho hb hg hat))
      go_roundg (gk - 1)
      case measure => have := HGD.out gk HD.out; omega
      case rel =>
        have h0 := HI.out
        have h1 := HD.out
        have h2 := HGD.out gk HD.out
        have h3 := HN.out
        refine ⟨x5 ++ [φ (rd l0 i)], i + 1, by rw [W1.out], ⟨by omega⟩, ⟨by omega⟩, ⟨?_⟩, ⟨by simp; omega⟩, HO, HB⟩
        have h4 := HX.out
        rw [HDR.out, List.map_cons] at h4
        rw [show (i + 1).toNat = i.toNat + 1 from by omega, List.append_assoc]
        exact h4
    · have h0 := HI.out
      have h1 := HD.out
      have h3 := HX.out
      rw [List.drop_eq_nil_of_le (by omega), List.map_nil, List.append_nil] at h3
      have d0 : decide (i < (l0.length : Int)) = false := decide_eq_false hlt
      have H3 := Aside0.mk h3
      clear hlt h0 h1 h3
      go_wp2
      go_ret
      exact ⟨_, rfl, by rw [← H3.out]; exact HO.out, HB.out⟩


/-! ### impl_Road_tour: function 52 -/
/-- How far a place is up from a. -/
def impl_Road_tour.phi (n : Int) (g : Bool) (a p : Int) : Int := if g = true then (p - a + n) % n else p - a
/-- All of them, in order; on a ring without the place itself. -/
def impl_Road_tour.ups (n : Int) (g : Bool) (a : Int) (l : List Int) : List Int :=
  if g = true then ((l.map (impl_Road_tour.phi n g a)).mergeSort fun x y => decide (x ≤ y)).filter (fun x => !(x == 0)) else (l.map (impl_Road_tour.phi n g a)).mergeSort fun x y => decide (x ≤ y)
def impl_Road_tour.reach (u d : Int) : Int := u + d + min u d
def impl_Road_tour.line (s : Int × Int) : List Int → Int × Int
  | [] => s
  | u :: t => impl_Road_tour.line (max s.1 u, max s.2 (-u)) t
/-- The least over the splits from the k-th on. -/
def impl_Road_tour.ring (n : Int) (ups : List Int) : Nat → Nat → Int → Int
  | 0, _, b => b
  | d + 1, k, b => impl_Road_tour.ring n ups d (k + 1) (min b (impl_Road_tour.reach (if k = 0 then 0 else rd ups ((k : Int) - 1)) (if k < ups.length then n - rd ups k else 0)))
def impl_Road_tour.f (a0_0 : Int) (a0_1 : Bool) (a1 : Int) (l2 : List Int) : Option Int :=
  if (2 ≤ a0_0 ∧ a0_0 ≤ 24) ∧ (0 ≤ a1 ∧ a1 ≤ a0_0 - 1) ∧ (∀ x ∈ l2, 0 ≤ x ∧ x ≤ a0_0 - 1) ∧ l2.length ≤ 1048576 then
    some (if a0_1 = true then impl_Road_tour.ring a0_0 (impl_Road_tour.ups a0_0 a0_1 a1 l2) ((impl_Road_tour.ups a0_0 a0_1 a1 l2).length + 1) 0 60
      else impl_Road_tour.reach (impl_Road_tour.line (0, 0) (impl_Road_tour.ups a0_0 a0_1 a1 l2)).1 (impl_Road_tour.line (0, 0) (impl_Road_tour.ups a0_0 a0_1 a1 l2)).2)
  else none
theorem impl_Road_tour.reaches (u d : Int) (w : World) (hu : 0 ≤ u ∧ u ≤ 100) (hd : 0 ≤ d ∧ d ≤ 100) : Calls Try.prog 76 #[.int .i64 u, .int .i64 d] w fun e w' => e = .returned (.int .i64 (impl_Road_tour.reach u d)) ∧ Below w.heap.size w w' := by
  have h1 : IntKind.i64.wrap (u + d) = u + d := (i64_w _).trans (by unfold wrap64; omega)
  by_cases c : u ≤ d
  · have hm : impl_Road_tour.reach u d = u + d + u := by unfold impl_Road_tour.reach; omega
    have h2 : IntKind.i64.wrap (u + d + u) = u + d + u := (i64_w _).trans (by unfold wrap64; omega)
    go_enter Try.func76, Try.ntmps76
    go_wp2
    go_ret
    exact ⟨by first | rfl | (rw [hm]; rfl), Below.refl _ _⟩
  · have hm : impl_Road_tour.reach u d = u + d + d := by unfold impl_Road_tour.reach; omega
    have h2 : IntKind.i64.wrap (u + d + d) = u + d + d := (i64_w _).trans (by unfold wrap64; omega)
    go_enter Try.func76, Try.ntmps76
    go_wp2
    go_ret
    exact ⟨by first | rfl | (rw [hm]; rfl), Below.refl _ _⟩
def impl_Road_tour.idxZ : List Int → Nat → Int
  | [], _ => -1
  | x :: t, i => if x = 0 then (i : Int) else impl_Road_tour.idxZ t (i + 1)
theorem impl_Road_tour.isZ (x : Int) (w : World) : Calls Try.prog 75 #[.int .i64 x] w fun e w' => e = .returned (.bool (x == 0)) ∧ Below w.heap.size w w' := by
  go_enter Try.func75, Try.ntmps75
  go_wp2
  go_ret
  exact ⟨rfl, Below.refl _ _⟩
set_option maxHeartbeats 1600000 in
set_option maxRecDepth 100000 in
theorem impl_Road_tour.index (A0 : Option Addr) (c0 : Nat) (l0 : List Int) (w : World) (hr0 : Kd.C (Kd.int .i64) w A0 l0.length l0) (hl : l0.length ≤ 17592186044416) :
    Calls Try.prog 85 #[.slice A0 l0.length c0, .func (.func 75) #[] #[]] w fun e w' => e = .returned (.int .i64 (impl_Road_tour.idxZ l0 0)) ∧ Below w.heap.size w w' := by
  have HR := Aside0.mk hr0
  have HL := Aside0.mk hl
  clear hr0 hl
  have HB := Aside0.mk (Below.refl w.heap.size w)
  go_enter Try.func85, Try.ntmps85
  go_wp2
  go_loopg [5, 8] l0.length (fun d v5 v8 w' => ∃ (i : Nat), v8 = .int .i64 (i : Int) ∧ Aside0 (i + d = l0.length) ∧ Aside0 (impl_Road_tour.idxZ (l0.drop i) i = impl_Road_tour.idxZ l0 0) ∧ Aside0 (Below w.heap.size w w'))
  case atStart => exact ⟨0, rfl, ⟨by omega⟩, ⟨by simp⟩, HB⟩
  case round =>
    clear HB
    obtain ⟨i, rfl, HD, HX, HB⟩ := hrel
    by_cases ci : i < l0.length
    · have c0i : (0 : Int) ≤ (i : Int) := by omega
      have c1i : (i : Int) < (l0.length : Int) := by omega
      obtain ⟨ad, e, hx⟩ := Kd.at_int HR.out (i : Int) c0i c1i
      cases e
      replace hx := (HB.out.cell (World.block_lt_of_cell? w _ hx)).trans hx
      rw [Int.toNat_natCast] at hx
      have hd : impl_Road_tour.idxZ (l0.drop i) i = if rd l0 i = 0 then (i : Int) else impl_Road_tour.idxZ (l0.drop (i + 1)) (i + 1) := by
        rw [List.drop_eq_getElem_cons ci, impl_Road_tour.idxZ]
        have : rd l0 i = l0[i] := by
          unfold rd
          rw [Int.toNat_natCast, List.getD_eq_getElem?_getD, List.getElem?_eq_getElem ci]
          rfl
        rw [this]
      rw [hd] at HX
      clear hd
      have hw1 : IntKind.i64.wrap ((i : Int) + 1) = ((i + 1 : Nat) : Int) := (i64_w _).trans (by have := HL.out; unfold wrap64; omega)
      generalize rd l0 (i : Int) = x at *
      by_cases cx : x = 0
      · rw [if_pos cx] at HX
        subst cx
        go_wp2_with (go_at_call 75; refine (impl_Road_tour.isZ _ _).mono ?_; rintro e w3 ⟨rfl, hb⟩; have HB2 := Aside0.mk (below_step HB.out hb); clear hb)
        go_ret
        exact ⟨congrArg (fun z => Ending.returned (.int .i64 z)) HX.out, HB2.out⟩
      · rw [if_neg cx] at HX
        have cx' : (x == 0) = false := beq_eq_false_iff_ne.mpr cx
        have HI := Aside0.mk ci
        clear ci
        go_wp2_with (go_at_call 75; refine (impl_Road_tour.isZ _ _).mono ?_; rintro e w3 ⟨rfl, hb⟩; have HB2 := Aside0.mk (below_step HB.out hb); clear hb)
        go_roundg (gk - 1)
        case measure => have := HD.out; have := HI.out; omega
        case rel => exact ⟨i + 1, by first | rfl | rw [hw1], ⟨by have := HD.out; have := HI.out; omega⟩, HX, HB2⟩
    · have ci' : ¬ (i : Int) < (l0.length : Int) := by omega
      have hn : impl_Road_tour.idxZ l0 0 = -1 := by
        rw [← HX.out, List.drop_eq_nil_of_le (by omega)]
        rfl
      go_wp2
      go_ret
      exact ⟨by first | rfl | exact congrArg (fun z => Ending.returned (.int .i64 z)) hn.symm, HB.out⟩
/-- A row that was made, in the sort's words. -/
theorem impl_Road_tour.holds {W : World} {base : Nat} {ok : Nat → Prop} {v : Value} {xs : List Int} (HO : Kd.R (Kd.int .i64) 3 W base ok v xs) (hp : 0 < xs.length) :
    ∃ g cap, v = .slice (some ⟨g, 0, none⟩) xs.length cap ∧ base ≤ g ∧ g < W.heap.size ∧ xs.length ≤ cap ∧ Go.Sort.Holds (Value.int .i64) W g 0 xs.toArray := by
  obtain ⟨g, cap, rfl, hg0, hg1, -⟩ := Kd.R_form HO hp
  refine ⟨g, cap, rfl, hg0, hg1, (Kd.R_reads' HO).2.1, fun j hj => ?_⟩
  have hj' : j < xs.length := by simpa using hj
  have h := Kd.R_cell (0 : Int) HO (j : Int) (by omega) (by omega)
  rw [Int.toNat_natCast] at h
  have e : rdOf (0 : Int) xs j = xs.toArray[j]! := by
    unfold rdOf
    simp [List.getD_eq_getElem?_getD, hj']
  rw [Nat.zero_add, ← e]
  exact h
theorem impl_Road_tour.reads {W : World} {g n : Nat} {xs ys : List Int} (h : Go.Sort.Holds (Value.int .i64) W g 0 (xs ++ ys).toArray) (hn : xs.length = n) (hl : n ≤ 9223372036854775807) : Kd.C (Kd.int .i64) W (some ⟨g, 0, none⟩) n xs := by
  subst hn
  refine Kd.C_of_reads (d := (0 : Int)) (h1 := fun _ => rfl) ⟨rfl, hl, fun hp => ⟨_, rfl, fun q hq => ?_⟩⟩
  have h1 := (h q (by simp; omega)).1
  rw [Nat.zero_add] at h1
  rw [add_plain, h1]
  have e : (xs ++ ys)[q]? = some xs[q] := by rw [List.getElem?_append_left hq, List.getElem?_eq_getElem hq]
  simp [List.getD_eq_getElem?_getD, hq, e]
theorem impl_Road_tour.grown {W : World} {g : Nat} {xs : List Int} {os : Array Obj} (hg : g < W.heap.size) (h : Go.Sort.Holds (Value.int .i64) W g 0 xs.toArray) : Go.Sort.Holds (Value.int .i64) (Go.Sort.grow W os) g 0 xs.toArray := fun j hj => by
  refine ⟨(Go.Sort.cell?_grow W os _ hg).trans (h j hj).1, ?_⟩
  have := (h j hj).2
  unfold World.frozen? at this ⊢
  rw [Go.Sort.heap_grow_old W os hg]
  exact this
theorem impl_Road_tour.gives (W : World) (x : Int) : Go.Proofs.FnGives Try.prog 75 #[] #[.int .i64 x] (.bool (x == 0)) W := by
  show Calls Try.prog 75 #[.int .i64 x] W _
  go_enter Try.func75, Try.ntmps75
  go_wp2
  go_ret
  exact ⟨rfl, 0, rfl⟩
/-- DeleteFunc at a row of no element. -/
theorem impl_Road_tour.delNone (A : Option Addr) (cap : Nat) (w : World) : Calls Try.prog 74 #[.slice A 0 cap, .func (.func 75) #[] #[]] w fun e w' => e = .returned (.slice A 0 cap) ∧ Below w.heap.size w w' := by
  have hr : Kd.C (Kd.int .i64) w A ([] : List Int).length [] := Kd.C_of_reads (d := (0 : Int)) (h1 := fun _ => rfl) ⟨rfl, by decide, fun hp => absurd hp (by decide)⟩
  go_enter Try.func74, Try.ntmps74
  go_wp2_with (go_at_call 85; refine (impl_Road_tour.index A cap [] w hr (by decide)).mono ?_; rintro e w2 ⟨rfl, hb⟩; have HB := Aside0.mk hb; clear hb; unfold impl_Road_tour.idxZ)
  go_ret
  exact ⟨rfl, HB.out⟩
theorem impl_Road_tour.by {w w' : World} {g n : Nat} {os : Array Obj} {d : Array Int} (h : w' = Go.Sort.grow (Go.Sort.putRow (Value.int .i64) (Go.Sort.ahead w n) g 0 d) os) : w.grownBy w' (some g) := by
  subst h
  refine ⟨rfl, rfl, rfl, by simp, fun k hk hne => ?_⟩
  rw [Go.Sort.heap_grow_old _ _ (by simpa using hk)]
  have : g ≠ k := fun e => hne (by rw [e])
  simp [Go.Sort.putRow, Go.Sort.mapBlock, Go.Sort.ahead, Array.getElem?_modify, this]
/-- Sort, and DeleteFunc behind it, at a row that was made. -/
theorem impl_Road_tour.sort {W : World} {base : Nat} {v : Value} {xs : List Int} (HO : Kd.R (Kd.int .i64) 3 W base (fun _ => True) v xs) (hl : xs.length ≤ 1048576) :
    ∃ A cap, v = .slice A xs.length cap ∧ Calls Try.prog 73 #[.slice A xs.length cap] W fun e w' => e = .returned (.tuple #[]) ∧
      ∃ row : Option Nat, (∀ k, row = some k → base ≤ k) ∧ W.grownBy w' row ∧ Kd.C (Kd.int .i64) w' A xs.length (xs.mergeSort fun x y => decide (x ≤ y)) ∧
        Calls Try.prog 74 #[.slice A xs.length cap, .func (.func 75) #[] #[]] w' fun e w2 => e = .returned (.slice A ((xs.mergeSort fun x y => decide (x ≤ y)).filter fun x => !(x == 0)).length cap) ∧
          ∃ row2 : Option Nat, (∀ k, row2 = some k → base ≤ k) ∧ w'.grownBy w2 row2 ∧ Kd.C (Kd.int .i64) w2 A ((xs.mergeSort fun x y => decide (x ≤ y)).filter fun x => !(x == 0)).length ((xs.mergeSort fun x y => decide (x ≤ y)).filter fun x => !(x == 0)) := by
  by_cases hp : 0 < xs.length
  · obtain ⟨g, cap, rfl, hg0, hg1, hcap, hH⟩ := impl_Road_tour.holds HO hp
    refine ⟨_, cap, rfl, (Try.slices_Sort_int g 0 cap xs W hH hg1 (by omega)).mono ?_⟩
    rintro e w3 ⟨rfl, nq, os, hw3⟩
    have hgb := impl_Road_tour.by hw3
    have hlen : (xs.mergeSort fun x y => decide (x ≤ y)).length = xs.length := List.length_mergeSort _
    have hH3 : Go.Sort.Holds (Value.int .i64) w3 g 0 (xs.mergeSort fun x y => decide (x ≤ y)).toArray := by
      subst hw3
      exact impl_Road_tour.grown (by simpa using hg1) (Go.Sort.holds_putRow _ _ _ _ xs.toArray _ hH (by simp))
    generalize (xs.mergeSort fun x y => decide (x ≤ y)) = ys at hw3 hlen hH3 ⊢
    have hC : Kd.C (Kd.int .i64) w3 (some ⟨g, 0, none⟩) xs.length ys := impl_Road_tour.reads (ys := []) (by simpa using hH3) hlen (by omega)
    refine ⟨rfl, some g, (fun k hk => by cases hk; exact hg0), hgb, hC, ?_⟩
    have eg : ∀ args w, (callFunc 75 args).run Try.prog w = .ok (.enter 75 args) w := enters_of Try.func75 (by kernel_rfl) rfl
    have hd := Try.slices_DeleteFunc (Value.int .i64) (fun _ => rfl) (fun x => x == 0) 75 #[] eg 0 Try.zeroValue3 g 0 cap ys.toArray w3 (fun W x _ => impl_Road_tour.gives W x) (fun _ _ _ x _ => impl_Road_tour.gives _ x) hH3 (by simp; omega) (by simp; omega)
    rw [List.size_toArray, hlen] at hd
    refine hd.mono ?_
    rintro e w4 ⟨rfl, q, hw4⟩
    have hle : (ys.filter fun x => !(x == 0)).length ≤ ys.length := List.length_filter_le _ _
    refine ⟨rfl, some g, (fun k hk => by cases hk; exact hg0), impl_Road_tour.by (os := #[]) (by rw [Go.Sort.grow_empty]; exact hw4), ?_⟩
    refine impl_Road_tour.reads (ys := List.replicate (xs.length - (ys.filter fun x => !(x == 0)).length) 0) ?_ rfl (by omega)
    rw [hw4]
    exact Go.Sort.holds_putRow _ _ _ _ ys.toArray _ hH3 (by simp; omega)
  · have hx : xs = [] := List.eq_nil_of_length_eq_zero (by omega)
    subst hx
    obtain ⟨A, cap, rfl, -, hC⟩ := Kd.R_reads HO
    refine ⟨A, cap, rfl, (Try.slices_Sort_int_none A cap W).mono ?_⟩
    rintro e w3 ⟨rfl, rfl⟩
    rw [show (([] : List Int).mergeSort fun x y => decide (x ≤ y)) = [] from List.mergeSort_nil ..]
    refine ⟨rfl, none, (fun k hk => by cases hk), ⟨rfl, rfl, rfl, Nat.le_refl _, fun _ _ _ => rfl⟩, hC, (impl_Road_tour.delNone A cap w3).mono ?_⟩
    rintro e w4 ⟨rfl, hb⟩
    exact ⟨rfl, none, (fun k hk => by cases hk), ⟨hb.os, hb.tape, hb.output, hb.size, fun k hk _ => hb.block k hk⟩, Kd.C_below hC hb⟩
set_option maxHeartbeats 3200000 in
set_option maxRecDepth 100000 in
theorem impl_Road_tour.calls (a0_0 : Int) (a0_1 : Bool) (a1 : Int) (A2 : Option Addr) (c2 : Nat) (l2 : List Int) (r : Int) (w : World) (hr2 : Kd.C (Kd.int .i64) w A2 l2.length l2) (hc2 : l2.length ≤ c2) (h : impl_Road_tour.f a0_0 a0_1 a1 l2 = some r) :
    Calls Try.prog 52 #[.agg #[.int .i64 a0_0, .bool a0_1], .int .i64 a1, .slice A2 l2.length c2] w fun e w' => e = .returned (.int .i64 r) ∧ Below w.heap.size w w' := by
  have hu := Try.underlying27
  have HR := Aside0.mk hr2
  have HC := Aside0.mk hc2
  unfold impl_Road_tour.f at h
  by_cases hn : (2 ≤ a0_0 ∧ a0_0 ≤ 24) ∧ (0 ≤ a1 ∧ a1 ≤ a0_0 - 1) ∧ (∀ x ∈ l2, 0 ≤ x ∧ x ≤ a0_0 - 1) ∧ l2.length ≤ 1048576
  rotate_left
  · rw [if_neg hn] at h
    cases h
  rw [if_pos hn] at h
  have H := Aside0.mk h
  have HN := Aside0.mk hn
  clear h hn hr2 hc2
  have HB0 := Aside0.mk (below_alloc (below_alloc (Below.refl w.heap.size w) (Obj.cells #[.int .i64 a0_0, .bool a0_1] 27)) (Obj.cells #[.int .i64 a1] 3))
  go_enter Try.func52, Try.ntmps52
  go_wp2_with fail
  have hφ : ∀ W : World, Below (((w.alloc (Obj.cells #[.int .i64 a0_0, .bool a0_1] 27)).alloc (Obj.cells #[.int .i64 a1] 3))).heap.size ((w.alloc (Obj.cells #[.int .i64 a0_0, .bool a0_1] 27)).alloc (Obj.cells #[.int .i64 a1] 3)) W → ∀ x : Int, x ∈ l2 → Calls Try.prog 72 #[.int .i64 x, .pointer (some ⟨w.heap.size, 0, none⟩), .pointer (some ⟨w.heap.size + 1, 0, none⟩)] W fun e W' => e = .returned (.int .i64 (impl_Road_tour.phi a0_0 a0_1 a1 x)) ∧ Below W.heap.size W W' := by
    intro W hb x hx
    obtain ⟨h2, h3, h4, h5⟩ := HN.out
    have hx2 := h4 x hx
    have b1 := blk_below (blk_alloc (blk_new w (Obj.cells #[.int .i64 a0_0, .bool a0_1] 27)) (Obj.cells #[.int .i64 a1] 3)) hb
    have b2 := blk_below (blk_new (w.alloc (Obj.cells #[.int .i64 a0_0, .bool a0_1] 27)) (Obj.cells #[.int .i64 a1] 3)) hb
    rw [show (w.alloc (Obj.cells #[.int .i64 a0_0, .bool a0_1] 27)).heap.size = w.heap.size + 1 from Array.size_push ..] at b2
    have e0 : W.cell? ⟨w.heap.size, 0, none⟩ = some (.int .i64 a0_0) := (blk_cell b1 0).trans rfl
    have e1 : W.cell? ⟨w.heap.size, 1, none⟩ = some (.bool a0_1) := (blk_cell b1 1).trans rfl
    have e2 : W.cell? ⟨w.heap.size + 1, 0, none⟩ = some (.int .i64 a1) := (blk_cell b2 0).trans rfl
    have w1 : IntKind.i64.wrap (x - a1) = x - a1 := (i64_w _).trans (by unfold wrap64; omega)
    have w2 : IntKind.i64.wrap (x - a1 + a0_0) = x - a1 + a0_0 := (i64_w _).trans (by unfold wrap64; omega)
    have w3 : ¬ a0_0 = 0 := by omega
    have w4 : Int.tmod (x - a1 + a0_0) a0_0 = (x - a1 + a0_0) % a0_0 := Int.tmod_eq_emod_of_nonneg (by omega)
    clear b1 b2 hb hx h4 hx2
    cases a0_1 with
    | true =>
      go_enter Try.func72, Try.ntmps72
      go_wp2
      go_ret
      exact ⟨by first | rfl | (simp [impl_Road_tour.phi, w4]), Below.refl _ _⟩
    | false =>
      go_enter Try.func72, Try.ntmps72
      go_wp2
      go_ret
      exact ⟨by first | rfl | (simp [impl_Road_tour.phi]), Below.refl _ _⟩
  refine (impl_mapped.calls_cap72 _ _ (impl_Road_tour.phi a0_0 a0_1 a1) _ _ l2 _ (Kd.C_below HR.out HB0.out) HC.out (by have := HN.out; omega) hφ).mono ?_
  rintro e w2 ⟨v0, rfl, ho, hb⟩
  have hb1 := blk_below (blk_alloc (blk_new w (Obj.cells #[.int .i64 a0_0, .bool a0_1] 27)) (Obj.cells #[.int .i64 a1] 3)) hb
  have hlx : (l2.map (impl_Road_tour.phi a0_0 a0_1 a1)).length ≤ 1048576 := by rw [List.length_map]; exact HN.out.2.2.2
  have hmx : ∀ y, y ∈ l2.map (impl_Road_tour.phi a0_0 a0_1 a1) → -24 ≤ y ∧ y ≤ 24 := by
    intro y hy
    obtain ⟨x, hx, rfl⟩ := List.mem_map.mp hy
    obtain ⟨h2, h3, h4, h5⟩ := HN.out
    have hx2 := h4 x hx
    unfold impl_Road_tour.phi
    split
    · have := Int.emod_nonneg (x - a1 + a0_0) (show a0_0 ≠ 0 by omega)
      have := Int.emod_lt_of_pos (x - a1 + a0_0) (show 0 < a0_0 by omega)
      omega
    · omega
  have hmr : a0_1 = true → ∀ y, y ∈ l2.map (impl_Road_tour.phi a0_0 a0_1 a1) → 0 ≤ y ∧ y ≤ a0_0 - 1 := by
    intro hr y hy
    obtain ⟨x, hx, rfl⟩ := List.mem_map.mp hy
    obtain ⟨h2, h3, h4, h5⟩ := HN.out
    unfold impl_Road_tour.phi
    rw [if_pos hr]
    have := Int.emod_nonneg (x - a1 + a0_0) (show a0_0 ≠ 0 by omega)
    have := Int.emod_lt_of_pos (x - a1 + a0_0) (show 0 < a0_0 by omega)
    omega
  have hH := H.out
  unfold impl_Road_tour.ups at hH
  have hnn := HN.out.1
  clear hφ H HN HR HC
  generalize l2.map (impl_Road_tour.phi a0_0 a0_1 a1) = xs at ho hlx hmx hmr hH
  obtain ⟨A, cap, rfl, hs⟩ := impl_Road_tour.sort ho hlx
  have HB2 := Aside0.mk (below_step HB0.out hb)
  have BK := Aside0.mk hb1
  have HZ := Aside0.mk (show w.heap.size < w2.heap.size from blk_lt hb1)
  have HS := Aside0.mk hs
  have HLX := Aside0.mk hlx
  have HMX := Aside0.mk hmx
  have HMR := Aside0.mk hmr
  have HN := Aside0.mk hnn
  have H := Aside0.mk hH
  have HW := Aside0.mk (show w.heap.size + 2 = ((w.alloc (Obj.cells #[.int .i64 a0_0, .bool a0_1] 27)).alloc (Obj.cells #[.int .i64 a1] 3)).heap.size by simp)
  clear hb hb1 ho HB0 hs hlx hmx hmr hnn hH
  go_wp2_with fail
  refine HS.out.mono ?_
  rintro e w3 ⟨rfl, row, hrow, hgb, hC, hdel⟩
  rw [← HW.out] at hrow
  have hbk3 := blk_grown BK.out hgb (fun e => by have := hrow _ e.symm; omega)
  have HB3 := Aside0.mk (HB2.out.grown hgb (below_size HB2.out) (fun k hk => by have := hrow k hk; omega))
  have e30 : w3.cell? ⟨w.heap.size, 0, none⟩ = some (.int .i64 a0_0) := (blk_cell hbk3 0).trans rfl
  have e31 : w3.cell? ⟨w.heap.size, 1, none⟩ = some (.bool a0_1) := (blk_cell hbk3 1).trans rfl
  have hsz : w.heap.size < w3.heap.size := blk_lt hbk3
  have hmem : ∀ y, y ∈ (xs.mergeSort fun x y => decide (x ≤ y)) → y ∈ xs := fun y hy => List.mem_mergeSort.mp hy
  have hlen : (xs.mergeSort fun x y => decide (x ≤ y)).length = xs.length := List.length_mergeSort _
  clear hrow hgb
  cases a0_1 with
  | false =>
    rw [if_neg (by decide), if_neg (by decide)] at H
    have E31 := Aside0.mk e31
    have HC := Aside0.mk hC
    have HLEN := Aside0.mk hlen
    have HM := Aside0.mk (fun y hy => HMX.out y (hmem y hy))
    clear e30 hC hlen hmem hdel HMX HMR
    go_wp2_with fail
    have HLX2 := Aside0.mk (show (xs.mergeSort fun x y => decide (x ≤ y)).length ≤ 1048576 by rw [HLEN.out]; exact HLX.out)
    have HC2 := Aside0.mk (show Kd.C (Kd.int .i64) w3 A (xs.mergeSort fun x y => decide (x ≤ y)).length (xs.mergeSort fun x y => decide (x ≤ y)) by rw [HLEN.out]; exact HC.out)
    have HLE := Aside0.mk HLEN.out.symm
    clear HC HLEN HLX
    generalize (xs.mergeSort fun x y => decide (x ≤ y)) = L at *
    go_loopg [9, 10, 12, 31] L.length (fun d v9 v10 v12 v31 w' => ∃ (i : Nat) (s : Int × Int), v9 = .int .i64 s.1 ∧ v10 = .int .i64 s.2 ∧ v31 = .int .i64 (i : Int) ∧ Aside0 (i + d = L.length) ∧ Aside0 ((0 ≤ s.1 ∧ s.1 ≤ 24) ∧ 0 ≤ s.2 ∧ s.2 ≤ 24) ∧ Aside0 (impl_Road_tour.line s (L.drop i) = impl_Road_tour.line (0, 0) L) ∧ Aside0 (w' = w3))
    case atStart => exact ⟨0, (0, 0), rfl, rfl, rfl, ⟨by omega⟩, ⟨by decide⟩, ⟨by simp⟩, ⟨rfl⟩⟩
    case round =>
      obtain ⟨i, s, rfl, rfl, rfl, HD, HSB, HX, HWW⟩ := hrel
      have hww := HWW.out
      subst hww
      clear HWW
      by_cases ci : i < L.length
      · have c0i : (0 : Int) ≤ (i : Int) := by omega
        have c1i : (i : Int) < (xs.length : Int) := by have := HLE.out; omega
        obtain ⟨ad, e, hx⟩ := Kd.at_int HC2.out (i : Int) c0i (by omega)
        cases e
        rw [Int.toNat_natCast] at hx
        have hd : impl_Road_tour.line s (L.drop i) = impl_Road_tour.line (max s.1 (rd L i), max s.2 (-(rd L i))) (L.drop (i + 1)) := by
          rw [List.drop_eq_getElem_cons ci, impl_Road_tour.line]
          have : rd L i = L[i] := by
            unfold rd
            rw [Int.toNat_natCast, List.getD_eq_getElem?_getD, List.getElem?_eq_getElem ci]
            rfl
          rw [this]
        have hm : rd L i ∈ L := by
          unfold rd
          rw [Int.toNat_natCast, List.getD_eq_getElem?_getD, List.getElem?_eq_getElem ci]
          exact List.getElem_mem _
        have hb := HM.out _ hm
        rw [hd] at HX
        clear hd hm
        have hw1 : IntKind.i64.wrap ((i : Int) + 1) = ((i + 1 : Nat) : Int) := (i64_w _).trans (by have := HLX2.out; unfold wrap64; omega)
        generalize rd L (i : Int) = x at *
        have hw2 : IntKind.i64.wrap (-x) = -x := (i64_w _).trans (by unfold wrap64; omega)
        have HI := Aside0.mk ci
        have HBD := Aside0.mk hb
        clear ci hb
        go_wp2_with fail
        all_goals
          go_roundg (gk - 1)
          case measure => have := HD.out; have := HI.out; omega
          case rel =>
            have h1 := HSB.out
            have h2 := HBD.out
            refine ⟨i + 1, (max s.1 x, max s.2 (-x)), ?_, ?_, by first | rfl | rw [hw1], ⟨by have := HD.out; have := HI.out; omega⟩, ⟨by show (0 ≤ max s.1 x ∧ max s.1 x ≤ 24) ∧ 0 ≤ max s.2 (-x) ∧ max s.2 (-x) ≤ 24; omega⟩, HX, ⟨rfl⟩⟩
            · apply congrArg (Value.int IntKind.i64)
              show _ = max s.1 x
              omega
            · apply congrArg (Value.int IntKind.i64)
              show _ = max s.2 (-x)
              omega
      · have ci' : ¬ (i : Int) < (xs.length : Int) := by have := HLE.out; omega
        have hx := HX.out
        rw [List.drop_eq_nil_of_le (by omega), impl_Road_tour.line] at hx
        have hr := H.out
        rw [← hx] at hr
        have HF := Aside0.mk (Option.some.inj hr)
        clear hx hr ci
        have h1 := HSB.out.1
        have h2 := HSB.out.2
        go_wp2_with (go_at_call 76; refine (impl_Road_tour.reaches s.1 s.2 _ (by omega) (by omega)).mono ?_; rintro e w4 ⟨rfl, hb⟩; have HB4 := Aside0.mk (below_step HB3.out hb); clear hb)
        go_ret
        exact ⟨by rw [HF.out]; rfl, HB4.out⟩
  | true =>
    rw [if_pos rfl, if_pos rfl] at H
    have E31 := Aside0.mk e31
    have BK3 := Aside0.mk hbk3
    have HDEL := Aside0.mk hdel
    have HLEN := Aside0.mk hlen
    have HM := Aside0.mk (fun y hy => HMR.out rfl y (hmem y hy))
    clear e30 hC hlen hmem hdel hbk3 HMX HMR
    go_wp2_with fail
    refine HDEL.out.mono ?_
    clear HDEL
    rintro e w4 ⟨rfl, row2, hrow2, hgb2, hC2⟩
    rw [← HW.out] at hrow2
    have hbk4 := blk_grown BK3.out hgb2 (fun e => by have := hrow2 _ e.symm; omega)
    have HB4 := Aside0.mk (HB3.out.grown hgb2 (below_size HB3.out) (fun k hk => by have := hrow2 k hk; omega))
    have e40 : w4.cell? ⟨w.heap.size, 0, none⟩ = some (.int .i64 a0_0) := (blk_cell hbk4 0).trans rfl
    have e41 : w4.cell? ⟨w.heap.size, 1, none⟩ = some (.bool true) := (blk_cell hbk4 1).trans rfl
    have hsz4 : w.heap.size < w4.heap.size := blk_lt hbk4
    have HLL := Aside0.mk (show ((xs.mergeSort fun x y => decide (x ≤ y)).filter fun x => !(x == 0)).length ≤ 1048576 from Nat.le_trans (List.length_filter_le _ _) (by rw [HLEN.out]; exact HLX.out))
    have HMM := Aside0.mk (show ∀ y, y ∈ ((xs.mergeSort fun x y => decide (x ≤ y)).filter fun x => !(x == 0)) → 0 ≤ y ∧ y ≤ a0_0 - 1 from fun y hy => HM.out y (List.mem_filter.mp hy).1)
    have HC2 := Aside0.mk hC2
    clear hrow2 hgb2 hbk4 hC2 HM HLEN HB3 BK3 E31 e31 hsz HS
    generalize ((xs.mergeSort fun x y => decide (x ≤ y)).filter fun x => !(x == 0)) = L at *
    have hw0 : IntKind.i64.wrap ((L.length : Int) + 1) = (L.length : Int) + 1 := (i64_w _).trans (by have := HLL.out; unfold wrap64; omega)
    go_wp2_with fail
    go_loopg [13, 14, 15, 16, 50] (L.length + 1) (fun d v13 v14 v15 v16 v50 w' => ∃ (i : Nat) (b : Int), v13 = .int .i64 b ∧ v50 = .int .i64 (i : Int) ∧ Aside0 (i + d = L.length + 1) ∧ Aside0 (0 ≤ b ∧ b ≤ 60) ∧ Aside0 (impl_Road_tour.ring a0_0 L d i b = impl_Road_tour.ring a0_0 L (L.length + 1) 0 60) ∧ Aside0 (Below w4.heap.size w4 w'))
    case atStart => exact ⟨0, 60, rfl, rfl, ⟨by omega⟩, ⟨by decide⟩, ⟨rfl⟩, ⟨Below.refl _ _⟩⟩
    case round =>
      obtain ⟨i, b, rfl, rfl, HD, HBB, HX, HBW⟩ := hrel
      by_cases ci : i < L.length + 1
      · obtain ⟨d, rfl⟩ : ∃ d, gk = d + 1 := ⟨gk - 1, by have := HD.out; omega⟩
        have f40 := (HBW.out.cell (World.block_lt_of_cell? w4 _ e40)).trans e40
        have f41 := (HBW.out.cell (World.block_lt_of_cell? w4 _ e41)).trans e41
        have hC3 := Kd.C_below HC2.out HBW.out
        have HBX := Aside0.mk (below_step HB4.out HBW.out)
        have E40 := Aside0.mk e40
        have E41 := Aside0.mk e41
        have cI : (i : Int) < (L.length : Int) + 1 := by omega
        have hw1 : IntKind.i64.wrap ((i : Int) + 1) = ((i + 1 : Nat) : Int) := (i64_w _).trans (by have := HLL.out; unfold wrap64; omega)
        have hmem : ∀ j : Nat, j < L.length → rd L (j : Int) ∈ L := fun j hj => by
          unfold rd
          rw [Int.toNat_natCast, List.getD_eq_getElem?_getD, List.getElem?_eq_getElem hj]
          exact List.getElem_mem _
        rw [impl_Road_tour.ring] at HX
        clear e40 e41
        by_cases c0 : i = 0
        · by_cases c1 : i < L.length
          · have hy2 := HMM.out _ (hmem i c1)
            rw [if_pos c0, if_pos c1] at HX
            obtain ⟨ad2, e2, hx2⟩ := Kd.at_int hC3 (i : Int) (by omega) (by omega)
            cases e2
            rw [Int.toNat_natCast] at hx2
            have hn := HN.out
            generalize rd L (i : Int) = y2 at *
            have hw3 : IntKind.i64.wrap (a0_0 - y2) = a0_0 - y2 := (i64_w _).trans (by unfold wrap64; omega)
            have c1' : (i : Int) < (L.length : Int) := by omega
            have c0' : ¬ (0 : Int) < (i : Int) := by omega
            have c4' : (0 : Int) ≤ (i : Int) := by omega
            have HY := Aside0.mk (show (0 ≤ (0 : Int) ∧ (0 : Int) ≤ 100) ∧ 0 ≤ ((a0_0 - y2) : Int) ∧ ((a0_0 - y2) : Int) ≤ 100 by omega)
            clear hmem hC3 hy2 hn
            have C0 := Aside0.mk c0
            clear c0
            go_wp2_with fail
            go_quiet (fail)
            go_wp2_with fail
            refine (impl_Road_tour.reaches 0 (a0_0 - y2) _ HY.out.1 HY.out.2).mono ?_
            rintro e w5 ⟨rfl, hb⟩
            have HB5 := Aside0.mk (below_step (below_drewN' HBW.out nq) hb)
            clear hb
            go_wp2_with fail
            all_goals
              go_roundg d
              case measure => omega
              case rel =>
                have h3 := HY.out
                have h4 := HBB.out
                refine ⟨i + 1, min b (impl_Road_tour.reach 0 (a0_0 - y2)), ?_, by first | rfl | rw [hw1], ⟨by have := HD.out; omega⟩, ⟨by unfold impl_Road_tour.reach; omega⟩, HX, HB5⟩
                apply congrArg (Value.int IntKind.i64)
                omega
          · rw [if_pos c0, if_neg c1] at HX
            have hn := HN.out
            have c1' : ¬ (i : Int) < (L.length : Int) := by omega
            have c0' : ¬ (0 : Int) < (i : Int) := by omega
            have c4' : (0 : Int) ≤ (i : Int) := by omega
            have HY := Aside0.mk (show (0 ≤ (0 : Int) ∧ (0 : Int) ≤ 100) ∧ 0 ≤ (0 : Int) ∧ (0 : Int) ≤ 100 by omega)
            clear hmem hC3 hn
            have C0 := Aside0.mk c0
            clear c0
            go_wp2_with fail
            refine (impl_Road_tour.reaches 0 0 _ HY.out.1 HY.out.2).mono ?_
            rintro e w5 ⟨rfl, hb⟩
            have HB5 := Aside0.mk (below_step HBW.out hb)
            clear hb
            go_wp2_with fail
            all_goals
              go_roundg d
              case measure => omega
              case rel =>
                have h3 := HY.out
                have h4 := HBB.out
                refine ⟨i + 1, min b (impl_Road_tour.reach 0 0), ?_, by first | rfl | rw [hw1], ⟨by have := HD.out; omega⟩, ⟨by unfold impl_Road_tour.reach; omega⟩, HX, HB5⟩
                apply congrArg (Value.int IntKind.i64)
                omega
        · by_cases c1 : i < L.length
          · have hy2 := HMM.out _ (hmem i c1)
            have hy1 := HMM.out _ (hmem (i - 1) (by omega))
            rw [show ((i - 1 : Nat) : Int) = (i : Int) - 1 by omega] at hy1
            rw [if_neg c0, if_pos c1] at HX
            obtain ⟨ad, e, hx1⟩ := Kd.at_int hC3 ((i : Int) - 1) (by omega) (by omega)
            cases e
            rw [show ((i : Int) - 1).toNat = i - 1 by omega] at hx1
            obtain ⟨ad2, e2, hx2⟩ := Kd.at_int hC3 (i : Int) (by omega) (by omega)
            cases e2
            rw [Int.toNat_natCast] at hx2
            have hn := HN.out
            generalize rd L ((i : Int) - 1) = y1 at *
            have hw2 : IntKind.i64.wrap ((i : Int) - 1) = (i : Int) - 1 := (i64_w _).trans (by have := HLL.out; unfold wrap64; omega)
            have c2' : (0 : Int) ≤ (i : Int) - 1 := by omega
            have c3' : (i : Int) - 1 < (L.length : Int) := by omega
            generalize rd L (i : Int) = y2 at *
            have hw3 : IntKind.i64.wrap (a0_0 - y2) = a0_0 - y2 := (i64_w _).trans (by unfold wrap64; omega)
            have c1' : (i : Int) < (L.length : Int) := by omega
            have c0' : (0 : Int) < (i : Int) := by omega
            have c4' : (0 : Int) ≤ (i : Int) := by omega
            have HY := Aside0.mk (show (0 ≤ (y1 : Int) ∧ (y1 : Int) ≤ 100) ∧ 0 ≤ ((a0_0 - y2) : Int) ∧ ((a0_0 - y2) : Int) ≤ 100 by omega)
            clear hmem hC3 hy1 hy2 hn
            go_wp2_with fail
            go_quiet (fail)
            go_wp2_with fail
            refine (impl_Road_tour.reaches y1 (a0_0 - y2) _ HY.out.1 HY.out.2).mono ?_
            rintro e w5 ⟨rfl, hb⟩
            have HB5 := Aside0.mk (below_step (below_drewN' HBW.out nq) hb)
            clear hb
            go_wp2_with fail
            all_goals
              go_roundg d
              case measure => omega
              case rel =>
                have h3 := HY.out
                have h4 := HBB.out
                refine ⟨i + 1, min b (impl_Road_tour.reach y1 (a0_0 - y2)), ?_, by first | rfl | rw [hw1], ⟨by have := HD.out; omega⟩, ⟨by unfold impl_Road_tour.reach; omega⟩, HX, HB5⟩
                apply congrArg (Value.int IntKind.i64)
                omega
          · have hy1 := HMM.out _ (hmem (i - 1) (by omega))
            rw [show ((i - 1 : Nat) : Int) = (i : Int) - 1 by omega] at hy1
            rw [if_neg c0, if_neg c1] at HX
            obtain ⟨ad, e, hx1⟩ := Kd.at_int hC3 ((i : Int) - 1) (by omega) (by omega)
            cases e
            rw [show ((i : Int) - 1).toNat = i - 1 by omega] at hx1
            have hn := HN.out
            generalize rd L ((i : Int) - 1) = y1 at *
            have hw2 : IntKind.i64.wrap ((i : Int) - 1) = (i : Int) - 1 := (i64_w _).trans (by have := HLL.out; unfold wrap64; omega)
            have c2' : (0 : Int) ≤ (i : Int) - 1 := by omega
            have c3' : (i : Int) - 1 < (L.length : Int) := by omega
            have c1' : ¬ (i : Int) < (L.length : Int) := by omega
            have c0' : (0 : Int) < (i : Int) := by omega
            have c4' : (0 : Int) ≤ (i : Int) := by omega
            have HY := Aside0.mk (show (0 ≤ (y1 : Int) ∧ (y1 : Int) ≤ 100) ∧ 0 ≤ (0 : Int) ∧ (0 : Int) ≤ 100 by omega)
            clear hmem hC3 hy1 hn
            go_wp2_with fail
            refine (impl_Road_tour.reaches y1 0 _ HY.out.1 HY.out.2).mono ?_
            rintro e w5 ⟨rfl, hb⟩
            have HB5 := Aside0.mk (below_step HBW.out hb)
            clear hb
            go_wp2_with fail
            all_goals
              go_roundg d
              case measure => omega
              case rel =>
                have h3 := HY.out
                have h4 := HBB.out
                refine ⟨i + 1, min b (impl_Road_tour.reach y1 0), ?_, by first | rfl | rw [hw1], ⟨by have := HD.out; omega⟩, ⟨by unfold impl_Road_tour.reach; omega⟩, HX, HB5⟩
                apply congrArg (Value.int IntKind.i64)
                omega
      · have hd0 : gk = 0 := by have := HD.out; omega
        subst hd0
        have ci' : ¬ (i : Int) < (L.length : Int) + 1 := by omega
        have hx := HX.out
        rw [impl_Road_tour.ring] at hx
        have hr := H.out
        rw [← hx] at hr
        have HF := Aside0.mk (Option.some.inj hr)
        have HBX := Aside0.mk (below_step HB4.out HBW.out)
        clear hx hr ci
        go_wp2
        go_ret
        exact ⟨by rw [HF.out]; rfl, HBX.out⟩


end Go.Proofs.Ytaomldgodfbokaa.PFnExactTourTime
