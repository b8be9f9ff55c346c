-- Written for this claim by this session's turned copy of the printer.
import Derived.Test.YtogflbocmiogpaaPFnSearchesx0
import Derived.Test.YtogflbocmiogpaaPFnSearchesx4
import Derived.Test.YtogflbocmiogpaaPFnSearchesx5
import Derived.Test.YtogflbocmiogpaaPFnSearchesx8
namespace Go.Proofs.Ytogflbocmiogpaa.PFnSearches
open Go.RowKit Go.Proofs.YtogflbocmiogpaaW.PrintWords Go.Proofs.YtogflbocmiogpaaW.PrintLast Go.Proofs.YtogflbocmiogpaaW.PrintMore
attribute [local go_sem] max2_int min2_int max_two min_two max_three min_three max_four min_four   -- for this text's walks alone
set_option linter.unusedVariables false
set_option linter.unusedSimpArgs false

/-! ### spec_l3Times: function 80 -/
mutual
def spec_l3Times.l0 : Nat → List Int → Int → List Int → Int → Int → Int → Int → Int → Option (List Int)
 | 0, _, _, _, _, _, _, _, _ => none
 | k + 1, x2, x3, x9, x10, x11, x12, x13, x14 => if x14 < (x2.length : Int) then (spec_l3Times.l1 k x2 x3 x9 x10 x11 x12 x13 x14) else (some x9)
def spec_l3Times.l1 : Nat → List Int → Int → List Int → Int → Int → Int → Int → Int → Option (List Int)
 | 0, _, _, _, _, _, _, _, _ => none
 | k + 1, x2, x3, x9, x10, x11, x12, x13, x14 => if 0 ≤ x14 then (if x14 < (x2.length : Int) then (if x13 < (rd x2 x14) then (if 0 ≤ (wrap64 (x13 + 1)) then (if (wrap64 (x13 + 1)) < (x9.length : Int) then (spec_l3Times.l1 k x2 x3 (x9.set ((wrap64 (x13 + 1)) : Int).toNat (wrap64 ((wrap64 (x10 + (wrap64 (x13 + 1)))) - x11))) x10 x11 x12 (wrap64 (x13 + 1)) x14) else (none)) else (none)) else (spec_l3Times.l2 k x2 x3 x9 x10 x11 x12 x13 x14)) else (none)) else (none)
def spec_l3Times.l2 : Nat → List Int → Int → List Int → Int → Int → Int → Int → Int → Option (List Int)
 | 0, _, _, _, _, _, _, _, _ => none
 | k + 1, x2, x3, x9, x10, x11, x12, x13, x14 => if 0 ≤ x14 then (if x14 < (x2.length : Int) then (if x12 > (rd x2 x14) then (if 0 ≤ (wrap64 (x12 - 1)) then (if (wrap64 (x12 - 1)) < (x9.length : Int) then (spec_l3Times.l2 k x2 x3 (x9.set ((wrap64 (x12 - 1)) : Int).toNat (wrap64 ((wrap64 (x10 + x11)) - (wrap64 (x12 - 1))))) x10 x11 (wrap64 (x12 - 1)) x13 x14) else (none)) else (none)) else ((spec_l1Most.f (wrap64 ((rd x2 x14) - x11)) (wrap64 (x11 - (rd x2 x14)))).bind fun t364 => (spec_l3Times.l0 k x2 x3 x9 (wrap64 ((wrap64 (x10 + t364)) + x3)) (rd x2 x14) x12 x13 (wrap64 (x14 + 1))))) else (none)) else (none)
end
def spec_l3Times.f (k : Nat) (a0_0 : Int) (a0_1 : Bool) (a1 : Int) (l2 : List Int) (a3 : Int) : Option (List Int) := if 0 ≤ a0_0 then (if (a0_0 : Int).toNat ≤ 35184372088832 then (spec_l3Times.l0 k l2 a3 (List.replicate (a0_0 : Int).toNat 0) 0 a1 a1 a1 0) else (none)) else (none)
set_option maxHeartbeats 8000000 in
set_option maxRecDepth 100000 in
theorem spec_l3Times.calls (k : Nat) (a0_0 : Int) (a0_1 : Bool) (a1 : Int) (A2 : Option Addr) (c2 : Nat) (l2 : List Int) (a3 : Int) (r : List Int) (w : World) (hr2 : Kd.C (Kd.int .i64) w A2 l2.length l2) (hc2 : l2.length ≤ c2) (h : spec_l3Times.f k a0_0 a0_1 a1 l2 a3 = some r) :
  Calls Try.prog 80 #[.agg #[.int .i64 a0_0, .bool a0_1], .int .i64 a1, .slice A2 l2.length c2, .int .i64 a3] w fun e w' => ∃ v0_ : Value, e = .returned (v0_) ∧ Kd.R (Kd.int .i64) 3 w' w.heap.size (fun _ => True) v0_ r ∧ Below w.heap.size w w' := by
 have hu25 := Try.underlying25
 have HR2 := Aside0.mk hr2
 have HC2 := Aside0.mk hc2
 clear hr2 hc2
 have HB := Aside0.mk (Below.refl w.heap.size w)
 have H : (if 0 ≤ a0_0 then (if (a0_0 : Int).toNat ≤ 35184372088832 then (spec_l3Times.l0 k l2 a3 (List.replicate (a0_0 : Int).toNat 0) 0 a1 a1 a1 0) else (none)) else (none)) = some r := h
 clear h
 by_cases c5 : 0 ≤ a0_0
 ·rw [if_pos c5] at H
  have c5b0 := eq_true c5
  have c5b1 : decide (0 ≤ a0_0) = true := decide_eq_true c5
  clear c5
  by_cases c6 : (a0_0 : Int).toNat ≤ 35184372088832
  ·rw [if_pos c6] at H
   have c6b0 := eq_true c6
   have c6b1 : decide ((a0_0 : Int).toNat ≤ 35184372088832) = true := decide_eq_true c6
   clear c6
   obtain ⟨y355, hy355⟩ : ∃ y_ : List Int, y_ = (List.replicate (a0_0 : Int).toNat 0) := ⟨_, rfl⟩
   replace H : (spec_l3Times.l0 k l2 a3 y355 0 a1 a1 a1 0) = some r := by (rw [hy355]; with_reducible exact H)
   have Ny355 := Aside0.mk hy355
   clear hy355
   have H' := Aside0.mk H
   clear H
   go_enter Try.func80, Try.ntmps80
   go_wp2_with (first | ((with_reducible refine gate_dst (N := 4) rfl ?_); refine box_event ?hg (N := 4) ?hd (cs := #[.int .i64 a0_0, .bool a0_1]) (t := 25) ?hr ?_; (case hd => rfl); (case hg => rfl); (case hr => (go_simp; done)); intro gb354 hg w7 hbox hb; have n0_ := Aside0.mk (below_step (by repeat ((with_reducible (exact HB.out)))) hb); have n1_ := Aside0.mk (hbox); have n2_ := Aside0.mk ((by rw [hg]; exact (below_size (by repeat ((with_reducible (exact HB.out))))) : w.heap.size ≤ gb354)); have n3_ := Aside0.mk ((by rw [hg]; exact (below_size (by repeat ((with_reducible (exact HB.out))))) : w.heap.size ≤ gb354)); clear HB; have HB := n0_; have BK354 := n1_; have GW354 := n2_; have GE354 := n3_; clear n0_ n1_ n2_ n3_; clear hb hbox hg; have hcz8_0 : w7.cell? ⟨gb354, 0, none⟩ = some (.int .i64 a0_0) := (blk_cell BK354.out 0).trans rfl; have hcz8_1 : w7.cell? ⟨gb354, 1, none⟩ = some (.bool a0_1) := (blk_cell BK354.out 1).trans rfl; have hfz8_0 := blk_frozen BK354.out 0; have hfz8_1 := blk_frozen BK354.out 1) | ((with_reducible refine gate_dst (N := 17) rfl ?_); refine Kd.R_make (Kd.int .i64) _ 3 rfl (N := 17) rfl 30 _ _ rfl a0_0 rfl rfl Try.underlying30 (.int .i64 0) 8 info3 rfl (by decide) (by omega) 0 (ok := fun _ => True) (okp := fun _ => True) rfl (fun _ hk => hk) trivial (of_decide_eq_true (by (with_reducible assumption))) (Nat.le_trans (Nat.mul_le_mul_right _ (of_decide_eq_true (by (with_reducible assumption)) : a0_0.toNat ≤ 35184372088832)) (by omega)) (Below.refl _ _) (Nat.le_refl _) ?_; intro v356 w9 ho10 hb hg_ hnew_; clear hg_ hnew_; ((rw [← Ny355.out] at ho10)); have n0_ := Aside0.mk (Kd.R_lower ho10 (below_size (by repeat ((with_reducible (exact HB.out)))))); have n1_ := Aside0.mk (blk_below (g := gb354) (o := .cells #[.int .i64 a0_0, .bool a0_1] 25 (0, 0)) (by (with_reducible repeat (fail)); exact BK354.out) hb); have n2_ := Aside0.mk (below_step (by repeat ((with_reducible (exact HB.out)))) hb); clear BK354; clear HB; have HO357 := n0_; have BK354 := n1_; have HB := n2_; clear n0_ n1_ n2_; clear hb ho10))
   repeat (go_quiet (fail); try go_wp2_with (fail))
   go_loopg [10, 11, 12, 13, 14] k (fun kq v10 v11 v12 v13 v14 w' => ∃ (x9_1 : List Int) (x10_1 : Int) (x11_1 : Int) (x12_1 : Int) (x13_1 : Int) (x14_1 : Int), v10 = .int .i64 x10_1 ∧ v11 = .int .i64 x11_1 ∧ v12 = .int .i64 x12_1 ∧ v13 = .int .i64 x13_1 ∧ v14 = .int .i64 x14_1 ∧ Aside0 (spec_l3Times.l0 kq l2 a3 x9_1 x10_1 x11_1 x12_1 x13_1 x14_1 = some r) ∧ Aside0 (kq ≤ k) ∧ Aside0 (Kd.R (Kd.int .i64) 3 w' w.heap.size (fun _ => True) v356 x9_1) ∧ Aside0 (w'.heap[gb354]? = some (.cells #[.int .i64 a0_0, .bool a0_1] 25 (0, 0))) ∧ Aside0 (Below w.heap.size w w'))
   case atStart => exact ⟨(y355), (0), (a1), (a1), (a1), (0), (by (rfl)), (by (rfl)), (by (rfl)), (by (rfl)), (by (rfl)), H', ⟨Nat.le_refl _⟩, ⟨by (with_reducible repeat (fail)); exact HO357.out⟩, ⟨by (with_reducible repeat (fail)); exact BK354.out⟩, ⟨by repeat ((with_reducible (exact HB.out)))⟩⟩
   case round =>
    clear H'
    (try clear c2); (try clear p2); (try clear c5); (try clear c5b0); (try clear c5b1); (try clear c6); (try clear c6b0); (try clear c6b1); (try clear c8); (try clear hcz8_0); (try clear hcz8_1); (try clear hfz8_0); (try clear hfz8_1)
    obtain ⟨x9_1, x10_1, x11_1, x12_1, x13_1, x14_1, rfl, rfl, rfl, rfl, rfl, HA, HK1, HO_9, BK354, HB⟩ := hrel
    cases gk with
    | zero => exact absurd HA.out (by simp [spec_l3Times.l0])
    | succ k1 =>
     have H := HA.out
     clear HA
     simp only [spec_l3Times.l0] at H
     by_cases c11 : x14_1 < (l2.length : Int)
     ·rw [if_pos c11] at H
      have c11b0 : decide (x14_1 < (l2.length : Int)) = true := decide_eq_true c11
      clear c11
      have H' := Aside0.mk H
      clear H
      go_wp2
      repeat (go_quiet (fail); try go_wp2)
      go_loopg [13] k1 (fun kq v13 w' => ∃ (x9_2 : List Int) (x13_2 : Int), v13 = .int .i64 x13_2 ∧ Aside0 (spec_l3Times.l1 kq l2 a3 x9_2 x10_1 x11_1 x12_1 x13_2 x14_1 = some r) ∧ Aside0 (kq ≤ k1) ∧ Aside0 (Kd.R (Kd.int .i64) 3 w' w.heap.size (fun _ => True) v356 x9_2) ∧ Aside0 (w'.heap[gb354]? = some (.cells #[.int .i64 a0_0, .bool a0_1] 25 (0, 0))) ∧ Aside0 (Below w.heap.size w w'))
      case atStart => exact ⟨(x9_1), (x13_1), (by (rfl)), H', ⟨Nat.le_refl _⟩, ⟨by (with_reducible repeat (fail)); exact HO_9.out⟩, ⟨by (with_reducible repeat (fail)); exact BK354.out⟩, ⟨by repeat ((with_reducible (exact HB.out)))⟩⟩
      case round =>
       clear H'
       (try clear c1); (try clear c2); (try clear p2); (try clear c5); (try clear c5b0); (try clear c5b1); (try clear c6); (try clear c6b0); (try clear c6b1); (try clear c8); (try clear c11); (try clear c11b0); (try clear hcz8_0); (try clear hcz8_1); (try clear hfz8_0); (try clear hfz8_1); (try clear p2)
       obtain ⟨x9_2, x13_2, rfl, HA, HK2, HO_9, BK354, HB⟩ := hrel
       cases gk with
       | zero => exact absurd HA.out (by simp [spec_l3Times.l1])
       | succ k2 =>
        have H := HA.out
        clear HA
        simp only [spec_l3Times.l1] at H
        by_cases c12 : 0 ≤ x14_1
        ·rw [if_pos c12] at H
         have c12b0 : decide (0 ≤ x14_1) = true := decide_eq_true c12
         clear c12
         by_cases c13 : x14_1 < (l2.length : Int)
         ·rw [if_pos c13] at H
          have c13b0 : decide (x14_1 < (l2.length : Int)) = true := decide_eq_true c13
          clear c13
          by_cases c14 : x13_2 < (rd l2 x14_1)
          ·rw [if_pos c14] at H
           have c14b0 : decide (x13_2 < (rd l2 x14_1)) = true := decide_eq_true c14
           clear c14
           obtain ⟨ji15, hji15⟩ : ∃ j_ : Int, (wrap64 (x13_2 + 1)) = j_ := ⟨_, rfl⟩
           replace H : (if 0 ≤ (ji15) then (if (ji15) < (x9_2.length : Int) then (spec_l3Times.l1 k2 l2 a3 (x9_2.set ((ji15) : Int).toNat (wrap64 ((wrap64 (x10_1 + (ji15))) - x11_1))) x10_1 x11_1 x12_1 ji15 x14_1) else (none)) else (none)) = some r := by (rw [hji15] at H; exact H)
           have hji15w : (IntKind.i64.wrap (x13_2 + 1)) = ji15 := (i64_w _).trans hji15
           by_cases c16 : 0 ≤ (ji15)
           ·rw [if_pos c16] at H
            have c16b0 : decide (0 ≤ (ji15)) = true := decide_eq_true c16
            clear c16
            by_cases c17 : (ji15) < (x9_2.length : Int)
            ·rw [if_pos c17] at H
             have c17b0 : decide ((ji15) < (x9_2.length : Int)) = true := decide_eq_true c17
             clear c17
             obtain ⟨y359, hy359⟩ : ∃ y_ : List Int, y_ = (x9_2.set ((ji15) : Int).toNat (wrap64 ((wrap64 (x10_1 + (ji15))) - x11_1))) := ⟨_, rfl⟩
             replace H : (spec_l3Times.l1 k2 l2 a3 y359 x10_1 x11_1 x12_1 ji15 x14_1) = some r := by (rw [hy359]; with_reducible exact H)
             have Ny359 := Aside0.mk hy359
             clear hy359
             have H' := Aside0.mk H
             clear H
             have p358 : 0 ≤ (x14_1 : Int) := of_decide_eq_true (by (with_reducible assumption))
             have q358 : x14_1 < (l2.length : Int) := of_decide_eq_true (by (with_reducible assumption))
             obtain ⟨ad358, e358, hx358_0⟩ := Kd.at_int HR2.out x14_1 p358 q358
             cases e358
             replace hx358_0 := (HB.out.cell (World.block_lt_of_cell? w _ hx358_0)).trans hx358_0
             replace p358 := eq_true p358
             replace q358 := eq_true q358
             have p18 : 0 ≤ ((ji15) : Int) := of_decide_eq_true (by (with_reducible assumption))
             have q18 : ((ji15) : Int) < ((x9_2.length : Int) : Int) := of_decide_eq_true (by (with_reducible assumption))
             obtain ⟨go18, co18, eo18, gb18, gl18, cl18, HG18⟩ := Kd.R_form HO_9.out (by omega)
             ((cases eo18))
             have GB18 := Aside0.mk gb18
             have GG18 := Aside0.mk HG18
             clear gb18 gl18 HG18
             obtain ⟨hx18_0, hf18_0⟩ := Kd.R_celln 0 HO_9.out ((ji15) : Int) p18 q18
             replace p18 := eq_true p18
             replace q18 := eq_true q18
             have HP19 := Kd.R_putg HO_9.out ((ji15) : Int) (wrap64 ((wrap64 (x10_1 + (ji15))) - x11_1))
             go_wp2_with (((with_reducible refine gate_store (t := 3) (p := 42) rfl ?_); (try (rw [drewN_self wr]; generalize hq_ : World.drewN wr _ = wr; have n0_ := Aside0.mk (Kd.R_at hq_ HO_9.out); have n1_ := Aside0.mk (blk_at hq_ BK354.out); have n2_ := Aside0.mk (below_at hq_ HB.out); clear hq_ HO_9 BK354 HB; have HO_9 := n0_; have BK354 := n1_; have HB := n2_; clear n0_ n1_ n2_; (try (have HP19 := Kd.R_putg HO_9.out ((ji15) : Int) (wrap64 ((wrap64 (x10_1 + (ji15))) - x11_1)))))); refine store_event (t := 3) (p := 42) (v := ?vo_w20) (w1 := (wr.setCell ⟨go18, ((ji15) : Int).toNat, none⟩ (.int .i64 (wrap64 ((wrap64 (x10_1 + (ji15))) - x11_1))))) ?hg ?ho ?hn ?hr ?_; (case ho => rfl); (case hg => rfl); (case hn => rfl); (case hr => (go_simp; done)); intro w20 hw; have hg : wr.grownBy w20 (some go18) := (by rw [hw]; exact HP19.2); have hp_ : Kd.R (Kd.int .i64) 3 w20 w.heap.size (fun _ => True) (.slice (some ⟨go18, 0, none⟩) x9_2.length co18) y359 := (by rw [hw, Ny359.out]; exact HP19.1); clear HP19; have n0_ := Aside0.mk (hp_); have n1_ := Aside0.mk (blk_grown (g := gb354) (o := .cells #[.int .i64 a0_0, .bool a0_1] 25 (0, 0)) (by (with_reducible repeat (fail)); exact BK354.out) hg (Kd.R_ne HO_9.out BK354.out (by decide))); have n2_ := Aside0.mk ((by rw [hw]; exact below_set (HB.out) GB18.out : Below w.heap.size w w20)); clear HO_9; clear BK354; clear HB; have HO_9 := n0_; have BK354 := n1_; have HB := n2_; clear n0_ n1_ n2_; clear hg hw hp_))
             repeat (go_quiet (fail); try go_wp2_with (fail))
             go_roundg k2
             case measure => have := HK1.out; have := HK2.out; omega
             case rel => exact ⟨(y359), (ji15), (by (rfl)), H', ⟨by have := HK1.out; have := HK2.out; omega⟩, ⟨by (with_reducible repeat (fail)); exact HO_9.out⟩, ⟨by (with_reducible repeat (fail)); exact BK354.out⟩, ⟨by repeat ((with_reducible (exact HB.out)))⟩⟩
            ·rw [if_neg c17] at H
             exact absurd H (by simp)
           ·rw [if_neg c16] at H
            exact absurd H (by simp)
          ·rw [if_neg c14] at H
           have c14b0 : decide (x13_2 < (rd l2 x14_1)) = false := decide_eq_false c14
           clear c14
           have H' := Aside0.mk H
           clear H
           have p358 : 0 ≤ (x14_1 : Int) := of_decide_eq_true (by (with_reducible assumption))
           have q358 : x14_1 < (l2.length : Int) := of_decide_eq_true (by (with_reducible assumption))
           obtain ⟨ad358, e358, hx358_0⟩ := Kd.at_int HR2.out x14_1 p358 q358
           cases e358
           replace hx358_0 := (HB.out.cell (World.block_lt_of_cell? w _ hx358_0)).trans hx358_0
           replace p358 := eq_true p358
           replace q358 := eq_true q358
           go_wp2
           repeat (go_quiet (fail); try go_wp2)
           go_loopg [12] k2 (fun kq v12 w' => ∃ (x9_3 : List Int) (x12_3 : Int), v12 = .int .i64 x12_3 ∧ Aside0 (spec_l3Times.l2 kq l2 a3 x9_3 x10_1 x11_1 x12_3 x13_2 x14_1 = some r) ∧ Aside0 (kq ≤ k2) ∧ Aside0 (Kd.R (Kd.int .i64) 3 w' w.heap.size (fun _ => True) v356 x9_3) ∧ Aside0 (w'.heap[gb354]? = some (.cells #[.int .i64 a0_0, .bool a0_1] 25 (0, 0))) ∧ Aside0 (Below w.heap.size w w'))
           case atStart => exact ⟨(x9_2), (x12_1), (by (rfl)), H', ⟨Nat.le_refl _⟩, ⟨by (with_reducible repeat (fail)); exact HO_9.out⟩, ⟨by (with_reducible repeat (fail)); exact BK354.out⟩, ⟨by repeat ((with_reducible (exact HB.out)))⟩⟩
           case round =>
            clear H'
            (try clear c1); (try clear p1); (try clear q1); (try clear hx1); (try clear c2); (try clear p2); (try clear p3); (try clear q3); (try clear hx3); (try clear c5); (try clear c5b0); (try clear c5b1); (try clear c6); (try clear c6b0); (try clear c6b1); (try clear p6); (try clear c8); (try clear c11)
            (try clear c11b0); (try clear c12); (try clear c12b0); (try clear c13); (try clear c13b0); (try clear c14); (try clear c14b0); (try clear c16); (try clear c16b0); (try clear c17); (try clear c17b0); (try clear p18); (try clear q18); (try clear hx18); (try clear hf18); (try clear hcz8_0); (try clear hcz8_1)
            (try clear hfz8_0); (try clear hfz8_1); (try clear hx18_0); (try clear hx358_0); (try clear p18); (try clear p2); (try clear p358); (try clear q18); (try clear q358)
            obtain ⟨x9_3, x12_3, rfl, HA, HK3, HO_9, BK354, HB⟩ := hrel
            cases gk with
            | zero => exact absurd HA.out (by simp [spec_l3Times.l2])
            | succ k3 =>
             have H := HA.out
             clear HA
             simp only [spec_l3Times.l2] at H
             by_cases c21 : 0 ≤ x14_1
             ·rw [if_pos c21] at H
              have c21b0 : decide (0 ≤ x14_1) = true := decide_eq_true c21
              clear c21
              by_cases c22 : x14_1 < (l2.length : Int)
              ·rw [if_pos c22] at H
               have c22b0 : decide (x14_1 < (l2.length : Int)) = true := decide_eq_true c22
               clear c22
               by_cases c23 : x12_3 > (rd l2 x14_1)
               ·rw [if_pos c23] at H
                have c23b0 : decide ((rd l2 x14_1) < x12_3) = true := decide_eq_true c23
                clear c23
                obtain ⟨ji24, hji24⟩ : ∃ j_ : Int, (wrap64 (x12_3 - 1)) = j_ := ⟨_, rfl⟩
                replace H : (if 0 ≤ (ji24) then (if (ji24) < (x9_3.length : Int) then (spec_l3Times.l2 k3 l2 a3 (x9_3.set ((ji24) : Int).toNat (wrap64 ((wrap64 (x10_1 + x11_1)) - (ji24)))) x10_1 x11_1 ji24 x13_2 x14_1) else (none)) else (none)) = some r := by (rw [hji24] at H; exact H)
                have hji24w : (IntKind.i64.wrap (x12_3 - 1)) = ji24 := (i64_w _).trans hji24
                by_cases c25 : 0 ≤ (ji24)
                ·rw [if_pos c25] at H
                 have c25b0 : decide (0 ≤ (ji24)) = true := decide_eq_true c25
                 clear c25
                 by_cases c26 : (ji24) < (x9_3.length : Int)
                 ·rw [if_pos c26] at H
                  have c26b0 : decide ((ji24) < (x9_3.length : Int)) = true := decide_eq_true c26
                  clear c26
                  obtain ⟨y361, hy361⟩ : ∃ y_ : List Int, y_ = (x9_3.set ((ji24) : Int).toNat (wrap64 ((wrap64 (x10_1 + x11_1)) - (ji24)))) := ⟨_, rfl⟩
                  replace H : (spec_l3Times.l2 k3 l2 a3 y361 x10_1 x11_1 ji24 x13_2 x14_1) = some r := by (rw [hy361]; with_reducible exact H)
                  have Ny361 := Aside0.mk hy361
                  clear hy361
                  have H' := Aside0.mk H
                  clear H
                  have p360 : 0 ≤ (x14_1 : Int) := of_decide_eq_true (by (with_reducible assumption))
                  have q360 : x14_1 < (l2.length : Int) := of_decide_eq_true (by (with_reducible assumption))
                  obtain ⟨ad360, e360, hx360_0⟩ := Kd.at_int HR2.out x14_1 p360 q360
                  obtain rfl : ad358 = ad360 := (by injection e360)
                  replace hx360_0 := (HB.out.cell (World.block_lt_of_cell? w _ hx360_0)).trans hx360_0
                  replace p360 := eq_true p360
                  replace q360 := eq_true q360
                  have p27 : 0 ≤ ((ji24) : Int) := of_decide_eq_true (by (with_reducible assumption))
                  have q27 : ((ji24) : Int) < ((x9_3.length : Int) : Int) := of_decide_eq_true (by (with_reducible assumption))
                  obtain ⟨go27, co27, eo27, gb27, gl27, cl27, HG27⟩ := Kd.R_form HO_9.out (by omega)
                  ((cases eo27))
                  have GB27 := Aside0.mk gb27
                  have GG27 := Aside0.mk HG27
                  clear gb27 gl27 HG27
                  obtain ⟨hx27_0, hf27_0⟩ := Kd.R_celln 0 HO_9.out ((ji24) : Int) p27 q27
                  replace p27 := eq_true p27
                  replace q27 := eq_true q27
                  have HP28 := Kd.R_putg HO_9.out ((ji24) : Int) (wrap64 ((wrap64 (x10_1 + x11_1)) - (ji24)))
                  go_wp2_with (((with_reducible refine gate_store (t := 3) (p := 58) rfl ?_); (try (rw [drewN_self wr]; generalize hq_ : World.drewN wr _ = wr; have n0_ := Aside0.mk (Kd.R_at hq_ HO_9.out); have n1_ := Aside0.mk (blk_at hq_ BK354.out); have n2_ := Aside0.mk (below_at hq_ HB.out); clear hq_ HO_9 BK354 HB; have HO_9 := n0_; have BK354 := n1_; have HB := n2_; clear n0_ n1_ n2_; (try (have HP28 := Kd.R_putg HO_9.out ((ji24) : Int) (wrap64 ((wrap64 (x10_1 + x11_1)) - (ji24))))))); refine store_event (t := 3) (p := 58) (v := ?vo_w29) (w1 := (wr.setCell ⟨go27, ((ji24) : Int).toNat, none⟩ (.int .i64 (wrap64 ((wrap64 (x10_1 + x11_1)) - (ji24)))))) ?hg ?ho ?hn ?hr ?_; (case ho => rfl); (case hg => rfl); (case hn => rfl); (case hr => (go_simp; done)); intro w29 hw; have hg : wr.grownBy w29 (some go27) := (by rw [hw]; exact HP28.2); have hp_ : Kd.R (Kd.int .i64) 3 w29 w.heap.size (fun _ => True) (.slice (some ⟨go27, 0, none⟩) x9_3.length co27) y361 := (by rw [hw, Ny361.out]; exact HP28.1); clear HP28; have n0_ := Aside0.mk (hp_); have n1_ := Aside0.mk (blk_grown (g := gb354) (o := .cells #[.int .i64 a0_0, .bool a0_1] 25 (0, 0)) (by (with_reducible repeat (fail)); exact BK354.out) hg (Kd.R_ne HO_9.out BK354.out (by decide))); have n2_ := Aside0.mk ((by rw [hw]; exact below_set (HB.out) GB27.out : Below w.heap.size w w29)); clear HO_9; clear BK354; clear HB; have HO_9 := n0_; have BK354 := n1_; have HB := n2_; clear n0_ n1_ n2_; clear hg hw hp_))
                  repeat (go_quiet (fail); try go_wp2_with (fail))
                  go_roundg k3
                  case measure => have := HK1.out; have := HK2.out; have := HK3.out; omega
                  case rel => exact ⟨(y361), (ji24), (by (rfl)), H', ⟨by have := HK1.out; have := HK2.out; have := HK3.out; omega⟩, ⟨by (with_reducible repeat (fail)); exact HO_9.out⟩, ⟨by (with_reducible repeat (fail)); exact BK354.out⟩, ⟨by repeat ((with_reducible (exact HB.out)))⟩⟩
                 ·rw [if_neg c26] at H
                  exact absurd H (by simp)
                ·rw [if_neg c25] at H
                 exact absurd H (by simp)
               ·rw [if_neg c23] at H
                have c23b0 : decide ((rd l2 x14_1) < x12_3) = false := decide_eq_false c23
                clear c23
                replace H := Option.bind_eq_some_iff.mp H
                obtain ⟨t364, A300, H⟩ := H
                try dsimp only at H
                have A30 := Aside0.mk A300
                clear A300
                have H' := Aside0.mk H
                clear H
                have p360 : 0 ≤ (x14_1 : Int) := of_decide_eq_true (by (with_reducible assumption))
                have q360 : x14_1 < (l2.length : Int) := of_decide_eq_true (by (with_reducible assumption))
                obtain ⟨ad360, e360, hx360_0⟩ := Kd.at_int HR2.out x14_1 p360 q360
                obtain rfl : ad358 = ad360 := (by injection e360)
                replace hx360_0 := (HB.out.cell (World.block_lt_of_cell? w _ hx360_0)).trans hx360_0
                replace p360 := eq_true p360
                replace q360 := eq_true q360
                have p362 : 0 ≤ (x14_1 : Int) := of_decide_eq_true (by (with_reducible assumption))
                have q362 : x14_1 < (l2.length : Int) := of_decide_eq_true (by (with_reducible assumption))
                obtain ⟨ad362, e362, hx362_0⟩ := Kd.at_int HR2.out x14_1 p362 q362
                obtain rfl : ad358 = ad362 := (by injection e362)
                replace hx362_0 := (HB.out.cell (World.block_lt_of_cell? w _ hx362_0)).trans hx362_0
                replace p362 := eq_true p362
                replace q362 := eq_true q362
                have p363 : 0 ≤ (x14_1 : Int) := of_decide_eq_true (by (with_reducible assumption))
                have q363 : x14_1 < (l2.length : Int) := of_decide_eq_true (by (with_reducible assumption))
                obtain ⟨ad363, e363, hx363_0⟩ := Kd.at_int HR2.out x14_1 p363 q363
                obtain rfl : ad358 = ad363 := (by injection e363)
                replace hx363_0 := (HB.out.cell (World.block_lt_of_cell? w _ hx363_0)).trans hx363_0
                replace p363 := eq_true p363
                replace q363 := eq_true q363
                go_wp2_with (fail)
                repeat (go_quiet ((go_at_call 86; (try simp only [i64_w, i32_w]); (with_reducible refine (spec_l1Most.calls (wrap64 ((rd l2 x14_1) - x11_1)) (wrap64 (x11_1 - (rd l2 x14_1))) t364 _ A30.out).mono ?_); rintro e w' ⟨rfl, ⟨nd, rfl⟩⟩; (try (exact ⟨rfl, _, World.drewN_drewN _ _ _⟩)); have p365 : 0 ≤ (x14_1 : Int) := of_decide_eq_true (by (with_reducible assumption)); have q365 : x14_1 < (l2.length : Int) := of_decide_eq_true (by (with_reducible assumption)); obtain ⟨ad365, e365, hx365_0⟩ := Kd.at_int HR2.out x14_1 p365 q365; obtain rfl : ad358 = ad365 := (by injection e365); replace hx365_0 := (HB.out.cell (World.block_lt_of_cell? w _ hx365_0)).trans hx365_0; replace p365 := eq_true p365; replace q365 := eq_true q365)); try go_wp2_with (fail))
                go_roundg k3
                case measure => have := HK1.out; have := HK2.out; have := HK3.out; omega
                case rel => exact ⟨(x9_3), (wrap64 ((wrap64 (x10_1 + t364)) + a3)), (rd l2 x14_1), (x12_3), (x13_2), (wrap64 (x14_1 + 1)), (by (simp only [i64_w, i32_w]; done)), (by (rfl)), (by (rfl)), (by (rfl)), (by (rfl)), H', ⟨by have := HK1.out; have := HK2.out; have := HK3.out; omega⟩, ⟨by (with_reducible repeat ((apply Kd.R_drewN))); exact HO_9.out⟩, ⟨by (with_reducible repeat ((refine blk_drewN ?_ _))); exact BK354.out⟩, ⟨by repeat ((with_reducible first | exact HB.out | apply pw_below_drewN))⟩⟩
              ·rw [if_neg c22] at H
               exact absurd H (by simp)
             ·rw [if_neg c21] at H
              exact absurd H (by simp)
         ·rw [if_neg c13] at H
          exact absurd H (by simp)
        ·rw [if_neg c12] at H
         exact absurd H (by simp)
     ·rw [if_neg c11] at H
      have c11b0 : decide (x14_1 < (l2.length : Int)) = false := decide_eq_false c11
      clear c11
      obtain rfl := Option.some.inj H
      go_wp2
      repeat (go_quiet (fail); try go_wp2)
      go_ret
      exact ⟨_, by (rfl), by (with_reducible repeat (fail)); exact HO_9.out, by repeat ((with_reducible (exact HB.out)))⟩
  ·rw [if_neg c6] at H
   exact absurd H (by simp)
 ·rw [if_neg c5] at H
  exact absurd H (by simp)

/-! ### spec_l3Extra: function 92 -/
def spec_l3Extra.f (a0 : Int) : Option (Bool) := (spec_l1In.f a0 0 9).bind fun t366 => (some t366)
set_option maxHeartbeats 8000000 in
set_option maxRecDepth 100000 in
theorem spec_l3Extra.calls (a0 : Int) (r : Bool) (w : World) (h : spec_l3Extra.f a0 = some r) :
  Calls Try.prog 92 #[.int .i64 a0] w fun e w' => e = .returned (.bool r) ∧ Drawn0 w w' := by
 have H : ((spec_l1In.f a0 0 9).bind fun t366 => (some t366)) = some r := h
 clear h
 replace H := Option.bind_eq_some_iff.mp H
 obtain ⟨t366, A20, H⟩ := H
 try dsimp only at H
 have A2 := Aside0.mk A20
 clear A20
 obtain rfl := Option.some.inj H
 go_enter Try.func92, Try.ntmps92
 go_wp2_with (((with_reducible refine gate_callee (f := 100) rfl ?_); refine goesL_ (some 4) rfl rfl Try.func100 (by kernel_rfl) rfl #[.int .i64 a0, .int .i64 0, .int .i64 9] rfl (by (try simp only [List.map_toArray, List.map_cons, List.map_nil]); (rfl)) ?_; (with_reducible refine (spec_l1In.calls a0 0 9 t366 _ A2.out).mono ?_); rintro e w' ⟨rfl, ⟨nd, rfl⟩⟩; refine ⟨_, rfl, ?_⟩))
 go_ret
 exact ⟨by (rfl), by repeat (first | exact Drawn0.refl _ | apply Drawn0.step)⟩

/-! ### spec_SearchTimes: function 46 -/
def spec_SearchTimes.f (k : Nat) (a0_0 : Int) (a0_1 : Bool) (a1 : Int) (l2 : List Int) (a3 : Int) : Option (List Int × Bool) := (spec_l3Good.f k a0_0 a0_1 a1 l2).bind fun t368 => (if t368 = true then ((spec_l3Extra.f a3).bind fun t369 => (if t369 = true then ((spec_l3Times.f k a0_0 a0_1 a1 l2 a3).bind fun t370 => (some (t370, true))) else (some ((([] : List Int)), false)))) else (some ((([] : List Int)), false)))
set_option maxHeartbeats 8000000 in
set_option maxRecDepth 100000 in
theorem spec_SearchTimes.calls (k : Nat) (a0_0 : Int) (a0_1 : Bool) (a1 : Int) (A2 : Option Addr) (c2 : Nat) (l2 : List Int) (a3 : Int) (r1 : List Int) (r2 : Bool) (w : World) (hr2 : Kd.C (Kd.int .i64) w A2 l2.length l2) (hc2 : l2.length ≤ c2) (h : spec_SearchTimes.f k a0_0 a0_1 a1 l2 a3 = some (r1, r2)) :
  Calls Try.prog 46 #[.agg #[.int .i64 a0_0, .bool a0_1], .int .i64 a1, .slice A2 l2.length c2, .int .i64 a3] w fun e w' => ∃ v0_ : Value, e = .returned (.tuple #[v0_, .bool r2]) ∧ Kd.R (Kd.int .i64) 3 w' w.heap.size (fun _ => True) v0_ r1 ∧ Below w.heap.size w w' := by
 have hu25 := Try.underlying25
 have HR2 := Aside0.mk hr2
 have HC2 := Aside0.mk hc2
 clear hr2 hc2
 have HB := Aside0.mk (Below.refl w.heap.size w)
 have H : ((spec_l3Good.f k a0_0 a0_1 a1 l2).bind fun t368 => (if t368 = true then ((spec_l3Extra.f a3).bind fun t369 => (if t369 = true then ((spec_l3Times.f k a0_0 a0_1 a1 l2 a3).bind fun t370 => (some (t370, true))) else (some ((([] : List Int)), false)))) else (some ((([] : List Int)), false)))) = some (r1, r2) := h
 clear h
 replace H := Option.bind_eq_some_iff.mp H
 obtain ⟨t368, A50, H⟩ := H
 try dsimp only at H
 have A5 := Aside0.mk A50
 clear A50
 by_cases c6 : t368 = true
 ·subst c6
  rw [if_pos rfl] at H
  replace H := Option.bind_eq_some_iff.mp H
  obtain ⟨t369, A70, H⟩ := H
  try dsimp only at H
  have A7 := Aside0.mk A70
  clear A70
  by_cases c8 : t369 = true
  ·subst c8
   rw [if_pos rfl] at H
   replace H := Option.bind_eq_some_iff.mp H
   obtain ⟨t370, A90, H⟩ := H
   try dsimp only at H
   have A9 := Aside0.mk A90
   clear A90
   simp only [Option.some.injEq, Prod.mk.injEq] at H
   obtain ⟨rfl, rfl⟩ := H
   go_enter Try.func46, Try.ntmps46
   go_wp2_with (first | ((with_reducible refine gate_dst (N := 4) rfl ?_); refine box_event ?hg (N := 4) ?hd (cs := #[.int .i64 a0_0, .bool a0_1]) (t := 25) ?hr ?_; (case hd => rfl); (case hg => rfl); (case hr => (go_simp; done)); intro gb367 hg w10 hbox hb; have n0_ := Aside0.mk (below_step (by repeat ((with_reducible (exact HB.out)))) hb); have n1_ := Aside0.mk (hbox); have n2_ := Aside0.mk ((by rw [hg]; exact (below_size (by repeat ((with_reducible (exact HB.out))))) : w.heap.size ≤ gb367)); have n3_ := Aside0.mk ((by rw [hg]; exact (below_size (by repeat ((with_reducible (exact HB.out))))) : w.heap.size ≤ gb367)); clear HB; have HB := n0_; have BK367 := n1_; have GW367 := n2_; have GE367 := n3_; clear n0_ n1_ n2_ n3_; clear hb hbox hg; have hcz11_0 : w10.cell? ⟨gb367, 0, none⟩ = some (.int .i64 a0_0) := (blk_cell BK367.out 0).trans rfl; have hcz11_1 : w10.cell? ⟨gb367, 1, none⟩ = some (.bool a0_1) := (blk_cell BK367.out 1).trans rfl; have hfz11_0 := blk_frozen BK367.out 0; have hfz11_1 := blk_frozen BK367.out 1) | ((with_reducible refine gate_callee (f := 78) rfl ?_); refine goesL_ (some 13) rfl rfl Try.func78 (by kernel_rfl) rfl #[.agg #[.int .i64 a0_0, .bool a0_1], .int .i64 a1, .slice A2 l2.length c2] rfl (by (try simp only [List.map_toArray, List.map_cons, List.map_nil]); (rfl)) ?_; (with_reducible refine (spec_l3Good.calls k a0_0 a0_1 a1 _ _ l2 true _ ?side1 ?side2 A5.out).mono ?_); (case side1 => repeat ((exact (Kd.C_below HR2.out HB.out)))); (case side2 => exact HC2.out); rintro e w12 ⟨rfl, hb⟩; refine ⟨_, rfl, ?_⟩; have n0_ := Aside0.mk (blk_below (g := gb367) (o := .cells #[.int .i64 a0_0, .bool a0_1] 25 (0, 0)) (by (with_reducible repeat (fail)); exact BK367.out) hb); have n1_ := Aside0.mk (below_step (by repeat ((with_reducible (exact HB.out)))) hb); clear BK367; clear HB; have BK367 := n0_; have HB := n1_; clear n0_ n1_; (try clear hb); (try clear hb2); (try clear hk); (try clear hi)) | (go_at_call 92; (with_reducible refine (spec_l3Extra.calls a3 true _ A7.out).mono ?_); rintro e w' ⟨rfl, ⟨nd, rfl⟩⟩; have hcz13_0 : w12.cell? ⟨gb367, 0, none⟩ = some (.int .i64 a0_0) := (blk_cell BK367.out 0).trans rfl; have hcz13_1 : w12.cell? ⟨gb367, 1, none⟩ = some (.bool a0_1) := (blk_cell BK367.out 1).trans rfl; have hfz13_0 := blk_frozen BK367.out 0; have hfz13_1 := blk_frozen BK367.out 1) | ((with_reducible refine gate_callee (f := 80) rfl ?_); refine goesL_ (some 25) rfl rfl Try.func80 (by kernel_rfl) rfl #[.agg #[.int .i64 a0_0, .bool a0_1], .int .i64 a1, .slice A2 l2.length c2, .int .i64 a3] rfl (by (try simp only [List.map_toArray, List.map_cons, List.map_nil]); (rfl)) ?_; (with_reducible refine (spec_l3Times.calls k a0_0 a0_1 a1 _ _ l2 a3 t370 _ ?side1 ?side2 A9.out).mono ?_); (case side1 => repeat ((exact (Kd.C_below HR2.out (by repeat ((with_reducible first | exact HB.out | apply pw_below_drewN))))))); (case side2 => exact HC2.out); rintro e w14 ⟨v371, rfl, ho0, hb⟩; refine ⟨_, rfl, ?_⟩; have n0_ := Aside0.mk (Kd.R_lower ho0 (below_size (by repeat ((with_reducible first | exact HB.out | apply pw_below_drewN))))); have n1_ := Aside0.mk (blk_below (g := gb367) (o := .cells #[.int .i64 a0_0, .bool a0_1] 25 (0, 0)) (by (with_reducible repeat ((refine blk_drewN ?_ _))); exact BK367.out) hb); have n2_ := Aside0.mk (below_step (by repeat ((with_reducible first | exact HB.out | apply pw_below_drewN))) hb); clear BK367; clear HB; have HO372 := n0_; have BK367 := n1_; have HB := n2_; clear n0_ n1_ n2_; (try clear hb); (try clear hb2); (try clear hk); (try clear hi); (try clear ho0)))
   go_ret2
   exact ⟨_, by (rfl), by (with_reducible repeat (fail)); exact HO372.out, by repeat ((with_reducible (exact HB.out)))⟩
  ·replace c8 := Bool.eq_false_iff.mpr c8
   subst c8
   rw [if_neg (show ¬ (false = true) by decide)] at H
   obtain ⟨y373, hy373⟩ : ∃ y_ : List Int, y_ = (([] : List Int)) := ⟨_, rfl⟩
   replace H : (some (y373, false)) = some (r1, r2) := by (rw [hy373]; with_reducible exact H)
   have Ny373 := Aside0.mk hy373
   clear hy373
   simp only [Option.some.injEq, Prod.mk.injEq] at H
   obtain ⟨rfl, rfl⟩ := H
   go_enter Try.func46, Try.ntmps46
   go_wp2_with (first | ((with_reducible refine gate_dst (N := 4) rfl ?_); refine box_event ?hg (N := 4) ?hd (cs := #[.int .i64 a0_0, .bool a0_1]) (t := 25) ?hr ?_; (case hd => rfl); (case hg => rfl); (case hr => (go_simp; done)); intro gb367 hg w15 hbox hb; have n0_ := Aside0.mk (below_step (by repeat ((with_reducible (exact HB.out)))) hb); have n1_ := Aside0.mk (hbox); have n2_ := Aside0.mk ((by rw [hg]; exact (below_size (by repeat ((with_reducible (exact HB.out))))) : w.heap.size ≤ gb367)); have n3_ := Aside0.mk ((by rw [hg]; exact (below_size (by repeat ((with_reducible (exact HB.out))))) : w.heap.size ≤ gb367)); clear HB; have HB := n0_; have BK367 := n1_; have GW367 := n2_; have GE367 := n3_; clear n0_ n1_ n2_ n3_; clear hb hbox hg; have hcz16_0 : w15.cell? ⟨gb367, 0, none⟩ = some (.int .i64 a0_0) := (blk_cell BK367.out 0).trans rfl; have hcz16_1 : w15.cell? ⟨gb367, 1, none⟩ = some (.bool a0_1) := (blk_cell BK367.out 1).trans rfl; have hfz16_0 := blk_frozen BK367.out 0; have hfz16_1 := blk_frozen BK367.out 1) | ((with_reducible refine gate_callee (f := 78) rfl ?_); refine goesL_ (some 13) rfl rfl Try.func78 (by kernel_rfl) rfl #[.agg #[.int .i64 a0_0, .bool a0_1], .int .i64 a1, .slice A2 l2.length c2] rfl (by (try simp only [List.map_toArray, List.map_cons, List.map_nil]); (rfl)) ?_; (with_reducible refine (spec_l3Good.calls k a0_0 a0_1 a1 _ _ l2 true _ ?side1 ?side2 A5.out).mono ?_); (case side1 => repeat ((exact (Kd.C_below HR2.out HB.out)))); (case side2 => exact HC2.out); rintro e w17 ⟨rfl, hb⟩; refine ⟨_, rfl, ?_⟩; have n0_ := Aside0.mk (blk_below (g := gb367) (o := .cells #[.int .i64 a0_0, .bool a0_1] 25 (0, 0)) (by (with_reducible repeat (fail)); exact BK367.out) hb); have n1_ := Aside0.mk (below_step (by repeat ((with_reducible (exact HB.out)))) hb); clear BK367; clear HB; have BK367 := n0_; have HB := n1_; clear n0_ n1_; (try clear hb); (try clear hb2); (try clear hk); (try clear hi)) | (go_at_call 92; (with_reducible refine (spec_l3Extra.calls a3 false _ A7.out).mono ?_); rintro e w' ⟨rfl, ⟨nd, rfl⟩⟩) | ((with_reducible refine gate_dst (N := 20) rfl ?_); refine Kd.R_lit (Kd.int .i64) _ 3 ?hg (N := 20) ?hd (xs := ([] : List Int)) (inner := []) (ok := fun _ => True) (okp := fun _ => True) ?hr ?hp (fun _ hk => hk) trivial (Below.refl _ _) (Nat.le_refl _) (by simp) ?_; (case hd => rfl); (case hg => rfl); (case hr => (go_simp; done)); (case hp => exact (Reps.none _ _)); intro v374 w18 ho19 hb hg_ hnew_; clear hg_ hnew_; ((rw [← Ny373.out] at ho19)); have n0_ := Aside0.mk (Kd.R_lower ho19 (below_size (by repeat ((with_reducible first | exact HB.out | apply pw_below_drewN))))); have n1_ := Aside0.mk (blk_below (g := gb367) (o := .cells #[.int .i64 a0_0, .bool a0_1] 25 (0, 0)) (by (with_reducible repeat ((refine blk_drewN ?_ _))); exact BK367.out) hb); have n2_ := Aside0.mk (below_step (by repeat ((with_reducible first | exact HB.out | apply pw_below_drewN))) hb); clear BK367; clear HB; have HO375 := n0_; have BK367 := n1_; have HB := n2_; clear n0_ n1_ n2_; clear hb ho19))
   go_ret2
   exact ⟨_, by (rfl), by (with_reducible repeat (fail)); exact HO375.out, by repeat ((with_reducible (exact HB.out)))⟩
 ·replace c6 := Bool.eq_false_iff.mpr c6
  subst c6
  rw [if_neg (show ¬ (false = true) by decide)] at H
  obtain ⟨y376, hy376⟩ : ∃ y_ : List Int, y_ = (([] : List Int)) := ⟨_, rfl⟩
  replace H : (some (y376, false)) = some (r1, r2) := by (rw [hy376]; with_reducible exact H)
  have Ny376 := Aside0.mk hy376
  clear hy376
  simp only [Option.some.injEq, Prod.mk.injEq] at H
  obtain ⟨rfl, rfl⟩ := H
  go_enter Try.func46, Try.ntmps46
  go_wp2_with (first | ((with_reducible refine gate_dst (N := 4) rfl ?_); refine box_event ?hg (N := 4) ?hd (cs := #[.int .i64 a0_0, .bool a0_1]) (t := 25) ?hr ?_; (case hd => rfl); (case hg => rfl); (case hr => (go_simp; done)); intro gb367 hg w20 hbox hb; have n0_ := Aside0.mk (below_step (by repeat ((with_reducible (exact HB.out)))) hb); have n1_ := Aside0.mk (hbox); have n2_ := Aside0.mk ((by rw [hg]; exact (below_size (by repeat ((with_reducible (exact HB.out))))) : w.heap.size ≤ gb367)); have n3_ := Aside0.mk ((by rw [hg]; exact (below_size (by repeat ((with_reducible (exact HB.out))))) : w.heap.size ≤ gb367)); clear HB; have HB := n0_; have BK367 := n1_; have GW367 := n2_; have GE367 := n3_; clear n0_ n1_ n2_ n3_; clear hb hbox hg; have hcz21_0 : w20.cell? ⟨gb367, 0, none⟩ = some (.int .i64 a0_0) := (blk_cell BK367.out 0).trans rfl; have hcz21_1 : w20.cell? ⟨gb367, 1, none⟩ = some (.bool a0_1) := (blk_cell BK367.out 1).trans rfl; have hfz21_0 := blk_frozen BK367.out 0; have hfz21_1 := blk_frozen BK367.out 1) | ((with_reducible refine gate_callee (f := 78) rfl ?_); refine goesL_ (some 13) rfl rfl Try.func78 (by kernel_rfl) rfl #[.agg #[.int .i64 a0_0, .bool a0_1], .int .i64 a1, .slice A2 l2.length c2] rfl (by (try simp only [List.map_toArray, List.map_cons, List.map_nil]); (rfl)) ?_; (with_reducible refine (spec_l3Good.calls k a0_0 a0_1 a1 _ _ l2 false _ ?side1 ?side2 A5.out).mono ?_); (case side1 => repeat ((exact (Kd.C_below HR2.out HB.out)))); (case side2 => exact HC2.out); rintro e w22 ⟨rfl, hb⟩; refine ⟨_, rfl, ?_⟩; have n0_ := Aside0.mk (blk_below (g := gb367) (o := .cells #[.int .i64 a0_0, .bool a0_1] 25 (0, 0)) (by (with_reducible repeat (fail)); exact BK367.out) hb); have n1_ := Aside0.mk (below_step (by repeat ((with_reducible (exact HB.out)))) hb); clear BK367; clear HB; have BK367 := n0_; have HB := n1_; clear n0_ n1_; (try clear hb); (try clear hb2); (try clear hk); (try clear hi)) | ((with_reducible refine gate_dst (N := 20) rfl ?_); refine Kd.R_lit (Kd.int .i64) _ 3 ?hg (N := 20) ?hd (xs := ([] : List Int)) (inner := []) (ok := fun _ => True) (okp := fun _ => True) ?hr ?hp (fun _ hk => hk) trivial (Below.refl _ _) (Nat.le_refl _) (by simp) ?_; (case hd => rfl); (case hg => rfl); (case hr => (go_simp; done)); (case hp => exact (Reps.none _ _)); intro v377 w23 ho24 hb hg_ hnew_; clear hg_ hnew_; ((rw [← Ny376.out] at ho24)); have n0_ := Aside0.mk (Kd.R_lower ho24 (below_size (by repeat ((with_reducible (exact HB.out)))))); have n1_ := Aside0.mk (blk_below (g := gb367) (o := .cells #[.int .i64 a0_0, .bool a0_1] 25 (0, 0)) (by (with_reducible repeat (fail)); exact BK367.out) hb); have n2_ := Aside0.mk (below_step (by repeat ((with_reducible (exact HB.out)))) hb); clear BK367; clear HB; have HO378 := n0_; have BK367 := n1_; have HB := n2_; clear n0_ n1_ n2_; clear hb ho24))
  go_ret2
  exact ⟨_, by (rfl), by (with_reducible repeat (fail)); exact HO378.out, by repeat ((with_reducible (exact HB.out)))⟩

/-! ### spec_l2Gap: function 64 -/
def spec_l2Gap.f (a0_0 : Int) (a0_1 : Bool) (a1 : Int) (a2 : Int) : Option (Int) := (spec_l1Most.f (wrap64 (a1 - a2)) (wrap64 (a2 - a1))).bind fun t380 => (if a0_1 = true then ((spec_l1Least.f t380 (wrap64 (a0_0 - t380))).bind fun t381 => (some t381)) else (some t380))
set_option maxHeartbeats 8000000 in
set_option maxRecDepth 100000 in
theorem spec_l2Gap.calls (a0_0 : Int) (a0_1 : Bool) (a1 : Int) (a2 : Int) (r : Int) (w : World) (h : spec_l2Gap.f a0_0 a0_1 a1 a2 = some r) :
  Calls Try.prog 64 #[.agg #[.int .i64 a0_0, .bool a0_1], .int .i64 a1, .int .i64 a2] w fun e w' => e = .returned (.int .i64 r) ∧ Below w.heap.size w w' := by
 have hu25 := Try.underlying25
 have HB := Aside0.mk (Below.refl w.heap.size w)
 have H : ((spec_l1Most.f (wrap64 (a1 - a2)) (wrap64 (a2 - a1))).bind fun t380 => (if a0_1 = true then ((spec_l1Least.f t380 (wrap64 (a0_0 - t380))).bind fun t381 => (some t381)) else (some t380))) = some r := h
 clear h
 replace H := Option.bind_eq_some_iff.mp H
 obtain ⟨t380, A40, H⟩ := H
 try dsimp only at H
 have A4 := Aside0.mk A40
 clear A40
 by_cases c5 : a0_1 = true
 ·subst c5
  rw [if_pos rfl] at H
  replace H := Option.bind_eq_some_iff.mp H
  obtain ⟨t381, A60, H⟩ := H
  try dsimp only at H
  have A6 := Aside0.mk A60
  clear A60
  obtain rfl := Option.some.inj H
  go_enter Try.func64, Try.ntmps64
  go_wp2_with (first | ((with_reducible refine gate_dst (N := 3) rfl ?_); refine box_event ?hg (N := 3) ?hd (cs := #[.int .i64 a0_0, .bool true]) (t := 25) ?hr ?_; (case hd => rfl); (case hg => rfl); (case hr => (go_simp; done)); intro gb379 hg w7 hbox hb; have n0_ := Aside0.mk (below_step (by repeat ((with_reducible (exact HB.out)))) hb); have n1_ := Aside0.mk (hbox); have n2_ := Aside0.mk ((by rw [hg]; exact (below_size (by repeat ((with_reducible (exact HB.out))))) : w.heap.size ≤ gb379)); have n3_ := Aside0.mk ((by rw [hg]; exact (below_size (by repeat ((with_reducible (exact HB.out))))) : w.heap.size ≤ gb379)); clear HB; have HB := n0_; have BK379 := n1_; have GW379 := n2_; have GE379 := n3_; clear n0_ n1_ n2_ n3_; clear hb hbox hg) | ((with_reducible refine gate_callee (f := 86) rfl ?_); refine goesL_ (some 14) rfl rfl Try.func86 (by kernel_rfl) rfl #[.int .i64 (wrap64 (a1 - a2)), .int .i64 (wrap64 (a2 - a1))] rfl (by (try simp only [List.map_toArray, List.map_cons, List.map_nil]); (rfl)) ?_; (with_reducible refine (spec_l1Most.calls (wrap64 (a1 - a2)) (wrap64 (a2 - a1)) t380 _ A4.out).mono ?_); rintro e w' ⟨rfl, ⟨nd, rfl⟩⟩; refine ⟨_, rfl, ?_⟩; have hcz8_0 : w7.cell? ⟨gb379, 0, none⟩ = some (.int .i64 a0_0) := (blk_cell BK379.out 0).trans rfl; have hcz8_1 : w7.cell? ⟨gb379, 1, none⟩ = some (.bool true) := (blk_cell BK379.out 1).trans rfl; have hfz8_0 := blk_frozen BK379.out 0; have hfz8_1 := blk_frozen BK379.out 1) | ((with_reducible refine gate_callee (f := 96) rfl ?_); refine goesL_ (some 22) rfl rfl Try.func96 (by kernel_rfl) rfl #[.int .i64 t380, .int .i64 (wrap64 (a0_0 - t380))] rfl (by (try simp only [List.map_toArray, List.map_cons, List.map_nil]); (rfl)) ?_; (with_reducible refine (spec_l1Least.calls t380 (wrap64 (a0_0 - t380)) t381 _ A6.out).mono ?_); rintro e w' ⟨rfl, ⟨nd, rfl⟩⟩; refine ⟨_, rfl, ?_⟩))
  go_ret
  exact ⟨by (rfl), by repeat ((with_reducible first | exact HB.out | apply pw_below_drewN))⟩
 ·replace c5 := Bool.eq_false_iff.mpr c5
  subst c5
  rw [if_neg (show ¬ (false = true) by decide)] at H
  obtain rfl := Option.some.inj H
  go_enter Try.func64, Try.ntmps64
  go_wp2_with (first | ((with_reducible refine gate_dst (N := 3) rfl ?_); refine box_event ?hg (N := 3) ?hd (cs := #[.int .i64 a0_0, .bool false]) (t := 25) ?hr ?_; (case hd => rfl); (case hg => rfl); (case hr => (go_simp; done)); intro gb379 hg w9 hbox hb; have n0_ := Aside0.mk (below_step (by repeat ((with_reducible (exact HB.out)))) hb); have n1_ := Aside0.mk (hbox); have n2_ := Aside0.mk ((by rw [hg]; exact (below_size (by repeat ((with_reducible (exact HB.out))))) : w.heap.size ≤ gb379)); have n3_ := Aside0.mk ((by rw [hg]; exact (below_size (by repeat ((with_reducible (exact HB.out))))) : w.heap.size ≤ gb379)); clear HB; have HB := n0_; have BK379 := n1_; have GW379 := n2_; have GE379 := n3_; clear n0_ n1_ n2_ n3_; clear hb hbox hg) | ((with_reducible refine gate_callee (f := 86) rfl ?_); refine goesL_ (some 14) rfl rfl Try.func86 (by kernel_rfl) rfl #[.int .i64 (wrap64 (a1 - a2)), .int .i64 (wrap64 (a2 - a1))] rfl (by (try simp only [List.map_toArray, List.map_cons, List.map_nil]); (rfl)) ?_; (with_reducible refine (spec_l1Most.calls (wrap64 (a1 - a2)) (wrap64 (a2 - a1)) t380 _ A4.out).mono ?_); rintro e w' ⟨rfl, ⟨nd, rfl⟩⟩; refine ⟨_, rfl, ?_⟩; have hcz10_0 : w9.cell? ⟨gb379, 0, none⟩ = some (.int .i64 a0_0) := (blk_cell BK379.out 0).trans rfl; have hcz10_1 : w9.cell? ⟨gb379, 1, none⟩ = some (.bool false) := (blk_cell BK379.out 1).trans rfl; have hfz10_0 := blk_frozen BK379.out 0; have hfz10_1 := blk_frozen BK379.out 1))
  go_ret
  exact ⟨by (rfl), by repeat ((with_reducible first | exact HB.out | apply pw_below_drewN))⟩

/-! ### spec_l3Worst: function 94 -/
def spec_l3Worst.l0 : Nat → Int → List Int → Int → Int → Int → Int → Int → Bool → Option (Int × Int × Int)
 | 0, _, _, _, _, _, _, _, _ => none
 | k + 1, x1, x11, x12, x13, x14, x15, x383000, x383001 => if x15 < x383000 then ((spec_l2Gap.f x383000 x383001 x1 x15).bind fun t386 => (if t386 > 0 then (if 0 ≤ x15 then (if x15 < (x11.length : Int) then (if (wrap64 ((rd x11 x15) * x14)) > (wrap64 (x13 * t386)) then (spec_l3Worst.l0 k x1 x11 x15 (rd x11 x15) t386 (wrap64 (x15 + 1)) x383000 x383001) else (spec_l3Worst.l0 k x1 x11 x12 x13 x14 (wrap64 (x15 + 1)) x383000 x383001)) else (none)) else (none)) else (spec_l3Worst.l0 k x1 x11 x12 x13 x14 (wrap64 (x15 + 1)) x383000 x383001))) else (some (x12, x13, x14))
def spec_l3Worst.f (k : Nat) (a0_0 : Int) (a0_1 : Bool) (a1 : Int) (l2 : List Int) (a3 : Int) : Option (Int × Int × Int) := (spec_l3Times.f k a0_0 a0_1 a1 l2 a3).bind fun t383 => (spec_l3Worst.l0 k a1 t383 0 0 1 0 a0_0 a0_1)
set_option maxHeartbeats 8000000 in
set_option maxRecDepth 100000 in
theorem spec_l3Worst.calls (k : Nat) (a0_0 : Int) (a0_1 : Bool) (a1 : Int) (A2 : Option Addr) (c2 : Nat) (l2 : List Int) (a3 : Int) (r1 : Int) (r2 : Int) (r3 : Int) (w : World) (hr2 : Kd.C (Kd.int .i64) w A2 l2.length l2) (hc2 : l2.length ≤ c2) (h : spec_l3Worst.f k a0_0 a0_1 a1 l2 a3 = some (r1, r2, r3)) :
  Calls Try.prog 94 #[.agg #[.int .i64 a0_0, .bool a0_1], .int .i64 a1, .slice A2 l2.length c2, .int .i64 a3] w fun e w' => e = .returned (.tuple #[.int .i64 r1, .int .i64 r2, .int .i64 r3]) ∧ Below w.heap.size w w' := by
 have hu25 := Try.underlying25
 have HR2 := Aside0.mk hr2
 have HC2 := Aside0.mk hc2
 clear hr2 hc2
 have HB := Aside0.mk (Below.refl w.heap.size w)
 have H : ((spec_l3Times.f k a0_0 a0_1 a1 l2 a3).bind fun t383 => (spec_l3Worst.l0 k a1 t383 0 0 1 0 a0_0 a0_1)) = some (r1, r2, r3) := h
 clear h
 replace H := Option.bind_eq_some_iff.mp H
 obtain ⟨t383, A50, H⟩ := H
 try dsimp only at H
 have A5 := Aside0.mk A50
 clear A50
 have H' := Aside0.mk H
 clear H
 go_enter Try.func94, Try.ntmps94
 go_wp2_with (first | ((with_reducible refine gate_dst (N := 4) rfl ?_); refine box_event ?hg (N := 4) ?hd (cs := #[.int .i64 a0_0, .bool a0_1]) (t := 25) ?hr ?_; (case hd => rfl); (case hg => rfl); (case hr => (go_simp; done)); intro gb382 hg w6 hbox hb; have n0_ := Aside0.mk (below_step (by repeat ((with_reducible (exact HB.out)))) hb); have n1_ := Aside0.mk (hbox); have n2_ := Aside0.mk ((by rw [hg]; exact (below_size (by repeat ((with_reducible (exact HB.out))))) : w.heap.size ≤ gb382)); have n3_ := Aside0.mk ((by rw [hg]; exact (below_size (by repeat ((with_reducible (exact HB.out))))) : w.heap.size ≤ gb382)); clear HB; have HB := n0_; have BK382 := n1_; have GW382 := n2_; have GE382 := n3_; clear n0_ n1_ n2_ n3_; clear hb hbox hg; have hcz7_0 : w6.cell? ⟨gb382, 0, none⟩ = some (.int .i64 a0_0) := (blk_cell BK382.out 0).trans rfl; have hcz7_1 : w6.cell? ⟨gb382, 1, none⟩ = some (.bool a0_1) := (blk_cell BK382.out 1).trans rfl; have hfz7_0 := blk_frozen BK382.out 0; have hfz7_1 := blk_frozen BK382.out 1) | ((with_reducible refine gate_callee (f := 80) rfl ?_); refine goesL_ (some 21) rfl rfl Try.func80 (by kernel_rfl) rfl #[.agg #[.int .i64 a0_0, .bool a0_1], .int .i64 a1, .slice A2 l2.length c2, .int .i64 a3] rfl (by (try simp only [List.map_toArray, List.map_cons, List.map_nil]); (rfl)) ?_; (with_reducible refine (spec_l3Times.calls k a0_0 a0_1 a1 _ _ l2 a3 t383 _ ?side1 ?side2 A5.out).mono ?_); (case side1 => repeat ((exact (Kd.C_below HR2.out HB.out)))); (case side2 => exact HC2.out); rintro e w8 ⟨v384, rfl, ho0, hb⟩; refine ⟨_, rfl, ?_⟩; have n0_ := Aside0.mk (Kd.R_lower ho0 (below_size (by repeat ((with_reducible (exact HB.out)))))); have n1_ := Aside0.mk (blk_below (g := gb382) (o := .cells #[.int .i64 a0_0, .bool a0_1] 25 (0, 0)) (by (with_reducible repeat (fail)); exact BK382.out) hb); have n2_ := Aside0.mk (below_step (by repeat ((with_reducible (exact HB.out)))) hb); clear BK382; clear HB; have HO385 := n0_; have BK382 := n1_; have HB := n2_; clear n0_ n1_ n2_; (try clear hb); (try clear hb2); (try clear hk); (try clear hi); (try clear ho0)))
 go_loopg [12, 13, 14, 15] k (fun kq v12 v13 v14 v15 w' => ∃ (x12_1 : Int) (x13_1 : Int) (x14_1 : Int) (x15_1 : Int), v12 = .int .i64 x12_1 ∧ v13 = .int .i64 x13_1 ∧ v14 = .int .i64 x14_1 ∧ v15 = .int .i64 x15_1 ∧ Aside0 (spec_l3Worst.l0 kq a1 t383 x12_1 x13_1 x14_1 x15_1 a0_0 a0_1 = some (r1, r2, r3)) ∧ Aside0 (kq ≤ k) ∧ Aside0 (Kd.R (Kd.int .i64) 3 w' w.heap.size (fun _ => True) v384 t383) ∧ Aside0 (w'.heap[gb382]? = some (.cells #[.int .i64 a0_0, .bool a0_1] 25 (0, 0))) ∧ Aside0 (Below w.heap.size w w'))
 case atStart => exact ⟨(0), (0), (1), (0), (by (rfl)), (by (rfl)), (by (rfl)), (by (rfl)), H', ⟨Nat.le_refl _⟩, ⟨by (with_reducible repeat (fail)); exact HO385.out⟩, ⟨by (with_reducible repeat (fail)); exact BK382.out⟩, ⟨by repeat ((with_reducible (exact HB.out)))⟩⟩
 case round =>
  clear H'
  (try clear c2); (try clear p2); (try clear c8); (try clear hcz7_0); (try clear hcz7_1); (try clear hfz7_0); (try clear hfz7_1)
  obtain ⟨x12_1, x13_1, x14_1, x15_1, rfl, rfl, rfl, rfl, HA, HK1, HO_11, BK382, HB⟩ := hrel
  cases gk with
  | zero => exact absurd HA.out (by simp [spec_l3Worst.l0])
  | succ k1 =>
   have H := HA.out
   clear HA
   simp only [spec_l3Worst.l0] at H
   by_cases c9 : x15_1 < a0_0
   ·rw [if_pos c9] at H
    have c9b0 : decide (x15_1 < a0_0) = true := decide_eq_true c9
    clear c9
    replace H := Option.bind_eq_some_iff.mp H
    obtain ⟨t386, A100, H⟩ := H
    try dsimp only at H
    have A10 := Aside0.mk A100
    clear A100
    by_cases c11 : t386 > 0
    ·rw [if_pos c11] at H
     have c11b0 : decide (0 < t386) = true := decide_eq_true c11
     clear c11
     by_cases c12 : 0 ≤ x15_1
     ·rw [if_pos c12] at H
      have c12b0 : decide (0 ≤ x15_1) = true := decide_eq_true c12
      clear c12
      by_cases c13 : x15_1 < (t383.length : Int)
      ·rw [if_pos c13] at H
       have c13b0 : decide (x15_1 < (t383.length : Int)) = true := decide_eq_true c13
       clear c13
       by_cases c14 : (wrap64 ((rd t383 x15_1) * x14_1)) > (wrap64 (x13_1 * t386))
       ·rw [if_pos c14] at H
        have c14b0 : decide ((wrap64 (x13_1 * t386)) < (wrap64 ((rd t383 x15_1) * x14_1))) = true := decide_eq_true c14
        clear c14
        have H' := Aside0.mk H
        clear H
        have hcz15_0 : wr.cell? ⟨gb382, 0, none⟩ = some (.int .i64 a0_0) := (blk_cell BK382.out 0).trans rfl
        have hcz15_1 : wr.cell? ⟨gb382, 1, none⟩ = some (.bool a0_1) := (blk_cell BK382.out 1).trans rfl
        have hfz15_0 := blk_frozen BK382.out 0
        have hfz15_1 := blk_frozen BK382.out 1
        go_wp2_with (((with_reducible refine gate_callee (f := 64) rfl ?_); refine goesL_ (some 31) rfl rfl Try.func64 (by kernel_rfl) rfl #[.agg #[.int .i64 a0_0, .bool a0_1], .int .i64 a1, .int .i64 x15_1] rfl (by (try simp only [List.map_toArray, List.map_cons, List.map_nil]); (rfl)) ?_; (with_reducible refine (spec_l2Gap.calls a0_0 a0_1 a1 x15_1 t386 _ A10.out).mono ?_); rintro e w16 ⟨rfl, hb⟩; refine ⟨_, rfl, ?_⟩; have n0_ := Aside0.mk (Kd.R_below (by (with_reducible repeat (fail)); exact HO_11.out) hb); have n1_ := Aside0.mk (blk_below (g := gb382) (o := .cells #[.int .i64 a0_0, .bool a0_1] 25 (0, 0)) (by (with_reducible repeat (fail)); exact BK382.out) hb); have n2_ := Aside0.mk (below_step (by repeat ((with_reducible (exact HB.out)))) hb); clear HO_11; clear BK382; clear HB; have HO_11 := n0_; have BK382 := n1_; have HB := n2_; clear n0_ n1_ n2_; (try clear hb); (try clear hb2); (try clear hk); (try clear hi); obtain ⟨Ao17, co17, eo17⟩ := Kd.R_slice HO_11.out; subst eo17; have p387 : 0 ≤ (x15_1 : Int) := of_decide_eq_true (by (with_reducible assumption)); have q387 : x15_1 < (t383.length : Int) := of_decide_eq_true (by (with_reducible assumption)); obtain ⟨ad387, e387, hx387_0⟩ := Kd.at_int (Kd.R_reads' HO_11.out).2.2 x15_1 p387 q387; cases e387; replace p387 := eq_true p387; replace q387 := eq_true q387; have p388 : 0 ≤ (x15_1 : Int) := of_decide_eq_true (by (with_reducible assumption)); have q388 : x15_1 < (t383.length : Int) := of_decide_eq_true (by (with_reducible assumption)); obtain ⟨ad388, e388, hx388_0⟩ := Kd.at_int (Kd.R_reads' HO_11.out).2.2 x15_1 p388 q388; obtain rfl : ad387 = ad388 := (by injection e388); replace p388 := eq_true p388; replace q388 := eq_true q388))
        go_roundg k1
        case measure => have := HK1.out; omega
        case rel => exact ⟨(x15_1), (rd t383 x15_1), (t386), (wrap64 (x15_1 + 1)), (by (rfl)), (by (rfl)), (by (rfl)), (by (rfl)), H', ⟨by have := HK1.out; omega⟩, ⟨by (with_reducible repeat (fail)); exact HO_11.out⟩, ⟨by (with_reducible repeat (fail)); exact BK382.out⟩, ⟨by repeat ((with_reducible (exact HB.out)))⟩⟩
       ·rw [if_neg c14] at H
        have c14b0 : decide ((wrap64 (x13_1 * t386)) < (wrap64 ((rd t383 x15_1) * x14_1))) = false := decide_eq_false c14
        clear c14
        have H' := Aside0.mk H
        clear H
        have hcz18_0 : wr.cell? ⟨gb382, 0, none⟩ = some (.int .i64 a0_0) := (blk_cell BK382.out 0).trans rfl
        have hcz18_1 : wr.cell? ⟨gb382, 1, none⟩ = some (.bool a0_1) := (blk_cell BK382.out 1).trans rfl
        have hfz18_0 := blk_frozen BK382.out 0
        have hfz18_1 := blk_frozen BK382.out 1
        go_wp2_with (((with_reducible refine gate_callee (f := 64) rfl ?_); refine goesL_ (some 31) rfl rfl Try.func64 (by kernel_rfl) rfl #[.agg #[.int .i64 a0_0, .bool a0_1], .int .i64 a1, .int .i64 x15_1] rfl (by (try simp only [List.map_toArray, List.map_cons, List.map_nil]); (rfl)) ?_; (with_reducible refine (spec_l2Gap.calls a0_0 a0_1 a1 x15_1 t386 _ A10.out).mono ?_); rintro e w19 ⟨rfl, hb⟩; refine ⟨_, rfl, ?_⟩; have n0_ := Aside0.mk (Kd.R_below (by (with_reducible repeat (fail)); exact HO_11.out) hb); have n1_ := Aside0.mk (blk_below (g := gb382) (o := .cells #[.int .i64 a0_0, .bool a0_1] 25 (0, 0)) (by (with_reducible repeat (fail)); exact BK382.out) hb); have n2_ := Aside0.mk (below_step (by repeat ((with_reducible (exact HB.out)))) hb); clear HO_11; clear BK382; clear HB; have HO_11 := n0_; have BK382 := n1_; have HB := n2_; clear n0_ n1_ n2_; (try clear hb); (try clear hb2); (try clear hk); (try clear hi); obtain ⟨Ao20, co20, eo20⟩ := Kd.R_slice HO_11.out; subst eo20; have p387 : 0 ≤ (x15_1 : Int) := of_decide_eq_true (by (with_reducible assumption)); have q387 : x15_1 < (t383.length : Int) := of_decide_eq_true (by (with_reducible assumption)); obtain ⟨ad387, e387, hx387_0⟩ := Kd.at_int (Kd.R_reads' HO_11.out).2.2 x15_1 p387 q387; cases e387; replace p387 := eq_true p387; replace q387 := eq_true q387))
        go_roundg k1
        case measure => have := HK1.out; omega
        case rel => exact ⟨(x12_1), (x13_1), (x14_1), (wrap64 (x15_1 + 1)), (by (rfl)), (by (rfl)), (by (rfl)), (by (rfl)), H', ⟨by have := HK1.out; omega⟩, ⟨by (with_reducible repeat (fail)); exact HO_11.out⟩, ⟨by (with_reducible repeat (fail)); exact BK382.out⟩, ⟨by repeat ((with_reducible (exact HB.out)))⟩⟩
      ·rw [if_neg c13] at H
       exact absurd H (by simp)
     ·rw [if_neg c12] at H
      exact absurd H (by simp)
    ·rw [if_neg c11] at H
     have c11b0 : decide (0 < t386) = false := decide_eq_false c11
     clear c11
     have H' := Aside0.mk H
     clear H
     have hcz21_0 : wr.cell? ⟨gb382, 0, none⟩ = some (.int .i64 a0_0) := (blk_cell BK382.out 0).trans rfl
     have hcz21_1 : wr.cell? ⟨gb382, 1, none⟩ = some (.bool a0_1) := (blk_cell BK382.out 1).trans rfl
     have hfz21_0 := blk_frozen BK382.out 0
     have hfz21_1 := blk_frozen BK382.out 1
     go_wp2_with (((with_reducible refine gate_callee (f := 64) rfl ?_); refine goesL_ (some 31) rfl rfl Try.func64 (by kernel_rfl) rfl #[.agg #[.int .i64 a0_0, .bool a0_1], .int .i64 a1, .int .i64 x15_1] rfl (by (try simp only [List.map_toArray, List.map_cons, List.map_nil]); (rfl)) ?_; (with_reducible refine (spec_l2Gap.calls a0_0 a0_1 a1 x15_1 t386 _ A10.out).mono ?_); rintro e w22 ⟨rfl, hb⟩; refine ⟨_, rfl, ?_⟩; have n0_ := Aside0.mk (Kd.R_below (by (with_reducible repeat (fail)); exact HO_11.out) hb); have n1_ := Aside0.mk (blk_below (g := gb382) (o := .cells #[.int .i64 a0_0, .bool a0_1] 25 (0, 0)) (by (with_reducible repeat (fail)); exact BK382.out) hb); have n2_ := Aside0.mk (below_step (by repeat ((with_reducible (exact HB.out)))) hb); clear HO_11; clear BK382; clear HB; have HO_11 := n0_; have BK382 := n1_; have HB := n2_; clear n0_ n1_ n2_; (try clear hb); (try clear hb2); (try clear hk); (try clear hi)))
     go_roundg k1
     case measure => have := HK1.out; omega
     case rel => exact ⟨(x12_1), (x13_1), (x14_1), (wrap64 (x15_1 + 1)), (by (rfl)), (by (rfl)), (by (rfl)), (by (rfl)), H', ⟨by have := HK1.out; omega⟩, ⟨by (with_reducible repeat (fail)); exact HO_11.out⟩, ⟨by (with_reducible repeat (fail)); exact BK382.out⟩, ⟨by repeat ((with_reducible (exact HB.out)))⟩⟩
   ·rw [if_neg c9] at H
    have c9b0 : decide (x15_1 < a0_0) = false := decide_eq_false c9
    clear c9
    simp only [Option.some.injEq, Prod.mk.injEq] at H
    obtain ⟨rfl, rfl, rfl⟩ := H
    have hcz23_0 : wr.cell? ⟨gb382, 0, none⟩ = some (.int .i64 a0_0) := (blk_cell BK382.out 0).trans rfl
    have hcz23_1 : wr.cell? ⟨gb382, 1, none⟩ = some (.bool a0_1) := (blk_cell BK382.out 1).trans rfl
    have hfz23_0 := blk_frozen BK382.out 0
    have hfz23_1 := blk_frozen BK382.out 1
    go_wp2
    go_ret3
    exact ⟨by (rfl), by repeat ((with_reducible (exact HB.out)))⟩

/-! ### spec_l3Gcd: function 102 -/
def spec_l3Gcd.l0 : Nat → Int → Int → Option (Int)
 | 0, _, _ => none
 | k + 1, x0, x1 => if x1 > 0 then (if x1 = 0 then (none) else (spec_l3Gcd.l0 k x1 (Int.tmod x0 x1))) else (some x0)
def spec_l3Gcd.f (k : Nat) (a0 : Int) (a1 : Int) : Option (Int) := spec_l3Gcd.l0 k a0 a1
set_option maxHeartbeats 8000000 in
set_option maxRecDepth 100000 in
theorem spec_l3Gcd.calls (k : Nat) (a0 : Int) (a1 : Int) (r : Int) (w : World) (h : spec_l3Gcd.f k a0 a1 = some r) :
  Calls Try.prog 102 #[.int .i64 a0, .int .i64 a1] w fun e w' => e = .returned (.int .i64 r) ∧ Drawn0 w w' := by
 have H : (spec_l3Gcd.l0 k a0 a1) = some r := h
 clear h
 have H' := Aside0.mk H
 clear H
 go_enter Try.func102, Try.ntmps102
 go_wp2
 repeat (go_quiet (fail); try go_wp2)
 go_loopg [0, 1] k (fun kq v0 v1 w' => ∃ (x0_1 : Int) (x1_1 : Int), v0 = .int .i64 x0_1 ∧ v1 = .int .i64 x1_1 ∧ Aside0 (spec_l3Gcd.l0 kq x0_1 x1_1 = some r) ∧ Aside0 (kq ≤ k) ∧ Drawn0 w w')
 case atStart => exact ⟨(a0), (a1), (by (rfl)), (by (rfl)), H', ⟨Nat.le_refl _⟩, by repeat ((exact Drawn0.refl _))⟩
 case round =>
  clear H'
  (try clear c1); (try clear p2)
  obtain ⟨x0_1, x1_1, rfl, rfl, HA, HK1, ⟨m1, rfl⟩⟩ := hrel
  cases gk with
  | zero => exact absurd HA.out (by simp [spec_l3Gcd.l0])
  | succ k1 =>
   have H := HA.out
   clear HA
   simp only [spec_l3Gcd.l0] at H
   by_cases c3 : x1_1 > 0
   ·rw [if_pos c3] at H
    have c3b0 : decide (0 < x1_1) = true := decide_eq_true c3
    clear c3
    by_cases c4 : x1_1 = 0
    ·rw [if_pos c4] at H
     exact absurd H (by simp)
    ·rw [if_neg c4] at H
     have c4b0 : (x1_1 == 0) = false := beq_eq_false_iff_ne.mpr c4
     have c4b1 : (x1_1 != 0) = true := bne_iff_ne.mpr c4
     have H' := Aside0.mk H
     clear H
     go_wp2
     repeat (go_quiet (fail); try go_wp2)
     go_roundg k1
     case measure => have := HK1.out; omega
     case rel => exact ⟨(x1_1), (Int.tmod x0_1 x1_1), (by (rfl)), (by (rfl)), H', ⟨by have := HK1.out; omega⟩, by repeat (first | exact Drawn0.refl _ | apply Drawn0.step)⟩
   ·rw [if_neg c3] at H
    have c3b0 : decide (0 < x1_1) = false := decide_eq_false c3
    clear c3
    obtain rfl := Option.some.inj H
    go_wp2
    repeat (go_quiet (fail); try go_wp2)
    go_ret
    exact ⟨by (rfl), by repeat (first | exact Drawn0.refl _ | apply Drawn0.step)⟩

end Go.Proofs.Ytogflbocmiogpaa.PFnSearches
