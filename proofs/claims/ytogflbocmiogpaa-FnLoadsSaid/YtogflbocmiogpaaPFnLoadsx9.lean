-- Written for this claim by this session's turned copy of the printer.
import Derived.Test.YtogflbocmiogpaaPFnLoadsx0
import Derived.Test.YtogflbocmiogpaaPFnLoadsx1
import Derived.Test.YtogflbocmiogpaaPFnLoadsx2
import Derived.Test.YtogflbocmiogpaaPFnLoadsx8
namespace Go.Proofs.Ytogflbocmiogpaa.PFnLoads
open Go.RowKit Go.Proofs.YtogflbocmiogpaaW.PrintWords Go.Proofs.YtogflbocmiogpaaW.PrintLast Go.Proofs.YtogflbocmiogpaaW.PrintMore
open Bool renaming true → Y_, false → N_
attribute [local go_sem] max2_int min2_int max_two min_two max_three min_three max_four min_four   -- for this text's walks alone
set_option linter.unusedVariables false
set_option linter.unusedSimpArgs false

/-! ### spec_l3Times: function 80 -/
mutual
def spec_l3Times.l0 : Nat → List Int → Int → List Int → Int → Int → Int → Int → Int → Option (List Int)
 | 0, _, _, _, _, _, _, _, _ => none
 | k + 1, x2, x3, x9, x10, x11, x12, x13, x14 => if x14 < (x2.length : Int) then (spec_l3Times.l1 k x2 x3 x9 x10 x11 x12 x13 x14) else (some x9)
def spec_l3Times.l1 : Nat → List Int → Int → List Int → Int → Int → Int → Int → Int → Option (List Int)
 | 0, _, _, _, _, _, _, _, _ => none
 | k + 1, x2, x3, x9, x10, x11, x12, x13, x14 => if 0 ≤ x14 then (if x14 < (x2.length : Int) then (if x13 < (rd x2 x14) then (if 0 ≤ (wrap64 (x13 + 1)) then (if (wrap64 (x13 + 1)) < (x9.length : Int) then (spec_l3Times.l1 k x2 x3 (x9.set ((wrap64 (x13 + 1)) : Int).toNat (wrap64 ((wrap64 (x10 + (wrap64 (x13 + 1)))) - x11))) x10 x11 x12 (wrap64 (x13 + 1)) x14) else (none)) else (none)) else (spec_l3Times.l2 k x2 x3 x9 x10 x11 x12 x13 x14)) else (none)) else (none)
def spec_l3Times.l2 : Nat → List Int → Int → List Int → Int → Int → Int → Int → Int → Option (List Int)
 | 0, _, _, _, _, _, _, _, _ => none
 | k + 1, x2, x3, x9, x10, x11, x12, x13, x14 => if 0 ≤ x14 then (if x14 < (x2.length : Int) then (if x12 > (rd x2 x14) then (if 0 ≤ (wrap64 (x12 - 1)) then (if (wrap64 (x12 - 1)) < (x9.length : Int) then (spec_l3Times.l2 k x2 x3 (x9.set ((wrap64 (x12 - 1)) : Int).toNat (wrap64 ((wrap64 (x10 + x11)) - (wrap64 (x12 - 1))))) x10 x11 (wrap64 (x12 - 1)) x13 x14) else (none)) else (none)) else ((spec_l1Most.f (wrap64 ((rd x2 x14) - x11)) (wrap64 (x11 - (rd x2 x14)))).bind fun t342 => (spec_l3Times.l0 k x2 x3 x9 (wrap64 ((wrap64 (x10 + t342)) + x3)) (rd x2 x14) x12 x13 (wrap64 (x14 + 1))))) else (none)) else (none)
end
def spec_l3Times.f (k : Nat) (a0_0 : Int) (a0_1 : Bool) (a1 : Int) (l2 : List Int) (a3 : Int) : Option (List Int) := if 0 ≤ a0_0 then (if (a0_0 : Int).toNat ≤ 35184372088832 then (spec_l3Times.l0 k l2 a3 (List.replicate (a0_0 : Int).toNat 0) 0 a1 a1 a1 0) else (none)) else (none)
set_option maxHeartbeats 8000000 in
set_option maxRecDepth 100000 in
theorem spec_l3Times.calls (k : Nat) (a0_0 : Int) (a0_1 : Bool) (a1 : Int) (A2 : Option Addr) (c2 : Nat) (l2 : List Int) (a3 : Int) (r : List Int) (w : World) (hr2 : Kd.C (Kd.int .i64) w A2 l2.length l2) (hc2 : l2.length ≤ c2) (h : spec_l3Times.f k a0_0 a0_1 a1 l2 a3 = some r) :
  Calls Try.prog 80 #[.agg #[.int .i64 a0_0, .bool a0_1], .int .i64 a1, .slice A2 l2.length c2, .int .i64 a3] w fun e w' => ∃ v0_ : Value, e = .returned (v0_) ∧ Kd.R (Kd.int .i64) 3 w' w.heap.size (fun _ => True) v0_ r ∧ Below w.heap.size w w' := by
 have hu25 := Try.underlying25
 have HR2 := Aside0.mk hr2
 have HC2 := Aside0.mk hc2
 clear hr2 hc2
 have HB := Aside0.mk (Below.refl w.heap.size w)
 have H : (if 0 ≤ a0_0 then (if (a0_0 : Int).toNat ≤ 35184372088832 then (spec_l3Times.l0 k l2 a3 (List.replicate (a0_0 : Int).toNat 0) 0 a1 a1 a1 0) else (none)) else (none)) = some r := h
 clear h
 by_cases c5 : 0 ≤ a0_0
 rotate_left
 ·rw [if_neg c5] at H
  exact absurd H (by simp)
 rw [if_pos c5] at H
 have c5b0 := eq_true c5
 have c5b1 : decide (0 ≤ a0_0) = true := decide_eq_true c5
 clear c5
 by_cases c6 : (a0_0 : Int).toNat ≤ 35184372088832
 rotate_left
 ·rw [if_neg c6] at H
  exact absurd H (by simp)
 rw [if_pos c6] at H
 have c6b0 := eq_true c6
 have c6b1 : decide ((a0_0 : Int).toNat ≤ 35184372088832) = true := decide_eq_true c6
 clear c6
 obtain ⟨y333, hy333⟩ : ∃ y_ : List Int, y_ = (List.replicate (a0_0 : Int).toNat 0) := ⟨_, rfl⟩
 replace H : (spec_l3Times.l0 k l2 a3 y333 0 a1 a1 a1 0) = some r := by (rw [hy333]; exact H)
 have Ny333 := Aside0.mk hy333
 clear hy333
 have H' := Aside0.mk H
 clear H
 go_enter Try.func80, Try.ntmps80
 go_wp2_with (first | ((with_reducible refine gate_dst (N := 4) rfl ?_); refine box_event ?hg (N := 4) ?hd (cs := #[.int .i64 a0_0, .bool a0_1]) (t := 25) ?hr ?_; (case hd => rfl); (case hg => rfl); (case hr => (go_simp; done)); intro gb332 hg w7 hbox hb; have n0_ := Aside0.mk (below_step (by repeat ((with_reducible (exact HB.out)))) hb); have n1_ := Aside0.mk (hbox); have n2_ := Aside0.mk ((by rw [hg]; exact (below_size (by repeat ((with_reducible (exact HB.out))))) : w.heap.size ≤ gb332)); have n3_ := Aside0.mk ((by rw [hg]; exact (below_size (by repeat ((with_reducible (exact HB.out))))) : w.heap.size ≤ gb332)); clear HB; have HB := n0_; have BK332 := n1_; have GW332 := n2_; have GE332 := n3_; clear n0_ n1_ n2_ n3_; clear hb hbox hg; have hcz8_0 : w7.cell? ⟨gb332, 0, none⟩ = some (.int .i64 a0_0) := (blk_cell BK332.out 0).trans rfl; have hcz8_1 : w7.cell? ⟨gb332, 1, none⟩ = some (.bool a0_1) := (blk_cell BK332.out 1).trans rfl; have hfz8_0 := blk_frozen BK332.out 0; have hfz8_1 := blk_frozen BK332.out 1) | ((with_reducible refine gate_dst (N := 17) rfl ?_); refine Kd.R_make (Kd.int .i64) _ 3 rfl (N := 17) rfl 30 _ _ rfl a0_0 rfl rfl Try.underlying30 (.int .i64 0) 8 info3 rfl (by decide) (by omega) 0 (ok := fun _ => True) (okp := fun _ => True) rfl (fun _ hk => hk) trivial (of_decide_eq_true (by (with_reducible assumption))) (Nat.le_trans (Nat.mul_le_mul_right _ (of_decide_eq_true (by (with_reducible assumption)) : a0_0.toNat ≤ 35184372088832)) (by omega)) (Below.refl _ _) (Nat.le_refl _) ?_; intro v334 w9 ho10 hb hg_ hnew_; clear hg_ hnew_; ((rw [← Ny333.out] at ho10)); have n0_ := Aside0.mk (Kd.R_lower ho10 (below_size (by repeat ((with_reducible (exact HB.out)))))); have n1_ := Aside0.mk (blk_below (g := gb332) (o := .cells #[.int .i64 a0_0, .bool a0_1] 25 (0, 0)) (by (with_reducible repeat (fail)); exact BK332.out) hb); have n2_ := Aside0.mk (below_step (by repeat ((with_reducible (exact HB.out)))) hb); clear BK332; clear HB; have HO335 := n0_; have BK332 := n1_; have HB := n2_; clear n0_ n1_ n2_; clear hb ho10))
 repeat (go_quiet (fail); try go_wp2_with (fail))
 go_loopg [10, 11, 12, 13, 14] k (fun kq v10 v11 v12 v13 v14 w' => ∃ (x9_1 : List Int) (x10_1 : Int) (x11_1 : Int) (x12_1 : Int) (x13_1 : Int) (x14_1 : Int), v10 = .int .i64 x10_1 ∧ v11 = .int .i64 x11_1 ∧ v12 = .int .i64 x12_1 ∧ v13 = .int .i64 x13_1 ∧ v14 = .int .i64 x14_1 ∧ Aside0 (spec_l3Times.l0 kq l2 a3 x9_1 x10_1 x11_1 x12_1 x13_1 x14_1 = some r) ∧ Aside0 (kq ≤ k) ∧ Aside0 (Kd.R (Kd.int .i64) 3 w' w.heap.size (fun _ => True) v334 x9_1) ∧ Aside0 (w'.heap[gb332]? = some (.cells #[.int .i64 a0_0, .bool a0_1] 25 (0, 0))) ∧ Aside0 (Below w.heap.size w w'))
 case atStart => exact ⟨(y333), (0), (a1), (a1), (a1), (0), (by (rfl)), (by (rfl)), (by (rfl)), (by (rfl)), (by (rfl)), H', ⟨Nat.le_refl _⟩, ⟨by (with_reducible repeat (fail)); exact HO335.out⟩, ⟨by (with_reducible repeat (fail)); exact BK332.out⟩, ⟨by repeat ((with_reducible (exact HB.out)))⟩⟩
 case round =>
  clear H'
  (try clear c2); (try clear p2); (try clear c5); (try clear c5b0); (try clear c5b1); (try clear c6); (try clear c6b0); (try clear c6b1); (try clear c8); (try clear hcz8_0); (try clear hcz8_1); (try clear hfz8_0); (try clear hfz8_1)
  obtain ⟨x9_1, x10_1, x11_1, x12_1, x13_1, x14_1, rfl, rfl, rfl, rfl, rfl, HA, HK1, HO_9, BK332, HB⟩ := hrel
  cases gk with
  | zero => exact absurd HA.out (by simp [spec_l3Times.l0])
  | succ k1 =>
   have H := HA.out
   clear HA
   simp only [spec_l3Times.l0] at H
   by_cases c11 : x14_1 < (l2.length : Int)
   rotate_left
   ·rw [if_neg c11] at H
    have c11b0 : decide (x14_1 < (l2.length : Int)) = false := decide_eq_false c11
    clear c11
    obtain rfl := Option.some.inj H
    go_wp2
    repeat (go_quiet (fail); try go_wp2)
    go_ret
    exact ⟨_, by (rfl), by (with_reducible repeat (fail)); exact HO_9.out, by repeat ((with_reducible (exact HB.out)))⟩
   rw [if_pos c11] at H
   have c11b0 : decide (x14_1 < (l2.length : Int)) = true := decide_eq_true c11
   clear c11
   have H' := Aside0.mk H
   clear H
   go_wp2
   repeat (go_quiet (fail); try go_wp2)
   go_loopg [13] k1 (fun kq v13 w' => ∃ (x9_2 : List Int) (x13_2 : Int), v13 = .int .i64 x13_2 ∧ Aside0 (spec_l3Times.l1 kq l2 a3 x9_2 x10_1 x11_1 x12_1 x13_2 x14_1 = some r) ∧ Aside0 (kq ≤ k1) ∧ Aside0 (Kd.R (Kd.int .i64) 3 w' w.heap.size (fun _ => True) v334 x9_2) ∧ Aside0 (w'.heap[gb332]? = some (.cells #[.int .i64 a0_0, .bool a0_1] 25 (0, 0))) ∧ Aside0 (Below w.heap.size w w'))
   case atStart => exact ⟨(x9_1), (x13_1), (by (rfl)), H', ⟨Nat.le_refl _⟩, ⟨by (with_reducible repeat (fail)); exact HO_9.out⟩, ⟨by (with_reducible repeat (fail)); exact BK332.out⟩, ⟨by repeat ((with_reducible (exact HB.out)))⟩⟩
   case round =>
    clear H'
    (try clear c1); (try clear c2); (try clear p2); (try clear c5); (try clear c5b0); (try clear c5b1); (try clear c6); (try clear c6b0); (try clear c6b1); (try clear c8); (try clear c11); (try clear c11b0); (try clear hcz8_0); (try clear hcz8_1); (try clear hfz8_0); (try clear hfz8_1); (try clear p2)
    obtain ⟨x9_2, x13_2, rfl, HA, HK2, HO_9, BK332, HB⟩ := hrel
    cases gk with
    | zero => exact absurd HA.out (by simp [spec_l3Times.l1])
    | succ k2 =>
     have H := HA.out
     clear HA
     simp only [spec_l3Times.l1] at H
     by_cases c12 : 0 ≤ x14_1
     rotate_left
     ·rw [if_neg c12] at H
      exact absurd H (by simp)
     rw [if_pos c12] at H
     have c12b0 : decide (0 ≤ x14_1) = true := decide_eq_true c12
     clear c12
     by_cases c13 : x14_1 < (l2.length : Int)
     rotate_left
     ·rw [if_neg c13] at H
      exact absurd H (by simp)
     rw [if_pos c13] at H
     have c13b0 : decide (x14_1 < (l2.length : Int)) = true := decide_eq_true c13
     clear c13
     by_cases c14 : x13_2 < (rd l2 x14_1)
     ·rw [if_pos c14] at H
      have c14b0 : decide (x13_2 < (rd l2 x14_1)) = true := decide_eq_true c14
      clear c14
      obtain ⟨ji15, hji15⟩ : ∃ j_ : Int, (wrap64 (x13_2 + 1)) = j_ := ⟨_, rfl⟩
      replace H : (if 0 ≤ (ji15) then (if (ji15) < (x9_2.length : Int) then (spec_l3Times.l1 k2 l2 a3 (x9_2.set ((ji15) : Int).toNat (wrap64 ((wrap64 (x10_1 + (ji15))) - x11_1))) x10_1 x11_1 x12_1 ji15 x14_1) else (none)) else (none)) = some r := by (rw [hji15] at H; exact H)
      have hji15w : (IntKind.i64.wrap (x13_2 + 1)) = ji15 := (i64_w _).trans hji15
      by_cases c16 : 0 ≤ (ji15)
      rotate_left
      ·rw [if_neg c16] at H
       exact absurd H (by simp)
      rw [if_pos c16] at H
      have c16b0 : decide (0 ≤ (ji15)) = true := decide_eq_true c16
      clear c16
      by_cases c17 : (ji15) < (x9_2.length : Int)
      rotate_left
      ·rw [if_neg c17] at H
       exact absurd H (by simp)
      rw [if_pos c17] at H
      have c17b0 : decide ((ji15) < (x9_2.length : Int)) = true := decide_eq_true c17
      clear c17
      obtain ⟨y337, hy337⟩ : ∃ y_ : List Int, y_ = (x9_2.set ((ji15) : Int).toNat (wrap64 ((wrap64 (x10_1 + (ji15))) - x11_1))) := ⟨_, rfl⟩
      replace H : (spec_l3Times.l1 k2 l2 a3 y337 x10_1 x11_1 x12_1 ji15 x14_1) = some r := by (rw [hy337]; exact H)
      have Ny337 := Aside0.mk hy337
      clear hy337
      have H' := Aside0.mk H
      clear H
      have p336 : 0 ≤ (x14_1 : Int) := of_decide_eq_true (by (assumption))
      have q336 : x14_1 < (l2.length : Int) := of_decide_eq_true (by (assumption))
      obtain ⟨ad336, e336, hx336_0⟩ := Kd.at_int HR2.out x14_1 p336 q336
      cases e336
      replace hx336_0 := (HB.out.cell (World.block_lt_of_cell? w _ hx336_0)).trans hx336_0
      replace p336 := eq_true p336
      replace q336 := eq_true q336
      have p18 : 0 ≤ ((ji15) : Int) := of_decide_eq_true (by (assumption))
      have q18 : ((ji15) : Int) < ((x9_2.length : Int) : Int) := of_decide_eq_true (by (assumption))
      obtain ⟨go18, co18, eo18, gb18, gl18, cl18, HG18⟩ := Kd.R_form HO_9.out (by omega)
      ((cases eo18))
      have GB18 := Aside0.mk gb18
      have GG18 := Aside0.mk HG18
      clear gb18 gl18 HG18
      obtain ⟨hx18_0, hf18_0⟩ := Kd.R_celln 0 HO_9.out ((ji15) : Int) p18 q18
      replace p18 := eq_true p18
      replace q18 := eq_true q18
      have HP19 := Kd.R_putg HO_9.out ((ji15) : Int) (wrap64 ((wrap64 (x10_1 + (ji15))) - x11_1))
      go_wp2_with (((refine gate_store (t := 3) (p := 42) rfl ?_); (try (rw [drewN_self wr]; generalize hq_ : World.drewN wr _ = wr; have n0_ := Aside0.mk (Kd.R_at hq_ HO_9.out); have n1_ := Aside0.mk (blk_at hq_ BK332.out); have n2_ := Aside0.mk (below_at hq_ HB.out); clear hq_ HO_9 BK332 HB; have HO_9 := n0_; have BK332 := n1_; have HB := n2_; clear n0_ n1_ n2_; (try (have HP19 := Kd.R_putg HO_9.out ((ji15) : Int) (wrap64 ((wrap64 (x10_1 + (ji15))) - x11_1)))))); refine store_event (t := 3) (p := 42) (v := ?vo_w20) (w1 := (wr.setCell ⟨go18, ((ji15) : Int).toNat, none⟩ (.int .i64 (wrap64 ((wrap64 (x10_1 + (ji15))) - x11_1))))) ?hg ?ho ?hn ?hr ?_; (case ho => rfl); (case hg => rfl); (case hn => rfl); (case hr => (go_simp; done)); intro w20 hw; have hg : wr.grownBy w20 (some go18) := (by rw [hw]; exact HP19.2); have hp_ : Kd.R (Kd.int .i64) 3 w20 w.heap.size (fun _ => True) (.slice (some ⟨go18, 0, none⟩) x9_2.length co18) y337 := (by rw [hw, Ny337.out]; exact HP19.1); clear HP19; have n0_ := Aside0.mk (hp_); have n1_ := Aside0.mk (blk_grown (g := gb332) (o := .cells #[.int .i64 a0_0, .bool a0_1] 25 (0, 0)) (by (with_reducible repeat (fail)); exact BK332.out) hg (Kd.R_ne HO_9.out BK332.out (by decide))); have n2_ := Aside0.mk ((by rw [hw]; exact below_set (HB.out) GB18.out : Below w.heap.size w w20)); clear HO_9; clear BK332; clear HB; have HO_9 := n0_; have BK332 := n1_; have HB := n2_; clear n0_ n1_ n2_; clear hg hw hp_))
      repeat (go_quiet (fail); try go_wp2_with (fail))
      go_roundg k2
      case measure => have := HK1.out; have := HK2.out; omega
      case rel => exact ⟨(y337), (ji15), (by (rfl)), H', ⟨by have := HK1.out; have := HK2.out; omega⟩, ⟨by (with_reducible repeat (fail)); exact HO_9.out⟩, ⟨by (with_reducible repeat (fail)); exact BK332.out⟩, ⟨by repeat ((with_reducible (exact HB.out)))⟩⟩
     rw [if_neg c14] at H
     have c14b0 : decide (x13_2 < (rd l2 x14_1)) = false := decide_eq_false c14
     clear c14
     have H' := Aside0.mk H
     clear H
     have p336 : 0 ≤ (x14_1 : Int) := of_decide_eq_true (by (assumption))
     have q336 : x14_1 < (l2.length : Int) := of_decide_eq_true (by (assumption))
     obtain ⟨ad336, e336, hx336_0⟩ := Kd.at_int HR2.out x14_1 p336 q336
     cases e336
     replace hx336_0 := (HB.out.cell (World.block_lt_of_cell? w _ hx336_0)).trans hx336_0
     replace p336 := eq_true p336
     replace q336 := eq_true q336
     go_wp2
     repeat (go_quiet (fail); try go_wp2)
     go_loopg [12] k2 (fun kq v12 w' => ∃ (x9_3 : List Int) (x12_3 : Int), v12 = .int .i64 x12_3 ∧ Aside0 (spec_l3Times.l2 kq l2 a3 x9_3 x10_1 x11_1 x12_3 x13_2 x14_1 = some r) ∧ Aside0 (kq ≤ k2) ∧ Aside0 (Kd.R (Kd.int .i64) 3 w' w.heap.size (fun _ => True) v334 x9_3) ∧ Aside0 (w'.heap[gb332]? = some (.cells #[.int .i64 a0_0, .bool a0_1] 25 (0, 0))) ∧ Aside0 (Below w.heap.size w w'))
     case atStart => exact ⟨(x9_2), (x12_1), (by (rfl)), H', ⟨Nat.le_refl _⟩, ⟨by (with_reducible repeat (fail)); exact HO_9.out⟩, ⟨by (with_reducible repeat (fail)); exact BK332.out⟩, ⟨by repeat ((with_reducible (exact HB.out)))⟩⟩
     case round =>
      clear H'
      (try clear c1); (try clear p1); (try clear q1); (try clear hx1); (try clear c2); (try clear p2); (try clear p3); (try clear q3); (try clear hx3); (try clear c5); (try clear c5b0); (try clear c5b1); (try clear c6); (try clear c6b0); (try clear c6b1); (try clear p6); (try clear c8); (try clear c11)
      (try clear c11b0); (try clear c12); (try clear c12b0); (try clear c13); (try clear c13b0); (try clear c14); (try clear c14b0); (try clear c16); (try clear c16b0); (try clear c17); (try clear c17b0); (try clear p18); (try clear q18); (try clear hx18); (try clear hf18); (try clear hcz8_0); (try clear hcz8_1)
      (try clear hfz8_0); (try clear hfz8_1); (try clear hx18_0); (try clear hx336_0); (try clear p18); (try clear p2); (try clear p336); (try clear q18); (try clear q336)
      obtain ⟨x9_3, x12_3, rfl, HA, HK3, HO_9, BK332, HB⟩ := hrel
      cases gk with
      | zero => exact absurd HA.out (by simp [spec_l3Times.l2])
      | succ k3 =>
       have H := HA.out
       clear HA
       simp only [spec_l3Times.l2] at H
       by_cases c21 : 0 ≤ x14_1
       rotate_left
       ·rw [if_neg c21] at H
        exact absurd H (by simp)
       rw [if_pos c21] at H
       have c21b0 : decide (0 ≤ x14_1) = true := decide_eq_true c21
       clear c21
       by_cases c22 : x14_1 < (l2.length : Int)
       rotate_left
       ·rw [if_neg c22] at H
        exact absurd H (by simp)
       rw [if_pos c22] at H
       have c22b0 : decide (x14_1 < (l2.length : Int)) = true := decide_eq_true c22
       clear c22
       by_cases c23 : x12_3 > (rd l2 x14_1)
       rotate_left
       ·rw [if_neg c23] at H
        have c23b0 : decide ((rd l2 x14_1) < x12_3) = false := decide_eq_false c23
        clear c23
        replace H := Option.bind_eq_some_iff.mp H
        obtain ⟨t342, A300, H⟩ := H
        try dsimp only at H
        have A30 := Aside0.mk A300
        clear A300
        have H' := Aside0.mk H
        clear H
        have p338 : 0 ≤ (x14_1 : Int) := of_decide_eq_true (by (assumption))
        have q338 : x14_1 < (l2.length : Int) := of_decide_eq_true (by (assumption))
        obtain ⟨ad338, e338, hx338_0⟩ := Kd.at_int HR2.out x14_1 p338 q338
        obtain rfl : ad336 = ad338 := (by injection e338)
        replace hx338_0 := (HB.out.cell (World.block_lt_of_cell? w _ hx338_0)).trans hx338_0
        replace p338 := eq_true p338
        replace q338 := eq_true q338
        have p340 : 0 ≤ (x14_1 : Int) := of_decide_eq_true (by (assumption))
        have q340 : x14_1 < (l2.length : Int) := of_decide_eq_true (by (assumption))
        obtain ⟨ad340, e340, hx340_0⟩ := Kd.at_int HR2.out x14_1 p340 q340
        obtain rfl : ad336 = ad340 := (by injection e340)
        replace hx340_0 := (HB.out.cell (World.block_lt_of_cell? w _ hx340_0)).trans hx340_0
        replace p340 := eq_true p340
        replace q340 := eq_true q340
        have p341 : 0 ≤ (x14_1 : Int) := of_decide_eq_true (by (assumption))
        have q341 : x14_1 < (l2.length : Int) := of_decide_eq_true (by (assumption))
        obtain ⟨ad341, e341, hx341_0⟩ := Kd.at_int HR2.out x14_1 p341 q341
        obtain rfl : ad336 = ad341 := (by injection e341)
        replace hx341_0 := (HB.out.cell (World.block_lt_of_cell? w _ hx341_0)).trans hx341_0
        replace p341 := eq_true p341
        replace q341 := eq_true q341
        go_wp2_with (fail)
        repeat (go_quiet ((go_at_call 86; (try simp only [i64_w, i32_w]); (refine (spec_l1Most.calls (wrap64 ((rd l2 x14_1) - x11_1)) (wrap64 (x11_1 - (rd l2 x14_1))) t342 _ A30.out).mono ?_); rintro e w' ⟨rfl, ⟨nd, rfl⟩⟩; (try (exact ⟨rfl, _, World.drewN_drewN _ _ _⟩)); have p343 : 0 ≤ (x14_1 : Int) := of_decide_eq_true (by (assumption)); have q343 : x14_1 < (l2.length : Int) := of_decide_eq_true (by (assumption)); obtain ⟨ad343, e343, hx343_0⟩ := Kd.at_int HR2.out x14_1 p343 q343; obtain rfl : ad336 = ad343 := (by injection e343); replace hx343_0 := (HB.out.cell (World.block_lt_of_cell? w _ hx343_0)).trans hx343_0; replace p343 := eq_true p343; replace q343 := eq_true q343)); try go_wp2_with (fail))
        go_roundg k3
        case measure => have := HK1.out; have := HK2.out; have := HK3.out; omega
        case rel => exact ⟨(x9_3), (wrap64 ((wrap64 (x10_1 + t342)) + a3)), (rd l2 x14_1), (x12_3), (x13_2), (wrap64 (x14_1 + 1)), (by (simp only [i64_w, i32_w]; done)), (by (rfl)), (by (rfl)), (by (rfl)), (by (rfl)), H', ⟨by have := HK1.out; have := HK2.out; have := HK3.out; omega⟩, ⟨by (with_reducible repeat ((apply Kd.R_drewN))); exact HO_9.out⟩, ⟨by (with_reducible repeat ((refine blk_drewN ?_ _))); exact BK332.out⟩, ⟨by repeat ((with_reducible first | exact HB.out | apply pw_below_drewN))⟩⟩
       rw [if_pos c23] at H
       have c23b0 : decide ((rd l2 x14_1) < x12_3) = true := decide_eq_true c23
       clear c23
       obtain ⟨ji24, hji24⟩ : ∃ j_ : Int, (wrap64 (x12_3 - 1)) = j_ := ⟨_, rfl⟩
       replace H : (if 0 ≤ (ji24) then (if (ji24) < (x9_3.length : Int) then (spec_l3Times.l2 k3 l2 a3 (x9_3.set ((ji24) : Int).toNat (wrap64 ((wrap64 (x10_1 + x11_1)) - (ji24)))) x10_1 x11_1 ji24 x13_2 x14_1) else (none)) else (none)) = some r := by (rw [hji24] at H; exact H)
       have hji24w : (IntKind.i64.wrap (x12_3 - 1)) = ji24 := (i64_w _).trans hji24
       by_cases c25 : 0 ≤ (ji24)
       rotate_left
       ·rw [if_neg c25] at H
        exact absurd H (by simp)
       rw [if_pos c25] at H
       have c25b0 : decide (0 ≤ (ji24)) = true := decide_eq_true c25
       clear c25
       by_cases c26 : (ji24) < (x9_3.length : Int)
       rotate_left
       ·rw [if_neg c26] at H
        exact absurd H (by simp)
       rw [if_pos c26] at H
       have c26b0 : decide ((ji24) < (x9_3.length : Int)) = true := decide_eq_true c26
       clear c26
       obtain ⟨y339, hy339⟩ : ∃ y_ : List Int, y_ = (x9_3.set ((ji24) : Int).toNat (wrap64 ((wrap64 (x10_1 + x11_1)) - (ji24)))) := ⟨_, rfl⟩
       replace H : (spec_l3Times.l2 k3 l2 a3 y339 x10_1 x11_1 ji24 x13_2 x14_1) = some r := by (rw [hy339]; exact H)
       have Ny339 := Aside0.mk hy339
       clear hy339
       have H' := Aside0.mk H
       clear H
       have p338 : 0 ≤ (x14_1 : Int) := of_decide_eq_true (by (assumption))
       have q338 : x14_1 < (l2.length : Int) := of_decide_eq_true (by (assumption))
       obtain ⟨ad338, e338, hx338_0⟩ := Kd.at_int HR2.out x14_1 p338 q338
       obtain rfl : ad336 = ad338 := (by injection e338)
       replace hx338_0 := (HB.out.cell (World.block_lt_of_cell? w _ hx338_0)).trans hx338_0
       replace p338 := eq_true p338
       replace q338 := eq_true q338
       have p27 : 0 ≤ ((ji24) : Int) := of_decide_eq_true (by (assumption))
       have q27 : ((ji24) : Int) < ((x9_3.length : Int) : Int) := of_decide_eq_true (by (assumption))
       obtain ⟨go27, co27, eo27, gb27, gl27, cl27, HG27⟩ := Kd.R_form HO_9.out (by omega)
       ((cases eo27))
       have GB27 := Aside0.mk gb27
       have GG27 := Aside0.mk HG27
       clear gb27 gl27 HG27
       obtain ⟨hx27_0, hf27_0⟩ := Kd.R_celln 0 HO_9.out ((ji24) : Int) p27 q27
       replace p27 := eq_true p27
       replace q27 := eq_true q27
       have HP28 := Kd.R_putg HO_9.out ((ji24) : Int) (wrap64 ((wrap64 (x10_1 + x11_1)) - (ji24)))
       go_wp2_with (((refine gate_store (t := 3) (p := 58) rfl ?_); (try (rw [drewN_self wr]; generalize hq_ : World.drewN wr _ = wr; have n0_ := Aside0.mk (Kd.R_at hq_ HO_9.out); have n1_ := Aside0.mk (blk_at hq_ BK332.out); have n2_ := Aside0.mk (below_at hq_ HB.out); clear hq_ HO_9 BK332 HB; have HO_9 := n0_; have BK332 := n1_; have HB := n2_; clear n0_ n1_ n2_; (try (have HP28 := Kd.R_putg HO_9.out ((ji24) : Int) (wrap64 ((wrap64 (x10_1 + x11_1)) - (ji24))))))); refine store_event (t := 3) (p := 58) (v := ?vo_w29) (w1 := (wr.setCell ⟨go27, ((ji24) : Int).toNat, none⟩ (.int .i64 (wrap64 ((wrap64 (x10_1 + x11_1)) - (ji24)))))) ?hg ?ho ?hn ?hr ?_; (case ho => rfl); (case hg => rfl); (case hn => rfl); (case hr => (go_simp; done)); intro w29 hw; have hg : wr.grownBy w29 (some go27) := (by rw [hw]; exact HP28.2); have hp_ : Kd.R (Kd.int .i64) 3 w29 w.heap.size (fun _ => True) (.slice (some ⟨go27, 0, none⟩) x9_3.length co27) y339 := (by rw [hw, Ny339.out]; exact HP28.1); clear HP28; have n0_ := Aside0.mk (hp_); have n1_ := Aside0.mk (blk_grown (g := gb332) (o := .cells #[.int .i64 a0_0, .bool a0_1] 25 (0, 0)) (by (with_reducible repeat (fail)); exact BK332.out) hg (Kd.R_ne HO_9.out BK332.out (by decide))); have n2_ := Aside0.mk ((by rw [hw]; exact below_set (HB.out) GB27.out : Below w.heap.size w w29)); clear HO_9; clear BK332; clear HB; have HO_9 := n0_; have BK332 := n1_; have HB := n2_; clear n0_ n1_ n2_; clear hg hw hp_))
       repeat (go_quiet (fail); try go_wp2_with (fail))
       go_roundg k3
       case measure => have := HK1.out; have := HK2.out; have := HK3.out; omega
       case rel => exact ⟨(y339), (ji24), (by (rfl)), H', ⟨by have := HK1.out; have := HK2.out; have := HK3.out; omega⟩, ⟨by (with_reducible repeat (fail)); exact HO_9.out⟩, ⟨by (with_reducible repeat (fail)); exact BK332.out⟩, ⟨by repeat ((with_reducible (exact HB.out)))⟩⟩

/-! ### spec_SearchLoad: function 24 -/
mutual
def spec_SearchLoad.j0 : Nat → Int → List Int → List Int → Bool → Int → Bool → Option (Int × Bool)
 | 0, _, _, _, _, _, _ => none
 | k + 1, x1, x2, x3, x23, x345000, x345001 => if x23 = true then (some (0, false)) else ((spec_l3Times.f k x345000 x345001 x1 x2 0).bind fun t347 => (spec_SearchLoad.l0 k x3 0 t347 0 x345000 x345001))
def spec_SearchLoad.l0 : Nat → List Int → Int → List Int → Int → Int → Bool → Option (Int × Bool)
 | 0, _, _, _, _, _, _ => none
 | k + 1, x3, x10, x11, x12, x345000, x345001 => if x12 < x345000 then (if 0 ≤ x12 then (if x12 < (x3.length : Int) then (if x12 < (x11.length : Int) then (spec_SearchLoad.l0 k x3 (wrap64 (x10 + (wrap64 ((rd x3 x12) * (rd x11 x12))))) x11 (wrap64 (x12 + 1)) x345000 x345001) else (none)) else (none)) else (none)) else (some (x10, true))
end
def spec_SearchLoad.f (k : Nat) (a0_0 : Int) (a0_1 : Bool) (a1 : Int) (l2 : List Int) (l3 : List Int) : Option (Int × Bool) := (spec_l3Good.f k a0_0 a0_1 a1 l2).bind fun t345 => (if t345 = true then ((spec_l3Hefts.f k a0_0 a0_1 l3).bind fun t346 => (spec_SearchLoad.j0 k a1 l2 l3 (!t346) a0_0 a0_1)) else (spec_SearchLoad.j0 k a1 l2 l3 true a0_0 a0_1))
set_option maxHeartbeats 8000000 in
set_option maxRecDepth 100000 in
theorem spec_SearchLoad.calls (k : Nat) (a0_0 : Int) (a0_1 : Bool) (a1 : Int) (A2 : Option Addr) (c2 : Nat) (l2 : List Int) (A3 : Option Addr) (c3 : Nat) (l3 : List Int) (r1 : Int) (r2 : Bool) (w : World) (hr2 : Kd.C (Kd.int .i64) w A2 l2.length l2) (hc2 : l2.length ≤ c2) (hr3 : Kd.C (Kd.int .i64) w A3 l3.length l3) (hc3 : l3.length ≤ c3) (h : spec_SearchLoad.f k a0_0 a0_1 a1 l2 l3 = some (r1, r2)) :
  Calls Try.prog 24 #[.agg #[.int .i64 a0_0, .bool a0_1], .int .i64 a1, .slice A2 l2.length c2, .slice A3 l3.length c3] w fun e w' => e = .returned (.tuple #[.int .i64 r1, .bool r2]) ∧ Below w.heap.size w w' := by
 have hu25 := Try.underlying25
 have HR2 := Aside0.mk hr2
 have HC2 := Aside0.mk hc2
 clear hr2 hc2
 have HR3 := Aside0.mk hr3
 have HC3 := Aside0.mk hc3
 clear hr3 hc3
 have HB := Aside0.mk (Below.refl w.heap.size w)
 have H : ((spec_l3Good.f k a0_0 a0_1 a1 l2).bind fun t345 => (if t345 = true then ((spec_l3Hefts.f k a0_0 a0_1 l3).bind fun t346 => (spec_SearchLoad.j0 k a1 l2 l3 (!t346) a0_0 a0_1)) else (spec_SearchLoad.j0 k a1 l2 l3 true a0_0 a0_1))) = some (r1, r2) := h
 clear h
 have HC5 := Aside0.mk H
 clear H
 go_enter Try.func24, Try.ntmps24
 go_upto_region 1 with (((refine gate_dst (N := 4) rfl ?_); refine box_event ?hg (N := 4) ?hd (cs := #[.int .i64 a0_0, .bool a0_1]) (t := 25) ?hr ?_; (case hd => rfl); (case hg => rfl); (case hr => (go_simp; done)); intro gb344 hg w6 hbox hb; have n0_ := Aside0.mk (below_step (by repeat ((with_reducible (exact HB.out)))) hb); have n1_ := Aside0.mk (hbox); have n2_ := Aside0.mk ((by rw [hg]; exact (below_size (by repeat ((with_reducible (exact HB.out))))) : w.heap.size ≤ gb344)); have n3_ := Aside0.mk ((by rw [hg]; exact (below_size (by repeat ((with_reducible (exact HB.out))))) : w.heap.size ≤ gb344)); clear HB; have HB := n0_; have BK344 := n1_; have GW344 := n2_; have GE344 := n3_; clear n0_ n1_ n2_ n3_; clear hb hbox hg))
 repeat (go_quiet (fail); go_upto_region 1 with (fail))
 (try simp only [Act.put, List.setIfInBounds_toArray, List.set_cons_zero, List.set_cons_succ])
 go_cut [23] (fun v23 wc => ∃ (kq : Nat) (x23_4 : Bool), v23 = .bool x23_4 ∧ Aside0 (spec_SearchLoad.j0 kq a1 l2 l3 x23_4 a0_0 a0_1 = some (r1, r2)) ∧ Aside0 (kq ≤ k) ∧ Aside0 (wc.heap[gb344]? = some (.cells #[.int .i64 a0_0, .bool a0_1] 25 (0, 0))) ∧ Aside0 (Below w.heap.size w wc))
 case first =>
  have H := HC5.out
  clear HC5
  replace H := Option.bind_eq_some_iff.mp H
  obtain ⟨t345, A70, H⟩ := H
  try dsimp only at H
  have A7 := Aside0.mk A70
  clear A70
  by_cases c8 : t345 = true
  rotate_left
  ·replace c8 := Bool.eq_false_iff.mpr c8
   subst c8
   rw [if_neg (show ¬ (false = true) by decide)] at H
   have H' := Aside0.mk H
   clear H
   have hcz14_0 : w6.cell? ⟨gb344, 0, none⟩ = some (.int .i64 a0_0) := (blk_cell BK344.out 0).trans rfl
   have hcz14_1 : w6.cell? ⟨gb344, 1, none⟩ = some (.bool a0_1) := (blk_cell BK344.out 1).trans rfl
   have hfz14_0 := blk_frozen BK344.out 0
   have hfz14_1 := blk_frozen BK344.out 1
   go_wp2_with ((go_at_call 78; (try simp only [i64_w, i32_w]); (refine (spec_l3Good.calls k a0_0 a0_1 a1 _ _ l2 false _ ?side1 ?side2 A7.out).mono ?_); (case side1 => repeat (exact (Kd.C_below HR2.out HB.out))); (case side2 => exact HC2.out); rintro e w15 ⟨rfl, hb⟩; have n0_ := Aside0.mk (blk_below (g := gb344) (o := .cells #[.int .i64 a0_0, .bool a0_1] 25 (0, 0)) (by (with_reducible repeat (fail)); exact BK344.out) hb); have n1_ := Aside0.mk (below_step (by repeat ((with_reducible (exact HB.out)))) hb); clear BK344; clear HB; have BK344 := n0_; have HB := n1_; clear n0_ n1_; (try clear hb); (try clear hb2); (try clear hk); (try clear hi)))
   repeat (go_quiet (fail); try go_wp2_with (fail))
   go_meet
   case rel => exact ⟨_, (true), (by (rfl)), H', ⟨by (omega)⟩, ⟨by (with_reducible repeat (fail)); exact BK344.out⟩, ⟨by repeat ((with_reducible (exact HB.out)))⟩⟩
  subst c8
  rw [if_pos rfl] at H
  replace H := Option.bind_eq_some_iff.mp H
  obtain ⟨t346, A90, H⟩ := H
  try dsimp only at H
  have A9 := Aside0.mk A90
  clear A90
  have H' := Aside0.mk H
  clear H
  have hcz10_0 : w6.cell? ⟨gb344, 0, none⟩ = some (.int .i64 a0_0) := (blk_cell BK344.out 0).trans rfl
  have hcz10_1 : w6.cell? ⟨gb344, 1, none⟩ = some (.bool a0_1) := (blk_cell BK344.out 1).trans rfl
  have hfz10_0 := blk_frozen BK344.out 0
  have hfz10_1 := blk_frozen BK344.out 1
  go_wp2_with (first | (go_at_call 78; (try simp only [i64_w, i32_w]); (with_reducible refine (spec_l3Good.calls k a0_0 a0_1 a1 _ _ l2 true _ ?side1 ?side2 A7.out).mono ?_); (case side1 => repeat (exact (Kd.C_below HR2.out HB.out))); (case side2 => exact HC2.out); rintro e w11 ⟨rfl, hb⟩; have n0_ := Aside0.mk (blk_below (g := gb344) (o := .cells #[.int .i64 a0_0, .bool a0_1] 25 (0, 0)) (by (with_reducible repeat (fail)); exact BK344.out) hb); have n1_ := Aside0.mk (below_step (by repeat ((with_reducible (exact HB.out)))) hb); clear BK344; clear HB; have BK344 := n0_; have HB := n1_; clear n0_ n1_; (try clear hb); (try clear hb2); (try clear hk); (try clear hi); have hcz12_0 : w11.cell? ⟨gb344, 0, none⟩ = some (.int .i64 a0_0) := (blk_cell BK344.out 0).trans rfl; have hcz12_1 : w11.cell? ⟨gb344, 1, none⟩ = some (.bool a0_1) := (blk_cell BK344.out 1).trans rfl; have hfz12_0 := blk_frozen BK344.out 0; have hfz12_1 := blk_frozen BK344.out 1) | (go_at_call 79; (try simp only [i64_w, i32_w]); (with_reducible refine (spec_l3Hefts.calls k a0_0 a0_1 _ _ l3 t346 _ ?side1 ?side2 A9.out).mono ?_); (case side1 => repeat (exact (Kd.C_below HR3.out HB.out))); (case side2 => exact HC3.out); rintro e w13 ⟨rfl, hb⟩; have n0_ := Aside0.mk (blk_below (g := gb344) (o := .cells #[.int .i64 a0_0, .bool a0_1] 25 (0, 0)) (by (with_reducible repeat (fail)); exact BK344.out) hb); have n1_ := Aside0.mk (below_step (by repeat ((with_reducible (exact HB.out)))) hb); clear BK344; clear HB; have BK344 := n0_; have HB := n1_; clear n0_ n1_; (try clear hb); (try clear hb2); (try clear hk); (try clear hi)))
  repeat (go_quiet (fail); try go_wp2_with (fail))
  go_meet
  case rel => exact ⟨_, (!t346), (by (rfl)), H', ⟨by (omega)⟩, ⟨by (with_reducible repeat (fail)); exact BK344.out⟩, ⟨by repeat ((with_reducible (exact HB.out)))⟩⟩
 case rest =>
  clear HC5
  (try clear c2); (try clear p2); (try clear c3); (try clear c8); (try clear hcz10_0); (try clear hcz10_1); (try clear hcz12_0); (try clear hcz12_1); (try clear hcz14_0); (try clear hcz14_1); (try clear hfz10_0); (try clear hfz10_1); (try clear hfz12_0); (try clear hfz12_1); (try clear hfz14_0); (try clear hfz14_1)
  obtain ⟨kq, x23_4, rfl, HA, HJ4, BK344, HB⟩ := hcut
  cases kq with
  | zero => exact absurd HA.out (by simp [spec_SearchLoad.j0])
  | succ kj4 =>
   have H := HA.out
   clear HA
   simp only [spec_SearchLoad.j0] at H
   by_cases c16 : x23_4 = true
   ·subst c16
    rw [if_pos rfl] at H
    simp only [Option.some.injEq, Prod.mk.injEq] at H
    obtain ⟨rfl, rfl⟩ := H
    go_wp2
    repeat (go_quiet (fail); try go_wp2)
    go_ret2
    exact ⟨by (rfl), by repeat ((with_reducible (exact HB.out)))⟩
   replace c16 := Bool.eq_false_iff.mpr c16
   subst c16
   rw [if_neg (show ¬ (false = true) by decide)] at H
   replace H := Option.bind_eq_some_iff.mp H
   obtain ⟨t347, A170, H⟩ := H
   try dsimp only at H
   have A17 := Aside0.mk A170
   clear A170
   have H' := Aside0.mk H
   clear H
   have hcz18_0 : wc.cell? ⟨gb344, 0, none⟩ = some (.int .i64 a0_0) := (blk_cell BK344.out 0).trans rfl
   have hcz18_1 : wc.cell? ⟨gb344, 1, none⟩ = some (.bool a0_1) := (blk_cell BK344.out 1).trans rfl
   have hfz18_0 := blk_frozen BK344.out 0
   have hfz18_1 := blk_frozen BK344.out 1
   go_wp2_with ((go_at_call 80; (try simp only [i64_w, i32_w]); (refine (spec_l3Times.calls kj4 a0_0 a0_1 a1 _ _ l2 0 t347 _ ?side1 ?side2 A17.out).mono ?_); (case side1 => repeat (exact (Kd.C_below HR2.out HB.out))); (case side2 => exact HC2.out); rintro e w19 ⟨v348, rfl, ho0, hb⟩; have n0_ := Aside0.mk (Kd.R_lower ho0 (below_size (by repeat ((with_reducible (exact HB.out)))))); have n1_ := Aside0.mk (blk_below (g := gb344) (o := .cells #[.int .i64 a0_0, .bool a0_1] 25 (0, 0)) (by (with_reducible repeat (fail)); exact BK344.out) hb); have n2_ := Aside0.mk (below_step (by repeat ((with_reducible (exact HB.out)))) hb); clear BK344; clear HB; have HO349 := n0_; have BK344 := n1_; have HB := n2_; clear n0_ n1_ n2_; (try clear hb); (try clear hb2); (try clear hk); (try clear hi); (try clear ho0)))
   repeat (go_quiet (fail); try go_wp2_with (fail))
   go_loopg [10, 12] kj4 (fun kq v10 v12 w' => ∃ (x10_2 : Int) (x12_2 : Int), v10 = .int .i64 x10_2 ∧ v12 = .int .i64 x12_2 ∧ Aside0 (spec_SearchLoad.l0 kq l3 x10_2 t347 x12_2 a0_0 a0_1 = some (r1, r2)) ∧ Aside0 (kq ≤ kj4) ∧ Aside0 (Kd.R (Kd.int .i64) 3 w' w.heap.size (fun _ => True) v348 t347) ∧ Aside0 (w'.heap[gb344]? = some (.cells #[.int .i64 a0_0, .bool a0_1] 25 (0, 0))) ∧ Aside0 (Below w.heap.size w w'))
   case atStart => exact ⟨(0), (0), (by (rfl)), (by (rfl)), H', ⟨Nat.le_refl _⟩, ⟨by (with_reducible repeat (fail)); exact HO349.out⟩, ⟨by (with_reducible repeat (fail)); exact BK344.out⟩, ⟨by repeat ((with_reducible (exact HB.out)))⟩⟩
   case round =>
    clear H'
    (try clear c1); (try clear c2); (try clear p2); (try clear c3); (try clear c8); (try clear c16); (try clear hcz10_0); (try clear hcz10_1); (try clear hcz12_0); (try clear hcz12_1); (try clear hcz14_0); (try clear hcz14_1); (try clear hcz18_0); (try clear hcz18_1); (try clear hfz10_0); (try clear hfz10_1)
    (try clear hfz12_0); (try clear hfz12_1); (try clear hfz14_0); (try clear hfz14_1); (try clear hfz18_0); (try clear hfz18_1); (try clear p2)
    obtain ⟨x10_2, x12_2, rfl, rfl, HA, HK2, HO_11, BK344, HB⟩ := hrel
    cases gk with
    | zero => exact absurd HA.out (by simp [spec_SearchLoad.l0])
    | succ k2 =>
     have H := HA.out
     clear HA
     simp only [spec_SearchLoad.l0] at H
     by_cases c20 : x12_2 < a0_0
     rotate_left
     ·rw [if_neg c20] at H
      have c20b0 : decide (x12_2 < a0_0) = false := decide_eq_false c20
      clear c20
      simp only [Option.some.injEq, Prod.mk.injEq] at H
      obtain ⟨rfl, rfl⟩ := H
      have hcz26_0 : wr.cell? ⟨gb344, 0, none⟩ = some (.int .i64 a0_0) := (blk_cell BK344.out 0).trans rfl
      have hcz26_1 : wr.cell? ⟨gb344, 1, none⟩ = some (.bool a0_1) := (blk_cell BK344.out 1).trans rfl
      have hfz26_0 := blk_frozen BK344.out 0
      have hfz26_1 := blk_frozen BK344.out 1
      go_wp2
      repeat (go_quiet (fail); try go_wp2)
      go_ret2
      exact ⟨by (rfl), by repeat ((with_reducible (exact HB.out)))⟩
     rw [if_pos c20] at H
     have c20b0 : decide (x12_2 < a0_0) = true := decide_eq_true c20
     clear c20
     by_cases c21 : 0 ≤ x12_2
     rotate_left
     ·rw [if_neg c21] at H
      exact absurd H (by simp)
     rw [if_pos c21] at H
     have c21b0 : decide (0 ≤ x12_2) = true := decide_eq_true c21
     clear c21
     by_cases c22 : x12_2 < (l3.length : Int)
     rotate_left
     ·rw [if_neg c22] at H
      exact absurd H (by simp)
     rw [if_pos c22] at H
     have c22b0 : decide (x12_2 < (l3.length : Int)) = true := decide_eq_true c22
     clear c22
     by_cases c23 : x12_2 < (t347.length : Int)
     rotate_left
     ·rw [if_neg c23] at H
      exact absurd H (by simp)
     rw [if_pos c23] at H
     have c23b0 : decide (x12_2 < (t347.length : Int)) = true := decide_eq_true c23
     clear c23
     have H' := Aside0.mk H
     clear H
     have hcz24_0 : wr.cell? ⟨gb344, 0, none⟩ = some (.int .i64 a0_0) := (blk_cell BK344.out 0).trans rfl
     have hcz24_1 : wr.cell? ⟨gb344, 1, none⟩ = some (.bool a0_1) := (blk_cell BK344.out 1).trans rfl
     have hfz24_0 := blk_frozen BK344.out 0
     have hfz24_1 := blk_frozen BK344.out 1
     have p350 : 0 ≤ (x12_2 : Int) := of_decide_eq_true (by (assumption))
     have q350 : x12_2 < (l3.length : Int) := of_decide_eq_true (by (assumption))
     obtain ⟨ad350, e350, hx350_0⟩ := Kd.at_int HR3.out x12_2 p350 q350
     cases e350
     replace hx350_0 := (HB.out.cell (World.block_lt_of_cell? w _ hx350_0)).trans hx350_0
     replace p350 := eq_true p350
     replace q350 := eq_true q350
     obtain ⟨Ao25, co25, eo25⟩ := Kd.R_slice HO_11.out
     subst eo25
     have p351 : 0 ≤ (x12_2 : Int) := of_decide_eq_true (by (assumption))
     have q351 : x12_2 < (t347.length : Int) := of_decide_eq_true (by (assumption))
     obtain ⟨ad351, e351, hx351_0⟩ := Kd.at_int (Kd.R_reads' HO_11.out).2.2 x12_2 p351 q351
     cases e351
     replace p351 := eq_true p351
     replace q351 := eq_true q351
     go_wp2
     repeat (go_quiet (fail); try go_wp2)
     go_roundg k2
     case measure => have := HJ4.out; have := HK2.out; omega
     case rel => exact ⟨(wrap64 (x10_2 + (wrap64 ((rd l3 x12_2) * (rd t347 x12_2))))), (wrap64 (x12_2 + 1)), (by (rfl)), (by (rfl)), H', ⟨by have := HJ4.out; have := HK2.out; omega⟩, ⟨by (with_reducible repeat ((apply Kd.R_drewN))); exact HO_11.out⟩, ⟨by (with_reducible repeat ((refine blk_drewN ?_ _))); exact BK344.out⟩, ⟨by repeat ((with_reducible first | exact HB.out | apply pw_below_drewN))⟩⟩

/-! ### spec_l1Cur_shortLine: function 81 -/
def spec_l1Cur_shortLine.f (s0_0 : List Int) (s0_1 : Int) (s0_2 : Int) : Option (Int × Bool × Int × Int × Int) := (spec_l1Cur_one.f s0_0 s0_1 s0_2 12).bind fun bt353 => (if bt353.1 = true then ((spec_l1Cur_linePlace.f s0_0 bt353.2.1 bt353.2.2).bind fun bt356 => (some (bt356.1, bt356.2.1, bt356.2.2.1, bt356.2.2.2.1, bt356.2.2.2.2))) else ((spec_l1Cur_among.f s0_0 bt353.2.1 bt353.2.2 (([5, 4, 6, 3, 7, 2, 8, 10] : List Int))).bind fun bt364 => ((spec_l1Cur_placeOn.f s0_0 bt364.2.1 bt364.2.2 bt364.1 false).bind fun bt368 => (some (bt364.1, false, bt368.1, bt368.2.1, bt368.2.2)))))
set_option maxHeartbeats 8000000 in
set_option maxRecDepth 100000 in
theorem spec_l1Cur_shortLine.calls (g : Nat) (s0_0 : List Int) (s0_1 : Int) (s0_2 : Int) (r1 : Int) (r2 : Bool) (r3 : Int) (r4 : Int) (r5 : Int) (w0 w : World) (hI : IsS68 w0 w g s0_0 s0_1 s0_2) (hB : Below w0.heap.size w0 w) (h : spec_l1Cur_shortLine.f s0_0 s0_1 s0_2 = some (r1, r2, r3, r4, r5)) :
  Calls Try.prog 81 #[.pointer (some ⟨g, 0, none⟩)] w fun e w' => e = .returned (.tuple #[.agg #[.int .i64 r1, .bool r2], .int .i64 r3]) ∧ IsS68 w0 w' g s0_0 r4 r5 ∧ Below w0.heap.size w0 w' ∧ KeepBut w w' g none := by
 have hu25 := Try.underlying25
 have HI0 := Aside0.mk hI
 have HK := Aside0.mk (KeepBut.refl w g none)
 have HL := Aside0.mk hB.size
 clear hI
 have HW0 := Aside0.mk hB.size
 have HB := Aside0.mk hB
 clear hB
 have H : ((spec_l1Cur_one.f s0_0 s0_1 s0_2 12).bind fun bt353 => (if bt353.1 = true then ((spec_l1Cur_linePlace.f s0_0 bt353.2.1 bt353.2.2).bind fun bt356 => (some (bt356.1, bt356.2.1, bt356.2.2.1, bt356.2.2.2.1, bt356.2.2.2.2))) else ((spec_l1Cur_among.f s0_0 bt353.2.1 bt353.2.2 (([5, 4, 6, 3, 7, 2, 8, 10] : List Int))).bind fun bt364 => ((spec_l1Cur_placeOn.f s0_0 bt364.2.1 bt364.2.2 bt364.1 false).bind fun bt368 => (some (bt364.1, false, bt368.1, bt368.2.1, bt368.2.2)))))) = some (r1, r2, r3, r4, r5) := h
 clear h
 replace H := Option.bind_eq_some_iff.mp H
 obtain ⟨⟨t353, t354, t355⟩, A20, H⟩ := H
 try dsimp only at H
 have A2 := Aside0.mk A20
 clear A20
 by_cases c3 : t353 = true
 ·subst c3
  rw [if_pos rfl] at H
  replace H := Option.bind_eq_some_iff.mp H
  obtain ⟨⟨t356, t357, t358, t359, t360⟩, A40, H⟩ := H
  try dsimp only at H
  have A4 := Aside0.mk A40
  clear A40
  simp only [Option.some.injEq, Prod.mk.injEq] at H
  obtain ⟨rfl, rfl, rfl, rfl, rfl⟩ := H
  go_enter Try.func81, Try.ntmps81
  go_wp2_with (first | ((with_reducible refine gate_dst (N := 2) rfl ?_); refine box_event ?hg (N := 2) ?hd (cs := #[.int .i64 0, .bool false]) (t := 25) ?hr ?_; (case hd => rfl); (case hg => rfl); (case hr => (go_simp; done)); intro gb352 hg w5 hbox hb; have n0_ := Aside0.mk (IsS68.below (by repeat ((with_reducible (exact HI0.out)))) hb); have n1_ := Aside0.mk (KeepBut.trans (by repeat ((with_reducible (exact HK.out)))) (KeepBut.of_below hb g none) (.inl rfl)); have n2_ := Aside0.mk (below_step (by repeat ((with_reducible (exact HB.out)))) hb); have n3_ := Aside0.mk (hbox); have n4_ := Aside0.mk ((by rw [hg]; exact (keep_size (w := w) (g := g) (row := none) (by repeat ((with_reducible (exact HK.out))))) : w.heap.size ≤ gb352)); have n5_ := Aside0.mk ((Nat.le_trans HW0.out (by rw [hg]; exact (keep_size (w := w) (g := g) (row := none) (by repeat ((with_reducible (exact HK.out))))) : w.heap.size ≤ gb352) : w0.heap.size ≤ gb352)); have n6_ := Aside0.mk ((by rw [hg]; exact Nat.ne_of_lt (IsS68.lt (show IsS68 w0 _ g s0_0 s0_1 s0_2 from by repeat ((with_reducible (exact HI0.out))))) : g ≠ gb352)); have n7_ := Aside0.mk ((by rw [hg]; exact Nat.ne_of_gt (IsS68.lt (show IsS68 w0 _ g s0_0 s0_1 s0_2 from by repeat ((with_reducible (exact HI0.out))))) : gb352 ≠ g)); clear HI0; clear HK; clear HB; have HI0 := n0_; have HK := n1_; have HB := n2_; have BK352 := n3_; have GW352 := n4_; have GE352 := n5_; have NB0_352 := n6_; have NB352_0 := n7_; clear n0_ n1_ n2_ n3_ n4_ n5_ n6_ n7_; clear hb hbox hg) | ((with_reducible refine gate_callee (f := 110) rfl ?_); refine goesL_ (some 6) rfl rfl Try.func110 (by kernel_rfl) rfl #[.pointer (some ⟨g, 0, none⟩), .int .i64 12] rfl (by (try simp only [List.map_toArray, List.map_cons, List.map_nil]); (rfl)) ?_; (with_reducible refine (spec_l1Cur_one.calls g s0_0 s0_1 s0_2 12 true t354 t355 w0 _ ?side1 ?side2 A2.out).mono ?_); (case side1 => repeat ((with_reducible (exact HI0.out)))); (case side2 => repeat ((with_reducible (exact HB.out)))); rintro e w6 ⟨rfl, hi, hb, hk⟩; refine ⟨_, rfl, ?_⟩; have n0_ := Aside0.mk (KeepBut.blk hk (g' := gb352) (o := .cells #[.int .i64 0, .bool false] 25 (0, 0)) (by (with_reducible repeat (fail)); exact BK352.out) NB352_0.out (by simp)); have n1_ := Aside0.mk (KeepBut.trans (by repeat ((with_reducible (exact HK.out)))) hk (.inl rfl)); have n2_ := Aside0.mk (hb); have n3_ := Aside0.mk (hi); clear BK352; clear HK; clear HB; clear HI0; have BK352 := n0_; have HK := n1_; have HB := n2_; have HI0 := n3_; clear n0_ n1_ n2_ n3_; (try clear hb); (try clear hb2); (try clear hk); (try clear hi)) | ((with_reducible refine gate_callee (f := 72) rfl ?_); refine goesL_ (some 8) rfl rfl Try.func72 (by kernel_rfl) rfl #[.pointer (some ⟨g, 0, none⟩)] rfl (by (try simp only [List.map_toArray, List.map_cons, List.map_nil]); (rfl)) ?_; (with_reducible refine (spec_l1Cur_linePlace.calls g s0_0 t354 t355 t356 t357 t358 t359 t360 w0 _ ?side1 ?side2 A4.out).mono ?_); (case side1 => repeat ((with_reducible (exact HI0.out)))); (case side2 => repeat ((with_reducible (exact HB.out)))); rintro e w7 ⟨rfl, hi, hb, hk⟩; refine ⟨_, rfl, ?_⟩; have n0_ := Aside0.mk (KeepBut.blk hk (g' := gb352) (o := .cells #[.int .i64 0, .bool false] 25 (0, 0)) (by (with_reducible repeat (fail)); exact BK352.out) NB352_0.out (by simp)); have n1_ := Aside0.mk (KeepBut.trans (by repeat ((with_reducible (exact HK.out)))) hk (.inl rfl)); have n2_ := Aside0.mk (hb); have n3_ := Aside0.mk (hi); clear BK352; clear HK; clear HB; clear HI0; have BK352 := n0_; have HK := n1_; have HB := n2_; have HI0 := n3_; clear n0_ n1_ n2_ n3_; (try clear hb); (try clear hb2); (try clear hk); (try clear hi); have hnb8 := NB352_0.out; have hnc8 := NB0_352.out; have hcz9_0 : w7.cell? ⟨gb352, 0, none⟩ = some (.int .i64 0) := (blk_cell BK352.out 0).trans rfl; have hcz9_1 : w7.cell? ⟨gb352, 1, none⟩ = some (.bool false) := (blk_cell BK352.out 1).trans rfl; have hfz9_0 := blk_frozen BK352.out 0; have hfz9_1 := blk_frozen BK352.out 1))
  refine bodyPost_ret (results_ct rfl _ _ gb352 25 #[.int .i64 t356, .bool t357] (0, 0) _ rfl (by (with_reducible repeat (fail)); refine blk_put (cs := #[.int .i64 t356, .bool false]) ?_ 1 _ rfl; (with_reducible repeat (fail)); refine blk_put (cs := #[.int .i64 0, .bool false]) ?_ 0 _ rfl; (with_reducible repeat (fail)); exact BK352.out) Try.underlying25 rfl (by kernel_rfl)) rfl ?_
  exact ⟨by (rfl), by repeat ((with_reducible first | exact HI0.out | refine IsS68.far ?_ NB0_352.out _)), by repeat ((with_reducible first | exact HB.out | refine below_set ?_ GE352.out)), by repeat ((with_reducible first | exact HK.out | refine keep_far ?_ GW352.out _))⟩
 replace c3 := Bool.eq_false_iff.mpr c3
 subst c3
 rw [if_neg (show ¬ (false = true) by decide)] at H
 obtain ⟨y361, hy361⟩ : ∃ y_ : List Int, y_ = (([5, 4, 6, 3, 7, 2, 8, 10] : List Int)) := ⟨_, rfl⟩
 replace H : ((spec_l1Cur_among.f s0_0 t354 t355 y361).bind fun bt364 => ((spec_l1Cur_placeOn.f s0_0 bt364.2.1 bt364.2.2 bt364.1 false).bind fun bt368 => (some (bt364.1, false, bt368.1, bt368.2.1, bt368.2.2)))) = some (r1, r2, r3, r4, r5) := by (rw [hy361]; exact H)
 have Ny361 := Aside0.mk hy361
 clear hy361
 replace H := Option.bind_eq_some_iff.mp H
 obtain ⟨⟨t364, t365, t366⟩, A100, H⟩ := H
 try dsimp only at H
 have A10 := Aside0.mk A100
 clear A100
 replace H := Option.bind_eq_some_iff.mp H
 obtain ⟨⟨t368, t369, t370⟩, A110, H⟩ := H
 try dsimp only at H
 have A11 := Aside0.mk A110
 clear A110
 simp only [Option.some.injEq, Prod.mk.injEq] at H
 obtain ⟨rfl, rfl, rfl, rfl, rfl⟩ := H
 go_enter Try.func81, Try.ntmps81
 try go_wp2_with (first | ((with_reducible refine gate_dst (N := 2) rfl ?_); refine box_event ?hg (N := 2) ?hd (cs := #[.int .i64 0, .bool false]) (t := 25) ?hr ?_; (case hd => rfl); (case hg => rfl); (case hr => (go_simp; done)); intro gb352 hg w12 hbox hb; have n0_ := Aside0.mk (IsS68.below (by repeat ((with_reducible (exact HI0.out)))) hb); have n1_ := Aside0.mk (KeepBut.trans (by repeat ((with_reducible (exact HK.out)))) (KeepBut.of_below hb g none) (.inl rfl)); have n2_ := Aside0.mk (below_step (by repeat ((with_reducible (exact HB.out)))) hb); have n3_ := Aside0.mk (hbox); have n4_ := Aside0.mk ((by rw [hg]; exact (keep_size (w := w) (g := g) (row := none) (by repeat ((with_reducible (exact HK.out))))) : w.heap.size ≤ gb352)); have n5_ := Aside0.mk ((Nat.le_trans HW0.out (by rw [hg]; exact (keep_size (w := w) (g := g) (row := none) (by repeat ((with_reducible (exact HK.out))))) : w.heap.size ≤ gb352) : w0.heap.size ≤ gb352)); have n6_ := Aside0.mk ((by rw [hg]; exact Nat.ne_of_lt (IsS68.lt (show IsS68 w0 _ g s0_0 s0_1 s0_2 from by repeat ((with_reducible (exact HI0.out))))) : g ≠ gb352)); have n7_ := Aside0.mk ((by rw [hg]; exact Nat.ne_of_gt (IsS68.lt (show IsS68 w0 _ g s0_0 s0_1 s0_2 from by repeat ((with_reducible (exact HI0.out))))) : gb352 ≠ g)); clear HI0; clear HK; clear HB; have HI0 := n0_; have HK := n1_; have HB := n2_; have BK352 := n3_; have GW352 := n4_; have GE352 := n5_; have NB0_352 := n6_; have NB352_0 := n7_; clear n0_ n1_ n2_ n3_ n4_ n5_ n6_ n7_; clear hb hbox hg) | ((with_reducible refine gate_callee (f := 110) rfl ?_); refine goesL_ (some 6) rfl rfl Try.func110 (by kernel_rfl) rfl #[.pointer (some ⟨g, 0, none⟩), .int .i64 12] rfl (by (try simp only [List.map_toArray, List.map_cons, List.map_nil]); (rfl)) ?_; (with_reducible refine (spec_l1Cur_one.calls g s0_0 s0_1 s0_2 12 false t354 t355 w0 _ ?side1 ?side2 A2.out).mono ?_); (case side1 => repeat ((with_reducible (exact HI0.out)))); (case side2 => repeat ((with_reducible (exact HB.out)))); rintro e w13 ⟨rfl, hi, hb, hk⟩; refine ⟨_, rfl, ?_⟩; have n0_ := Aside0.mk (KeepBut.blk hk (g' := gb352) (o := .cells #[.int .i64 0, .bool false] 25 (0, 0)) (by (with_reducible repeat (fail)); exact BK352.out) NB352_0.out (by simp)); have n1_ := Aside0.mk (KeepBut.trans (by repeat ((with_reducible (exact HK.out)))) hk (.inl rfl)); have n2_ := Aside0.mk (hb); have n3_ := Aside0.mk (hi); clear BK352; clear HK; clear HB; clear HI0; have BK352 := n0_; have HK := n1_; have HB := n2_; have HI0 := n3_; clear n0_ n1_ n2_ n3_; (try clear hb); (try clear hb2); (try clear hk); (try clear hi)) | ((with_reducible refine gate_dst (N := 12) rfl ?_); refine Kd.R_lit (Kd.int .i64) _ 3 ?hg (N := 12) ?hd (xs := ([5, 4, 6, 3, 7, 2, 8, 10] : List Int)) (inner := [.int .i64 5, .int .i64 4, .int .i64 6, .int .i64 3, .int .i64 7, .int .i64 2, .int .i64 8, .int .i64 10]) (ok := fun _ => True) (okp := fun _ => True) ?hr ?hp (fun _ hk => hk) trivial (Below.refl _ _) (Nat.le_refl _) (by simp) ?_; (case hd => rfl); (case hg => rfl); (case hr => (go_simp; done)); (case hp => exact (Reps.one (show Kd.M (Kd.int .i64) _ _ _ 5 [.int .i64 5] from rfl) (Reps.one (show Kd.M (Kd.int .i64) _ _ _ 4 [.int .i64 4] from rfl) (Reps.one (show Kd.M (Kd.int .i64) _ _ _ 6 [.int .i64 6] from rfl) (Reps.one (show Kd.M (Kd.int .i64) _ _ _ 3 [.int .i64 3] from rfl) (Reps.one (show Kd.M (Kd.int .i64) _ _ _ 7 [.int .i64 7] from rfl) (Reps.one (show Kd.M (Kd.int .i64) _ _ _ 2 [.int .i64 2] from rfl) (Reps.one (show Kd.M (Kd.int .i64) _ _ _ 8 [.int .i64 8] from rfl) (Reps.one (show Kd.M (Kd.int .i64) _ _ _ 10 [.int .i64 10] from rfl) (Reps.none _ _)))))))))); intro v362 w14 ho15 hb hg_ hnew_; clear hg_ hnew_; ((rw [← Ny361.out] at ho15)); have n0_ := Aside0.mk (Kd.R_lower ho15 (keep_size (w := w) (g := g) (row := none) (by repeat ((with_reducible (exact HK.out)))))); have n1_ := Aside0.mk (IsS68.below (by repeat ((with_reducible (exact HI0.out)))) hb); have n2_ := Aside0.mk (blk_below (g := gb352) (o := .cells #[.int .i64 0, .bool false] 25 (0, 0)) (by (with_reducible repeat (fail)); exact BK352.out) hb); have n3_ := Aside0.mk (KeepBut.trans (by repeat ((with_reducible (exact HK.out)))) (KeepBut.of_below hb g none) (.inl rfl)); have n4_ := Aside0.mk (below_step (by repeat ((with_reducible (exact HB.out)))) hb); clear HI0; clear BK352; clear HK; clear HB; have HO363 := n0_; have HI0 := n1_; have BK352 := n2_; have HK := n3_; have HB := n4_; clear n0_ n1_ n2_ n3_ n4_; clear hb ho15; obtain ⟨Ao16, co16, eo16⟩ := Kd.R_slice HO363.out; subst eo16) | ((with_reducible refine gate_callee (f := 88) rfl ?_); refine goesL_ (some 13) rfl rfl Try.func88 (by kernel_rfl) rfl #[.pointer (some ⟨g, 0, none⟩), .slice Ao16 y361.length co16] rfl (by (try simp only [List.map_toArray, List.map_cons, List.map_nil]); (rfl)) ?_; (with_reducible refine (spec_l1Cur_among.calls g s0_0 t354 t355 _ _ y361 t364 t365 t366 w0 _ ?side1 ?side2 ?side3 ?side4 ?side5 A10.out).mono ?_); (case side1 => repeat ((with_reducible (exact HI0.out)))); (case side2 => repeat ((with_reducible (exact HB.out)))); (case side3 => repeat (exact (Kd.R_reads' HO363.out).2.2)); (case side4 => exact (Kd.R_reads' HO363.out).2.1); (case side5 => exact far_slice (IsS68.own_ne HI0.out HO363.out (by decide))); rintro e w17 ⟨rfl, hi, hb, hk⟩; refine ⟨_, rfl, ?_⟩; have n0_ := Aside0.mk (KeepBut.blk hk (g' := gb352) (o := .cells #[.int .i64 0, .bool false] 25 (0, 0)) (by (with_reducible repeat (fail)); exact BK352.out) NB352_0.out (by simp)); have n1_ := Aside0.mk (Kd.R_mono (Kd.R_keep (IsS68.apart (show IsS68 w0 _ g s0_0 t354 t355 from by repeat ((with_reducible (exact HI0.out)))) (by (with_reducible repeat (fail)); exact HO363.out) (by decide)) hk (fun _ h => h.2)) (fun _ h => h.1)); have n2_ := Aside0.mk (KeepBut.trans (by repeat ((with_reducible (exact HK.out)))) hk (.inl rfl)); have n3_ := Aside0.mk (hb); have n4_ := Aside0.mk (hi); clear BK352; clear HO363; clear HK; clear HB; clear HI0; have BK352 := n0_; have HO363 := n1_; have HK := n2_; have HB := n3_; have HI0 := n4_; clear n0_ n1_ n2_ n3_ n4_; (try clear hb); (try clear hb2); (try clear hk); (try clear hi)) | ((with_reducible refine gate_dst (N := 4) rfl ?_); refine box_event ?hg (N := 4) ?hd (cs := #[.int .i64 0, .bool false]) (t := 25) ?hr ?_; (case hd => rfl); (case hg => rfl); (case hr => (go_simp; done)); intro gb367 hg w18 hbox hb; have n0_ := Aside0.mk (Kd.R_below (by (with_reducible repeat (fail)); exact HO363.out) hb); have n1_ := Aside0.mk (IsS68.below (by repeat ((with_reducible (exact HI0.out)))) hb); have n2_ := Aside0.mk (blk_below (g := gb352) (o := .cells #[.int .i64 0, .bool false] 25 (0, 0)) (by (with_reducible repeat (fail)); exact BK352.out) hb); have n3_ := Aside0.mk (KeepBut.trans (by repeat ((with_reducible (exact HK.out)))) (KeepBut.of_below hb g none) (.inl rfl)); have n4_ := Aside0.mk (below_step (by repeat ((with_reducible (exact HB.out)))) hb); have n5_ := Aside0.mk (hbox); have n6_ := Aside0.mk ((by rw [hg]; exact (keep_size (w := w) (g := g) (row := none) (by repeat ((with_reducible (exact HK.out))))) : w.heap.size ≤ gb367)); have n7_ := Aside0.mk ((Nat.le_trans HW0.out (by rw [hg]; exact (keep_size (w := w) (g := g) (row := none) (by repeat ((with_reducible (exact HK.out))))) : w.heap.size ≤ gb367) : w0.heap.size ≤ gb367)); have n8_ := Aside0.mk ((by rw [hg]; exact Nat.ne_of_lt (blk_lt (g := gb352) (o := .cells #[.int .i64 0, .bool false] 25 (0, 0)) (by (with_reducible repeat (fail)); exact BK352.out)) : gb352 ≠ gb367)); have n9_ := Aside0.mk ((by rw [hg]; exact Nat.ne_of_gt (blk_lt (g := gb352) (o := .cells #[.int .i64 0, .bool false] 25 (0, 0)) (by (with_reducible repeat (fail)); exact BK352.out)) : gb367 ≠ gb352)); have n10_ := Aside0.mk ((by rw [hg]; exact Nat.ne_of_lt (IsS68.lt (show IsS68 w0 _ g s0_0 t365 t366 from by repeat ((with_reducible (exact HI0.out))))) : g ≠ gb367)); have n11_ := Aside0.mk ((by rw [hg]; exact Nat.ne_of_gt (IsS68.lt (show IsS68 w0 _ g s0_0 t365 t366 from by repeat ((with_reducible (exact HI0.out))))) : gb367 ≠ g)); clear HO363; clear HI0; clear BK352; clear HK; clear HB; have HO363 := n0_; have HI0 := n1_; have BK352 := n2_; have HK := n3_; have HB := n4_; have BK367 := n5_; have GW367 := n6_; have GE367 := n7_; have NB352_367 := n8_; have NB367_352 := n9_; have NB0_367 := n10_; have NB367_0 := n11_; clear n0_ n1_ n2_ n3_ n4_ n5_ n6_ n7_ n8_ n9_ n10_ n11_; clear hb hbox hg; have hnb19 := NB367_352.out; have hnc19 := NB352_367.out; have hnb20 := NB367_0.out; have hnc20 := NB0_367.out; have hcz21_0 : w18.cell? ⟨gb367, 0, none⟩ = some (.int .i64 0) := (blk_cell BK367.out 0).trans rfl; have hcz21_1 : w18.cell? ⟨gb367, 1, none⟩ = some (.bool false) := (blk_cell BK367.out 1).trans rfl; have hfz21_0 := blk_frozen BK367.out 0; have hfz21_1 := blk_frozen BK367.out 1))
 have n0_ : Aside0 (Kd.R (Kd.int .i64) 3 ((w18.setCell ⟨gb367, 0, none⟩ (.int .i64 t364)).setCell ⟨gb367, 1, none⟩ (.bool false)) w.heap.size (fun _ => True) (.slice Ao16 y361.length co16) y361) := ⟨by (with_reducible repeat (fail)); exact Kd.R_mono (Kd.R_far (p := ⟨gb367, 1, none⟩) (Kd.R_far (p := ⟨gb367, 0, none⟩) (Kd.R_types HO363.out BK367.out (by decide)) (fun _ hk => hk.2) (.int .i64 t364)) (fun _ hk => hk.2) (.bool false)) (fun _ hk => trivial)⟩
 have n1_ : Aside0 (((w18.setCell ⟨gb367, 0, none⟩ (.int .i64 t364)).setCell ⟨gb367, 1, none⟩ (.bool false)).heap[gb352]? = some (.cells #[.int .i64 0, .bool false] 25 (0, 0))) := ⟨by (with_reducible repeat (fail)); refine blk_far ?_ NB352_367.out _; (with_reducible repeat (fail)); refine blk_far ?_ NB352_367.out _; (with_reducible repeat (fail)); exact BK352.out⟩
 have n2_ : Aside0 (((w18.setCell ⟨gb367, 0, none⟩ (.int .i64 t364)).setCell ⟨gb367, 1, none⟩ (.bool false)).heap[gb367]? = some (.cells #[.int .i64 t364, .bool false] 25 (0, 0))) := ⟨by (with_reducible repeat (fail)); refine blk_put (cs := #[.int .i64 t364, .bool false]) ?_ 1 _ rfl; (with_reducible repeat (fail)); refine blk_put (cs := #[.int .i64 0, .bool false]) ?_ 0 _ rfl; (with_reducible repeat (fail)); exact BK367.out⟩
 have n3_ : Aside0 (IsS68 w0 ((w18.setCell ⟨gb367, 0, none⟩ (.int .i64 t364)).setCell ⟨gb367, 1, none⟩ (.bool false)) g s0_0 t365 t366) := ⟨by repeat ((with_reducible first | exact HI0.out | refine IsS68.far ?_ NB0_367.out _))⟩
 have n4_ : Aside0 (KeepBut w ((w18.setCell ⟨gb367, 0, none⟩ (.int .i64 t364)).setCell ⟨gb367, 1, none⟩ (.bool false)) g none) := ⟨by repeat ((with_reducible first | exact HK.out | refine keep_far ?_ GW367.out _))⟩
 have n5_ : Aside0 (Below w0.heap.size w0 ((w18.setCell ⟨gb367, 0, none⟩ (.int .i64 t364)).setCell ⟨gb367, 1, none⟩ (.bool false))) := ⟨by repeat ((with_reducible first | exact HB.out | refine below_set ?_ GE367.out))⟩
 (try clear HO363)
 (try clear BK352)
 (try clear BK367)
 (try clear HI0)
 (try clear HK)
 (try clear HB)
 generalize ((w18.setCell ⟨gb367, 0, none⟩ (.int .i64 t364)).setCell ⟨gb367, 1, none⟩ (.bool false)) = w22 at n0_ n1_ n2_ n3_ n4_ n5_ ⊢
 have HO363 := n0_
 have BK352 := n1_
 have BK367 := n2_
 have HI0 := n3_
 have HK := n4_
 have HB := n5_
 clear n0_ n1_ n2_ n3_ n4_ n5_
 have n0_ := Aside0.mk (Kd.R_drew HO363.out)
 have n1_ := Aside0.mk (blk_drew BK352.out)
 have n2_ := Aside0.mk (blk_drew BK367.out)
 have n3_ := Aside0.mk (IsS68.drew HI0.out)
 have n4_ := Aside0.mk (keep_drew HK.out)
 have n5_ := Aside0.mk (below_drew1 HB.out)
 clear HO363
 clear BK352
 clear BK367
 clear HI0
 clear HK
 clear HB
 have HO363 := n0_
 have BK352 := n1_
 have BK367 := n2_
 have HI0 := n3_
 have HK := n4_
 have HB := n5_
 clear n0_ n1_ n2_ n3_ n4_ n5_
 refine start_ (n := 6) (S := fun w' => w'.cell? ⟨gb367, 0, none⟩ = some (.int .i64 t364) ∧ w'.cell? ⟨gb367, 1, none⟩ = some (.bool false)) (ds := []) #[N_,N_,N_,N_,N_,N_] (by kernel_rfl) rfl rfl ⟨(blk_cell BK367.out 0).trans rfl, (blk_cell BK367.out 1).trans rfl⟩ (fun hHeld => ?_)
 generalize w22.drew = w23 at HO363 BK352 BK367 HI0 HK HB hHeld ⊢
 refine pure_ (i := 1) (N := some 16) (v := ?_) (a' := ?_) #[N_,Y_,N_,N_,N_,N_] rfl rfl (by kernel_rfl) (fun _ _ _ h => h) (Or.inl ⟨by rfl, ?_⟩) ?_ ?_
 rotate_left
 ·intro w'
  go_simp
  rfl
 rotate_left
 ·simp only [Act.put, List.setIfInBounds_toArray, List.set_cons_zero, List.set_cons_succ, i64_w, i32_w]
  rfl
 refine take_ (i := 0) (N := some 15) (v := ?_) (a' := ?_) #[Y_,Y_,N_,N_,N_,N_] rfl rfl (by kernel_rfl) (fun _ _ _ h => h) (Or.inl ⟨by rfl, ?_⟩) hHeld ?_ ?_
 rotate_left
 ·rintro w' ⟨s0, s1⟩
  go_simp
  rfl
 rotate_left
 ·simp only [Act.put, List.setIfInBounds_toArray, List.set_cons_zero, List.set_cons_succ, i64_w, i32_w]
  rfl
 refine take_ (i := 2) (N := some 17) (v := ?_) (a' := ?_) #[Y_,Y_,Y_,N_,N_,N_] rfl rfl (by kernel_rfl) (fun _ _ _ h => h) (Or.inl ⟨by rfl, ?_⟩) hHeld ?_ ?_
 rotate_left
 ·rintro w' ⟨s0, s1⟩
  go_simp
  rfl
 rotate_left
 ·simp only [Act.put, List.setIfInBounds_toArray, List.set_cons_zero, List.set_cons_succ, i64_w, i32_w]
  rfl
 refine one_ (i := 3) (N := some 18) #[Y_,Y_,Y_,Y_,N_,N_] rfl rfl (by kernel_rfl) (by decide) (fun K hK => ?_)
 refine goes_ Try.func60 (by kernel_rfl) rfl #[.pointer (some ⟨g, 0, none⟩), .agg #[.int .i64 t364, .bool false]] (by rfl) rfl rfl (by (try simp only [List.map_toArray, List.map_cons, List.map_nil]); (rfl)) ?_
 refine (spec_l1Cur_placeOn.calls g s0_0 t365 t366 t364 false t368 t369 t370 w0 _ ?side1 ?side2 A11.out).mono ?_
 (case side1 => repeat ((with_reducible (exact HI0.out))))
 (case side2 => repeat ((with_reducible (exact HB.out))))
 rintro e w24 ⟨rfl, hi, hb, hk⟩
 refine ⟨_, rfl, ?_⟩
 have n0_ := Aside0.mk (KeepBut.blk hk (g' := gb352) (o := .cells #[.int .i64 0, .bool false] 25 (0, 0)) (by (with_reducible repeat (fail)); exact BK352.out) NB352_0.out (by simp))
 have n1_ := Aside0.mk (Kd.R_mono (Kd.R_keep (IsS68.apart (show IsS68 w0 _ g s0_0 t365 t366 from by repeat ((with_reducible (exact HI0.out)))) (by (with_reducible repeat (fail)); exact HO363.out) (by decide)) hk (fun _ h => h.2)) (fun _ h => h.1))
 have n2_ := Aside0.mk (KeepBut.blk hk (g' := gb367) (o := .cells #[.int .i64 t364, .bool false] 25 (0, 0)) (by (with_reducible repeat (fail)); exact BK367.out) NB367_0.out (by simp))
 have n3_ := Aside0.mk (KeepBut.trans (by repeat ((with_reducible (exact HK.out)))) hk (.inl rfl))
 have n4_ := Aside0.mk (hb)
 have n5_ := Aside0.mk (hi)
 clear BK352
 clear HO363
 clear BK367
 clear HK
 clear HB
 clear HI0
 have BK352 := n0_
 have HO363 := n1_
 have BK367 := n2_
 have HK := n3_
 have HB := n4_
 have HI0 := n5_
 clear n0_ n1_ n2_ n3_ n4_ n5_
 (try clear hb)
 (try clear hb2)
 (try clear hk)
 (try clear hi)
 refine hK.out _ _ ⟨(blk_cell BK367.out 0).trans rfl, (blk_cell BK367.out 1).trans rfl⟩ (fun hHeld => ?_)
 clear hK K
 refine norm_ (a' := ?_) ?_ ?_
 rotate_left
 ·show Act.put _ (some 18) _ = _
  simp only [Act.put, List.setIfInBounds_toArray, List.set_cons_zero, List.set_cons_succ, i64_w, i32_w]
  rfl
 refine one_ (i := 4) (N := none) #[Y_,Y_,Y_,Y_,Y_,N_] rfl rfl (by kernel_rfl) (by decide) (fun K hK => ?_)
 have hs25 : w24.cell? ⟨gb352, 0, none⟩ = some (.int .i64 0) := (blk_cell BK352.out 0).trans rfl
 have hfs25 := blk_frozen BK352.out 0
 have hns25_1 := NB367_352.out
 have hms25_1 := NB352_367.out
 have hs26 : w24.cell? ⟨gb352, 1, none⟩ = some (.bool false) := (blk_cell BK352.out 1).trans rfl
 have hfs26 := blk_frozen BK352.out 1
 have hns26_1 := NB367_352.out
 have hms26_1 := NB352_367.out
 refine skip_ (w1 := ?_) (by rfl) rfl ?_ ?_
 rotate_left
 ·go_simp
  rfl
 refine hK.out _ _ ⟨((cell_far (p := ⟨gb352, _, none⟩) NB367_352.out _).trans (((cell_far (p := ⟨gb352, _, none⟩) NB367_352.out _).trans (hHeld.1)))), ((cell_far (p := ⟨gb352, _, none⟩) NB367_352.out _).trans (((cell_far (p := ⟨gb352, _, none⟩) NB367_352.out _).trans (hHeld.2))))⟩ (fun hHeld => ?_)
 clear hK K
 refine pure_ (i := 5) (N := some 3) (v := ?_) (a' := ?_) #[Y_,Y_,Y_,Y_,Y_,Y_] rfl rfl (by kernel_rfl) (fun _ _ _ h => h) (Or.inl ⟨by rfl, ?_⟩) ?_ ?_
 rotate_left
 ·intro w'
  go_simp
  rfl
 rotate_left
 ·simp only [Act.put, List.setIfInBounds_toArray, List.set_cons_zero, List.set_cons_succ, i64_w, i32_w]
  rfl
 refine done_ (by kernel_rfl) ?_
 try go_wp2
 refine bodyPost_ret (results_ct rfl _ _ gb352 25 #[.int .i64 t364, .bool false] (0, 0) _ rfl (by (with_reducible repeat (fail)); refine blk_put (cs := #[.int .i64 t364, .bool false]) ?_ 1 _ rfl; (with_reducible repeat (fail)); refine blk_put (cs := #[.int .i64 0, .bool false]) ?_ 0 _ rfl; (with_reducible repeat (fail)); exact BK352.out) Try.underlying25 rfl (by kernel_rfl)) rfl ?_
 exact ⟨by (rfl), by repeat ((with_reducible first | exact HI0.out | refine IsS68.far ?_ NB0_352.out _)), by repeat ((with_reducible first | exact HB.out | refine below_set ?_ GE352.out)), by repeat ((with_reducible first | exact HK.out | refine keep_far ?_ GW352.out _))⟩

end Go.Proofs.Ytogflbocmiogpaa.PFnLoads
