-- Written for this claim by this session's turned copy of the printer.
import Derived.Test.YtogflbocmiogpaaPFnLoadsx0
import Derived.Test.YtogflbocmiogpaaPFnLoadsx5
namespace Go.Proofs.Ytogflbocmiogpaa.PFnLoads
open Go.RowKit Go.Proofs.YtogflbocmiogpaaW.PrintWords Go.Proofs.YtogflbocmiogpaaW.PrintLast Go.Proofs.YtogflbocmiogpaaW.PrintMore
attribute [local go_sem] max2_int min2_int max_two min_two max_three min_three max_four min_four   -- for this text's walks alone
set_option linter.unusedVariables false
set_option linter.unusedSimpArgs false

/-! ### impl_Road_times: function 77 -/
mutual
def impl_Road_times.l0 : Nat → Int → List Int → Int → List Int → Int → Int → Int → Bool → Option (List Int)
 | 0, _, _, _, _, _, _, _, _ => none
 | k + 1, x1, x2, x3, x9, x21, x22, x298000, x298001 => if x22 < x21 then (if 0 ≤ x22 then (if x22 < (x9.length : Int) then (impl_Road_times.l0 k x1 x2 x3 (x9.set (x22 : Int).toNat (-1)) x21 (wrap64 (x22 + 1)) x298000 x298001) else (none)) else (none)) else (if 0 ≤ x1 then (if x1 < (x9.length : Int) then (impl_Road_times.l1 k x3 (x9.set (x1 : Int).toNat 0) 0 x1 x2 (x2.length : Int) 0 x298000 x298001) else (none)) else (none))
def impl_Road_times.l1 : Nat → Int → List Int → Int → Int → List Int → Int → Int → Int → Bool → Option (List Int)
 | 0, _, _, _, _, _, _, _, _, _ => none
 | k + 1, x3, x9, x11, x12, x33, x34, x35, x298000, x298001 => if x35 < x34 then (if 0 ≤ x35 then (if x35 < (x33.length : Int) then (if x35 > 0 then (impl_Road_times.j2 k x3 x9 (wrap64 (x11 + x3)) x12 (rd x33 x35) x33 x34 x35 x298000 x298001) else (impl_Road_times.j2 k x3 x9 x11 x12 (rd x33 x35) x33 x34 x35 x298000 x298001)) else (none)) else (none)) else (some x9)
def impl_Road_times.j2 : Nat → Int → List Int → Int → Int → Int → List Int → Int → Int → Int → Bool → Option (List Int)
 | 0, _, _, _, _, _, _, _, _, _, _ => none
 | k + 1, x3, x9, x11, x12, x14, x33, x34, x35, x298000, x298001 => (impl_Road_straight.f k x298000 x298001 (([x12] : List Int)) x14).bind fun t307 => (if 1 ≤ (t307.length : Int) then ((some (t307.drop 1 : List Int)).bind fun y310 => (impl_Road_times.l2 k x3 x9 x11 x14 x33 x34 x35 y310 (y310.length : Int) 0 x298000 x298001)) else (none))
def impl_Road_times.l2 : Nat → Int → List Int → Int → Int → List Int → Int → Int → List Int → Int → Int → Int → Bool → Option (List Int)
 | 0, _, _, _, _, _, _, _, _, _, _, _, _ => none
 | k + 1, x3, x9, x11, x14, x33, x34, x35, x50, x51, x52, x298000, x298001 => if x52 < x51 then (if 0 ≤ x52 then (if x52 < (x50.length : Int) then (if 0 ≤ (rd x50 x52) then (if (rd x50 x52) < (x9.length : Int) then (if (rd x9 (rd x50 x52)) < 0 then (impl_Road_times.l2 k x3 (x9.set ((rd x50 x52) : Int).toNat (wrap64 (x11 + 1))) (wrap64 (x11 + 1)) x14 x33 x34 x35 x50 x51 (wrap64 (x52 + 1)) x298000 x298001) else (impl_Road_times.l2 k x3 x9 (wrap64 (x11 + 1)) x14 x33 x34 x35 x50 x51 (wrap64 (x52 + 1)) x298000 x298001)) else (none)) else (none)) else (none)) else (none)) else (impl_Road_times.l1 k x3 x9 x11 x14 x33 x34 (wrap64 (x35 + 1)) x298000 x298001)
end
def impl_Road_times.f (k : Nat) (a0_0 : Int) (a0_1 : Bool) (a1 : Int) (l2 : List Int) (a3 : Int) : Option (List Int) := if 0 ≤ a0_0 then (if (a0_0 : Int).toNat ≤ 35184372088832 then ((some (List.replicate (a0_0 : Int).toNat 0 : List Int)).bind fun y298 => (impl_Road_times.l0 k a1 l2 a3 y298 (y298.length : Int) 0 a0_0 a0_1)) else (none)) else (none)
set_option maxHeartbeats 8000000 in
set_option maxRecDepth 100000 in
theorem impl_Road_times.calls (k : Nat) (a0_0 : Int) (a0_1 : Bool) (a1 : Int) (A2 : Option Addr) (c2 : Nat) (l2 : List Int) (a3 : Int) (r : List Int) (w : World) (hr2 : Kd.C (Kd.int .i64) w A2 l2.length l2) (hc2 : l2.length ≤ c2) (h : impl_Road_times.f k a0_0 a0_1 a1 l2 a3 = some r) :
  Calls Try.prog 77 #[.agg #[.int .i64 a0_0, .bool a0_1], .int .i64 a1, .slice A2 l2.length c2, .int .i64 a3] w fun e w' => ∃ v0_ : Value, e = .returned (v0_) ∧ Kd.R (Kd.int .i64) 3 w' w.heap.size (fun _ => True) v0_ r ∧ Below w.heap.size w w' := by
 have hu25 := Try.underlying25
 have HR2 := Aside0.mk hr2
 have HC2 := Aside0.mk hc2
 clear hr2 hc2
 have HB := Aside0.mk (Below.refl w.heap.size w)
 have H : (if 0 ≤ a0_0 then (if (a0_0 : Int).toNat ≤ 35184372088832 then ((some (List.replicate (a0_0 : Int).toNat 0 : List Int)).bind fun y298 => (impl_Road_times.l0 k a1 l2 a3 y298 (y298.length : Int) 0 a0_0 a0_1)) else (none)) else (none)) = some r := h
 clear h
 by_cases c5 : 0 ≤ a0_0
 rotate_left
 ·rw [if_neg c5] at H
  exact absurd H (by simp)
 rw [if_pos c5] at H
 have c5b0 := eq_true c5
 have c5b1 : decide (0 ≤ a0_0) = true := decide_eq_true c5
 clear c5
 by_cases c6 : (a0_0 : Int).toNat ≤ 35184372088832
 rotate_left
 ·rw [if_neg c6] at H
  exact absurd H (by simp)
 rw [if_pos c6] at H
 have c6b0 := eq_true c6
 have c6b1 : decide ((a0_0 : Int).toNat ≤ 35184372088832) = true := decide_eq_true c6
 clear c6
 obtain ⟨y298, hy298⟩ : ∃ y_ : List Int, y_ = (List.replicate (a0_0 : Int).toNat 0) := ⟨_, rfl⟩
 replace H : (impl_Road_times.l0 k a1 l2 a3 y298 (y298.length : Int) 0 a0_0 a0_1) = some r := by (have H2_ := (Option.bind_some _ _).symm.trans H; rw [hy298]; exact H2_)
 have Ny298 := Aside0.mk hy298
 clear hy298
 have H' := Aside0.mk H
 clear H
 go_enter Try.func77, Try.ntmps77
 go_wp2_with (first | ((with_reducible refine gate_dst (N := 4) rfl ?_); refine box_event ?hg (N := 4) ?hd (cs := #[.int .i64 a0_0, .bool a0_1]) (t := 25) ?hr ?_; (case hd => rfl); (case hg => rfl); (case hr => (go_simp; done)); intro gb297 hg w7 hbox hb; have n0_ := Aside0.mk (below_step (by repeat ((with_reducible (exact HB.out)))) hb); have n1_ := Aside0.mk (hbox); have n2_ := Aside0.mk ((by rw [hg]; exact (below_size (by repeat ((with_reducible (exact HB.out))))) : w.heap.size ≤ gb297)); have n3_ := Aside0.mk ((by rw [hg]; exact (below_size (by repeat ((with_reducible (exact HB.out))))) : w.heap.size ≤ gb297)); clear HB; have HB := n0_; have BK297 := n1_; have GW297 := n2_; have GE297 := n3_; clear n0_ n1_ n2_ n3_; clear hb hbox hg; have hcz8_0 : w7.cell? ⟨gb297, 0, none⟩ = some (.int .i64 a0_0) := (blk_cell BK297.out 0).trans rfl; have hcz8_1 : w7.cell? ⟨gb297, 1, none⟩ = some (.bool a0_1) := (blk_cell BK297.out 1).trans rfl; have hfz8_0 := blk_frozen BK297.out 0; have hfz8_1 := blk_frozen BK297.out 1) | ((with_reducible refine gate_dst (N := 19) rfl ?_); refine Kd.R_make (Kd.int .i64) _ 3 rfl (N := 19) rfl 30 _ _ rfl a0_0 rfl rfl Try.underlying30 (.int .i64 0) 8 info3 rfl (by decide) (by omega) 0 (ok := fun _ => True) (okp := fun _ => True) rfl (fun _ hk => hk) trivial (of_decide_eq_true (by (with_reducible assumption))) (Nat.le_trans (Nat.mul_le_mul_right _ (of_decide_eq_true (by (with_reducible assumption)) : a0_0.toNat ≤ 35184372088832)) (by omega)) (Below.refl _ _) (Nat.le_refl _) ?_; intro v299 w9 ho10 hb hg_ hnew_; clear hg_ hnew_; ((rw [← Ny298.out] at ho10)); have n0_ := Aside0.mk (Kd.R_lower ho10 (below_size (by repeat ((with_reducible (exact HB.out)))))); have n1_ := Aside0.mk (blk_below (g := gb297) (o := .cells #[.int .i64 a0_0, .bool a0_1] 25 (0, 0)) (by (with_reducible repeat (fail)); exact BK297.out) hb); have n2_ := Aside0.mk (below_step (by repeat ((with_reducible (exact HB.out)))) hb); clear BK297; clear HB; have HO300 := n0_; have BK297 := n1_; have HB := n2_; clear n0_ n1_ n2_; clear hb ho10; obtain ⟨Ao11, co11, eo11⟩ := Kd.R_slice HO300.out; subst eo11))
 go_loopg [22] k (fun kq v22 w' => ∃ (x9_1 : List Int) (x22_1 : Int), v22 = .int .i64 x22_1 ∧ Aside0 (impl_Road_times.l0 kq a1 l2 a3 x9_1 (y298.length : Int) x22_1 a0_0 a0_1 = some r) ∧ Aside0 (kq ≤ k) ∧ Aside0 (Kd.R (Kd.int .i64) 3 w' w.heap.size (fun _ => True) (.slice Ao11 y298.length co11) x9_1) ∧ Aside0 (w'.heap[gb297]? = some (.cells #[.int .i64 a0_0, .bool a0_1] 25 (0, 0))) ∧ Aside0 (Below w.heap.size w w'))
 case atStart => exact ⟨(y298), (0), (by (rfl)), H', ⟨Nat.le_refl _⟩, ⟨by (with_reducible repeat (fail)); exact HO300.out⟩, ⟨by (with_reducible repeat (fail)); exact BK297.out⟩, ⟨by repeat ((with_reducible (exact HB.out)))⟩⟩
 case round =>
  clear H'
  (try clear c2); (try clear p2); (try clear c5); (try clear c5b0); (try clear c5b1); (try clear c6); (try clear c6b0); (try clear c6b1); (try clear c7); (try clear hcz8_0); (try clear hcz8_1); (try clear hfz8_0); (try clear hfz8_1)
  obtain ⟨x9_1, x22_1, rfl, HA, HK1, HO_9, BK297, HB⟩ := hrel
  have hl9_1 := (Kd.R_reads' HO_9.out).1
  rw [hl9_1] at HO_9
  (try simp only [hl9_1])
  (try simp only [hl9_1] at BK297)
  cases gk with
  | zero => exact absurd HA.out (by simp [impl_Road_times.l0])
  | succ k1 =>
   have H := HA.out
   clear HA
   simp only [impl_Road_times.l0] at H
   by_cases c12 : x22_1 < (y298.length : Int)
   ·rw [if_pos c12] at H
    have c12b0 : decide (x22_1 < (y298.length : Int)) = true := decide_eq_true c12
    (try (have c12b0h := c12b0; simp only [hl9_1] at c12b0h))
    clear c12
    by_cases c13 : 0 ≤ x22_1
    rotate_left
    ·rw [if_neg c13] at H
     exact absurd H (by simp)
    rw [if_pos c13] at H
    have c13b0 : decide (0 ≤ x22_1) = true := decide_eq_true c13
    clear c13
    by_cases c14 : x22_1 < (x9_1.length : Int)
    rotate_left
    ·rw [if_neg c14] at H
     exact absurd H (by simp)
    rw [if_pos c14] at H
    have c14b0 : decide (x22_1 < (x9_1.length : Int)) = true := decide_eq_true c14
    (try (have c14b0h := c14b0; simp only [hl9_1] at c14b0h))
    clear c14
    obtain ⟨y301, hy301⟩ : ∃ y_ : List Int, y_ = (x9_1.set (x22_1 : Int).toNat (-1)) := ⟨_, rfl⟩
    replace H : (impl_Road_times.l0 k1 a1 l2 a3 y301 (y298.length : Int) (wrap64 (x22_1 + 1)) a0_0 a0_1) = some r := by (rw [hy301]; exact H)
    have Ny301 := Aside0.mk hy301
    clear hy301
    have H' := Aside0.mk H
    clear H
    have p15 : 0 ≤ (x22_1 : Int) := of_decide_eq_true (by (assumption))
    have q15 : (x22_1 : Int) < ((x9_1.length : Int) : Int) := of_decide_eq_true (by (assumption))
    obtain ⟨go15, co15, eo15, gb15, gl15, cl15, HG15⟩ := Kd.R_form HO_9.out (by omega)
    ((cases eo15))
    have GB15 := Aside0.mk gb15
    have GG15 := Aside0.mk HG15
    clear gb15 gl15 HG15
    obtain ⟨hx15_0, hf15_0⟩ := Kd.R_celln 0 HO_9.out (x22_1 : Int) p15 q15
    replace p15 := eq_true p15
    replace q15 := eq_true q15
    have HP16 := Kd.R_putg HO_9.out (x22_1 : Int) (-1)
    go_wp2_with (((refine gate_store (t := 3) (p := 27) rfl ?_); refine store_event (t := 3) (p := 27) (v := ?vo_w17) (w1 := (wr.setCell ⟨go15, (x22_1 : Int).toNat, none⟩ (.int .i64 (-1)))) ?hg ?ho ?hn ?hr ?_; (case ho => rfl); (case hg => rfl); (case hn => rfl); (case hr => (go_simp; done)); intro w17 hw; have hg : wr.grownBy w17 (some go15) := (by rw [hw]; exact HP16.2); have hp_ : Kd.R (Kd.int .i64) 3 w17 w.heap.size (fun _ => True) (.slice (some ⟨go15, 0, none⟩) x9_1.length co11) y301 := (by rw [hw, Ny301.out]; exact HP16.1); clear HP16; have n0_ := Aside0.mk (hp_); have n1_ := Aside0.mk (blk_grown (g := gb297) (o := .cells #[.int .i64 a0_0, .bool a0_1] 25 (0, 0)) (by (with_reducible repeat (fail)); exact BK297.out) hg (Kd.R_ne HO_9.out BK297.out (by decide))); have n2_ := Aside0.mk ((by rw [hw]; exact below_set (HB.out) GB15.out : Below w.heap.size w w17)); clear HO_9; clear BK297; clear HB; have HO_9 := n0_; have BK297 := n1_; have HB := n2_; clear n0_ n1_ n2_; clear hg hw hp_))
    (try simp only [← hl9_1])
    go_roundg k1
    case measure => have := HK1.out; omega
    case rel => exact ⟨(y301), (wrap64 (x22_1 + 1)), (by (rfl)), H', ⟨by have := HK1.out; omega⟩, ⟨by (try simp only [hl9_1]); (with_reducible repeat (fail)); exact HO_9.out⟩, ⟨by (try simp only [hl9_1]); (with_reducible repeat (fail)); exact BK297.out⟩, ⟨by repeat ((with_reducible (exact HB.out)))⟩⟩
   rw [if_neg c12] at H
   have c12b0 : decide (x22_1 < (y298.length : Int)) = false := decide_eq_false c12
   (try (have c12b0h := c12b0; simp only [hl9_1] at c12b0h))
   clear c12
   by_cases c18 : 0 ≤ a1
   rotate_left
   ·rw [if_neg c18] at H
    exact absurd H (by simp)
   rw [if_pos c18] at H
   have c18b0 : decide (0 ≤ a1) = true := decide_eq_true c18
   clear c18
   by_cases c19 : a1 < (x9_1.length : Int)
   rotate_left
   ·rw [if_neg c19] at H
    exact absurd H (by simp)
   rw [if_pos c19] at H
   have c19b0 : decide (a1 < (x9_1.length : Int)) = true := decide_eq_true c19
   (try (have c19b0h := c19b0; simp only [hl9_1] at c19b0h))
   clear c19
   obtain ⟨y302, hy302⟩ : ∃ y_ : List Int, y_ = (x9_1.set (a1 : Int).toNat 0) := ⟨_, rfl⟩
   replace H : (impl_Road_times.l1 k1 a3 y302 0 a1 l2 (l2.length : Int) 0 a0_0 a0_1) = some r := by (rw [hy302]; exact H)
   have Ny302 := Aside0.mk hy302
   clear hy302
   have H' := Aside0.mk H
   clear H
   have p20 : 0 ≤ (a1 : Int) := of_decide_eq_true (by (assumption))
   have q20 : (a1 : Int) < ((x9_1.length : Int) : Int) := of_decide_eq_true (by (assumption))
   obtain ⟨go20, co20, eo20, gb20, gl20, cl20, HG20⟩ := Kd.R_form HO_9.out (by omega)
   ((cases eo20))
   have GB20 := Aside0.mk gb20
   have GG20 := Aside0.mk HG20
   clear gb20 gl20 HG20
   obtain ⟨hx20_0, hf20_0⟩ := Kd.R_celln 0 HO_9.out (a1 : Int) p20 q20
   replace p20 := eq_true p20
   replace q20 := eq_true q20
   have HP21 := Kd.R_putg HO_9.out (a1 : Int) 0
   go_wp2_with (((refine gate_store (t := 3) (p := 31) rfl ?_); refine store_event (t := 3) (p := 31) (v := ?vo_w22) (w1 := (wr.setCell ⟨go20, (a1 : Int).toNat, none⟩ (.int .i64 0))) ?hg ?ho ?hn ?hr ?_; (case ho => rfl); (case hg => rfl); (case hn => rfl); (case hr => (go_simp; done)); intro w22 hw; have hg : wr.grownBy w22 (some go20) := (by rw [hw]; exact HP21.2); have hp_ : Kd.R (Kd.int .i64) 3 w22 w.heap.size (fun _ => True) (.slice (some ⟨go20, 0, none⟩) x9_1.length co11) y302 := (by rw [hw, Ny302.out]; exact HP21.1); clear HP21; have n0_ := Aside0.mk (hp_); have n1_ := Aside0.mk (blk_grown (g := gb297) (o := .cells #[.int .i64 a0_0, .bool a0_1] 25 (0, 0)) (by (with_reducible repeat (fail)); exact BK297.out) hg (Kd.R_ne HO_9.out BK297.out (by decide))); have n2_ := Aside0.mk ((by rw [hw]; exact below_set (HB.out) GB20.out : Below w.heap.size w w22)); clear HO_9; clear BK297; clear HB; have HO_9 := n0_; have BK297 := n1_; have HB := n2_; clear n0_ n1_ n2_; clear hg hw hp_))
   go_loopg [11, 12, 35] k1 (fun kq v11 v12 v35 w' => ∃ (x9_2 : List Int) (x11_2 : Int) (x12_2 : Int) (x35_2 : Int), v11 = .int .i64 x11_2 ∧ v12 = .int .i64 x12_2 ∧ v35 = .int .i64 x35_2 ∧ Aside0 (impl_Road_times.l1 kq a3 x9_2 x11_2 x12_2 l2 (l2.length : Int) x35_2 a0_0 a0_1 = some r) ∧ Aside0 (kq ≤ k1) ∧ Aside0 (Kd.R (Kd.int .i64) 3 w' w.heap.size (fun _ => True) (.slice (some ⟨go20, 0, none⟩) x9_1.length co11) x9_2) ∧ Aside0 (w'.heap[gb297]? = some (.cells #[.int .i64 a0_0, .bool a0_1] 25 (0, 0))) ∧ Aside0 (Below w.heap.size w w'))
   case atStart => exact ⟨(y302), (0), (a1), (0), (by (rfl)), (by (rfl)), (by (rfl)), H', ⟨Nat.le_refl _⟩, ⟨by (try simp only [hl9_1]); (with_reducible repeat (fail)); exact HO_9.out⟩, ⟨by (try simp only [hl9_1]); (with_reducible repeat (fail)); exact BK297.out⟩, ⟨by repeat ((with_reducible (exact HB.out)))⟩⟩
   case round =>
    clear H'
    (try clear c1); (try clear p1); (try clear q1); (try clear hx1); (try clear c2); (try clear p2); (try clear q2); (try clear hx2); (try clear c5); (try clear c5b0); (try clear c5b1); (try clear c6); (try clear c6b0); (try clear c6b1); (try clear p6); (try clear c7); (try clear c12); (try clear c12b0)
    (try clear c13); (try clear c13b0); (try clear c14); (try clear c14b0); (try clear p15); (try clear q15); (try clear hx15); (try clear hf15); (try clear c18); (try clear c18b0); (try clear c19); (try clear c19b0); (try clear p20); (try clear q20); (try clear hx20); (try clear hf20); (try clear hcz8_0)
    (try clear hcz8_1); (try clear hfz8_0); (try clear hfz8_1); (try clear hx15_0); (try clear hx20_0); (try clear p15); (try clear p2); (try clear p20); (try clear q15); (try clear q20)
    obtain ⟨x9_2, x11_2, x12_2, x35_2, rfl, rfl, rfl, HA, HK2, HO_9, BK297, HB⟩ := hrel
    have hl9_2 := (Kd.R_reads' HO_9.out).1
    rw [hl9_2] at HO_9
    (try simp only [hl9_2])
    (try simp only [hl9_2] at BK297)
    cases gk with
    | zero => exact absurd HA.out (by simp [impl_Road_times.l1])
    | succ k2 =>
     have H := HA.out
     clear HA
     simp only [impl_Road_times.l1] at H
     by_cases c23 : x35_2 < (l2.length : Int)
     rotate_left
     ·rw [if_neg c23] at H
      have c23b0 : decide (x35_2 < (l2.length : Int)) = false := decide_eq_false c23
      (try (have c23b0h := c23b0; simp only [hl9_1, hl9_2] at c23b0h))
      clear c23
      obtain rfl := Option.some.inj H
      go_wp2
      go_ret
      exact ⟨_, by (rfl), by (with_reducible repeat (fail)); exact HO_9.out, by repeat ((with_reducible (exact HB.out)))⟩
     rw [if_pos c23] at H
     have c23b0 : decide (x35_2 < (l2.length : Int)) = true := decide_eq_true c23
     (try (have c23b0h := c23b0; simp only [hl9_1, hl9_2] at c23b0h))
     clear c23
     by_cases c24 : 0 ≤ x35_2
     rotate_left
     ·rw [if_neg c24] at H
      exact absurd H (by simp)
     rw [if_pos c24] at H
     have c24b0 : decide (0 ≤ x35_2) = true := decide_eq_true c24
     clear c24
     by_cases c25 : x35_2 < (l2.length : Int)
     rotate_left
     ·rw [if_neg c25] at H
      exact absurd H (by simp)
     rw [if_pos c25] at H
     have c25b0 : decide (x35_2 < (l2.length : Int)) = true := decide_eq_true c25
     (try (have c25b0h := c25b0; simp only [hl9_1, hl9_2] at c25b0h))
     clear c25
     have HC26 := Aside0.mk H
     clear H
     have p303 : 0 ≤ (x35_2 : Int) := of_decide_eq_true (by (assumption))
     have q303 : x35_2 < (l2.length : Int) := of_decide_eq_true (by (assumption))
     obtain ⟨ad303, e303, hx303_0⟩ := Kd.at_int HR2.out x35_2 p303 q303
     cases e303
     replace hx303_0 := (HB.out.cell (World.block_lt_of_cell? w _ hx303_0)).trans hx303_0
     replace p303 := eq_true p303
     replace q303 := eq_true q303
     go_upto_if 41 with (fail)
     go_cut [11] (fun v11 wc => ∃ (kq : Nat) (x11_25 : Int), v11 = .int .i64 x11_25 ∧ Aside0 (impl_Road_times.j2 kq a3 x9_2 x11_25 x12_2 (rd l2 x35_2) l2 (l2.length : Int) x35_2 a0_0 a0_1 = some r) ∧ Aside0 (kq ≤ k2) ∧ Aside0 (Kd.R (Kd.int .i64) 3 wc w.heap.size (fun _ => True) (.slice (some ⟨go20, 0, none⟩) x9_2.length co11) x9_2) ∧ Aside0 (wc.heap[gb297]? = some (.cells #[.int .i64 a0_0, .bool a0_1] 25 (0, 0))) ∧ Aside0 (Below w.heap.size w wc))
     case first =>
      have H := HC26.out
      clear HC26
      by_cases c27 : x35_2 > 0
      rotate_left
      ·rw [if_neg c27] at H
       have c27b0 : decide (0 < x35_2) = false := decide_eq_false c27
       clear c27
       ((rw [c27b0]))
       have H' := Aside0.mk H
       clear H
       go_wp2
       go_meet
       case rel => exact ⟨_, (x11_2), (by (rfl)), H', ⟨by have := HK1.out; have := HK2.out; (omega)⟩, ⟨by (try simp only [hl9_1]); (try simp only [hl9_2]); (with_reducible repeat (fail)); exact HO_9.out⟩, ⟨by (try simp only [hl9_1]); (try simp only [hl9_2]); (with_reducible repeat (fail)); exact BK297.out⟩, ⟨by repeat ((with_reducible (exact HB.out)))⟩⟩
      rw [if_pos c27] at H
      have c27b0 : decide (0 < x35_2) = true := decide_eq_true c27
      clear c27
      ((rw [c27b0]))
      have H' := Aside0.mk H
      clear H
      go_wp2
      go_meet
      case rel => exact ⟨_, (wrap64 (x11_2 + a3)), (by (rfl)), H', ⟨by have := HK1.out; have := HK2.out; (omega)⟩, ⟨by (try simp only [hl9_1]); (try simp only [hl9_2]); (with_reducible repeat (fail)); exact HO_9.out⟩, ⟨by (try simp only [hl9_1]); (try simp only [hl9_2]); (with_reducible repeat (fail)); exact BK297.out⟩, ⟨by repeat ((with_reducible (exact HB.out)))⟩⟩
     case rest =>
      clear HC26
      (try clear c1); (try clear p1); (try clear q1); (try clear hx1); (try clear c2); (try clear p2); (try clear q2); (try clear hx2); (try clear p3); (try clear q3); (try clear hx3); (try clear c5); (try clear c5b0); (try clear c5b1); (try clear c6); (try clear c6b0); (try clear c6b1); (try clear p6)
      (try clear c7); (try clear c12); (try clear c12b0); (try clear c13); (try clear c13b0); (try clear c14); (try clear c14b0); (try clear p15); (try clear q15); (try clear hx15); (try clear hf15); (try clear c18); (try clear c18b0); (try clear c19); (try clear c19b0); (try clear p20); (try clear q20)
      (try clear hx20); (try clear hf20); (try clear c23); (try clear c23b0); (try clear c24); (try clear c24b0); (try clear c25); (try clear c25b0); (try clear c27); (try clear c27b0); (try clear hcz8_0); (try clear hcz8_1); (try clear hfz8_0); (try clear hfz8_1); (try clear hx15_0); (try clear hx20_0)
      (try clear hx303_0); (try clear p1); (try clear p15); (try clear p2); (try clear p20); (try clear p303); (try clear p6); (try clear q1); (try clear q15); (try clear q2); (try clear q20); (try clear q303)
      obtain ⟨kq, x11_25, rfl, HA, HJ25, HO_9, BK297, HB⟩ := hcut
      cases kq with
      | zero => exact absurd HA.out (by simp [impl_Road_times.j2])
      | succ kj25 =>
       have H := HA.out
       clear HA
       simp only [impl_Road_times.j2] at H
       obtain ⟨y304, hy304⟩ : ∃ y_ : List Int, y_ = (([x12_2] : List Int)) := ⟨_, rfl⟩
       replace H : ((impl_Road_straight.f kj25 a0_0 a0_1 y304 (rd l2 x35_2)).bind fun t307 => (if 1 ≤ (t307.length : Int) then ((some (t307.drop 1 : List Int)).bind fun y310 => (impl_Road_times.l2 kj25 a3 x9_2 x11_25 (rd l2 x35_2) l2 (l2.length : Int) x35_2 y310 (y310.length : Int) 0 a0_0 a0_1)) else (none))) = some r := by (rw [hy304]; exact H)
       have Ny304 := Aside0.mk hy304
       clear hy304
       replace H := Option.bind_eq_some_iff.mp H
       obtain ⟨t307, A280, H⟩ := H
       try dsimp only at H
       have A28 := Aside0.mk A280
       clear A280
       by_cases c29 : 1 ≤ (t307.length : Int)
       rotate_left
       ·rw [if_neg c29] at H
        exact absurd H (by simp)
       rw [if_pos c29] at H
       have c29b0 := eq_true c29
       have c29b1 : decide (1 ≤ (t307.length : Int)) = true := decide_eq_true c29
       clear c29
       obtain ⟨y310, hy310⟩ : ∃ y_ : List Int, y_ = (t307.drop 1) := ⟨_, rfl⟩
       replace H : (impl_Road_times.l2 kj25 a3 x9_2 x11_25 (rd l2 x35_2) l2 (l2.length : Int) x35_2 y310 (y310.length : Int) 0 a0_0 a0_1) = some r := by (have H2_ := (Option.bind_some _ _).symm.trans H; rw [hy310]; exact H2_)
       have Ny310 := Aside0.mk hy310
       clear hy310
       have H' := Aside0.mk H
       clear H
       have hcz30_0 : wc.cell? ⟨gb297, 0, none⟩ = some (.int .i64 a0_0) := (blk_cell BK297.out 0).trans rfl
       have hcz30_1 : wc.cell? ⟨gb297, 1, none⟩ = some (.bool a0_1) := (blk_cell BK297.out 1).trans rfl
       have hfz30_0 := blk_frozen BK297.out 0
       have hfz30_1 := blk_frozen BK297.out 1
       go_wp2_with (first | ((with_reducible refine gate_dst (N := 47) rfl ?_); refine Kd.R_lit (Kd.int .i64) _ 3 ?hg (N := 47) ?hd (xs := ([x12_2] : List Int)) (inner := [.int .i64 x12_2]) (ok := fun _ => True) (okp := fun _ => True) ?hr ?hp (fun _ hk => hk) trivial (Below.refl _ _) (Nat.le_refl _) (by simp) ?_; (case hd => rfl); (case hg => rfl); (case hr => (go_simp; done)); (case hp => exact (Reps.one (show Kd.M (Kd.int .i64) _ _ _ x12_2 [.int .i64 x12_2] from rfl) (Reps.none _ _))); intro v305 w31 ho32 hb hg_ hnew_; clear hg_ hnew_; ((rw [← Ny304.out] at ho32)); have n0_ := Aside0.mk (Kd.R_elder' (by (with_reducible repeat (fail)); exact HO_9.out) (Kd.R_base ho32) hb); have n1_ := Aside0.mk (Kd.R_lower (Kd.R_new' ho32 (Kd.R_lt (by (with_reducible repeat (fail)); exact HO_9.out))) (below_size (by repeat ((with_reducible (exact HB.out)))))); have n2_ := Aside0.mk (blk_below (g := gb297) (o := .cells #[.int .i64 a0_0, .bool a0_1] 25 (0, 0)) (by (with_reducible repeat (fail)); exact BK297.out) hb); have n3_ := Aside0.mk (below_step (by repeat ((with_reducible (exact HB.out)))) hb); clear HO_9; clear BK297; clear HB; have HO_9 := n0_; have HO306 := n1_; have BK297 := n2_; have HB := n3_; clear n0_ n1_ n2_ n3_; clear hb ho32; obtain ⟨Ao33, co33, eo33⟩ := Kd.R_slice HO306.out; subst eo33) | ((with_reducible refine gate_callee (f := 65) rfl ?_); refine goesL_ (some 49) rfl rfl Try.func65 (by kernel_rfl) rfl #[.agg #[.int .i64 a0_0, .bool a0_1], .slice Ao33 y304.length co33, .int .i64 (rd l2 x35_2)] rfl (by (try simp only [List.map_toArray, List.map_cons, List.map_nil]); (rfl)) ?_; (with_reducible refine (impl_Road_straight.calls kj25 a0_0 a0_1 (fun k_ => some k_ = (.slice Ao33 y304.length co33 : Value).ownBlock) (.slice Ao33 y304.length co33) y304 (rd l2 x35_2) t307 w _ ?side1 ?side2 A28.out).mono ?_); (case side1 => repeat ((with_reducible (exact HB.out)))); (case side2 => exact Kd.R_tight rfl HO306.out); rintro e w34 ⟨v308, rfl, ho0, hb, hkp⟩; refine ⟨_, rfl, ?_⟩; have n0_ := Aside0.mk (Kd.R_mono (ok' := fun k_ => some k_ ≠ (v308 : Value).ownBlock) (Kd.R_keptB (HO_9.out) hkp (fun k_ hk_ hs_ => (hk_.2) hs_)) (fun k_ hk_ => fun e_ => Or.elim (ho0.1 k_ e_.symm) (fun hs_ => hk_.2.1 hs_) (fun hn_ => Nat.not_le.2 hk_.2.2 hn_))); have n1_ := Aside0.mk (blk_kept (by (with_reducible repeat (fail)); exact BK297.out) hkp (fun hs_ => (fun e_ => (Kd.R_ne HO306.out BK297.out (by decide)) e_) hs_)); have n2_ := Aside0.mk (Kd.R_mono (ok' := fun k_ => some k_ ≠ (.slice (some ⟨go20, 0, none⟩) x9_2.length co11 : Value).ownBlock) ho0 (fun k_ hk_ => Or.elim hk_ (fun hs_ => fun e_ => (((HO_9.out).1 k_ e_.symm).2) hs_) (fun hn_ => (Kd.fresh' (Kd.R_lt (by (with_reducible repeat (fail)); exact HO_9.out)) k_ hn_)))); have n3_ := Aside0.mk (hb); clear HO_9; clear BK297; clear HB; clear HO306; have HO_9 := n0_; have BK297 := n1_; have HO309 := n2_; have HB := n3_; clear n0_ n1_ n2_ n3_; (try clear hb); (try clear hkp); (try clear ho0); obtain ⟨Ao36, co36, eo36⟩ := Kd.R_slice HO309.out; subst eo36; have q35 : (1 : Int) ≤ ((t307.length : Int) : Int) := of_decide_eq_true (by (with_reducible assumption)); obtain ⟨i035, hi035, _, hsz35, _⟩ := info_parts info3; have hroom35 : t307.length ≤ co36 := (Kd.R_reads' HO309.out).2.1; have hC35 : Kd.F (Kd.int .i64) _ _ Ao36 t307.length t307 := (Kd.V_at (base := w.heap.size) (Kd.R_V (Kd.R_types (HO309.out) BK297.out (by decide)))).2.2; have hcut35 := cut_from (P := Try.prog) 30 3 .i64 Try.underlying30 hi035 1 hsz35 Ao36 t307.length co36 1 (by omega) q35; have hr35 := Kd.F_cut (m := (1 : Int).toNat) (c := co36) hC35 (by omega) hroom35; obtain ⟨A35, hA35⟩ : ∃ A_x, A_x = (if co36 = (1 : Int).toNat then Ao36 else (Ao36 : Option Addr).map (·.add ((1 : Int).toNat * 1))) := ⟨_, rfl⟩; obtain ⟨c35, hc35⟩ : ∃ c_x, c_x = co36 - (1 : Int).toNat := ⟨_, rfl⟩; have hy35 : y310.length = t307.length - (1 : Int).toNat := (by rw [Ny310.out, List.length_drop] <;> omega); rw [show (t307).drop (1 : Int).toNat = y310 from Ny310.out.symm] at hr35; replace hr35 : Kd.F (Kd.int .i64) _ _ A35 y310.length y310 := (by rw [hA35]; exact hr35); rw [← hy35, ← hA35, ← hc35] at hcut35; have HO314 := Aside0.mk (show Kd.V (Kd.int .i64) 3 _ w.heap.size _ (.slice A35 y310.length c35) y310 from Kd.V_mk (by rw [hy35, hc35]; exact Nat.sub_le_sub_right hroom35 _) hr35); have HC314 := Aside0.mk (show y310.length ≤ c35 from by rw [hy35, hc35]; exact Nat.sub_le_sub_right hroom35 _); clear hr35 hC35 hroom35 hi035 hsz35 hc35; have KY35 := Aside0.mk hy35; have KA35 := Aside0.mk hA35; clear hy35 hA35; replace q35 := eq_true q35))
       go_loopg [11, 52] kj25 (fun kq v11 v52 w' => ∃ (x9_4 : List Int) (x11_4 : Int) (x52_4 : Int), v11 = .int .i64 x11_4 ∧ v52 = .int .i64 x52_4 ∧ Aside0 (impl_Road_times.l2 kq a3 x9_4 x11_4 (rd l2 x35_2) l2 (l2.length : Int) x35_2 y310 (y310.length : Int) x52_4 a0_0 a0_1 = some r) ∧ Aside0 (kq ≤ kj25) ∧ Aside0 (Kd.R (Kd.int .i64) 3 w' w.heap.size (fun _ => True) (.slice (some ⟨go20, 0, none⟩) x9_2.length co11) x9_4) ∧ Aside0 (Kd.V (Kd.int .i64) 3 w' w.heap.size (fun k_ => some k_ ≠ ((.slice (some ⟨go20, 0, none⟩) x9_2.length co11) : Value).ownBlock ∧ k_ ≠ gb297) (.slice A35 y310.length c35) y310) ∧ Aside0 (w'.heap[gb297]? = some (.cells #[.int .i64 a0_0, .bool a0_1] 25 (0, 0))) ∧ Aside0 (Below w.heap.size w w'))
       case atStart => exact ⟨(x9_2), (x11_25), (0), (by (rfl)), (by (rfl)), H', ⟨Nat.le_refl _⟩, ⟨by (try simp only [hl9_1]); (try simp only [hl9_2]); (with_reducible repeat (fail)); exact Kd.R_mono HO_9.out (fun _ hk => trivial)⟩, ⟨by (try simp only [hl9_1]); (try simp only [hl9_2]); (with_reducible repeat (fail)); exact HO314.out⟩, ⟨by (try simp only [hl9_1]); (try simp only [hl9_2]); (with_reducible repeat (fail)); exact BK297.out⟩, ⟨by repeat ((with_reducible (exact HB.out)))⟩⟩
       case round =>
        clear H'
        (try clear c1); (try clear p1); (try clear q1); (try clear hx1); (try clear c2); (try clear p2); (try clear q2); (try clear hx2); (try clear c3); (try clear p3); (try clear q3); (try clear hx3); (try clear c5); (try clear c5b0); (try clear c5b1); (try clear c6); (try clear c6b0); (try clear c6b1)
        (try clear p6); (try clear c7); (try clear c12); (try clear c12b0); (try clear c13); (try clear c13b0); (try clear c14); (try clear c14b0); (try clear p15); (try clear q15); (try clear hx15); (try clear hf15); (try clear c18); (try clear c18b0); (try clear c19); (try clear c19b0); (try clear p20)
        (try clear q20); (try clear hx20); (try clear hf20); (try clear c23); (try clear c23b0); (try clear c24); (try clear c24b0); (try clear c25); (try clear c25b0); (try clear c27); (try clear c27b0); (try clear c29); (try clear c29b0); (try clear c29b1); (try clear p30); (try clear q30)
        (try clear hx30); (try clear c35); (try clear q35); (try clear hcz30_0); (try clear hcz30_1); (try clear hcz8_0); (try clear hcz8_1); (try clear hfz30_0); (try clear hfz30_1); (try clear hfz8_0); (try clear hfz8_1); (try clear hx15_0); (try clear hx20_0); (try clear hx303_0); (try clear p1)
        (try clear p15); (try clear p2); (try clear p20); (try clear p3); (try clear p303); (try clear p6); (try clear q1); (try clear q15); (try clear q2); (try clear q20); (try clear q3); (try clear q303); (try clear q35)
        obtain ⟨x9_4, x11_4, x52_4, rfl, rfl, HA, HK4, HO_9, HO_50, BK297, HB⟩ := hrel
        have hl9_4 := (Kd.R_reads' HO_9.out).1
        rw [hl9_4] at HO_9
        (try simp only [hl9_4])
        (try simp only [hl9_4] at BK297)
        (try simp only [hl9_4] at HO_50)
        cases gk with
        | zero => exact absurd HA.out (by simp [impl_Road_times.l2])
        | succ k4 =>
         have H := HA.out
         clear HA
         simp only [impl_Road_times.l2] at H
         by_cases c37 : x52_4 < (y310.length : Int)
         rotate_left
         ·rw [if_neg c37] at H
          have c37b0 : decide (x52_4 < (y310.length : Int)) = false := decide_eq_false c37
          (try (have c37b0h := c37b0; simp only [hl9_1, hl9_2, hl9_4] at c37b0h))
          clear c37
          have H' := Aside0.mk H
          clear H
          go_wp2
          (try simp only [← hl9_2, ← hl9_4])
          go_roundg k4
          case measure => have := HK1.out; have := HK2.out; have := HJ25.out; have := HK4.out; omega
          case rel => exact ⟨(x9_4), (x11_4), ((rd l2 x35_2)), (wrap64 (x35_2 + 1)), (by (rfl)), (by (rfl)), (by (rfl)), H', ⟨by have := HK1.out; have := HK2.out; have := HJ25.out; have := HK4.out; omega⟩, ⟨by (try simp only [hl9_1]); (try simp only [hl9_2]); (try simp only [hl9_4]); (with_reducible repeat (fail)); exact HO_9.out⟩, ⟨by (try simp only [hl9_1]); (try simp only [hl9_2]); (try simp only [hl9_4]); (with_reducible repeat (fail)); exact BK297.out⟩, ⟨by repeat ((with_reducible (exact HB.out)))⟩⟩
         rw [if_pos c37] at H
         have c37b0 : decide (x52_4 < (y310.length : Int)) = true := decide_eq_true c37
         (try (have c37b0h := c37b0; simp only [hl9_1, hl9_2, hl9_4] at c37b0h))
         clear c37
         by_cases c38 : 0 ≤ x52_4
         rotate_left
         ·rw [if_neg c38] at H
          exact absurd H (by simp)
         rw [if_pos c38] at H
         have c38b0 : decide (0 ≤ x52_4) = true := decide_eq_true c38
         clear c38
         by_cases c39 : x52_4 < (y310.length : Int)
         rotate_left
         ·rw [if_neg c39] at H
          exact absurd H (by simp)
         rw [if_pos c39] at H
         have c39b0 : decide (x52_4 < (y310.length : Int)) = true := decide_eq_true c39
         (try (have c39b0h := c39b0; simp only [hl9_1, hl9_2, hl9_4] at c39b0h))
         clear c39
         by_cases c40 : 0 ≤ (rd y310 x52_4)
         rotate_left
         ·rw [if_neg c40] at H
          exact absurd H (by simp)
         rw [if_pos c40] at H
         have c40b0 : decide (0 ≤ (rd y310 x52_4)) = true := decide_eq_true c40
         clear c40
         by_cases c41 : (rd y310 x52_4) < (x9_4.length : Int)
         rotate_left
         ·rw [if_neg c41] at H
          exact absurd H (by simp)
         rw [if_pos c41] at H
         have c41b0 : decide ((rd y310 x52_4) < (x9_4.length : Int)) = true := decide_eq_true c41
         (try (have c41b0h := c41b0; simp only [hl9_1, hl9_2, hl9_4] at c41b0h))
         clear c41
         by_cases c42 : (rd x9_4 (rd y310 x52_4)) < 0
         rotate_left
         ·rw [if_neg c42] at H
          have c42b0 : decide ((rd x9_4 (rd y310 x52_4)) < 0) = false := decide_eq_false c42
          clear c42
          have H' := Aside0.mk H
          clear H
          have p315 : 0 ≤ (x52_4 : Int) := of_decide_eq_true (by (assumption))
          have q315 : x52_4 < (y310.length : Int) := of_decide_eq_true (by (assumption))
          obtain ⟨ad315, e315, hx315_0⟩ := Kd.at_int (Kd.V_reads' HO_50.out).2.2 x52_4 p315 q315
          cases e315
          replace p315 := eq_true p315
          replace q315 := eq_true q315
          have p316 : 0 ≤ ((rd y310 x52_4) : Int) := of_decide_eq_true (by (assumption))
          have q316 : (rd y310 x52_4) < (x9_4.length : Int) := of_decide_eq_true (by (assumption))
          obtain ⟨ad316, e316, hx316_0⟩ := Kd.at_int (Kd.R_reads' HO_9.out).2.2 (rd y310 x52_4) p316 q316
          obtain rfl : (⟨go20, 0, none⟩ : Addr) = ad316 := (by injection e316)
          ((simp only [add_plain] at hx316_0))
          replace p316 := eq_true p316
          replace q316 := eq_true q316
          go_wp2
          (try simp only [← hl9_4])
          go_roundg k4
          case measure => have := HK1.out; have := HK2.out; have := HJ25.out; have := HK4.out; omega
          case rel => exact ⟨(x9_4), (wrap64 (x11_4 + 1)), (wrap64 (x52_4 + 1)), (by (rfl)), (by (rfl)), H', ⟨by have := HK1.out; have := HK2.out; have := HJ25.out; have := HK4.out; omega⟩, ⟨by (try simp only [hl9_1]); (try simp only [hl9_2]); (try simp only [hl9_4]); (with_reducible repeat (fail)); exact HO_9.out⟩, ⟨by (try simp only [hl9_1]); (try simp only [hl9_2]); (try simp only [hl9_4]); (with_reducible repeat (fail)); exact HO_50.out⟩, ⟨by (try simp only [hl9_1]); (try simp only [hl9_2]); (try simp only [hl9_4]); (with_reducible repeat (fail)); exact BK297.out⟩, ⟨by repeat ((with_reducible (exact HB.out)))⟩⟩
         rw [if_pos c42] at H
         have c42b0 : decide ((rd x9_4 (rd y310 x52_4)) < 0) = true := decide_eq_true c42
         clear c42
         obtain ⟨y317, hy317⟩ : ∃ y_ : List Int, y_ = (x9_4.set ((rd y310 x52_4) : Int).toNat (wrap64 (x11_4 + 1))) := ⟨_, rfl⟩
         replace H : (impl_Road_times.l2 k4 a3 y317 (wrap64 (x11_4 + 1)) (rd l2 x35_2) l2 (l2.length : Int) x35_2 y310 (y310.length : Int) (wrap64 (x52_4 + 1)) a0_0 a0_1) = some r := by (rw [hy317]; exact H)
         have Ny317 := Aside0.mk hy317
         clear hy317
         have H' := Aside0.mk H
         clear H
         have p315 : 0 ≤ (x52_4 : Int) := of_decide_eq_true (by (assumption))
         have q315 : x52_4 < (y310.length : Int) := of_decide_eq_true (by (assumption))
         obtain ⟨ad315, e315, hx315_0⟩ := Kd.at_int (Kd.V_reads' HO_50.out).2.2 x52_4 p315 q315
         cases e315
         replace p315 := eq_true p315
         replace q315 := eq_true q315
         have p316 : 0 ≤ ((rd y310 x52_4) : Int) := of_decide_eq_true (by (assumption))
         have q316 : (rd y310 x52_4) < (x9_4.length : Int) := of_decide_eq_true (by (assumption))
         obtain ⟨ad316, e316, hx316_0⟩ := Kd.at_int (Kd.R_reads' HO_9.out).2.2 (rd y310 x52_4) p316 q316
         obtain rfl : (⟨go20, 0, none⟩ : Addr) = ad316 := (by injection e316)
         ((simp only [add_plain] at hx316_0))
         replace p316 := eq_true p316
         replace q316 := eq_true q316
         have p43 : 0 ≤ ((rd y310 x52_4) : Int) := of_decide_eq_true (by (assumption))
         have q43 : ((rd y310 x52_4) : Int) < ((x9_4.length : Int) : Int) := of_decide_eq_true (by (assumption))
         obtain ⟨hx43_0, hf43_0⟩ := Kd.R_celln 0 HO_9.out ((rd y310 x52_4) : Int) p43 q43
         replace p43 := eq_true p43
         replace q43 := eq_true q43
         have HP44 := Kd.R_putg HO_9.out ((rd y310 x52_4) : Int) (wrap64 (x11_4 + 1))
         go_wp2_with (((refine gate_store (t := 3) (p := 66) rfl ?_); refine store_event (t := 3) (p := 66) (v := ?vo_w45) (w1 := (wr.setCell ⟨go20, ((rd y310 x52_4) : Int).toNat, none⟩ (.int .i64 (wrap64 (x11_4 + 1))))) ?hg ?ho ?hn ?hr ?_; (case ho => rfl); (case hg => rfl); (case hn => rfl); (case hr => (go_simp; done)); intro w45 hw; have hg : wr.grownBy w45 (some go20) := (by rw [hw]; exact HP44.2); have hp_ : Kd.R (Kd.int .i64) 3 w45 w.heap.size (fun _ => True) (.slice (some ⟨go20, 0, none⟩) x9_4.length co11) y317 := (by rw [hw, Ny317.out]; exact HP44.1); clear HP44; have n0_ := Aside0.mk (hp_); have n1_ := Aside0.mk (Kd.V_afterv (v := (.slice (some ⟨go20, 0, none⟩) x9_4.length co11)) (v1 := (.slice (some ⟨go20, 0, none⟩) x9_4.length co11)) (ok := (fun k_ => k_ ≠ gb297)) (by (with_reducible repeat (fail)); exact Kd.V_mono HO_50.out (fun _ hk => ⟨hk.2, hk.1⟩)) hg (.inl rfl)); have n2_ := Aside0.mk (blk_grown (g := gb297) (o := .cells #[.int .i64 a0_0, .bool a0_1] 25 (0, 0)) (by (with_reducible repeat (fail)); exact BK297.out) hg (Kd.R_ne HO_9.out BK297.out (by decide))); have n3_ := Aside0.mk ((by rw [hw]; exact below_set (HB.out) GB20.out : Below w.heap.size w w45)); clear HO_9; clear HO_50; clear BK297; clear HB; have HO_9 := n0_; have HO_50 := n1_; have BK297 := n2_; have HB := n3_; clear n0_ n1_ n2_ n3_; clear hg hw hp_))
         (try simp only [← hl9_4])
         go_roundg k4
         case measure => have := HK1.out; have := HK2.out; have := HJ25.out; have := HK4.out; omega
         case rel => exact ⟨(y317), (wrap64 (x11_4 + 1)), (wrap64 (x52_4 + 1)), (by (rfl)), (by (rfl)), H', ⟨by have := HK1.out; have := HK2.out; have := HJ25.out; have := HK4.out; omega⟩, ⟨by (try simp only [hl9_1]); (try simp only [hl9_2]); (try simp only [hl9_4]); (with_reducible repeat (fail)); exact HO_9.out⟩, ⟨by (try simp only [hl9_1]); (try simp only [hl9_2]); (try simp only [hl9_4]); (with_reducible repeat (fail)); exact Kd.V_mono HO_50.out (fun _ hk => ⟨hk.2, hk.1⟩)⟩, ⟨by (try simp only [hl9_1]); (try simp only [hl9_2]); (try simp only [hl9_4]); (with_reducible repeat (fail)); exact BK297.out⟩, ⟨by repeat ((with_reducible (exact HB.out)))⟩⟩

end Go.Proofs.Ytogflbocmiogpaa.PFnLoads
