-- Written for this claim by this session's turned copy of the printer.
import Derived.Test.YtogflbocmiogpaaPFnSearchesx0
import Derived.Test.YtogflbocmiogpaaPFnSearchesx2
namespace Go.Proofs.Ytogflbocmiogpaa.PFnSearches
open Go.RowKit Go.Proofs.YtogflbocmiogpaaW.PrintWords Go.Proofs.YtogflbocmiogpaaW.PrintLast Go.Proofs.YtogflbocmiogpaaW.PrintMore
attribute [local go_sem] max2_int min2_int max_two min_two max_three min_three max_four min_four   -- for this text's walks alone
set_option linter.unusedVariables false
set_option linter.unusedSimpArgs false

/-! ### impl_Road_times: function 77 -/
mutual
def impl_Road_times.l0 : Nat → Int → List Int → Int → List Int → Int → Int → Int → Bool → Option (List Int)
 | 0, _, _, _, _, _, _, _, _ => none
 | k + 1, x1, x2, x3, x9, x21, x22, x160000, x160001 => if x22 < x21 then (if 0 ≤ x22 then (if x22 < (x9.length : Int) then (impl_Road_times.l0 k x1 x2 x3 (x9.set (x22 : Int).toNat (-1)) x21 (wrap64 (x22 + 1)) x160000 x160001) else (none)) else (none)) else (if 0 ≤ x1 then (if x1 < (x9.length : Int) then (impl_Road_times.l1 k x3 (x9.set (x1 : Int).toNat 0) 0 x1 x2 (x2.length : Int) 0 x160000 x160001) else (none)) else (none))
def impl_Road_times.l1 : Nat → Int → List Int → Int → Int → List Int → Int → Int → Int → Bool → Option (List Int)
 | 0, _, _, _, _, _, _, _, _, _ => none
 | k + 1, x3, x9, x11, x12, x33, x34, x35, x160000, x160001 => if x35 < x34 then (if 0 ≤ x35 then (if x35 < (x33.length : Int) then (if x35 > 0 then (impl_Road_times.j2 k x3 x9 (wrap64 (x11 + x3)) x12 (rd x33 x35) x33 x34 x35 x160000 x160001) else (impl_Road_times.j2 k x3 x9 x11 x12 (rd x33 x35) x33 x34 x35 x160000 x160001)) else (none)) else (none)) else (some x9)
def impl_Road_times.j2 : Nat → Int → List Int → Int → Int → Int → List Int → Int → Int → Int → Bool → Option (List Int)
 | 0, _, _, _, _, _, _, _, _, _, _ => none
 | k + 1, x3, x9, x11, x12, x14, x33, x34, x35, x160000, x160001 => (impl_Road_straight.f k x160000 x160001 (([x12] : List Int)) x14).bind fun t169 => (if 1 ≤ (t169.length : Int) then ((some (t169.drop 1 : List Int)).bind fun y172 => (impl_Road_times.l2 k x3 x9 x11 x14 x33 x34 x35 y172 (y172.length : Int) 0 x160000 x160001)) else (none))
def impl_Road_times.l2 : Nat → Int → List Int → Int → Int → List Int → Int → Int → List Int → Int → Int → Int → Bool → Option (List Int)
 | 0, _, _, _, _, _, _, _, _, _, _, _, _ => none
 | k + 1, x3, x9, x11, x14, x33, x34, x35, x50, x51, x52, x160000, x160001 => if x52 < x51 then (if 0 ≤ x52 then (if x52 < (x50.length : Int) then (if 0 ≤ (rd x50 x52) then (if (rd x50 x52) < (x9.length : Int) then (if (rd x9 (rd x50 x52)) < 0 then (impl_Road_times.l2 k x3 (x9.set ((rd x50 x52) : Int).toNat (wrap64 (x11 + 1))) (wrap64 (x11 + 1)) x14 x33 x34 x35 x50 x51 (wrap64 (x52 + 1)) x160000 x160001) else (impl_Road_times.l2 k x3 x9 (wrap64 (x11 + 1)) x14 x33 x34 x35 x50 x51 (wrap64 (x52 + 1)) x160000 x160001)) else (none)) else (none)) else (none)) else (none)) else (impl_Road_times.l1 k x3 x9 x11 x14 x33 x34 (wrap64 (x35 + 1)) x160000 x160001)
end
def impl_Road_times.f (k : Nat) (a0_0 : Int) (a0_1 : Bool) (a1 : Int) (l2 : List Int) (a3 : Int) : Option (List Int) := if 0 ≤ a0_0 then (if (a0_0 : Int).toNat ≤ 35184372088832 then ((some (List.replicate (a0_0 : Int).toNat 0 : List Int)).bind fun y160 => (impl_Road_times.l0 k a1 l2 a3 y160 (y160.length : Int) 0 a0_0 a0_1)) else (none)) else (none)
set_option maxHeartbeats 8000000 in
set_option maxRecDepth 100000 in
theorem impl_Road_times.calls (k : Nat) (a0_0 : Int) (a0_1 : Bool) (a1 : Int) (A2 : Option Addr) (c2 : Nat) (l2 : List Int) (a3 : Int) (r : List Int) (w : World) (hr2 : Kd.C (Kd.int .i64) w A2 l2.length l2) (hc2 : l2.length ≤ c2) (h : impl_Road_times.f k a0_0 a0_1 a1 l2 a3 = some r) :
  Calls Try.prog 77 #[.agg #[.int .i64 a0_0, .bool a0_1], .int .i64 a1, .slice A2 l2.length c2, .int .i64 a3] w fun e w' => ∃ v0_ : Value, e = .returned (v0_) ∧ Kd.R (Kd.int .i64) 3 w' w.heap.size (fun _ => True) v0_ r ∧ Below w.heap.size w w' := by
 have hu25 := Try.underlying25
 have HR2 := Aside0.mk hr2
 have HC2 := Aside0.mk hc2
 clear hr2 hc2
 have HB := Aside0.mk (Below.refl w.heap.size w)
 have H : (if 0 ≤ a0_0 then (if (a0_0 : Int).toNat ≤ 35184372088832 then ((some (List.replicate (a0_0 : Int).toNat 0 : List Int)).bind fun y160 => (impl_Road_times.l0 k a1 l2 a3 y160 (y160.length : Int) 0 a0_0 a0_1)) else (none)) else (none)) = some r := h
 clear h
 by_cases c5 : 0 ≤ a0_0
 ·rw [if_pos c5] at H
  have c5b0 := eq_true c5
  have c5b1 : decide (0 ≤ a0_0) = true := decide_eq_true c5
  clear c5
  by_cases c6 : (a0_0 : Int).toNat ≤ 35184372088832
  ·rw [if_pos c6] at H
   have c6b0 := eq_true c6
   have c6b1 : decide ((a0_0 : Int).toNat ≤ 35184372088832) = true := decide_eq_true c6
   clear c6
   obtain ⟨y160, hy160⟩ : ∃ y_ : List Int, y_ = (List.replicate (a0_0 : Int).toNat 0) := ⟨_, rfl⟩
   replace H : (impl_Road_times.l0 k a1 l2 a3 y160 (y160.length : Int) 0 a0_0 a0_1) = some r := by (have H2_ := (Option.bind_some _ _).symm.trans H; rw [hy160]; with_reducible exact H2_)
   have Ny160 := Aside0.mk hy160
   clear hy160
   have H' := Aside0.mk H
   clear H
   go_enter Try.func77, Try.ntmps77
   go_wp2_with (first | ((with_reducible refine gate_dst (N := 4) rfl ?_); refine box_event ?hg (N := 4) ?hd (cs := #[.int .i64 a0_0, .bool a0_1]) (t := 25) ?hr ?_; (case hd => rfl); (case hg => rfl); (case hr => (go_simp; done)); intro gb159 hg w7 hbox hb; have n0_ := Aside0.mk (below_step (by repeat ((with_reducible (exact HB.out)))) hb); have n1_ := Aside0.mk (hbox); have n2_ := Aside0.mk ((by rw [hg]; exact (below_size (by repeat ((with_reducible (exact HB.out))))) : w.heap.size ≤ gb159)); have n3_ := Aside0.mk ((by rw [hg]; exact (below_size (by repeat ((with_reducible (exact HB.out))))) : w.heap.size ≤ gb159)); clear HB; have HB := n0_; have BK159 := n1_; have GW159 := n2_; have GE159 := n3_; clear n0_ n1_ n2_ n3_; clear hb hbox hg; have hcz8_0 : w7.cell? ⟨gb159, 0, none⟩ = some (.int .i64 a0_0) := (blk_cell BK159.out 0).trans rfl; have hcz8_1 : w7.cell? ⟨gb159, 1, none⟩ = some (.bool a0_1) := (blk_cell BK159.out 1).trans rfl; have hfz8_0 := blk_frozen BK159.out 0; have hfz8_1 := blk_frozen BK159.out 1) | ((with_reducible refine gate_dst (N := 19) rfl ?_); refine Kd.R_make (Kd.int .i64) _ 3 rfl (N := 19) rfl 30 _ _ rfl a0_0 rfl rfl Try.underlying30 (.int .i64 0) 8 info3 rfl (by decide) (by omega) 0 (ok := fun _ => True) (okp := fun _ => True) rfl (fun _ hk => hk) trivial (of_decide_eq_true (by (with_reducible assumption))) (Nat.le_trans (Nat.mul_le_mul_right _ (of_decide_eq_true (by (with_reducible assumption)) : a0_0.toNat ≤ 35184372088832)) (by omega)) (Below.refl _ _) (Nat.le_refl _) ?_; intro v161 w9 ho10 hb hg_ hnew_; clear hg_ hnew_; ((rw [← Ny160.out] at ho10)); have n0_ := Aside0.mk (Kd.R_lower ho10 (below_size (by repeat ((with_reducible (exact HB.out)))))); have n1_ := Aside0.mk (blk_below (g := gb159) (o := .cells #[.int .i64 a0_0, .bool a0_1] 25 (0, 0)) (by (with_reducible repeat (fail)); exact BK159.out) hb); have n2_ := Aside0.mk (below_step (by repeat ((with_reducible (exact HB.out)))) hb); clear BK159; clear HB; have HO162 := n0_; have BK159 := n1_; have HB := n2_; clear n0_ n1_ n2_; clear hb ho10; obtain ⟨Ao11, co11, eo11⟩ := Kd.R_slice HO162.out; subst eo11))
   go_loopg [22] k (fun kq v22 w' => ∃ (x9_1 : List Int) (x22_1 : Int), v22 = .int .i64 x22_1 ∧ Aside0 (impl_Road_times.l0 kq a1 l2 a3 x9_1 (y160.length : Int) x22_1 a0_0 a0_1 = some r) ∧ Aside0 (kq ≤ k) ∧ Aside0 (Kd.R (Kd.int .i64) 3 w' w.heap.size (fun _ => True) (.slice Ao11 y160.length co11) x9_1) ∧ Aside0 (w'.heap[gb159]? = some (.cells #[.int .i64 a0_0, .bool a0_1] 25 (0, 0))) ∧ Aside0 (Below w.heap.size w w'))
   case atStart => exact ⟨(y160), (0), (by (rfl)), H', ⟨Nat.le_refl _⟩, ⟨by (with_reducible repeat (fail)); exact HO162.out⟩, ⟨by (with_reducible repeat (fail)); exact BK159.out⟩, ⟨by repeat ((with_reducible (exact HB.out)))⟩⟩
   case round =>
    clear H'
    (try clear c2); (try clear p2); (try clear c5); (try clear c5b0); (try clear c5b1); (try clear c6); (try clear c6b0); (try clear c6b1); (try clear c7); (try clear hcz8_0); (try clear hcz8_1); (try clear hfz8_0); (try clear hfz8_1)
    obtain ⟨x9_1, x22_1, rfl, HA, HK1, HO_9, BK159, HB⟩ := hrel
    have hl9_1 := (Kd.R_reads' HO_9.out).1
    rw [hl9_1] at HO_9
    (try simp only [hl9_1])
    (try simp only [hl9_1] at BK159)
    cases gk with
    | zero => exact absurd HA.out (by simp [impl_Road_times.l0])
    | succ k1 =>
     have H := HA.out
     clear HA
     simp only [impl_Road_times.l0] at H
     by_cases c12 : x22_1 < (y160.length : Int)
     ·rw [if_pos c12] at H
      have c12b0 : decide (x22_1 < (y160.length : Int)) = true := decide_eq_true c12
      (try (have c12b0h := c12b0; simp only [hl9_1] at c12b0h))
      clear c12
      by_cases c13 : 0 ≤ x22_1
      ·rw [if_pos c13] at H
       have c13b0 : decide (0 ≤ x22_1) = true := decide_eq_true c13
       clear c13
       by_cases c14 : x22_1 < (x9_1.length : Int)
       ·rw [if_pos c14] at H
        have c14b0 : decide (x22_1 < (x9_1.length : Int)) = true := decide_eq_true c14
        (try (have c14b0h := c14b0; simp only [hl9_1] at c14b0h))
        clear c14
        obtain ⟨y163, hy163⟩ : ∃ y_ : List Int, y_ = (x9_1.set (x22_1 : Int).toNat (-1)) := ⟨_, rfl⟩
        replace H : (impl_Road_times.l0 k1 a1 l2 a3 y163 (y160.length : Int) (wrap64 (x22_1 + 1)) a0_0 a0_1) = some r := by (rw [hy163]; with_reducible exact H)
        have Ny163 := Aside0.mk hy163
        clear hy163
        have H' := Aside0.mk H
        clear H
        have p15 : 0 ≤ (x22_1 : Int) := of_decide_eq_true (by (with_reducible assumption))
        have q15 : (x22_1 : Int) < ((x9_1.length : Int) : Int) := of_decide_eq_true (by (with_reducible assumption))
        obtain ⟨go15, co15, eo15, gb15, gl15, cl15, HG15⟩ := Kd.R_form HO_9.out (by omega)
        ((cases eo15))
        have GB15 := Aside0.mk gb15
        have GG15 := Aside0.mk HG15
        clear gb15 gl15 HG15
        obtain ⟨hx15_0, hf15_0⟩ := Kd.R_celln 0 HO_9.out (x22_1 : Int) p15 q15
        replace p15 := eq_true p15
        replace q15 := eq_true q15
        have HP16 := Kd.R_putg HO_9.out (x22_1 : Int) (-1)
        go_wp2_with (((with_reducible refine gate_store (t := 3) (p := 27) rfl ?_); refine store_event (t := 3) (p := 27) (v := ?vo_w17) (w1 := (wr.setCell ⟨go15, (x22_1 : Int).toNat, none⟩ (.int .i64 (-1)))) ?hg ?ho ?hn ?hr ?_; (case ho => rfl); (case hg => rfl); (case hn => rfl); (case hr => (go_simp; done)); intro w17 hw; have hg : wr.grownBy w17 (some go15) := (by rw [hw]; exact HP16.2); have hp_ : Kd.R (Kd.int .i64) 3 w17 w.heap.size (fun _ => True) (.slice (some ⟨go15, 0, none⟩) x9_1.length co11) y163 := (by rw [hw, Ny163.out]; exact HP16.1); clear HP16; have n0_ := Aside0.mk (hp_); have n1_ := Aside0.mk (blk_grown (g := gb159) (o := .cells #[.int .i64 a0_0, .bool a0_1] 25 (0, 0)) (by (with_reducible repeat (fail)); exact BK159.out) hg (Kd.R_ne HO_9.out BK159.out (by decide))); have n2_ := Aside0.mk ((by rw [hw]; exact below_set (HB.out) GB15.out : Below w.heap.size w w17)); clear HO_9; clear BK159; clear HB; have HO_9 := n0_; have BK159 := n1_; have HB := n2_; clear n0_ n1_ n2_; clear hg hw hp_))
        (try simp only [← hl9_1])
        go_roundg k1
        case measure => have := HK1.out; omega
        case rel => exact ⟨(y163), (wrap64 (x22_1 + 1)), (by (rfl)), H', ⟨by have := HK1.out; omega⟩, ⟨by (try simp only [hl9_1]); (with_reducible repeat (fail)); exact HO_9.out⟩, ⟨by (try simp only [hl9_1]); (with_reducible repeat (fail)); exact BK159.out⟩, ⟨by repeat ((with_reducible (exact HB.out)))⟩⟩
       ·rw [if_neg c14] at H
        exact absurd H (by simp)
      ·rw [if_neg c13] at H
       exact absurd H (by simp)
     ·rw [if_neg c12] at H
      have c12b0 : decide (x22_1 < (y160.length : Int)) = false := decide_eq_false c12
      (try (have c12b0h := c12b0; simp only [hl9_1] at c12b0h))
      clear c12
      by_cases c18 : 0 ≤ a1
      ·rw [if_pos c18] at H
       have c18b0 : decide (0 ≤ a1) = true := decide_eq_true c18
       clear c18
       by_cases c19 : a1 < (x9_1.length : Int)
       ·rw [if_pos c19] at H
        have c19b0 : decide (a1 < (x9_1.length : Int)) = true := decide_eq_true c19
        (try (have c19b0h := c19b0; simp only [hl9_1] at c19b0h))
        clear c19
        obtain ⟨y164, hy164⟩ : ∃ y_ : List Int, y_ = (x9_1.set (a1 : Int).toNat 0) := ⟨_, rfl⟩
        replace H : (impl_Road_times.l1 k1 a3 y164 0 a1 l2 (l2.length : Int) 0 a0_0 a0_1) = some r := by (rw [hy164]; with_reducible exact H)
        have Ny164 := Aside0.mk hy164
        clear hy164
        have H' := Aside0.mk H
        clear H
        have p20 : 0 ≤ (a1 : Int) := of_decide_eq_true (by (with_reducible assumption))
        have q20 : (a1 : Int) < ((x9_1.length : Int) : Int) := of_decide_eq_true (by (with_reducible assumption))
        obtain ⟨go20, co20, eo20, gb20, gl20, cl20, HG20⟩ := Kd.R_form HO_9.out (by omega)
        ((cases eo20))
        have GB20 := Aside0.mk gb20
        have GG20 := Aside0.mk HG20
        clear gb20 gl20 HG20
        obtain ⟨hx20_0, hf20_0⟩ := Kd.R_celln 0 HO_9.out (a1 : Int) p20 q20
        replace p20 := eq_true p20
        replace q20 := eq_true q20
        have HP21 := Kd.R_putg HO_9.out (a1 : Int) 0
        go_wp2_with (((with_reducible refine gate_store (t := 3) (p := 31) rfl ?_); refine store_event (t := 3) (p := 31) (v := ?vo_w22) (w1 := (wr.setCell ⟨go20, (a1 : Int).toNat, none⟩ (.int .i64 0))) ?hg ?ho ?hn ?hr ?_; (case ho => rfl); (case hg => rfl); (case hn => rfl); (case hr => (go_simp; done)); intro w22 hw; have hg : wr.grownBy w22 (some go20) := (by rw [hw]; exact HP21.2); have hp_ : Kd.R (Kd.int .i64) 3 w22 w.heap.size (fun _ => True) (.slice (some ⟨go20, 0, none⟩) x9_1.length co11) y164 := (by rw [hw, Ny164.out]; exact HP21.1); clear HP21; have n0_ := Aside0.mk (hp_); have n1_ := Aside0.mk (blk_grown (g := gb159) (o := .cells #[.int .i64 a0_0, .bool a0_1] 25 (0, 0)) (by (with_reducible repeat (fail)); exact BK159.out) hg (Kd.R_ne HO_9.out BK159.out (by decide))); have n2_ := Aside0.mk ((by rw [hw]; exact below_set (HB.out) GB20.out : Below w.heap.size w w22)); clear HO_9; clear BK159; clear HB; have HO_9 := n0_; have BK159 := n1_; have HB := n2_; clear n0_ n1_ n2_; clear hg hw hp_))
        go_loopg [11, 12, 35] k1 (fun kq v11 v12 v35 w' => ∃ (x9_2 : List Int) (x11_2 : Int) (x12_2 : Int) (x35_2 : Int), v11 = .int .i64 x11_2 ∧ v12 = .int .i64 x12_2 ∧ v35 = .int .i64 x35_2 ∧ Aside0 (impl_Road_times.l1 kq a3 x9_2 x11_2 x12_2 l2 (l2.length : Int) x35_2 a0_0 a0_1 = some r) ∧ Aside0 (kq ≤ k1) ∧ Aside0 (Kd.R (Kd.int .i64) 3 w' w.heap.size (fun _ => True) (.slice (some ⟨go20, 0, none⟩) x9_1.length co11) x9_2) ∧ Aside0 (w'.heap[gb159]? = some (.cells #[.int .i64 a0_0, .bool a0_1] 25 (0, 0))) ∧ Aside0 (Below w.heap.size w w'))
        case atStart => exact ⟨(y164), (0), (a1), (0), (by (rfl)), (by (rfl)), (by (rfl)), H', ⟨Nat.le_refl _⟩, ⟨by (try simp only [hl9_1]); (with_reducible repeat (fail)); exact HO_9.out⟩, ⟨by (try simp only [hl9_1]); (with_reducible repeat (fail)); exact BK159.out⟩, ⟨by repeat ((with_reducible (exact HB.out)))⟩⟩
        case round =>
         clear H'
         (try clear c1); (try clear p1); (try clear q1); (try clear hx1); (try clear c2); (try clear p2); (try clear q2); (try clear hx2); (try clear c5); (try clear c5b0); (try clear c5b1); (try clear c6); (try clear c6b0); (try clear c6b1); (try clear p6); (try clear c7); (try clear c12); (try clear c12b0)
         (try clear c13); (try clear c13b0); (try clear c14); (try clear c14b0); (try clear p15); (try clear q15); (try clear hx15); (try clear hf15); (try clear c18); (try clear c18b0); (try clear c19); (try clear c19b0); (try clear p20); (try clear q20); (try clear hx20); (try clear hf20); (try clear hcz8_0)
         (try clear hcz8_1); (try clear hfz8_0); (try clear hfz8_1); (try clear hx15_0); (try clear hx20_0); (try clear p15); (try clear p2); (try clear p20); (try clear q15); (try clear q20)
         obtain ⟨x9_2, x11_2, x12_2, x35_2, rfl, rfl, rfl, HA, HK2, HO_9, BK159, HB⟩ := hrel
         have hl9_2 := (Kd.R_reads' HO_9.out).1
         rw [hl9_2] at HO_9
         (try simp only [hl9_2])
         (try simp only [hl9_2] at BK159)
         cases gk with
         | zero => exact absurd HA.out (by simp [impl_Road_times.l1])
         | succ k2 =>
          have H := HA.out
          clear HA
          simp only [impl_Road_times.l1] at H
          by_cases c23 : x35_2 < (l2.length : Int)
          ·rw [if_pos c23] at H
           have c23b0 : decide (x35_2 < (l2.length : Int)) = true := decide_eq_true c23
           (try (have c23b0h := c23b0; simp only [hl9_1, hl9_2] at c23b0h))
           clear c23
           by_cases c24 : 0 ≤ x35_2
           ·rw [if_pos c24] at H
            have c24b0 : decide (0 ≤ x35_2) = true := decide_eq_true c24
            clear c24
            by_cases c25 : x35_2 < (l2.length : Int)
            ·rw [if_pos c25] at H
             have c25b0 : decide (x35_2 < (l2.length : Int)) = true := decide_eq_true c25
             (try (have c25b0h := c25b0; simp only [hl9_1, hl9_2] at c25b0h))
             clear c25
             have HC26 := Aside0.mk H
             clear H
             have p165 : 0 ≤ (x35_2 : Int) := of_decide_eq_true (by (with_reducible assumption))
             have q165 : x35_2 < (l2.length : Int) := of_decide_eq_true (by (with_reducible assumption))
             obtain ⟨ad165, e165, hx165_0⟩ := Kd.at_int HR2.out x35_2 p165 q165
             cases e165
             replace hx165_0 := (HB.out.cell (World.block_lt_of_cell? w _ hx165_0)).trans hx165_0
             replace p165 := eq_true p165
             replace q165 := eq_true q165
             go_upto_if 41 with (fail)
             go_cut [11] (fun v11 wc => ∃ (kq : Nat) (x11_25 : Int), v11 = .int .i64 x11_25 ∧ Aside0 (impl_Road_times.j2 kq a3 x9_2 x11_25 x12_2 (rd l2 x35_2) l2 (l2.length : Int) x35_2 a0_0 a0_1 = some r) ∧ Aside0 (kq ≤ k2) ∧ Aside0 (Kd.R (Kd.int .i64) 3 wc w.heap.size (fun _ => True) (.slice (some ⟨go20, 0, none⟩) x9_2.length co11) x9_2) ∧ Aside0 (wc.heap[gb159]? = some (.cells #[.int .i64 a0_0, .bool a0_1] 25 (0, 0))) ∧ Aside0 (Below w.heap.size w wc))
             case first =>
              have H := HC26.out
              clear HC26
              by_cases c27 : x35_2 > 0
              ·rw [if_pos c27] at H
               have c27b0 : decide (0 < x35_2) = true := decide_eq_true c27
               clear c27
               ((rw [c27b0]))
               have H' := Aside0.mk H
               clear H
               go_wp2
               go_meet
               case rel => exact ⟨_, (wrap64 (x11_2 + a3)), (by (rfl)), H', ⟨by have := HK1.out; have := HK2.out; (omega)⟩, ⟨by (try simp only [hl9_1]); (try simp only [hl9_2]); (with_reducible repeat (fail)); exact HO_9.out⟩, ⟨by (try simp only [hl9_1]); (try simp only [hl9_2]); (with_reducible repeat (fail)); exact BK159.out⟩, ⟨by repeat ((with_reducible (exact HB.out)))⟩⟩
              ·rw [if_neg c27] at H
               have c27b0 : decide (0 < x35_2) = false := decide_eq_false c27
               clear c27
               ((rw [c27b0]))
               have H' := Aside0.mk H
               clear H
               go_wp2
               go_meet
               case rel => exact ⟨_, (x11_2), (by (rfl)), H', ⟨by have := HK1.out; have := HK2.out; (omega)⟩, ⟨by (try simp only [hl9_1]); (try simp only [hl9_2]); (with_reducible repeat (fail)); exact HO_9.out⟩, ⟨by (try simp only [hl9_1]); (try simp only [hl9_2]); (with_reducible repeat (fail)); exact BK159.out⟩, ⟨by repeat ((with_reducible (exact HB.out)))⟩⟩
             case rest =>
              clear HC26
              (try clear c1); (try clear p1); (try clear q1); (try clear hx1); (try clear c2); (try clear p2); (try clear q2); (try clear hx2); (try clear c5); (try clear c5b0); (try clear c5b1); (try clear c6); (try clear c6b0); (try clear c6b1); (try clear p6); (try clear c7); (try clear c12); (try clear c12b0)
              (try clear c13); (try clear c13b0); (try clear c14); (try clear c14b0); (try clear p15); (try clear q15); (try clear hx15); (try clear hf15); (try clear p16); (try clear q16); (try clear hx16); (try clear c18); (try clear c18b0); (try clear c19); (try clear c19b0); (try clear p20); (try clear q20)
              (try clear hx20); (try clear hf20); (try clear c23); (try clear c23b0); (try clear c24); (try clear c24b0); (try clear c25); (try clear c25b0); (try clear c27); (try clear c27b0); (try clear hcz8_0); (try clear hcz8_1); (try clear hfz8_0); (try clear hfz8_1); (try clear hx15_0); (try clear hx165_0)
              (try clear hx20_0); (try clear p1); (try clear p15); (try clear p165); (try clear p2); (try clear p20); (try clear p6); (try clear q1); (try clear q15); (try clear q165); (try clear q2); (try clear q20)
              obtain ⟨kq, x11_25, rfl, HA, HJ25, HO_9, BK159, HB⟩ := hcut
              cases kq with
              | zero => exact absurd HA.out (by simp [impl_Road_times.j2])
              | succ kj25 =>
               have H := HA.out
               clear HA
               simp only [impl_Road_times.j2] at H
               obtain ⟨y166, hy166⟩ : ∃ y_ : List Int, y_ = (([x12_2] : List Int)) := ⟨_, rfl⟩
               replace H : ((impl_Road_straight.f kj25 a0_0 a0_1 y166 (rd l2 x35_2)).bind fun t169 => (if 1 ≤ (t169.length : Int) then ((some (t169.drop 1 : List Int)).bind fun y172 => (impl_Road_times.l2 kj25 a3 x9_2 x11_25 (rd l2 x35_2) l2 (l2.length : Int) x35_2 y172 (y172.length : Int) 0 a0_0 a0_1)) else (none))) = some r := by (rw [hy166]; with_reducible exact H)
               have Ny166 := Aside0.mk hy166
               clear hy166
               replace H := Option.bind_eq_some_iff.mp H
               obtain ⟨t169, A280, H⟩ := H
               try dsimp only at H
               have A28 := Aside0.mk A280
               clear A280
               by_cases c29 : 1 ≤ (t169.length : Int)
               ·rw [if_pos c29] at H
                have c29b0 := eq_true c29
                have c29b1 : decide (1 ≤ (t169.length : Int)) = true := decide_eq_true c29
                clear c29
                obtain ⟨y172, hy172⟩ : ∃ y_ : List Int, y_ = (t169.drop 1) := ⟨_, rfl⟩
                replace H : (impl_Road_times.l2 kj25 a3 x9_2 x11_25 (rd l2 x35_2) l2 (l2.length : Int) x35_2 y172 (y172.length : Int) 0 a0_0 a0_1) = some r := by (have H2_ := (Option.bind_some _ _).symm.trans H; rw [hy172]; with_reducible exact H2_)
                have Ny172 := Aside0.mk hy172
                clear hy172
                have H' := Aside0.mk H
                clear H
                have hcz30_0 : wc.cell? ⟨gb159, 0, none⟩ = some (.int .i64 a0_0) := (blk_cell BK159.out 0).trans rfl
                have hcz30_1 : wc.cell? ⟨gb159, 1, none⟩ = some (.bool a0_1) := (blk_cell BK159.out 1).trans rfl
                have hfz30_0 := blk_frozen BK159.out 0
                have hfz30_1 := blk_frozen BK159.out 1
                go_wp2_with (first | ((with_reducible refine gate_dst (N := 47) rfl ?_); refine Kd.R_lit (Kd.int .i64) _ 3 ?hg (N := 47) ?hd (xs := ([x12_2] : List Int)) (inner := [.int .i64 x12_2]) (ok := fun _ => True) (okp := fun _ => True) ?hr ?hp (fun _ hk => hk) trivial (Below.refl _ _) (Nat.le_refl _) (by simp) ?_; (case hd => rfl); (case hg => rfl); (case hr => (go_simp; done)); (case hp => exact (Reps.one (show Kd.M (Kd.int .i64) _ _ _ x12_2 [.int .i64 x12_2] from rfl) (Reps.none _ _))); intro v167 w31 ho32 hb hg_ hnew_; clear hg_ hnew_; ((rw [← Ny166.out] at ho32)); have n0_ := Aside0.mk (Kd.R_elder' (by (with_reducible repeat (fail)); exact HO_9.out) (Kd.R_base ho32) hb); have n1_ := Aside0.mk (Kd.R_lower (Kd.R_new' ho32 (Kd.R_lt (by (with_reducible repeat (fail)); exact HO_9.out))) (below_size (by repeat ((with_reducible (exact HB.out)))))); have n2_ := Aside0.mk (blk_below (g := gb159) (o := .cells #[.int .i64 a0_0, .bool a0_1] 25 (0, 0)) (by (with_reducible repeat (fail)); exact BK159.out) hb); have n3_ := Aside0.mk (below_step (by repeat ((with_reducible (exact HB.out)))) hb); clear HO_9; clear BK159; clear HB; have HO_9 := n0_; have HO168 := n1_; have BK159 := n2_; have HB := n3_; clear n0_ n1_ n2_ n3_; clear hb ho32; obtain ⟨Ao33, co33, eo33⟩ := Kd.R_slice HO168.out; subst eo33) | ((with_reducible refine gate_callee (f := 65) rfl ?_); refine goesL_ (some 49) rfl rfl Try.func65 (by kernel_rfl) rfl #[.agg #[.int .i64 a0_0, .bool a0_1], .slice Ao33 y166.length co33, .int .i64 (rd l2 x35_2)] rfl (by (try simp only [List.map_toArray, List.map_cons, List.map_nil]); (rfl)) ?_; (with_reducible refine (impl_Road_straight.calls kj25 a0_0 a0_1 (fun k_ => some k_ = (.slice Ao33 y166.length co33 : Value).ownBlock) (.slice Ao33 y166.length co33) y166 (rd l2 x35_2) t169 w _ ?side1 ?side2 A28.out).mono ?_); (case side1 => repeat ((with_reducible (exact HB.out)))); (case side2 => exact Kd.R_tight rfl HO168.out); rintro e w34 ⟨v170, rfl, ho0, hb, hkp⟩; refine ⟨_, rfl, ?_⟩; have n0_ := Aside0.mk (Kd.R_mono (ok' := fun k_ => some k_ ≠ (v170 : Value).ownBlock) (Kd.R_keptB (HO_9.out) hkp (fun k_ hk_ hs_ => (hk_.2) hs_)) (fun k_ hk_ => fun e_ => Or.elim (ho0.1 k_ e_.symm) (fun hs_ => hk_.2.1 hs_) (fun hn_ => Nat.not_le.2 hk_.2.2 hn_))); have n1_ := Aside0.mk (blk_kept (by (with_reducible repeat (fail)); exact BK159.out) hkp (fun hs_ => (fun e_ => (Kd.R_ne HO168.out BK159.out (by decide)) e_) hs_)); have n2_ := Aside0.mk (Kd.R_mono (ok' := fun k_ => some k_ ≠ (.slice (some ⟨go20, 0, none⟩) x9_2.length co11 : Value).ownBlock) ho0 (fun k_ hk_ => Or.elim hk_ (fun hs_ => fun e_ => (((HO_9.out).1 k_ e_.symm).2) hs_) (fun hn_ => (Kd.fresh' (Kd.R_lt (by (with_reducible repeat (fail)); exact HO_9.out)) k_ hn_)))); have n3_ := Aside0.mk (hb); clear HO_9; clear BK159; clear HB; clear HO168; have HO_9 := n0_; have BK159 := n1_; have HO171 := n2_; have HB := n3_; clear n0_ n1_ n2_ n3_; (try clear hb); (try clear hkp); (try clear ho0); obtain ⟨Ao36, co36, eo36⟩ := Kd.R_slice HO171.out; subst eo36; have q35 : (1 : Int) ≤ ((t169.length : Int) : Int) := of_decide_eq_true (by (with_reducible assumption)); obtain ⟨i035, hi035, _, hsz35, _⟩ := info_parts info3; have hroom35 : t169.length ≤ co36 := (Kd.R_reads' HO171.out).2.1; have hC35 : Kd.F (Kd.int .i64) _ _ Ao36 t169.length t169 := (Kd.V_at (base := w.heap.size) (Kd.R_V (Kd.R_types (HO171.out) BK159.out (by decide)))).2.2; have hcut35 := cut_from (P := Try.prog) 30 3 .i64 Try.underlying30 hi035 1 hsz35 Ao36 t169.length co36 1 (by omega) q35; have hr35 := Kd.F_cut (m := (1 : Int).toNat) (c := co36) hC35 (by omega) hroom35; obtain ⟨A35, hA35⟩ : ∃ A_x, A_x = (if co36 = (1 : Int).toNat then Ao36 else (Ao36 : Option Addr).map (·.add ((1 : Int).toNat * 1))) := ⟨_, rfl⟩; obtain ⟨c35, hc35⟩ : ∃ c_x, c_x = co36 - (1 : Int).toNat := ⟨_, rfl⟩; have hy35 : y172.length = t169.length - (1 : Int).toNat := (by rw [Ny172.out, List.length_drop] <;> omega); rw [show (t169).drop (1 : Int).toNat = y172 from Ny172.out.symm] at hr35; replace hr35 : Kd.F (Kd.int .i64) _ _ A35 y172.length y172 := (by rw [hA35]; exact hr35); rw [← hy35, ← hA35, ← hc35] at hcut35; have HO176 := Aside0.mk (show Kd.V (Kd.int .i64) 3 _ w.heap.size _ (.slice A35 y172.length c35) y172 from Kd.V_mk (by rw [hy35, hc35]; exact Nat.sub_le_sub_right hroom35 _) hr35); have HC176 := Aside0.mk (show y172.length ≤ c35 from by rw [hy35, hc35]; exact Nat.sub_le_sub_right hroom35 _); clear hr35 hC35 hroom35 hi035 hsz35 hc35; have KY35 := Aside0.mk hy35; have KA35 := Aside0.mk hA35; clear hy35 hA35; replace q35 := eq_true q35))
                go_loopg [11, 52] kj25 (fun kq v11 v52 w' => ∃ (x9_4 : List Int) (x11_4 : Int) (x52_4 : Int), v11 = .int .i64 x11_4 ∧ v52 = .int .i64 x52_4 ∧ Aside0 (impl_Road_times.l2 kq a3 x9_4 x11_4 (rd l2 x35_2) l2 (l2.length : Int) x35_2 y172 (y172.length : Int) x52_4 a0_0 a0_1 = some r) ∧ Aside0 (kq ≤ kj25) ∧ Aside0 (Kd.R (Kd.int .i64) 3 w' w.heap.size (fun _ => True) (.slice (some ⟨go20, 0, none⟩) x9_2.length co11) x9_4) ∧ Aside0 (Kd.V (Kd.int .i64) 3 w' w.heap.size (fun k_ => some k_ ≠ ((.slice (some ⟨go20, 0, none⟩) x9_2.length co11) : Value).ownBlock ∧ k_ ≠ gb159) (.slice A35 y172.length c35) y172) ∧ Aside0 (w'.heap[gb159]? = some (.cells #[.int .i64 a0_0, .bool a0_1] 25 (0, 0))) ∧ Aside0 (Below w.heap.size w w'))
                case atStart => exact ⟨(x9_2), (x11_25), (0), (by (rfl)), (by (rfl)), H', ⟨Nat.le_refl _⟩, ⟨by (try simp only [hl9_1]); (try simp only [hl9_2]); (with_reducible repeat (fail)); exact Kd.R_mono HO_9.out (fun _ hk => trivial)⟩, ⟨by (try simp only [hl9_1]); (try simp only [hl9_2]); (with_reducible repeat (fail)); exact HO176.out⟩, ⟨by (try simp only [hl9_1]); (try simp only [hl9_2]); (with_reducible repeat (fail)); exact BK159.out⟩, ⟨by repeat ((with_reducible (exact HB.out)))⟩⟩
                case round =>
                 clear H'
                 (try clear c1); (try clear p1); (try clear q1); (try clear hx1); (try clear c2); (try clear p2); (try clear q2); (try clear hx2); (try clear c3); (try clear q3); (try clear c5); (try clear c5b0); (try clear c5b1); (try clear c6); (try clear c6b0); (try clear c6b1); (try clear p6); (try clear c7)
                 (try clear c12); (try clear c12b0); (try clear c13); (try clear c13b0); (try clear c14); (try clear c14b0); (try clear p15); (try clear q15); (try clear hx15); (try clear hf15); (try clear p16); (try clear q16); (try clear hx16); (try clear c18); (try clear c18b0); (try clear c19); (try clear c19b0)
                 (try clear p20); (try clear q20); (try clear hx20); (try clear hf20); (try clear c23); (try clear c23b0); (try clear c24); (try clear c24b0); (try clear c25); (try clear c25b0); (try clear c27); (try clear c27b0); (try clear c29); (try clear c29b0); (try clear c29b1); (try clear c35)
                 (try clear q35); (try clear hcz30_0); (try clear hcz30_1); (try clear hcz8_0); (try clear hcz8_1); (try clear hfz30_0); (try clear hfz30_1); (try clear hfz8_0); (try clear hfz8_1); (try clear hx15_0); (try clear hx165_0); (try clear hx20_0); (try clear p1); (try clear p15); (try clear p16)
                 (try clear p165); (try clear p2); (try clear p20); (try clear p6); (try clear q1); (try clear q15); (try clear q16); (try clear q165); (try clear q2); (try clear q20); (try clear q35)
                 obtain ⟨x9_4, x11_4, x52_4, rfl, rfl, HA, HK4, HO_9, HO_50, BK159, HB⟩ := hrel
                 have hl9_4 := (Kd.R_reads' HO_9.out).1
                 rw [hl9_4] at HO_9
                 (try simp only [hl9_4])
                 (try simp only [hl9_4] at BK159)
                 (try simp only [hl9_4] at HO_50)
                 cases gk with
                 | zero => exact absurd HA.out (by simp [impl_Road_times.l2])
                 | succ k4 =>
                  have H := HA.out
                  clear HA
                  simp only [impl_Road_times.l2] at H
                  by_cases c37 : x52_4 < (y172.length : Int)
                  ·rw [if_pos c37] at H
                   have c37b0 : decide (x52_4 < (y172.length : Int)) = true := decide_eq_true c37
                   (try (have c37b0h := c37b0; simp only [hl9_1, hl9_2, hl9_4] at c37b0h))
                   clear c37
                   by_cases c38 : 0 ≤ x52_4
                   ·rw [if_pos c38] at H
                    have c38b0 : decide (0 ≤ x52_4) = true := decide_eq_true c38
                    clear c38
                    by_cases c39 : x52_4 < (y172.length : Int)
                    ·rw [if_pos c39] at H
                     have c39b0 : decide (x52_4 < (y172.length : Int)) = true := decide_eq_true c39
                     (try (have c39b0h := c39b0; simp only [hl9_1, hl9_2, hl9_4] at c39b0h))
                     clear c39
                     by_cases c40 : 0 ≤ (rd y172 x52_4)
                     ·rw [if_pos c40] at H
                      have c40b0 : decide (0 ≤ (rd y172 x52_4)) = true := decide_eq_true c40
                      clear c40
                      by_cases c41 : (rd y172 x52_4) < (x9_4.length : Int)
                      ·rw [if_pos c41] at H
                       have c41b0 : decide ((rd y172 x52_4) < (x9_4.length : Int)) = true := decide_eq_true c41
                       (try (have c41b0h := c41b0; simp only [hl9_1, hl9_2, hl9_4] at c41b0h))
                       clear c41
                       by_cases c42 : (rd x9_4 (rd y172 x52_4)) < 0
                       ·rw [if_pos c42] at H
                        have c42b0 : decide ((rd x9_4 (rd y172 x52_4)) < 0) = true := decide_eq_true c42
                        clear c42
                        obtain ⟨y179, hy179⟩ : ∃ y_ : List Int, y_ = (x9_4.set ((rd y172 x52_4) : Int).toNat (wrap64 (x11_4 + 1))) := ⟨_, rfl⟩
                        replace H : (impl_Road_times.l2 k4 a3 y179 (wrap64 (x11_4 + 1)) (rd l2 x35_2) l2 (l2.length : Int) x35_2 y172 (y172.length : Int) (wrap64 (x52_4 + 1)) a0_0 a0_1) = some r := by (rw [hy179]; with_reducible exact H)
                        have Ny179 := Aside0.mk hy179
                        clear hy179
                        have H' := Aside0.mk H
                        clear H
                        have p177 : 0 ≤ (x52_4 : Int) := of_decide_eq_true (by (with_reducible assumption))
                        have q177 : x52_4 < (y172.length : Int) := of_decide_eq_true (by (with_reducible assumption))
                        obtain ⟨ad177, e177, hx177_0⟩ := Kd.at_int (Kd.V_reads' HO_50.out).2.2 x52_4 p177 q177
                        cases e177
                        replace p177 := eq_true p177
                        replace q177 := eq_true q177
                        have p178 : 0 ≤ ((rd y172 x52_4) : Int) := of_decide_eq_true (by (with_reducible assumption))
                        have q178 : (rd y172 x52_4) < (x9_4.length : Int) := of_decide_eq_true (by (with_reducible assumption))
                        obtain ⟨ad178, e178, hx178_0⟩ := Kd.at_int (Kd.R_reads' HO_9.out).2.2 (rd y172 x52_4) p178 q178
                        obtain rfl : (⟨go20, 0, none⟩ : Addr) = ad178 := (by injection e178)
                        ((simp only [add_plain] at hx178_0))
                        replace p178 := eq_true p178
                        replace q178 := eq_true q178
                        have p43 : 0 ≤ ((rd y172 x52_4) : Int) := of_decide_eq_true (by (with_reducible assumption))
                        have q43 : ((rd y172 x52_4) : Int) < ((x9_4.length : Int) : Int) := of_decide_eq_true (by (with_reducible assumption))
                        obtain ⟨hx43_0, hf43_0⟩ := Kd.R_celln 0 HO_9.out ((rd y172 x52_4) : Int) p43 q43
                        replace p43 := eq_true p43
                        replace q43 := eq_true q43
                        have HP44 := Kd.R_putg HO_9.out ((rd y172 x52_4) : Int) (wrap64 (x11_4 + 1))
                        go_wp2_with (((with_reducible refine gate_store (t := 3) (p := 66) rfl ?_); refine store_event (t := 3) (p := 66) (v := ?vo_w45) (w1 := (wr.setCell ⟨go20, ((rd y172 x52_4) : Int).toNat, none⟩ (.int .i64 (wrap64 (x11_4 + 1))))) ?hg ?ho ?hn ?hr ?_; (case ho => rfl); (case hg => rfl); (case hn => rfl); (case hr => (go_simp; done)); intro w45 hw; have hg : wr.grownBy w45 (some go20) := (by rw [hw]; exact HP44.2); have hp_ : Kd.R (Kd.int .i64) 3 w45 w.heap.size (fun _ => True) (.slice (some ⟨go20, 0, none⟩) x9_4.length co11) y179 := (by rw [hw, Ny179.out]; exact HP44.1); clear HP44; have n0_ := Aside0.mk (hp_); have n1_ := Aside0.mk (Kd.V_afterv (v := (.slice (some ⟨go20, 0, none⟩) x9_4.length co11)) (v1 := (.slice (some ⟨go20, 0, none⟩) x9_4.length co11)) (ok := (fun k_ => k_ ≠ gb159)) (by (with_reducible repeat (fail)); exact Kd.V_mono HO_50.out (fun _ hk => ⟨hk.2, hk.1⟩)) hg (.inl rfl)); have n2_ := Aside0.mk (blk_grown (g := gb159) (o := .cells #[.int .i64 a0_0, .bool a0_1] 25 (0, 0)) (by (with_reducible repeat (fail)); exact BK159.out) hg (Kd.R_ne HO_9.out BK159.out (by decide))); have n3_ := Aside0.mk ((by rw [hw]; exact below_set (HB.out) GB20.out : Below w.heap.size w w45)); clear HO_9; clear HO_50; clear BK159; clear HB; have HO_9 := n0_; have HO_50 := n1_; have BK159 := n2_; have HB := n3_; clear n0_ n1_ n2_ n3_; clear hg hw hp_))
                        (try simp only [← hl9_4])
                        go_roundg k4
                        case measure => have := HK1.out; have := HK2.out; have := HJ25.out; have := HK4.out; omega
                        case rel => exact ⟨(y179), (wrap64 (x11_4 + 1)), (wrap64 (x52_4 + 1)), (by (rfl)), (by (rfl)), H', ⟨by have := HK1.out; have := HK2.out; have := HJ25.out; have := HK4.out; omega⟩, ⟨by (try simp only [hl9_1]); (try simp only [hl9_2]); (try simp only [hl9_4]); (with_reducible repeat (fail)); exact HO_9.out⟩, ⟨by (try simp only [hl9_1]); (try simp only [hl9_2]); (try simp only [hl9_4]); (with_reducible repeat (fail)); exact Kd.V_mono HO_50.out (fun _ hk => ⟨hk.2, hk.1⟩)⟩, ⟨by (try simp only [hl9_1]); (try simp only [hl9_2]); (try simp only [hl9_4]); (with_reducible repeat (fail)); exact BK159.out⟩, ⟨by repeat ((with_reducible (exact HB.out)))⟩⟩
                       ·rw [if_neg c42] at H
                        have c42b0 : decide ((rd x9_4 (rd y172 x52_4)) < 0) = false := decide_eq_false c42
                        clear c42
                        have H' := Aside0.mk H
                        clear H
                        have p177 : 0 ≤ (x52_4 : Int) := of_decide_eq_true (by (with_reducible assumption))
                        have q177 : x52_4 < (y172.length : Int) := of_decide_eq_true (by (with_reducible assumption))
                        obtain ⟨ad177, e177, hx177_0⟩ := Kd.at_int (Kd.V_reads' HO_50.out).2.2 x52_4 p177 q177
                        cases e177
                        replace p177 := eq_true p177
                        replace q177 := eq_true q177
                        have p178 : 0 ≤ ((rd y172 x52_4) : Int) := of_decide_eq_true (by (with_reducible assumption))
                        have q178 : (rd y172 x52_4) < (x9_4.length : Int) := of_decide_eq_true (by (with_reducible assumption))
                        obtain ⟨ad178, e178, hx178_0⟩ := Kd.at_int (Kd.R_reads' HO_9.out).2.2 (rd y172 x52_4) p178 q178
                        obtain rfl : (⟨go20, 0, none⟩ : Addr) = ad178 := (by injection e178)
                        ((simp only [add_plain] at hx178_0))
                        replace p178 := eq_true p178
                        replace q178 := eq_true q178
                        go_wp2
                        (try simp only [← hl9_4])
                        go_roundg k4
                        case measure => have := HK1.out; have := HK2.out; have := HJ25.out; have := HK4.out; omega
                        case rel => exact ⟨(x9_4), (wrap64 (x11_4 + 1)), (wrap64 (x52_4 + 1)), (by (rfl)), (by (rfl)), H', ⟨by have := HK1.out; have := HK2.out; have := HJ25.out; have := HK4.out; omega⟩, ⟨by (try simp only [hl9_1]); (try simp only [hl9_2]); (try simp only [hl9_4]); (with_reducible repeat (fail)); exact HO_9.out⟩, ⟨by (try simp only [hl9_1]); (try simp only [hl9_2]); (try simp only [hl9_4]); (with_reducible repeat (fail)); exact HO_50.out⟩, ⟨by (try simp only [hl9_1]); (try simp only [hl9_2]); (try simp only [hl9_4]); (with_reducible repeat (fail)); exact BK159.out⟩, ⟨by repeat ((with_reducible (exact HB.out)))⟩⟩
                      ·rw [if_neg c41] at H
                       exact absurd H (by simp)
                     ·rw [if_neg c40] at H
                      exact absurd H (by simp)
                    ·rw [if_neg c39] at H
                     exact absurd H (by simp)
                   ·rw [if_neg c38] at H
                    exact absurd H (by simp)
                  ·rw [if_neg c37] at H
                   have c37b0 : decide (x52_4 < (y172.length : Int)) = false := decide_eq_false c37
                   (try (have c37b0h := c37b0; simp only [hl9_1, hl9_2, hl9_4] at c37b0h))
                   clear c37
                   have H' := Aside0.mk H
                   clear H
                   go_wp2
                   (try simp only [← hl9_2, ← hl9_4])
                   go_roundg k4
                   case measure => have := HK1.out; have := HK2.out; have := HJ25.out; have := HK4.out; omega
                   case rel => exact ⟨(x9_4), (x11_4), ((rd l2 x35_2)), (wrap64 (x35_2 + 1)), (by (rfl)), (by (rfl)), (by (rfl)), H', ⟨by have := HK1.out; have := HK2.out; have := HJ25.out; have := HK4.out; omega⟩, ⟨by (try simp only [hl9_1]); (try simp only [hl9_2]); (try simp only [hl9_4]); (with_reducible repeat (fail)); exact HO_9.out⟩, ⟨by (try simp only [hl9_1]); (try simp only [hl9_2]); (try simp only [hl9_4]); (with_reducible repeat (fail)); exact BK159.out⟩, ⟨by repeat ((with_reducible (exact HB.out)))⟩⟩
               ·rw [if_neg c29] at H
                exact absurd H (by simp)
            ·rw [if_neg c25] at H
             exact absurd H (by simp)
           ·rw [if_neg c24] at H
            exact absurd H (by simp)
          ·rw [if_neg c23] at H
           have c23b0 : decide (x35_2 < (l2.length : Int)) = false := decide_eq_false c23
           (try (have c23b0h := c23b0; simp only [hl9_1, hl9_2] at c23b0h))
           clear c23
           obtain rfl := Option.some.inj H
           go_wp2
           go_ret
           exact ⟨_, by (rfl), by (with_reducible repeat (fail)); exact HO_9.out, by repeat ((with_reducible (exact HB.out)))⟩
       ·rw [if_neg c19] at H
        exact absurd H (by simp)
      ·rw [if_neg c18] at H
       exact absurd H (by simp)
  ·rw [if_neg c6] at H
   exact absurd H (by simp)
 ·rw [if_neg c5] at H
  exact absurd H (by simp)

/-! ### impl_divisor: function 132 -/
def impl_divisor.l0 : Nat → Int → Int → Option (Int)
 | 0, _, _ => none
 | k + 1, x0, x1 => if x1 = 0 then (some x0) else (impl_divisor.l0 k x1 (Int.tmod x0 x1))
def impl_divisor.f (k : Nat) (a0 : Int) (a1 : Int) : Option (Int) := impl_divisor.l0 k a0 a1
set_option maxHeartbeats 8000000 in
set_option maxRecDepth 100000 in
theorem impl_divisor.calls (k : Nat) (a0 : Int) (a1 : Int) (r : Int) (w : World) (h : impl_divisor.f k a0 a1 = some r) :
  Calls Try.prog 132 #[.int .i64 a0, .int .i64 a1] w fun e w' => e = .returned (.int .i64 r) ∧ Drawn0 w w' := by
 have H : (impl_divisor.l0 k a0 a1) = some r := h
 clear h
 have H' := Aside0.mk H
 clear H
 go_enter Try.func132, Try.ntmps132
 go_wp2
 repeat (go_quiet (fail); try go_wp2)
 go_loopg [0, 1] k (fun kq v0 v1 w' => ∃ (x0_1 : Int) (x1_1 : Int), v0 = .int .i64 x0_1 ∧ v1 = .int .i64 x1_1 ∧ Aside0 (impl_divisor.l0 kq x0_1 x1_1 = some r) ∧ Aside0 (kq ≤ k) ∧ Drawn0 w w')
 case atStart => exact ⟨(a0), (a1), (by (rfl)), (by (rfl)), H', ⟨Nat.le_refl _⟩, by repeat ((exact Drawn0.refl _))⟩
 case round =>
  clear H'
  (try clear c1); (try clear p2)
  obtain ⟨x0_1, x1_1, rfl, rfl, HA, HK1, ⟨m1, rfl⟩⟩ := hrel
  cases gk with
  | zero => exact absurd HA.out (by simp [impl_divisor.l0])
  | succ k1 =>
   have H := HA.out
   clear HA
   simp only [impl_divisor.l0] at H
   by_cases c3 : x1_1 = 0
   ·rw [if_pos c3] at H
    have c3b0 : (x1_1 == 0) = true := beq_iff_eq.mpr c3
    have c3b1 : (x1_1 != 0) = false := bne_eq_false_iff_eq.mpr c3
    clear c3
    obtain rfl := Option.some.inj H
    go_wp2
    repeat (go_quiet (fail); try go_wp2)
    go_ret
    exact ⟨by (rfl), by repeat (first | exact Drawn0.refl _ | apply Drawn0.step)⟩
   ·rw [if_neg c3] at H
    have c3b0 : (x1_1 == 0) = false := beq_eq_false_iff_ne.mpr c3
    have c3b1 : (x1_1 != 0) = true := bne_iff_ne.mpr c3
    have H' := Aside0.mk H
    clear H
    go_wp2
    repeat (go_quiet (fail); try go_wp2)
    go_roundg k1
    case measure => have := HK1.out; omega
    case rel => exact ⟨(x1_1), (Int.tmod x0_1 x1_1), (by (rfl)), (by (rfl)), H', ⟨by have := HK1.out; omega⟩, by repeat (first | exact Drawn0.refl _ | apply Drawn0.step)⟩

/-! ### impl_fraction: function 124 -/
def impl_fraction.f (k : Nat) (a0 : Int) (a1 : Int) : Option (Int × Int) := (impl_divisor.f k a0 a1).bind fun t181 => (if t181 = 0 then (none) else (some (wrap64 (Int.tdiv a0 t181), wrap64 (Int.tdiv a1 t181))))
def impl_fraction.T2 : Bool × List (List Nat × List Nat) := (true, [([], []), ([], []), ([0, 1], [0, 1]), ([], []), ([], []), ([3, 4], [3, 4]), ([2, 5], [2, 5]), ([6, 0, 1, 2, 3, 4, 5, 6], [6])])
def impl_fraction.B2 : List Nat := [0, 0, 3, 0, 0, 24, 63, 127]
theorem impl_fraction.tab2 : rtab .any (opsOf Try.f124 2) = impl_fraction.T2 := by kernel_rfl
theorem impl_fraction.bits2 : waitsOk impl_fraction.T2.2 impl_fraction.B2 = true := by kernel_rfl
set_option maxHeartbeats 8000000 in
set_option maxRecDepth 100000 in
theorem impl_fraction.calls (k : Nat) (a0 : Int) (a1 : Int) (r1 : Int) (r2 : Int) (w : World) (h : impl_fraction.f k a0 a1 = some (r1, r2)) :
  Calls Try.prog 124 #[.int .i64 a0, .int .i64 a1] w fun e w' => e = .returned (.agg #[.int .i64 r1, .int .i64 r2]) ∧ Below w.heap.size w w' := by
 have hu56 := Try.underlying56
 have HB := Aside0.mk (Below.refl w.heap.size w)
 have H : ((impl_divisor.f k a0 a1).bind fun t181 => (if t181 = 0 then (none) else (some (wrap64 (Int.tdiv a0 t181), wrap64 (Int.tdiv a1 t181))))) = some (r1, r2) := h
 clear h
 replace H := Option.bind_eq_some_iff.mp H
 obtain ⟨t181, A30, H⟩ := H
 try dsimp only at H
 have A3 := Aside0.mk A30
 clear A30
 by_cases c4 : t181 = 0
 ·rw [if_pos c4] at H
  exact absurd H (by simp)
 ·rw [if_neg c4] at H
  have c4b0 : (t181 == 0) = false := beq_eq_false_iff_ne.mpr c4
  have c4b1 : (t181 != 0) = true := bne_iff_ne.mpr c4
  simp only [Option.some.injEq, Prod.mk.injEq] at H
  obtain ⟨rfl, rfl⟩ := H
  go_enter Try.func124, Try.ntmps124
  try go_wp2_with (first | ((with_reducible refine gate_dst (N := 4) rfl ?_); refine box_event ?hg (N := 4) ?hd (cs := #[.int .i64 0, .int .i64 0]) (t := 56) ?hr ?_; (case hd => rfl); (case hg => rfl); (case hr => (go_simp; done)); intro gb180 hg w5 hbox hb; have n0_ := Aside0.mk (below_step (by repeat ((with_reducible (exact HB.out)))) hb); have n1_ := Aside0.mk (hbox); have n2_ := Aside0.mk ((by rw [hg]; exact (below_size (by repeat ((with_reducible (exact HB.out))))) : w.heap.size ≤ gb180)); have n3_ := Aside0.mk ((by rw [hg]; exact (below_size (by repeat ((with_reducible (exact HB.out))))) : w.heap.size ≤ gb180)); clear HB; have HB := n0_; have BK180 := n1_; have GW180 := n2_; have GE180 := n3_; clear n0_ n1_ n2_ n3_; clear hb hbox hg) | ((with_reducible refine gate_callee (f := 132) rfl ?_); refine goesL_ (some 8) rfl rfl Try.func132 (by kernel_rfl) rfl #[.int .i64 a0, .int .i64 a1] rfl (by (try simp only [List.map_toArray, List.map_cons, List.map_nil]); (rfl)) ?_; (with_reducible refine (impl_divisor.calls k a0 a1 t181 _ A3.out).mono ?_); rintro e w' ⟨rfl, ⟨nd, rfl⟩⟩; refine ⟨_, rfl, ?_⟩; (try (rw [drewN_self w5]; generalize hq_ : World.drewN w5 _ = w5; have n0_ : Aside0 (w5.heap[gb180]? = some (.cells #[.int .i64 0, .int .i64 0] 56 (0, 0))) := ⟨by rw [← hq_]; exact (by (with_reducible repeat ((refine blk_drewN ?_ _))); exact BK180.out)⟩; have n1_ : Aside0 (Below w.heap.size w w5) := ⟨by rw [← hq_]; exact (by repeat ((with_reducible first | exact HB.out | apply pw_below_drewN)))⟩; clear BK180 HB hq_; have BK180 := n0_; have HB := n1_; clear n0_ n1_))))
  have n0_ := Aside0.mk (blk_drew BK180.out)
  have n1_ := Aside0.mk (below_drew1 HB.out)
  clear BK180
  clear HB
  have BK180 := n0_
  have HB := n1_
  clear n0_ n1_
  refine start_ (n := 8) (S := fun w' => True) (ds := []) #[false, false, false, false, false, false, false, false] (by kernel_rfl) rfl rfl trivial (fun hHeld => ?_); refine with_tabW impl_fraction.tab2 impl_fraction.bits2 (fun HT_ HW_ => ?_)
  generalize w5.drew = w6 at BK180 HB hHeld ⊢
  refine pure_ (i := 0) (N := some 9) (v := ?_) (a' := ?_) #[true, false, false, false, false, false, false, false] rfl rfl (any_of HT_.out (by kernel_rfl)) (fun _ _ _ h => h) (Or.inl ⟨by rfl, ?_⟩) ?_ ?_
  rotate_left
  ·intro w'
   go_simp
   with_reducible rfl
  rotate_left
  ·simp only [Act.put, List.setIfInBounds_toArray, List.set_cons_zero, List.set_cons_succ, i64_w, i32_w]
   rfl
  refine pure_ (i := 1) (N := some 10) (v := ?_) (a' := ?_) #[true, true, false, false, false, false, false, false] rfl rfl (any_of HT_.out (by kernel_rfl)) (fun _ _ _ h => h) (Or.inl ⟨by rfl, ?_⟩) ?_ ?_
  rotate_left
  ·intro w'
   go_simp
   with_reducible rfl
  rotate_left
  ·simp only [Act.put, List.setIfInBounds_toArray, List.set_cons_zero, List.set_cons_succ, i64_w, i32_w]
   rfl
  refine pure_ (i := 2) (N := some 11) (v := ?_) (a' := ?_) #[true, true, true, false, false, false, false, false] rfl rfl (any_of HT_.out (by kernel_rfl)) (fun _ _ _ h => h) (Or.inl ⟨by rfl, ?_⟩) ?_ ?_
  rotate_left
  ·intro w'
   go_simp
   with_reducible rfl
  rotate_left
  ·simp only [Act.put, List.setIfInBounds_toArray, List.set_cons_zero, List.set_cons_succ, i64_w, i32_w]
   rfl
  refine pure_ (i := 3) (N := some 12) (v := ?_) (a' := ?_) #[true, true, true, true, false, false, false, false] rfl rfl (any_of HT_.out (by kernel_rfl)) (fun _ _ _ h => h) (Or.inl ⟨by rfl, ?_⟩) ?_ ?_
  rotate_left
  ·intro w'
   go_simp
   with_reducible rfl
  rotate_left
  ·simp only [Act.put, List.setIfInBounds_toArray, List.set_cons_zero, List.set_cons_succ, i64_w, i32_w]
   rfl
  refine pure_ (i := 4) (N := some 13) (v := ?_) (a' := ?_) #[true, true, true, true, true, false, false, false] rfl rfl (any_of HT_.out (by kernel_rfl)) (fun _ _ _ h => h) (Or.inl ⟨by rfl, ?_⟩) ?_ ?_
  rotate_left
  ·intro w'
   go_simp
   with_reducible rfl
  rotate_left
  ·simp only [Act.put, List.setIfInBounds_toArray, List.set_cons_zero, List.set_cons_succ, i64_w, i32_w]
   rfl
  refine pure_ (i := 5) (N := some 14) (v := ?_) (a' := ?_) #[true, true, true, true, true, true, false, false] rfl rfl (any_of HT_.out (by kernel_rfl)) (fun _ _ _ h => h) (Or.inl ⟨by rfl, ?_⟩) ?_ ?_
  rotate_left
  ·intro w'
   go_simp
   with_reducible rfl
  rotate_left
  ·simp only [Act.put, List.setIfInBounds_toArray, List.set_cons_zero, List.set_cons_succ, i64_w, i32_w]
   rfl
  refine pure_ (i := 6) (N := some 15) (v := ?_) (a' := ?_) #[true, true, true, true, true, true, true, false] rfl rfl (any_of HT_.out (by kernel_rfl)) (fun _ _ _ h => h) (Or.inl ⟨by rfl, ?_⟩) ?_ ?_
  rotate_left
  ·intro w'
   go_simp
   with_reducible rfl
  rotate_left
  ·simp only [Act.put, List.setIfInBounds_toArray, List.set_cons_zero, List.set_cons_succ, i64_w, i32_w]
   rfl
  refine one_ (i := 7) (N := none) #[true, true, true, true, true, true, true, true] rfl rfl (one_of HT_.out (by kernel_rfl)) (by decide) (fun K hK => ?_)
  have hs7 : w6.cell? ⟨gb180, 0, none⟩ = some (.int .i64 0) := (blk_cell BK180.out 0).trans rfl
  have hfs7 := blk_frozen BK180.out 0
  have hs8 : w6.cell? ⟨gb180, 1, none⟩ = some (.int .i64 0) := (blk_cell BK180.out 1).trans rfl
  have hfs8 := blk_frozen BK180.out 1
  refine skip_ (w1 := ?_) (by rfl) rfl ?_ ?_
  rotate_left
  ·go_simp
   rfl
  refine hK.out _ _ trivial (fun hHeld => ?_)
  clear hK K
  refine done_ (done_of HT_.out (by kernel_rfl)) ?_
  try go_wp2
  refine bodyPost_ret (results_cell_row rfl _ _ gb180 56 #[.int .i64 (wrap64 (Int.tdiv a0 t181)), .int .i64 (wrap64 (Int.tdiv a1 t181))] (0, 0) _ rfl (by (with_reducible repeat (fail)); refine blk_put (cs := #[.int .i64 (wrap64 (Int.tdiv a0 t181)), .int .i64 0]) ?_ 1 _ rfl; (with_reducible repeat (fail)); refine blk_put (cs := #[.int .i64 0, .int .i64 0]) ?_ 0 _ rfl; (with_reducible repeat (fail)); exact BK180.out) Try.underlying56 rfl (by kernel_rfl)) rfl ?_
  exact ⟨by (rfl), by repeat ((with_reducible first | exact HB.out | refine below_set ?_ GE180.out))⟩

end Go.Proofs.Ytogflbocmiogpaa.PFnSearches
