-- Written for this claim by this session's turned copy of the printer.
import Derived.Test.YtogflbocmiogpaaPFnBestSearchx0
import Derived.Test.YtogflbocmiogpaaPFnBestSearchx1
import Derived.Test.YtogflbocmiogpaaPFnBestSearchx4
import Derived.Test.YtogflbocmiogpaaPFnBestSearchx9
import Derived.Test.YtogflbocmiogpaaPFnBestSearchx11
import Derived.Test.YtogflbocmiogpaaPFnBestSearchx13
namespace Go.Proofs.Ytogflbocmiogpaa.PFnBestSearch
open Go.RowKit Go.Proofs.YtogflbocmiogpaaW.PrintWords Go.Proofs.YtogflbocmiogpaaW.PrintLast Go.Proofs.YtogflbocmiogpaaW.PrintMore
open List renaming setIfInBounds_toArray → sT_, set_cons_zero → sZ_, set_cons_succ → sS_, map_toArray → mT_, map_cons → mC_, map_nil → mN_
open Bool renaming true → Y_, false → N_
attribute [local go_sem] max2_int min2_int max_two min_two Fj Fh max_four min_four   -- for this text's walks alone
set_option linter.unusedVariables false
set_option linter.unusedSimpArgs false

/-! ### impl_Road_worst: function 91 -/
def Bg.l0 : Nat → Int → Int → List Int → Int → Int → Int → Bool → Int → Int → Option (Int × Int × Int)
 | 0, _, _, _, _, _, _, _, _, _ => none
 | k + 1, x1, x11, x21, x22, x23, x301000, x301001, x303000, x303001 => if x23 < x22 then (if 0 ≤ x23 then (if x23 < (x21.length : Int) then ((impl_Road_gap.f x301000 x301001 x1 x23).bind fun t307 => (if x23 = x1 then (Bg.l0 k x1 x11 x21 x22 (wrap64 (x23 + 1)) x301000 x301001 x303000 x303001) else (if (wrap64 ((rd x21 x23) * x303001)) > (wrap64 (x303000 * t307)) then (Bg.l0 k x1 x23 x21 x22 (wrap64 (x23 + 1)) x301000 x301001 (rd x21 x23) t307) else (Bg.l0 k x1 x11 x21 x22 (wrap64 (x23 + 1)) x301000 x301001 x303000 x303001)))) else (none)) else (none)) else ((Dy.f k x303000 x303001).bind fun bt308 => (some (bt308.1, bt308.2, x11)))
def Bg.f (k : Nat) (a0_0 : Int) (a0_1 : Bool) (a1 : Int) (l2 : List Int) (a3 : Int) : Option (Int × Int × Int) := (Ar.f k a0_0 a0_1 a1 l2 a3).bind fun t303 => (Bg.l0 k a1 a1 t303 (t303.length : Int) 0 a0_0 a0_1 0 1)
theorem Bg.mono_l : ∀ k, (∀ y0 y1 y2 y3 y4 y5 y6 y7 y8, LeO (Bg.l0 k y0 y1 y2 y3 y4 y5 y6 y7 y8) (Bg.l0 (k + 1) y0 y1 y2 y3 y4 y5 y6 y7 y8))
 | 0 => fun _ _ _ _ _ _ _ _ _ r h => by simp [Bg.l0] at h
 | k + 1 => by
  have ih0 := Bg.mono_l k
  ·intro y0 y1 y2 y3 y4 y5 y6 y7 y8
   unfold Bg.l0
   repeat' first
   | (with_reducible exact ih0 _ _ _ _ _ _ _ _ _)
   | (with_reducible exact Dy.mono _ _ _)
   | (with_reducible exact LeO.refl _)
   | (with_reducible refine LeO.ite ?_ ?_)
   | (with_reducible refine LeO.bind ?_ (fun _ => ?_))
theorem Bg.mono : ∀ a0 a1 a2 a3 a4 k, LeO (Bg.f k a0 a1 a2 a3 a4) (Bg.f (k + 1) a0 a1 a2 a3 a4) := by
 intro a0 a1 a2 a3 a4 k
 have ih0 := Bg.mono_l k
 unfold Bg.f
 repeat' first
   | (with_reducible exact ih0 _ _ _ _ _ _ _ _ _)
   | (with_reducible exact Ar.mono _ _ _ _ _ _)
   | (with_reducible refine LeO.bind ?_ (fun _ => ?_))
set_option maxHeartbeats 8000000 in
set_option maxRecDepth 100000 in
theorem Bg.calls (k : Nat) (a0_0 : Int) (a0_1 : Bool) (a1 : Int) (A2 : Option Addr) (c2 : Nat) (l2 : List Int) (a3 : Int) (r1 : Int) (r2 : Int) (r3 : Int) (w : World) (hr2 : Kd.C (Kd.int .i64) w A2 l2.length l2) (hc2 : l2.length ≤ c2) (h : Bg.f k a0_0 a0_1 a1 l2 a3 = some (r1, r2, r3)) :
  Calls Try.prog 91 #[.agg #[.int .i64 a0_0, .bool a0_1], .int .i64 a1, .slice A2 l2.length c2, .int .i64 a3] w fun e w' => e = .returned (.tuple #[.agg #[.int .i64 r1, .int .i64 r2], .int .i64 r3]) ∧ Below w.heap.size w w' := by
 have hu25 := Try.underlying25
 have hu56 := Try.underlying56
 have HR2 := Aa.k hr2
 have HC2 := Aa.k hc2
 clear hr2 hc2
 have HB := Aa.k (Below.refl w.heap.size w)
 have H : ((Ar.f k a0_0 a0_1 a1 l2 a3).bind fun t303 => (Bg.l0 k a1 a1 t303 (t303.length : Int) 0 a0_0 a0_1 0 1)) = some (r1, r2, r3) := h
 clear h
 obtain ⟨t303, A50, H⟩ := bindS_ H
 try dsimp only at H
 have A5 := Aa.k A50
 clear A50
 have H' := Aa.k H
 clear H
 go_enter Try.func91, Try.ntmps91
 go_wp2_with (first | ((with_reducible refine Be (N := 4) rfl ?_); refine Bo ?hg (N := 4) ?hd (cs := #[.int .i64 a0_0, .bool a0_1]) (t := 25) ?hr ?_; (case hd => rfl); (case hg => rfl); (case hr => (go_simp; done)); intro gb300 hg w6 hbox hb; have n0_ := Aa.k (Ad HB.o hb); have n1_ := Aa.k (hbox); have n2_ := Aa.k ((by rw [hg]; exact (Af HB.o) : w.heap.size ≤ gb300)); have n3_ := Aa.k ((by rw [hg]; exact (Af HB.o) : w.heap.size ≤ gb300)); clear HB; have HB := n0_; have BK300 := n1_; have GW300 := n2_; have GE300 := n3_; clear n0_ n1_ n2_ n3_; clear hb hbox hg) | ((with_reducible refine Be (N := 8) rfl ?_); refine Bo ?hg (N := 8) ?hd (cs := #[.int .i64 0, .int .i64 0]) (t := 56) ?hr ?_; (case hd => rfl); (case hg => rfl); (case hr => (go_simp; done)); intro gb301 hg w7 hbox hb; have n0_ := Aa.k (Ae (g := gb300) (o := .cells #[.int .i64 a0_0, .bool a0_1] 25 (0, 0)) (by exact BK300.o) hb); have n1_ := Aa.k (Ad HB.o hb); have n2_ := Aa.k (hbox); have n3_ := Aa.k ((by rw [hg]; exact (Af HB.o) : w.heap.size ≤ gb301)); have n4_ := Aa.k ((by rw [hg]; exact (Af HB.o) : w.heap.size ≤ gb301)); have n5_ := Aa.k ((by rw [hg]; exact Nat.ne_of_lt (Ca (g := gb300) (o := .cells #[.int .i64 a0_0, .bool a0_1] 25 (0, 0)) (by exact BK300.o)) : gb300 ≠ gb301)); have n6_ := Aa.k ((by rw [hg]; exact Nat.ne_of_gt (Ca (g := gb300) (o := .cells #[.int .i64 a0_0, .bool a0_1] 25 (0, 0)) (by exact BK300.o)) : gb301 ≠ gb300)); clear BK300; clear HB; have BK300 := n0_; have HB := n1_; have BK301 := n2_; have GW301 := n3_; have GE301 := n4_; have NB300_301 := n5_; have NB301_300 := n6_; clear n0_ n1_ n2_ n3_ n4_ n5_ n6_; clear hb hbox hg) | ((with_reducible refine Be (N := 10) rfl ?_); refine Bo ?hg (N := 10) ?hd (cs := #[.int .i64 0, .int .i64 0]) (t := 56) ?hr ?_; (case hd => rfl); (case hg => rfl); (case hr => (go_simp; done)); intro gb302 hg w8 hbox hb; have n0_ := Aa.k (Ae (g := gb300) (o := .cells #[.int .i64 a0_0, .bool a0_1] 25 (0, 0)) (by exact BK300.o) hb); have n1_ := Aa.k (Ae (g := gb301) (o := .cells #[.int .i64 0, .int .i64 0] 56 (0, 0)) (by exact BK301.o) hb); have n2_ := Aa.k (Ad HB.o hb); have n3_ := Aa.k (hbox); have n4_ := Aa.k ((by rw [hg]; exact (Af HB.o) : w.heap.size ≤ gb302)); have n5_ := Aa.k ((by rw [hg]; exact (Af HB.o) : w.heap.size ≤ gb302)); have n6_ := Aa.k ((by rw [hg]; exact Nat.ne_of_lt (Ca (g := gb300) (o := .cells #[.int .i64 a0_0, .bool a0_1] 25 (0, 0)) (by exact BK300.o)) : gb300 ≠ gb302)); have n7_ := Aa.k ((by rw [hg]; exact Nat.ne_of_gt (Ca (g := gb300) (o := .cells #[.int .i64 a0_0, .bool a0_1] 25 (0, 0)) (by exact BK300.o)) : gb302 ≠ gb300)); have n8_ := Aa.k ((by rw [hg]; exact Nat.ne_of_lt (Ca (g := gb301) (o := .cells #[.int .i64 0, .int .i64 0] 56 (0, 0)) (by exact BK301.o)) : gb301 ≠ gb302)); have n9_ := Aa.k ((by rw [hg]; exact Nat.ne_of_gt (Ca (g := gb301) (o := .cells #[.int .i64 0, .int .i64 0] 56 (0, 0)) (by exact BK301.o)) : gb302 ≠ gb301)); clear BK300; clear BK301; clear HB; have BK300 := n0_; have BK301 := n1_; have HB := n2_; have BK302 := n3_; have GW302 := n4_; have GE302 := n5_; have NB300_302 := n6_; have NB302_300 := n7_; have NB301_302 := n8_; have NB302_301 := n9_; clear n0_ n1_ n2_ n3_ n4_ n5_ n6_ n7_ n8_ n9_; clear hb hbox hg; have hnb9 := NB302_300.o; have hnc9 := NB300_302.o; have hnb10 := NB302_301.o; have hnc10 := NB301_302.o; have hcz11_0 := Bj BK302.o; have hcz11_1 := Bn BK302.o; have hfz11_0 := Ac BK302.o 0; have hfz11_1 := Ac BK302.o 1; have hnb12 := NB300_301.o; have hnc12 := NB301_300.o; have hcz13_0 := Bj BK300.o; have hcz13_1 := Bn BK300.o; have hfz13_0 := Ac BK300.o 0; have hfz13_1 := Ac BK300.o 1) | ((with_reducible refine Aj (f := 77) rfl ?_); refine Bf (some 21) rfl rfl Try.func77 (by kernel_rfl) rfl #[.agg #[.int .i64 a0_0, .bool a0_1], .int .i64 a1, .slice A2 l2.length c2, .int .i64 a3] rfl (by (try simp only [mT_, mC_, mN_]); rfl) ?_; (with_reducible refine (Ar.calls k a0_0 a0_1 a1 _ _ l2 a3 t303 _ ?side1 ?side2 A5.o).mono ?_); (case side1 => exact Kd.Dx HR2.o (by repeat ((with_reducible first | exact HB.o | refine Bz ?_ GE302.o)))); (case side2 => exact HC2.o); rintro e w14 ⟨v304, rfl, ho0, hb⟩; refine ⟨_, rfl, ?_⟩; have n0_ := Aa.k (Kd.Ct ho0 (Af (by repeat ((with_reducible first | exact HB.o | refine Bz ?_ GE302.o))))); have n1_ := Aa.k (Ae (g := gb300) (o := .cells #[.int .i64 a0_0, .bool a0_1] 25 (0, 0)) (by refine Cb ?_ NB300_302.o _; refine Cb ?_ NB300_302.o _; exact BK300.o) hb); have n2_ := Aa.k (Ae (g := gb301) (o := .cells #[.int .i64 0, .int .i64 0] 56 (0, 0)) (by refine Cb ?_ NB301_302.o _; refine Cb ?_ NB301_302.o _; exact BK301.o) hb); have n3_ := Aa.k (Ae (g := gb302) (o := .cells #[.int .i64 0, .int .i64 1] 56 (0, 0)) (by refine Cr (cs := #[.int .i64 0, .int .i64 0]) ?_ 1 _ rfl; refine Cr (cs := #[.int .i64 0, .int .i64 0]) ?_ 0 _ rfl; exact BK302.o) hb); have n4_ := Aa.k (Ad (by repeat ((with_reducible first | exact HB.o | refine Bz ?_ GE302.o))) hb); clear BK300; clear BK301; clear BK302; clear HB; have HO305 := n0_; have BK300 := n1_; have BK301 := n2_; have BK302 := n3_; have HB := n4_; clear n0_ n1_ n2_ n3_ n4_; clear hb ho0; obtain ⟨Ao15, co15, eo15⟩ := Kd.Cx HO305.o; subst eo15))
 go_loopg [11, 23] k (fun kq v11 v23 w' => ∃ (x11_1 : Int) (x23_1 : Int) (x303000_1 : Int) (x303001_1 : Int), v11 = .int .i64 x11_1 ∧ v23 = .int .i64 x23_1 ∧ Aa (Bg.l0 kq a1 x11_1 t303 (t303.length : Int) x23_1 a0_0 a0_1 x303000_1 x303001_1 = some (r1, r2, r3)) ∧ Aa (kq ≤ k) ∧ Aa (Kd.R (Kd.int .i64) 3 w' w.heap.size (fun _ => True) (.slice Ao15 t303.length co15) t303) ∧ Aa (w'.heap[gb300]? = some (.cells #[.int .i64 a0_0, .bool a0_1] 25 (0, 0))) ∧ Aa (w'.heap[gb301]? = some (.cells #[.int .i64 0, .int .i64 0] 56 (0, 0))) ∧ Aa (w'.heap[gb302]? = some (.cells #[.int .i64 x303000_1, .int .i64 x303001_1] 56 (0, 0))) ∧ Aa (Below w.heap.size w w'))
 case atStart => exact ⟨(a1), (0), (0), (1), (by (rfl)), (by (rfl)), H', ⟨Nat.le_refl _⟩, ⟨by exact HO305.o⟩, ⟨by exact BK300.o⟩, ⟨by exact BK301.o⟩, ⟨by exact BK302.o⟩, ⟨by exact HB.o⟩⟩
 case round =>
  clear H'
  clear hcz11_0 hcz11_1 hcz13_0 hcz13_1 hfz11_0 hfz11_1 hfz13_0 hfz13_1
  obtain ⟨x11_1, x23_1, x303000_1, x303001_1, rfl, rfl, HA, HK1, HO_21, BK300, BK301, BK302, HB⟩ := hrel
  cases gk with
  | zero => exact absurd HA.o (by simp [Bg.l0])
  | succ k1 =>
   have H := HA.o
   clear HA
   simp only [Bg.l0] at H
   by_cases c16 : x23_1 < (t303.length : Int)
   rotate_left
   ·rw [if_neg c16] at H
    have c16b0 : decide (x23_1 < (t303.length : Int)) = false := decide_eq_false c16
    clear c16
    obtain ⟨⟨t308, t309⟩, A380, H⟩ := bindS_ H
    try dsimp only at H
    have A38 := Aa.k A380
    clear A380
    simp only [Option.some.injEq, Prod.mk.injEq] at H
    obtain ⟨rfl, rfl, rfl⟩ := H
    have hnb39 := NB302_300.o
    have hnc39 := NB300_302.o
    have hnb40 := NB302_301.o
    have hnc40 := NB301_302.o
    have hcz41_0 := Bj BK302.o
    have hcz41_1 := Bn BK302.o
    have hfz41_0 := Ac BK302.o 0
    have hfz41_1 := Ac BK302.o 1
    go_wp2_with (((refine Aj (f := 124) rfl ?_); refine Bf (some 55) rfl rfl Try.func124 (by kernel_rfl) rfl #[.int .i64 x303000_1, .int .i64 x303001_1] rfl (by (try simp only [mT_, mC_, mN_]); rfl) ?_; (refine (Dy.calls k1 x303000_1 x303001_1 t308 t309 _ A38.o).mono ?_); rintro e w42 ⟨rfl, hb⟩; refine ⟨_, rfl, ?_⟩; have n0_ := Aa.k (Kd.Ba (by exact HO_21.o) hb); have n1_ := Aa.k (Ae (g := gb300) (o := .cells #[.int .i64 a0_0, .bool a0_1] 25 (0, 0)) (by exact BK300.o) hb); have n2_ := Aa.k (Ae (g := gb301) (o := .cells #[.int .i64 0, .int .i64 0] 56 (0, 0)) (by exact BK301.o) hb); have n3_ := Aa.k (Ae (g := gb302) (o := .cells #[.int .i64 x303000_1, .int .i64 x303001_1] 56 (0, 0)) (by exact BK302.o) hb); have n4_ := Aa.k (Ad HB.o hb); clear HO_21; clear BK300; clear BK301; clear BK302; clear HB; have HO_21 := n0_; have BK300 := n1_; have BK301 := n2_; have BK302 := n3_; have HB := n4_; clear n0_ n1_ n2_ n3_ n4_; clear hb; have hnb43 := NB301_300.o; have hnc43 := NB300_301.o; have hcz44_0 := Bj BK301.o; have hcz44_1 := Bn BK301.o; have hfz44_0 := Ac BK301.o 0; have hfz44_1 := Ac BK301.o 1))
    refine bodyPost_ret (results_ct rfl _ _ gb301 56 #[.int .i64 t308, .int .i64 t309] (0, 0) _ rfl (by refine Cr (cs := #[.int .i64 t308, .int .i64 0]) ?_ 1 _ rfl; refine Cr (cs := #[.int .i64 0, .int .i64 0]) ?_ 0 _ rfl; exact BK301.o) Try.underlying56 rfl (by kernel_rfl)) rfl ?_
    exact ⟨by (rfl), by repeat ((with_reducible first | exact HB.o | refine Bz ?_ GE301.o))⟩
   rw [if_pos c16] at H
   have c16b0 : decide (x23_1 < (t303.length : Int)) = true := decide_eq_true c16
   clear c16
   by_cases c17 : 0 ≤ x23_1
   rotate_left
   ·rw [if_neg c17] at H
    exact absurd H (by simp)
   rw [if_pos c17] at H
   have c17b0 : decide (0 ≤ x23_1) = true := decide_eq_true c17
   clear c17
   by_cases c18 : x23_1 < (t303.length : Int)
   rotate_left
   ·rw [if_neg c18] at H
    exact absurd H (by simp)
   rw [if_pos c18] at H
   have c18b0 : decide (x23_1 < (t303.length : Int)) = true := decide_eq_true c18
   clear c18
   obtain ⟨t307, A190, H⟩ := bindS_ H
   try dsimp only at H
   have A19 := Aa.k A190
   clear A190
   by_cases c20 : x23_1 = a1
   ·rw [if_pos c20] at H
    have c20b0 : (x23_1 == a1) = true := beq_iff_eq.mpr c20
    have c20b1 : (x23_1 != a1) = false := bne_eq_false_iff_eq.mpr c20
    clear c20
    have H' := Aa.k H
    clear H
    have p306 : 0 ≤ (x23_1 : Int) := of_decide_eq_true (by (assumption))
    have q306 : x23_1 < (t303.length : Int) := of_decide_eq_true (by (assumption))
    obtain ⟨ad306, e306, hx306_0⟩ := Kd.Eo (Kd.Bb HO_21.o).2.2 x23_1 p306 q306
    cases e306
    replace p306 := eq_true p306
    replace q306 := eq_true q306
    have hnb21 := NB300_301.o
    have hnc21 := NB301_300.o
    have hnb22 := NB300_302.o
    have hnc22 := NB302_300.o
    have hcz23_0 := Bj BK300.o
    have hcz23_1 := Bn BK300.o
    have hfz23_0 := Ac BK300.o 0
    have hfz23_1 := Ac BK300.o 1
    go_wp2_with (((refine Aj (f := 62) rfl ?_); refine Bf (some 31) rfl rfl Try.func62 (by kernel_rfl) rfl #[.agg #[.int .i64 a0_0, .bool a0_1], .int .i64 a1, .int .i64 x23_1] rfl (by (try simp only [mT_, mC_, mN_]); rfl) ?_; (refine (impl_Road_gap.calls a0_0 a0_1 a1 x23_1 t307 _ A19.o).mono ?_); rintro e w24 ⟨rfl, hb⟩; refine ⟨_, rfl, ?_⟩; have n0_ := Aa.k (Kd.Ba (by exact HO_21.o) hb); have n1_ := Aa.k (Ae (g := gb300) (o := .cells #[.int .i64 a0_0, .bool a0_1] 25 (0, 0)) (by exact BK300.o) hb); have n2_ := Aa.k (Ae (g := gb301) (o := .cells #[.int .i64 0, .int .i64 0] 56 (0, 0)) (by exact BK301.o) hb); have n3_ := Aa.k (Ae (g := gb302) (o := .cells #[.int .i64 x303000_1, .int .i64 x303001_1] 56 (0, 0)) (by exact BK302.o) hb); have n4_ := Aa.k (Ad HB.o hb); clear HO_21; clear BK300; clear BK301; clear BK302; clear HB; have HO_21 := n0_; have BK300 := n1_; have BK301 := n2_; have BK302 := n3_; have HB := n4_; clear n0_ n1_ n2_ n3_ n4_; clear hb))
    go_roundg k1
    case measure => have := HK1.o; omega
    case rel => exact ⟨(x11_1), (wrap64 (x23_1 + 1)), (x303000_1), (x303001_1), (by (rfl)), (by (rfl)), H', ⟨by have := HK1.o; omega⟩, ⟨by exact HO_21.o⟩, ⟨by exact BK300.o⟩, ⟨by exact BK301.o⟩, ⟨by exact BK302.o⟩, ⟨by exact HB.o⟩⟩
   rw [if_neg c20] at H
   have c20b0 : (x23_1 == a1) = false := beq_eq_false_iff_ne.mpr c20
   have c20b1 : (x23_1 != a1) = true := bne_iff_ne.mpr c20
   by_cases c25 : (wrap64 ((rd t303 x23_1) * x303001_1)) > (wrap64 (x303000_1 * t307))
   rotate_left
   ·rw [if_neg c25] at H
    have c25b0 : decide ((wrap64 (x303000_1 * t307)) < (wrap64 ((rd t303 x23_1) * x303001_1))) = false := decide_eq_false c25
    clear c25
    have H' := Aa.k H
    clear H
    have p306 : 0 ≤ (x23_1 : Int) := of_decide_eq_true (by (assumption))
    have q306 : x23_1 < (t303.length : Int) := of_decide_eq_true (by (assumption))
    obtain ⟨ad306, e306, hx306_0⟩ := Kd.Eo (Kd.Bb HO_21.o).2.2 x23_1 p306 q306
    cases e306
    replace p306 := eq_true p306
    replace q306 := eq_true q306
    have hnb32 := NB300_301.o
    have hnc32 := NB301_300.o
    have hnb33 := NB300_302.o
    have hnc33 := NB302_300.o
    have hcz34_0 := Bj BK300.o
    have hcz34_1 := Bn BK300.o
    have hfz34_0 := Ac BK300.o 0
    have hfz34_1 := Ac BK300.o 1
    go_wp2_with (((refine Aj (f := 62) rfl ?_); refine Bf (some 31) rfl rfl Try.func62 (by kernel_rfl) rfl #[.agg #[.int .i64 a0_0, .bool a0_1], .int .i64 a1, .int .i64 x23_1] rfl (by (try simp only [mT_, mC_, mN_]); rfl) ?_; (refine (impl_Road_gap.calls a0_0 a0_1 a1 x23_1 t307 _ A19.o).mono ?_); rintro e w35 ⟨rfl, hb⟩; refine ⟨_, rfl, ?_⟩; have n0_ := Aa.k (Kd.Ba (by exact HO_21.o) hb); have n1_ := Aa.k (Ae (g := gb300) (o := .cells #[.int .i64 a0_0, .bool a0_1] 25 (0, 0)) (by exact BK300.o) hb); have n2_ := Aa.k (Ae (g := gb301) (o := .cells #[.int .i64 0, .int .i64 0] 56 (0, 0)) (by exact BK301.o) hb); have n3_ := Aa.k (Ae (g := gb302) (o := .cells #[.int .i64 x303000_1, .int .i64 x303001_1] 56 (0, 0)) (by exact BK302.o) hb); have n4_ := Aa.k (Ad HB.o hb); clear HO_21; clear BK300; clear BK301; clear BK302; clear HB; have HO_21 := n0_; have BK300 := n1_; have BK301 := n2_; have BK302 := n3_; have HB := n4_; clear n0_ n1_ n2_ n3_ n4_; clear hb; have hnb36 := NB302_301.o; have hnc36 := NB301_302.o; have hcz37_0 := Bj BK302.o; have hcz37_1 := Bn BK302.o; have hfz37_0 := Ac BK302.o 0; have hfz37_1 := Ac BK302.o 1))
    go_roundg k1
    case measure => have := HK1.o; omega
    case rel => exact ⟨(x11_1), (wrap64 (x23_1 + 1)), (x303000_1), (x303001_1), (by (rfl)), (by (rfl)), H', ⟨by have := HK1.o; omega⟩, ⟨by exact HO_21.o⟩, ⟨by exact BK300.o⟩, ⟨by exact BK301.o⟩, ⟨by exact BK302.o⟩, ⟨by exact HB.o⟩⟩
   rw [if_pos c25] at H
   have c25b0 : decide ((wrap64 (x303000_1 * t307)) < (wrap64 ((rd t303 x23_1) * x303001_1))) = true := decide_eq_true c25
   clear c25
   have H' := Aa.k H
   clear H
   have p306 : 0 ≤ (x23_1 : Int) := of_decide_eq_true (by (assumption))
   have q306 : x23_1 < (t303.length : Int) := of_decide_eq_true (by (assumption))
   obtain ⟨ad306, e306, hx306_0⟩ := Kd.Eo (Kd.Bb HO_21.o).2.2 x23_1 p306 q306
   cases e306
   replace p306 := eq_true p306
   replace q306 := eq_true q306
   have hnb26 := NB300_301.o
   have hnc26 := NB301_300.o
   have hnb27 := NB300_302.o
   have hnc27 := NB302_300.o
   have hcz28_0 := Bj BK300.o
   have hcz28_1 := Bn BK300.o
   have hfz28_0 := Ac BK300.o 0
   have hfz28_1 := Ac BK300.o 1
   go_wp2_with (((refine Aj (f := 62) rfl ?_); refine Bf (some 31) rfl rfl Try.func62 (by kernel_rfl) rfl #[.agg #[.int .i64 a0_0, .bool a0_1], .int .i64 a1, .int .i64 x23_1] rfl (by (try simp only [mT_, mC_, mN_]); rfl) ?_; (refine (impl_Road_gap.calls a0_0 a0_1 a1 x23_1 t307 _ A19.o).mono ?_); rintro e w29 ⟨rfl, hb⟩; refine ⟨_, rfl, ?_⟩; have n0_ := Aa.k (Kd.Ba (by exact HO_21.o) hb); have n1_ := Aa.k (Ae (g := gb300) (o := .cells #[.int .i64 a0_0, .bool a0_1] 25 (0, 0)) (by exact BK300.o) hb); have n2_ := Aa.k (Ae (g := gb301) (o := .cells #[.int .i64 0, .int .i64 0] 56 (0, 0)) (by exact BK301.o) hb); have n3_ := Aa.k (Ae (g := gb302) (o := .cells #[.int .i64 x303000_1, .int .i64 x303001_1] 56 (0, 0)) (by exact BK302.o) hb); have n4_ := Aa.k (Ad HB.o hb); clear HO_21; clear BK300; clear BK301; clear BK302; clear HB; have HO_21 := n0_; have BK300 := n1_; have BK301 := n2_; have BK302 := n3_; have HB := n4_; clear n0_ n1_ n2_ n3_ n4_; clear hb; have hnb30 := NB302_301.o; have hnc30 := NB301_302.o; have hcz31_0 := Bj BK302.o; have hcz31_1 := Bn BK302.o; have hfz31_0 := Ac BK302.o 0; have hfz31_1 := Ac BK302.o 1))
   go_roundg k1
   case measure => have := HK1.o; omega
   case rel => exact ⟨(x23_1), (wrap64 (x23_1 + 1)), (rd t303 x23_1), (t307), (by (rfl)), (by (rfl)), H', ⟨by have := HK1.o; omega⟩, ⟨by exact Kd.Bv (Kd.Dc (p := ⟨gb302, 1, none⟩) (Kd.Dc (p := ⟨gb302, 0, none⟩) (Kd.Dh HO_21.o BK302.o (by decide)) (fun _ hk => hk.2) (.int .i64 (rd t303 x23_1))) (fun _ hk => hk.2) (.int .i64 t307)) (fun _ hk => trivial)⟩, ⟨by refine Cb ?_ NB300_302.o _; refine Cb ?_ NB300_302.o _; exact BK300.o⟩, ⟨by refine Cb ?_ NB301_302.o _; refine Cb ?_ NB301_302.o _; exact BK301.o⟩, ⟨by refine Cr (cs := #[.int .i64 (rd t303 x23_1), .int .i64 x303001_1]) ?_ 1 _ rfl; refine Cr (cs := #[.int .i64 x303000_1, .int .i64 x303001_1]) ?_ 0 _ rfl; exact BK302.o⟩, ⟨by repeat ((with_reducible first | exact HB.o | refine Bz ?_ GE302.o))⟩⟩

/-! ### impl_BestSearch: function 31 -/
def Cc.l0 (k : Nat) (n : Int) (g : Bool) (a ex : Int) : List (List Int) → Option (List Int) → Int → Int → Option (List Int)
 | [], none, _, _ => some []
 | [], some b, _, _ => some b
 | l :: rest, best, p, q => if l.length = 0 then none else (Bg.f k n g a l ex).bind fun x => if best.isNone = true ∨ wrap64 (x.1 * q) < wrap64 (p * x.2.1) then Cc.l0 k n g a ex rest (some l) x.1 x.2.1 else Cc.l0 k n g a ex rest best p q
def Cc.f (k : Nat) (n : Int) (g : Bool) (a ex : Int) : Option (List Int × Bool) := (Co.f k n g a).bind fun t => if t = true then (if n > 10 then some ([], false) else (Fx.f ex).bind fun u => if u = true then (Ag.f n g a).bind fun L => (if L.length < 1048576 then (Cc.l0 k n g a ex L none 0 0).bind fun r => some (r, true) else none) else some ([], false)) else some ([], false)
def Cc.T9 : Bool × List (List Nat × List Nat) := (true, [([], []), ([], []), ([0, 0], [0]), ([1, 2, 0, 1, 2], [1])])
def Cc.B9 : List Nat := [0, 0, 1, 7]
theorem Cc.tab9 : rtab .any (opsOf Try.f31 9) = Cc.T9 := by kernel_rfl
theorem Cc.bits9 : waitsOk Cc.T9.2 Cc.B9 = true := by kernel_rfl
set_option maxHeartbeats 8000000 in
set_option maxRecDepth 100000 in
theorem Cc.calls (k : Nat) (n : Int) (g : Bool) (a ex : Int) (r1 : List Int) (r2 : Bool) (w : World) (h : Cc.f k n g a ex = some (r1, r2)) :
  Calls Try.prog 31 #[.agg #[.int .i64 n, .bool g], .int .i64 a, .int .i64 ex] w fun e w' => ∃ v0_ : Value, e = .returned (.tuple #[v0_, .bool r2]) ∧ Kd.R (Kd.int .i64) 3 w' w.heap.size (fun _ => True) v0_ r1 ∧ Below w.heap.size w w' := by
 have hu27 := Try.underlying25
 have hu34 := Try.underlying56
 have q24 : ∀ (w : World) (a : Option Addr) (n c n2 c2 : Nat), (binOp .eql 30 (.slice a n c) (.slice none n2 c2)).run Try.prog w = .ok (.bool a.isNone) w := fun w a n c n2 c2 => Dj.nil w _ _ a n c n2 c2 Try.underlying30
 have hcA : ∀ (W : World) (o : Obj) (b i : Nat) (v : Value), W.cell? ⟨b, i, none⟩ = some v → (W.alloc o).cell? ⟨b, i, none⟩ = some v := fun W o b i v h => ((Dq (Below.refl W.heap.size W) o).cell (World.block_lt_of_cell? W _ h)).trans h
 have HB := Aa.k (Below.refl w.heap.size w)
 obtain ⟨t, h1, h⟩ := Option.bind_eq_some_iff.mp h
 have H1 := Aa.k h1
 clear h1
 by_cases ct : t = true ∧ n ≤ 10
 rotate_left
 ·have hr : r1 = [] ∧ r2 = false ∧ (t = false ∨ t = true ∧ decide (10 < n) = true) := by
   cases t with
   | false => rw [if_neg (by decide)] at h; injection h with h; injection h with h2 h3; exact ⟨h2.symm, h3.symm, .inl rfl⟩
   | true => rw [if_pos rfl, if_pos (show n > 10 by by_cases q : n ≤ 10; exact absurd ⟨rfl, q⟩ ct; omega)] at h; injection h with h; injection h with h2 h3; exact ⟨h2.symm, h3.symm, .inr ⟨rfl, decide_eq_true (by by_cases q : n ≤ 10; exact absurd ⟨rfl, q⟩ ct; omega)⟩⟩
  obtain ⟨rfl, rfl, hr⟩ := hr
  clear h ct
  rcases hr with rfl | ⟨rfl, hn⟩
  all_goals
   go_enter Try.func31, Try.ntmps31
   go_wp2_with (first | ((with_reducible refine Be (N := 3) rfl ?_); refine Bo ?hg (N := 3) ?hd (cs := #[.int .i64 n, .bool g]) (t := 25) ?hr ?_; (case hd => rfl); (case hg => rfl); (case hr => (go_simp; done)); intro gb hg w7 hbox hb; have n0_ := Aa.k (Ad HB.o hb); have BK := Aa.k hbox; have GE := Aa.k ((by rw [hg]; exact Af HB.o) : w.heap.size ≤ gb); clear HB; have HB := n0_; clear n0_ hb hbox hg; have hcz0 := Bj BK.o; have hcz1 := Bn BK.o) | (first | ((with_reducible refine Aj (f := 82) rfl ?_); refine Bf (some 16) rfl rfl Try.func82 (by kernel_rfl) rfl #[.agg #[.int .i64 n, .bool g], .int .i64 a] rfl (by (try simp only [mT_, mC_, mN_]); rfl) ?_; (with_reducible refine (Co.calls k n g a true _ H1.o).mono ?_); rintro e w8 ⟨rfl, hb⟩; refine ⟨_, rfl, ?_⟩; have n0_ := Aa.k (Ae BK.o hb); have n1_ := Aa.k (Ad HB.o hb); clear BK HB hb hcz0 hcz1; have BK := n0_; have HB := n1_; clear n0_ n1_; have hcz0 := Bj BK.o; have hcz1 := Bn BK.o) | ((with_reducible refine Aj (f := 82) rfl ?_); refine Bf (some 16) rfl rfl Try.func82 (by kernel_rfl) rfl #[.agg #[.int .i64 n, .bool g], .int .i64 a] rfl (by (try simp only [mT_, mC_, mN_]); rfl) ?_; (with_reducible refine (Co.calls k n g a false _ H1.o).mono ?_); rintro e w8 ⟨rfl, hb⟩; refine ⟨_, rfl, ?_⟩; have n0_ := Aa.k (Ae BK.o hb); have n1_ := Aa.k (Ad HB.o hb); clear BK HB hb hcz0 hcz1; have BK := n0_; have HB := n1_; clear n0_ n1_; have hcz0 := Bj BK.o; have hcz1 := Bn BK.o)))
   go_ret2
   exact ⟨_, rfl, Kd.R_nil _ _ _ _ _, HB.o⟩
 ·obtain ⟨rfl, hn⟩ := ct
  rw [if_pos rfl, if_neg (by omega)] at h
  have hnb : decide (10 < n) = false := decide_eq_false (by omega)
  obtain ⟨u, h2, h⟩ := Option.bind_eq_some_iff.mp h
  have H2 := Aa.k h2
  clear h2 hn
  cases u with
  | false =>
   rw [if_neg (by decide)] at h
   injection h with h
   injection h with h3 h4
   subst h3 h4
   go_enter Try.func31, Try.ntmps31
   go_wp2_with (first | ((with_reducible refine Be (N := 3) rfl ?_); refine Bo ?hg (N := 3) ?hd (cs := #[.int .i64 n, .bool g]) (t := 25) ?hr ?_; (case hd => rfl); (case hg => rfl); (case hr => (go_simp; done)); intro gb hg w7 hbox hb; have n0_ := Aa.k (Ad HB.o hb); have BK := Aa.k hbox; have GE := Aa.k ((by rw [hg]; exact Af HB.o) : w.heap.size ≤ gb); clear HB; have HB := n0_; clear n0_ hb hbox hg; have hcz0 := Bj BK.o; have hcz1 := Bn BK.o) | ((with_reducible refine Aj (f := 82) rfl ?_); refine Bf (some 16) rfl rfl Try.func82 (by kernel_rfl) rfl #[.agg #[.int .i64 n, .bool g], .int .i64 a] rfl (by (try simp only [mT_, mC_, mN_]); rfl) ?_; (with_reducible refine (Co.calls k n g a true _ H1.o).mono ?_); rintro e w8 ⟨rfl, hb⟩; refine ⟨_, rfl, ?_⟩; have n0_ := Aa.k (Ae BK.o hb); have n1_ := Aa.k (Ad HB.o hb); clear BK HB hb hcz0 hcz1; have BK := n0_; have HB := n1_; clear n0_ n1_; have hcz0 := Bj BK.o; have hcz1 := Bn BK.o))
   refine (Fx.calls ex false _ H2.o).mono ?_
   rintro e w9 ⟨rfl, hd⟩
   have n0_ := Aa.k (Ae BK.o hd.below)
   have n1_ := Aa.k (Ad HB.o hd.below)
   clear BK HB hd hcz0 hcz1
   have BK := n0_
   have HB := n1_
   clear n0_ n1_
   have hcz0 := Bj BK.o
   have hcz1 := Bn BK.o
   go_wp2
   go_ret2
   exact ⟨_, rfl, Kd.R_nil _ _ _ _ _, HB.o⟩
  | true =>
   rw [if_pos rfl] at h
   obtain ⟨L, h3, h⟩ := Option.bind_eq_some_iff.mp h
   by_cases cl : L.length < 1048576
   rotate_left
   ·rw [if_neg cl] at h; cases h
   rw [if_pos cl] at h
   obtain ⟨q, h4, h⟩ := Option.bind_eq_some_iff.mp h
   injection h with h
   injection h with h5 h6
   subst h5 h6
   have H3 := Aa.k h3
   have H4 := Aa.k h4
   have HLL := Aa.k cl
   clear h3 h4 cl
   go_enter Try.func31, Try.ntmps31
   go_wp2_with (first | ((with_reducible refine Be (N := 3) rfl ?_); refine Bo ?hg (N := 3) ?hd (cs := #[.int .i64 n, .bool g]) (t := 25) ?hr ?_; (case hd => rfl); (case hg => rfl); (case hr => (go_simp; done)); intro gb hg w7 hbox hb; have n0_ := Aa.k (Ad HB.o hb); have BK := Aa.k hbox; have GE := Aa.k ((by rw [hg]; exact Af HB.o) : w.heap.size ≤ gb); clear HB; have HB := n0_; clear n0_ hb hbox hg; have hcz0 := Bj BK.o; have hcz1 := Bn BK.o) | ((with_reducible refine Aj (f := 82) rfl ?_); refine Bf (some 16) rfl rfl Try.func82 (by kernel_rfl) rfl #[.agg #[.int .i64 n, .bool g], .int .i64 a] rfl (by (try simp only [mT_, mC_, mN_]); rfl) ?_; (with_reducible refine (Co.calls k n g a true _ H1.o).mono ?_); rintro e w8 ⟨rfl, hb⟩; refine ⟨_, rfl, ?_⟩; have n0_ := Aa.k (Ae BK.o hb); have n1_ := Aa.k (Ad HB.o hb); clear BK HB hb hcz0 hcz1; have BK := n0_; have HB := n1_; clear n0_ n1_; have hcz0 := Bj BK.o; have hcz1 := Bn BK.o))
   refine (Fx.calls ex true _ H2.o).mono ?_
   rintro e w9 ⟨rfl, hd⟩
   have n0_ := Aa.k (Ae BK.o hd.below)
   have n1_ := Aa.k (Ad HB.o hd.below)
   clear BK HB hd hcz0 hcz1
   have BK := n0_
   have HB := n1_
   clear n0_ n1_
   have hcz0 := Bj BK.o
   have hcz1 := Bn BK.o
   go_wp2_with fail
   refine (Ag.calls n g a L _ H3.o).mono ?_
   rintro e w10 ⟨v31, rfl, hs, hb⟩
   have n0_ := Aa.k (Ae (blk_alloc BK.o _) hb)
   have B9 := Aa.k (Ae (blk_new w9 _) hb)
   have n1_ := Aa.k (Ad (Dq HB.o _) hb)
   have HGW := Aa.k (Af HB.o)
   have hsz : (w9.alloc (Obj.cells #[.int .i64 0, .int .i64 0] 56)).heap.size = w9.heap.size + 1 := Array.size_push ..
   rw [hsz] at hs
   obtain ⟨A31, c31, e31⟩ := Kd.S_slice hs
   subst e31
   obtain ⟨f8, hf8⟩ := hs
   have HS := Aa.k (Kd.Ct (Kd.Bv (ok' := fun k_ => k_ ≠ w9.heap.size) (Kd.R_bound hf8) (fun k_ h_ => by have := h_.2.1; omega)) (show w.heap.size ≤ w9.heap.size + 1 by have := HGW.o; omega))
   clear BK HB hb hcz0 hcz1 hf8 hsz
   have BK := n0_
   have HB := n1_
   clear n0_ n1_
   generalize w9.heap.size = g9 at *
   go_wp2_with fail
   go_loopg [8, 33] L.length (fun d v8 v33 w' => ∃ (i : Nat) (best : Option (List Int)) (p s : Int), v33 = .int .i64 (i : Int) ∧ Aa (i + d = L.length) ∧ Aa (Cc.l0 k n g a ex (L.drop i) best p s = some q) ∧ Aa (w'.heap[gb]? = some (.cells #[.int .i64 n, .bool g] 25 (0, 0))) ∧ Aa (w'.heap[g9]? = some (.cells #[.int .i64 p, .int .i64 s] 56 (0, 0))) ∧ Aa (Below w.heap.size w w') ∧ Aa ((Kd.tag f8 (Kd.slice 3 (Kd.int .i64))).R 30 w' w.heap.size (fun k_ => k_ ≠ g9) (.slice A31 L.length c31) L.zipIdx) ∧ ((best = none ∧ v8 = .slice none 0 0) ∨ ∃ b, best = some b ∧ 0 < b.length ∧ Kd.R (Kd.int .i64) 3 w' w.heap.size (fun k_ => k_ ≠ g9) v8 b))
   case atStart => exact ⟨0, none, 0, 0, rfl, ⟨by omega⟩, ⟨by rw [List.drop_zero]; exact H4.o⟩, BK, B9, HB, HS, .inl ⟨rfl, rfl⟩⟩
   case round =>
    clear BK HB HS B9
    obtain ⟨i, best, p, s, rfl, HID, HA, BK, B9, HB, HS, hbest⟩ := hrel
    by_cases ci : i < L.length
    rotate_left
    ·have c1b : decide ((i : Int) < (L.length : Int)) = false := decide_eq_false (by omega)
     have c1n : decide (i < L.length) = false := decide_eq_false ci
     have hA := HA.o
     rw [List.drop_of_length_le (by omega)] at hA
     clear ci HA
     rcases hbest with ⟨rfl, rfl⟩ | ⟨b, rfl, h2_, h3_⟩
     ·obtain rfl := Option.some.inj hA
      clear hA
      go_wp2
      go_ret2
      exact ⟨_, rfl, Kd.R_nil _ _ _ _ _, HB.o⟩
     obtain rfl := Option.some.inj hA
     obtain ⟨A9, c9, e9⟩ := Kd.Cx h3_
     subst e9
     have HRB := Aa.k h3_
     clear hA h2_ h3_
     go_wp2
     go_ret2
     exact ⟨_, rfl, Kd.Bv HRB.o (fun _ _ => trivial), HB.o⟩
    have HI0 : i < L.zipIdx.length := by rw [List.length_zipIdx]; exact ci
    have c0i : (0 : Int) ≤ (i : Int) := by omega
    have c1i : (i : Int) < (L.length : Int) := by omega
    have c1b : decide ((i : Int) < (L.length : Int)) = true := decide_eq_true c1i
    have c1n : decide (i < L.length) = true := decide_eq_true ci
    have hw1 : IntKind.i64.wrap ((i : Int) + 1) = ((i + 1 : Nat) : Int) := (Ah _).trans (by have := HLL.o; unfold wrap64; omega)
    obtain ⟨ad, A', c', e, hx, hM⟩ := Dw.elem HS.o i HI0
    subst e
    obtain ⟨x, hz⟩ : ∃ x, L.zipIdx[i]'HI0 = (x, i) := ⟨L[i], by rw [List.getElem_zipIdx, Nat.zero_add]⟩
    have hxl : L[i] = x := by have := congrArg Prod.fst hz; rwa [List.getElem_zipIdx] at this
    rw [hz] at hM hx
    obtain ⟨vv, evv, hvv⟩ := hM
    injection evv with evv
    subst evv
    have HE := Aa.k (Kd.Bv (ok' := fun k_ => k_ ≠ g9) hvv (fun _ h_ => h_.1.1))
    have hA := HA.o
    rw [List.drop_eq_getElem_cons ci, hxl] at hA
    by_cases cx : x.length = 0
    ·simp only [Cc.l0] at hA
     rw [if_pos cx] at hA
     cases hA
    simp only [Cc.l0] at hA
    rw [if_neg cx] at hA
    obtain ⟨⟨y1, y2, y3⟩, h1, hA⟩ := Option.bind_eq_some_iff.mp hA
    have HWO := Aa.k h1
    have HI := Aa.k ci
    have HCX := Aa.k (show 0 < x.length by omega)
    have HAA := Aa.k hA
    have HBS := Aa.k hbest
    have hcz0 := Bj BK.o
    have hcz1 := Bn BK.o
    clear HA hA h1 hvv hz hxl ci cx hbest
    go_wp2_with fail
    refine (Bg.calls k n g a _ _ x ex y1 y2 y3 _ (Kd.Bb HE.o).2.2 (Kd.Bb HE.o).2.1 HWO.o).mono ?_
    rintro e w11 ⟨rfl, hb⟩
    have n0_ := Aa.k (Ae BK.o hb)
    have n1_ := Aa.k (Ad HB.o hb)
    have n2_ := Aa.k (Ae B9.o hb)
    have n3_ := Aa.k (Kd.Ba HS.o hb)
    have n4_ := Aa.k (Kd.Ba HE.o hb)
    have hbest : (best = none ∧ u8 = .slice none 0 0) ∨ ∃ b, best = some b ∧ 0 < b.length ∧ Kd.R (Kd.int .i64) 3 w11 w.heap.size (fun k_ => k_ ≠ g9) u8 b := by
     rcases HBS.o with h_ | ⟨b, h1_, h2_, h3_⟩
     ·exact .inl h_
     exact .inr ⟨b, h1_, h2_, Kd.Ba h3_ hb⟩
    clear BK HB B9 HS HE HBS hb hcz0 hcz1 hx
    have BK := n0_
    have HB := n1_
    have B9 := n2_
    have HS := n3_
    have HE := n4_
    clear n0_ n1_ n2_ n3_ n4_
    have hA := HAA.o
    have hm1 := Ah (y1 * s)
    have hm2 := Ah (p * y2)
    replace hA : (if best.isNone = true ∨ wrap64 (y1 * s) < wrap64 (p * y2) then Cc.l0 k n g a ex (L.drop (i + 1)) (some x) y1 y2 else Cc.l0 k n g a ex (L.drop (i + 1)) best p s) = some q := hA
    generalize wrap64 (y1 * s) = m1 at hA hm1
    generalize wrap64 (p * y2) = m2 at hA hm2
    have hc90 : w11.cell? ⟨g9, 0, none⟩ = some (.int .i64 p) := (Aw B9.o 0).trans rfl
    have hc91 : w11.cell? ⟨g9, 1, none⟩ = some (.int .i64 s) := (Aw B9.o 1).trans rfl
    clear HAA
    have hway : (Cc.l0 k n g a ex (L.drop (i + 1)) (some x) y1 y2 = some q ∧ ((best = none ∧ u8 = .slice none 0 0) ∨ decide (m1 < m2) = true ∧ ∃ b A9 c9, best = some b ∧ 0 < b.length ∧ u8 = .slice (some A9) b.length c9)) ∨ (Cc.l0 k n g a ex (L.drop (i + 1)) best p s = some q ∧ decide (m1 < m2) = false ∧ ∃ b A9 c9, best = some b ∧ 0 < b.length ∧ u8 = .slice (some A9) b.length c9 ∧ Kd.R (Kd.int .i64) 3 w11 w.heap.size (fun k_ => k_ ≠ g9) (.slice (some A9) b.length c9) b) := by
     rcases hbest with ⟨rfl, h2_⟩ | ⟨b, rfl, h2_, h3_⟩
     ·rw [if_pos (.inl rfl)] at hA
      exact .inl ⟨hA, .inl ⟨rfl, h2_⟩⟩
     obtain ⟨g1, cap1, e1, _⟩ := Kd.R_form h3_ h2_
     by_cases cm : m1 < m2
     ·rw [if_pos (.inr cm)] at hA
      exact .inl ⟨hA, .inr ⟨decide_eq_true cm, b, _, _, rfl, h2_, e1⟩⟩
     rw [if_neg (fun h_ => by rcases h_ with h_ | h_; cases h_; exact cm h_)] at hA
     subst e1
     exact .inr ⟨hA, decide_eq_false cm, b, _, _, rfl, h2_, rfl, h3_⟩
    clear hbest hA
    rcases hway with ⟨hH, hu⟩ | ⟨hH, hm, b, A9, c9, rfl, hbl, rfl, hRb⟩
    rotate_left
    ·have HH := Aa.k hH
     have HRB := Aa.k hRb
     have HBL := Aa.k hbl
     clear hH hRb hbl
     go_wp2
     go_roundg (gk - 1)
     case measure => have := HID.o; have := HI.o; omega
     case rel => exact ⟨i + 1, some b, p, s, by (rfl), ⟨by have := HID.o; have := HI.o; omega⟩, HH, ⟨blk_alloc BK.o _⟩, ⟨blk_alloc B9.o _⟩, ⟨Dq HB.o _⟩, ⟨Kd.R_alloc HS.o _⟩, .inr ⟨b, rfl, HBL.o, Kd.R_alloc HRB.o _⟩⟩
    have HH := Aa.k hH
    rcases hu with ⟨rfl, rfl⟩ | ⟨hm, b, A9, c9, rfl, hbl, rfl⟩
    all_goals
     clear hH
     go_wp2
     have n0_ := Aa.k (Dt (blk_alloc BK.o (Obj.cells #[.int .i64 y1, .int .i64 y2] 56)))
     have n1_ := Aa.k (Cf (Dq HB.o (Obj.cells #[.int .i64 y1, .int .i64 y2] 56)))
     have n2_ := Aa.k (Dt (blk_alloc B9.o (Obj.cells #[.int .i64 y1, .int .i64 y2] 56)))
     have n3_ := Aa.k (Kd.R_drew (Kd.R_alloc HS.o (Obj.cells #[.int .i64 y1, .int .i64 y2] 56)))
     have n4_ := Aa.k (Kd.R_drew (Kd.R_alloc HE.o (Obj.cells #[.int .i64 y1, .int .i64 y2] 56)))
     have B12 := Aa.k (Dt (blk_new w11 (Obj.cells #[.int .i64 y1, .int .i64 y2] 56)))
     clear BK HB B9 HS HE hm1 hm2 hc90 hc91
     have BK := n0_
     have HB := n1_
     have B9 := n2_
     have HS := n3_
     have HE := n4_
     clear n0_ n1_ n2_ n3_ n4_
     generalize w11.heap.size = g12 at *
     generalize w11.alloc (Obj.cells #[.int .i64 y1, .int .i64 y2] 56) = w12 at *
     refine Fp (n := 4) (S := fun w' => w'.cell? ⟨g12, 0, none⟩ = some (.int .i64 y1) ∧ w'.cell? ⟨g12, 1, none⟩ = some (.int .i64 y2)) (ds := [3]) #[N_,N_,N_,N_] (by kernel_rfl) rfl rfl ⟨(Aw B12.o 0).trans rfl, (Aw B12.o 1).trans rfl⟩ (fun hHeld => ?_); refine Dv Cc.tab9 Cc.bits9 (fun HT_ HW_ => ?_)
     generalize w12.drew = w21 at BK HB B9 HS HE B12 hHeld ⊢
     apply pq_ 0 60 #[Y_,N_,N_,N_] HT_ rfl rfl (by kernel_rfl) (fun _ _ _ h => h) (by rfl)
     ·intro w'; go_simp; rfl
     ·simp only [Act.put, sT_, sZ_, sS_, Ah, Ai]; rfl
     refine En (i := 1) (N := some 61) (v := ?_) (a' := ?_) #[Y_,Y_,N_,N_] rfl rfl (Cm HT_.o HW_.o (by kernel_rfl)) (fun _ _ _ h => h) (Or.inl ⟨by rfl, ?_⟩) hHeld ?_ ?_
     rotate_left
     ·rintro w' ⟨s0, s1⟩
      go_simp
      rfl
     rotate_left
     ·simp only [Act.put, sT_, sZ_, sS_, Ah, Ai]
      rfl
     apply pq_ 2 8 #[Y_,Y_,Y_,N_] HT_ rfl rfl (by kernel_rfl) (fun _ _ _ h => h) (by rfl)
     ·intro w'; go_simp; rfl
     ·simp only [Act.put, sT_, sZ_, sS_, Ah, Ai]; rfl
     refine last_ (i := 3) (N := none) #[Y_,Y_,Y_,Y_] rfl rfl (Ej HT_.o (by kernel_rfl)) (by decide) (fun K hK => ?_)
     have hc0_ : w21.cell? ⟨g9, 0, none⟩ = some (.int .i64 p) := (Aw B9.o 0).trans rfl
     have hc1_ : w21.cell? ⟨g9, 1, none⟩ = some (.int .i64 s) := (Aw B9.o 1).trans rfl
     have hf0_ := Ac B9.o 0
     have hf1_ := Ac B9.o 1
     refine skip_ (w1 := (w21.setCell ⟨g9, 0, none⟩ (.int .i64 y1)).setCell ⟨g9, 1, none⟩ (.int .i64 y2)) (by rfl) rfl ?hr ?_
     (case hr => (go_simp; done))
     clear hc0_ hc1_ hf0_ hf1_
     refine hK.out _ _ ?_
     clear hK K
     refine done_ (Fa HT_.o (by kernel_rfl)) ?_
     go_wp2
     go_roundg (gk - 1)
     case measure => have := HID.o; have := HI.o; omega
     case rel => exact ⟨i + 1, some x, y1, y2, by (rfl), ⟨by have := HID.o; have := HI.o; omega⟩, HH, ⟨Cb (Cb BK.o (p := ⟨g9, 0, none⟩) (blk_ne BK.o B9.o (by decide)) _) (p := ⟨g9, 1, none⟩) (blk_ne BK.o B9.o (by decide)) _⟩, ⟨(blk_set (blk_set B9.o 0 (.int .i64 y1)) 1 (.int .i64 y2)).trans rfl⟩, ⟨Bz (Bz HB.o HGW.o) HGW.o⟩, ⟨Kd.Dc (p := ⟨g9, 1, none⟩) (Kd.Dc (p := ⟨g9, 0, none⟩) HS.o (fun _ h_ => h_) _) (fun _ h_ => h_) _⟩, .inr ⟨x, rfl, HCX.o, Kd.Dc (p := ⟨g9, 1, none⟩) (Kd.Dc (p := ⟨g9, 0, none⟩) HE.o (fun _ h_ => h_) _) (fun _ h_ => h_) _⟩⟩
/-! ### spec_l2Road: function 70 -/
def Fq.f (a0_0 : Int) (a0_1 : Bool) : Option (Bool) := (Eu.f a0_0 2 24).bind fun t311 => (if t311 = true then (if a0_1 = true then (some (decide (a0_0 > 2))) else (some true)) else (some false))
set_option maxHeartbeats 8000000 in
set_option maxRecDepth 100000 in
theorem Fq.calls (a0_0 : Int) (a0_1 : Bool) (r : Bool) (w : World) (h : Fq.f a0_0 a0_1 = some r) :
  Calls Try.prog 70 #[.agg #[.int .i64 a0_0, .bool a0_1]] w fun e w' => e = .returned (.bool r) ∧ Below w.heap.size w w' := by
 have hu25 := Try.underlying25
 have HB := Aa.k (Below.refl w.heap.size w)
 have H : ((Eu.f a0_0 2 24).bind fun t311 => (if t311 = true then (if a0_1 = true then (some (decide (a0_0 > 2))) else (some true)) else (some false))) = some r := h
 clear h
 obtain ⟨t311, A20, H⟩ := bindS_ H
 try dsimp only at H
 have A2 := Aa.k A20
 clear A20
 by_cases c3 : t311 = true
 rotate_left
 ·replace c3 := Bool.eq_false_iff.mpr c3
  subst c3
  rw [if_neg (show ¬ (false = true) by decide)] at H
  obtain rfl := Option.some.inj H
  go_enter Try.func70, Try.ntmps70
  go_wp2_with (first | ((with_reducible refine Be (N := 1) rfl ?_); refine Bo ?hg (N := 1) ?hd (cs := #[.int .i64 a0_0, .bool a0_1]) (t := 25) ?hr ?_; (case hd => rfl); (case hg => rfl); (case hr => (go_simp; done)); intro gb310 hg w9 hbox hb; have n0_ := Aa.k (Ad HB.o hb); have n1_ := Aa.k (hbox); have n2_ := Aa.k ((by rw [hg]; exact (Af HB.o) : w.heap.size ≤ gb310)); have n3_ := Aa.k ((by rw [hg]; exact (Af HB.o) : w.heap.size ≤ gb310)); clear HB; have HB := n0_; have BK310 := n1_; have GW310 := n2_; have GE310 := n3_; clear n0_ n1_ n2_ n3_; clear hb hbox hg; have hcz10_0 := Bj BK310.o; have hcz10_1 := Bn BK310.o; have hfz10_0 := Ac BK310.o 0; have hfz10_1 := Ac BK310.o 1) | ((with_reducible refine Aj (f := 100) rfl ?_); refine Bf (some 5) rfl rfl Try.func100 (by kernel_rfl) rfl #[.int .i64 a0_0, .int .i64 2, .int .i64 24] rfl (by (try simp only [mT_, mC_, mN_]); rfl) ?_; (with_reducible refine (Eu.calls a0_0 2 24 false _ A2.o).mono ?_); rintro e w' ⟨rfl, ⟨nd, rfl⟩⟩; refine ⟨_, rfl, ?_⟩))
  go_ret
  exact ⟨by (rfl), by repeat ((with_reducible first | exact HB.o | apply Bh))⟩
 subst c3
 rw [if_pos rfl] at H
 by_cases c4 : a0_1 = true
 ·subst c4
  rw [if_pos rfl] at H
  obtain rfl := Option.some.inj H
  go_enter Try.func70, Try.ntmps70
  go_wp2_with (first | ((with_reducible refine Be (N := 1) rfl ?_); refine Bo ?hg (N := 1) ?hd (cs := #[.int .i64 a0_0, .bool true]) (t := 25) ?hr ?_; (case hd => rfl); (case hg => rfl); (case hr => (go_simp; done)); intro gb310 hg w5 hbox hb; have n0_ := Aa.k (Ad HB.o hb); have n1_ := Aa.k (hbox); have n2_ := Aa.k ((by rw [hg]; exact (Af HB.o) : w.heap.size ≤ gb310)); have n3_ := Aa.k ((by rw [hg]; exact (Af HB.o) : w.heap.size ≤ gb310)); clear HB; have HB := n0_; have BK310 := n1_; have GW310 := n2_; have GE310 := n3_; clear n0_ n1_ n2_ n3_; clear hb hbox hg; have hcz6_0 := Bj BK310.o; have hcz6_1 := Bn BK310.o; have hfz6_0 := Ac BK310.o 0; have hfz6_1 := Ac BK310.o 1) | ((with_reducible refine Aj (f := 100) rfl ?_); refine Bf (some 5) rfl rfl Try.func100 (by kernel_rfl) rfl #[.int .i64 a0_0, .int .i64 2, .int .i64 24] rfl (by (try simp only [mT_, mC_, mN_]); rfl) ?_; (with_reducible refine (Eu.calls a0_0 2 24 true _ A2.o).mono ?_); rintro e w' ⟨rfl, ⟨nd, rfl⟩⟩; refine ⟨_, rfl, ?_⟩))
  go_ret
  exact ⟨by (rfl), by repeat ((with_reducible first | exact HB.o | apply Bh))⟩
 replace c4 := Bool.eq_false_iff.mpr c4
 subst c4
 rw [if_neg (show ¬ (false = true) by decide)] at H
 obtain rfl := Option.some.inj H
 go_enter Try.func70, Try.ntmps70
 go_wp2_with (first | ((with_reducible refine Be (N := 1) rfl ?_); refine Bo ?hg (N := 1) ?hd (cs := #[.int .i64 a0_0, .bool false]) (t := 25) ?hr ?_; (case hd => rfl); (case hg => rfl); (case hr => (go_simp; done)); intro gb310 hg w7 hbox hb; have n0_ := Aa.k (Ad HB.o hb); have n1_ := Aa.k (hbox); have n2_ := Aa.k ((by rw [hg]; exact (Af HB.o) : w.heap.size ≤ gb310)); have n3_ := Aa.k ((by rw [hg]; exact (Af HB.o) : w.heap.size ≤ gb310)); clear HB; have HB := n0_; have BK310 := n1_; have GW310 := n2_; have GE310 := n3_; clear n0_ n1_ n2_ n3_; clear hb hbox hg; have hcz8_0 := Bj BK310.o; have hcz8_1 := Bn BK310.o; have hfz8_0 := Ac BK310.o 0; have hfz8_1 := Ac BK310.o 1) | ((with_reducible refine Aj (f := 100) rfl ?_); refine Bf (some 5) rfl rfl Try.func100 (by kernel_rfl) rfl #[.int .i64 a0_0, .int .i64 2, .int .i64 24] rfl (by (try simp only [mT_, mC_, mN_]); rfl) ?_; (with_reducible refine (Eu.calls a0_0 2 24 true _ A2.o).mono ?_); rintro e w' ⟨rfl, ⟨nd, rfl⟩⟩; refine ⟨_, rfl, ?_⟩))
 go_ret
 exact ⟨by (rfl), by repeat ((with_reducible first | exact HB.o | apply Bh))⟩

/-! ### spec_l3Line: function 84 -/
def Ea.f (a0_0 : Int) (a0_1 : Bool) (a1 : Int) : Option (Bool) := (Fq.f a0_0 a0_1).bind fun t313 => (if t313 = true then (if a0_1 = true then (some false) else ((Eu.f a1 0 (wrap64 (a0_0 - 1))).bind fun t314 => (some t314))) else (some false))
set_option maxHeartbeats 8000000 in
set_option maxRecDepth 100000 in
theorem Ea.calls (a0_0 : Int) (a0_1 : Bool) (a1 : Int) (r : Bool) (w : World) (h : Ea.f a0_0 a0_1 a1 = some r) :
  Calls Try.prog 84 #[.agg #[.int .i64 a0_0, .bool a0_1], .int .i64 a1] w fun e w' => e = .returned (.bool r) ∧ Below w.heap.size w w' := by
 have hu25 := Try.underlying25
 have HB := Aa.k (Below.refl w.heap.size w)
 have H : ((Fq.f a0_0 a0_1).bind fun t313 => (if t313 = true then (if a0_1 = true then (some false) else ((Eu.f a1 0 (wrap64 (a0_0 - 1))).bind fun t314 => (some t314))) else (some false))) = some r := h
 clear h
 obtain ⟨t313, A30, H⟩ := bindS_ H
 try dsimp only at H
 have A3 := Aa.k A30
 clear A30
 by_cases c4 : t313 = true
 rotate_left
 ·replace c4 := Bool.eq_false_iff.mpr c4
  subst c4
  rw [if_neg (show ¬ (false = true) by decide)] at H
  obtain rfl := Option.some.inj H
  go_enter Try.func84, Try.ntmps84
  go_wp2_with (first | ((with_reducible refine Be (N := 2) rfl ?_); refine Bo ?hg (N := 2) ?hd (cs := #[.int .i64 a0_0, .bool a0_1]) (t := 25) ?hr ?_; (case hd => rfl); (case hg => rfl); (case hr => (go_simp; done)); intro gb312 hg w15 hbox hb; have n0_ := Aa.k (Ad HB.o hb); have n1_ := Aa.k (hbox); have n2_ := Aa.k ((by rw [hg]; exact (Af HB.o) : w.heap.size ≤ gb312)); have n3_ := Aa.k ((by rw [hg]; exact (Af HB.o) : w.heap.size ≤ gb312)); clear HB; have HB := n0_; have BK312 := n1_; have GW312 := n2_; have GE312 := n3_; clear n0_ n1_ n2_ n3_; clear hb hbox hg; have hcz16_0 := Bj BK312.o; have hcz16_1 := Bn BK312.o; have hfz16_0 := Ac BK312.o 0; have hfz16_1 := Ac BK312.o 1) | ((with_reducible refine Aj (f := 70) rfl ?_); refine Bf (some 6) rfl rfl Try.func70 (by kernel_rfl) rfl #[.agg #[.int .i64 a0_0, .bool a0_1]] rfl (by (try simp only [mT_, mC_, mN_]); rfl) ?_; (with_reducible refine (Fq.calls a0_0 a0_1 false _ A3.o).mono ?_); rintro e w17 ⟨rfl, hb⟩; refine ⟨_, rfl, ?_⟩; have n0_ := Aa.k (Ae (g := gb312) (o := .cells #[.int .i64 a0_0, .bool a0_1] 25 (0, 0)) (by exact BK312.o) hb); have n1_ := Aa.k (Ad HB.o hb); clear BK312; clear HB; have BK312 := n0_; have HB := n1_; clear n0_ n1_; clear hb))
  go_ret
  exact ⟨by (rfl), by exact HB.o⟩
 subst c4
 rw [if_pos rfl] at H
 by_cases c5 : a0_1 = true
 ·subst c5
  rw [if_pos rfl] at H
  obtain rfl := Option.some.inj H
  go_enter Try.func84, Try.ntmps84
  go_wp2_with (first | ((with_reducible refine Be (N := 2) rfl ?_); refine Bo ?hg (N := 2) ?hd (cs := #[.int .i64 a0_0, .bool true]) (t := 25) ?hr ?_; (case hd => rfl); (case hg => rfl); (case hr => (go_simp; done)); intro gb312 hg w6 hbox hb; have n0_ := Aa.k (Ad HB.o hb); have n1_ := Aa.k (hbox); have n2_ := Aa.k ((by rw [hg]; exact (Af HB.o) : w.heap.size ≤ gb312)); have n3_ := Aa.k ((by rw [hg]; exact (Af HB.o) : w.heap.size ≤ gb312)); clear HB; have HB := n0_; have BK312 := n1_; have GW312 := n2_; have GE312 := n3_; clear n0_ n1_ n2_ n3_; clear hb hbox hg; have hcz7_0 := Bj BK312.o; have hcz7_1 := Bn BK312.o; have hfz7_0 := Ac BK312.o 0; have hfz7_1 := Ac BK312.o 1) | ((with_reducible refine Aj (f := 70) rfl ?_); refine Bf (some 6) rfl rfl Try.func70 (by kernel_rfl) rfl #[.agg #[.int .i64 a0_0, .bool true]] rfl (by (try simp only [mT_, mC_, mN_]); rfl) ?_; (with_reducible refine (Fq.calls a0_0 true true _ A3.o).mono ?_); rintro e w8 ⟨rfl, hb⟩; refine ⟨_, rfl, ?_⟩; have n0_ := Aa.k (Ae (g := gb312) (o := .cells #[.int .i64 a0_0, .bool true] 25 (0, 0)) (by exact BK312.o) hb); have n1_ := Aa.k (Ad HB.o hb); clear BK312; clear HB; have BK312 := n0_; have HB := n1_; clear n0_ n1_; clear hb; have hcz9_0 := Bj BK312.o; have hcz9_1 := Bn BK312.o; have hfz9_0 := Ac BK312.o 0; have hfz9_1 := Ac BK312.o 1))
  go_ret
  exact ⟨by (rfl), by exact HB.o⟩
 replace c5 := Bool.eq_false_iff.mpr c5
 subst c5
 rw [if_neg (show ¬ (false = true) by decide)] at H
 obtain ⟨t314, A100, H⟩ := bindS_ H
 try dsimp only at H
 have A10 := Aa.k A100
 clear A100
 obtain rfl := Option.some.inj H
 go_enter Try.func84, Try.ntmps84
 go_wp2_with (first | ((with_reducible refine Be (N := 2) rfl ?_); refine Bo ?hg (N := 2) ?hd (cs := #[.int .i64 a0_0, .bool false]) (t := 25) ?hr ?_; (case hd => rfl); (case hg => rfl); (case hr => (go_simp; done)); intro gb312 hg w11 hbox hb; have n0_ := Aa.k (Ad HB.o hb); have n1_ := Aa.k (hbox); have n2_ := Aa.k ((by rw [hg]; exact (Af HB.o) : w.heap.size ≤ gb312)); have n3_ := Aa.k ((by rw [hg]; exact (Af HB.o) : w.heap.size ≤ gb312)); clear HB; have HB := n0_; have BK312 := n1_; have GW312 := n2_; have GE312 := n3_; clear n0_ n1_ n2_ n3_; clear hb hbox hg; have hcz12_0 := Bj BK312.o; have hcz12_1 := Bn BK312.o; have hfz12_0 := Ac BK312.o 0; have hfz12_1 := Ac BK312.o 1) | ((with_reducible refine Aj (f := 70) rfl ?_); refine Bf (some 6) rfl rfl Try.func70 (by kernel_rfl) rfl #[.agg #[.int .i64 a0_0, .bool false]] rfl (by (try simp only [mT_, mC_, mN_]); rfl) ?_; (with_reducible refine (Fq.calls a0_0 false true _ A3.o).mono ?_); rintro e w13 ⟨rfl, hb⟩; refine ⟨_, rfl, ?_⟩; have n0_ := Aa.k (Ae (g := gb312) (o := .cells #[.int .i64 a0_0, .bool false] 25 (0, 0)) (by exact BK312.o) hb); have n1_ := Aa.k (Ad HB.o hb); clear BK312; clear HB; have BK312 := n0_; have HB := n1_; clear n0_ n1_; clear hb; have hcz14_0 := Bj BK312.o; have hcz14_1 := Bn BK312.o; have hfz14_0 := Ac BK312.o 0; have hfz14_1 := Ac BK312.o 1) | (go_at_call 100; (with_reducible refine (Eu.calls a1 0 (wrap64 (a0_0 - 1)) t314 _ A10.o).mono ?_); rintro e w' ⟨rfl, ⟨nd, rfl⟩⟩))
 go_ret
 exact ⟨by (rfl), by repeat ((with_reducible first | exact HB.o | apply Bh))⟩

/-! ### spec_l3Extra: function 92 -/
def spec_l3Extra.f (a0 : Int) : Option (Bool) := (Eu.f a0 0 9).bind fun t315 => (some t315)
set_option maxHeartbeats 8000000 in
set_option maxRecDepth 100000 in
theorem spec_l3Extra.calls (a0 : Int) (r : Bool) (w : World) (h : spec_l3Extra.f a0 = some r) :
  Calls Try.prog 92 #[.int .i64 a0] w fun e w' => e = .returned (.bool r) ∧ Cu w w' := by
 have H : ((Eu.f a0 0 9).bind fun t315 => (some t315)) = some r := h
 clear h
 obtain ⟨t315, A20, H⟩ := bindS_ H
 try dsimp only at H
 have A2 := Aa.k A20
 clear A20
 obtain rfl := Option.some.inj H
 go_enter Try.func92, Try.ntmps92
 go_wp2_with (((refine Aj (f := 100) rfl ?_); refine Bf (some 4) rfl rfl Try.func100 (by kernel_rfl) rfl #[.int .i64 a0, .int .i64 0, .int .i64 9] rfl (by (try simp only [mT_, mC_, mN_]); rfl) ?_; (refine (Eu.calls a0 0 9 t315 _ A2.o).mono ?_); rintro e w' ⟨rfl, ⟨nd, rfl⟩⟩; refine ⟨_, rfl, ?_⟩))
 go_ret
 exact ⟨by (rfl), by repeat (first | exact Cu.refl _ | apply Cu.step)⟩

end Go.Proofs.Ytogflbocmiogpaa.PFnBestSearch
