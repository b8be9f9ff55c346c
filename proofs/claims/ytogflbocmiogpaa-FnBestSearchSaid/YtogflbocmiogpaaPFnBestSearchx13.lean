-- Written for this claim by this session's turned copy of the printer.
import Derived.Test.YtogflbocmiogpaaPFnBestSearchx0
import Derived.Test.YtogflbocmiogpaaPFnBestSearchx12
namespace Go.Proofs.Ytogflbocmiogpaa.PFnBestSearch
open Go.RowKit Go.Proofs.YtogflbocmiogpaaW.PrintWords Go.Proofs.YtogflbocmiogpaaW.PrintLast Go.Proofs.YtogflbocmiogpaaW.PrintMore
open List renaming setIfInBounds_toArray → sT_, set_cons_zero → sZ_, set_cons_succ → sS_, map_toArray → mT_, map_cons → mC_, map_nil → mN_
open Bool renaming true → Y_, false → N_
attribute [local go_sem] max2_int min2_int max_two min_two Fj Fh max_four min_four   -- for this text's walks alone
set_option linter.unusedVariables false
set_option linter.unusedSimpArgs false

/-! ### impl_Road_times: function 77 -/
mutual
def Ar.l0 : Nat → Int → List Int → Int → List Int → Int → Int → Int → Bool → Option (List Int)
 | 0, _, _, _, _, _, _, _, _ => none
 | k + 1, x1, x2, x3, x9, x21, x22, x278000, x278001 => if x22 < x21 then (if 0 ≤ x22 then (if x22 < (x9.length : Int) then (Ar.l0 k x1 x2 x3 (x9.set (x22 : Int).toNat (-1)) x21 (wrap64 (x22 + 1)) x278000 x278001) else (none)) else (none)) else (if 0 ≤ x1 then (if x1 < (x9.length : Int) then (Ar.l1 k x3 (x9.set (x1 : Int).toNat 0) 0 x1 x2 (x2.length : Int) 0 x278000 x278001) else (none)) else (none))
def Ar.l1 : Nat → Int → List Int → Int → Int → List Int → Int → Int → Int → Bool → Option (List Int)
 | 0, _, _, _, _, _, _, _, _, _ => none
 | k + 1, x3, x9, x11, x12, x33, x34, x35, x278000, x278001 => if x35 < x34 then (if 0 ≤ x35 then (if x35 < (x33.length : Int) then (if x35 > 0 then (Ar.j2 k x3 x9 (wrap64 (x11 + x3)) x12 (rd x33 x35) x33 x34 x35 x278000 x278001) else (Ar.j2 k x3 x9 x11 x12 (rd x33 x35) x33 x34 x35 x278000 x278001)) else (none)) else (none)) else (some x9)
def Ar.j2 : Nat → Int → List Int → Int → Int → Int → List Int → Int → Int → Int → Bool → Option (List Int)
 | 0, _, _, _, _, _, _, _, _, _, _ => none
 | k + 1, x3, x9, x11, x12, x14, x33, x34, x35, x278000, x278001 => (Bd.f k x278000 x278001 (([x12] : List Int)) x14).bind fun t287 => (if 1 ≤ (t287.length : Int) then ((some (t287.drop 1 : List Int)).bind fun y290 => (Ar.l2 k x3 x9 x11 x14 x33 x34 x35 y290 (y290.length : Int) 0 x278000 x278001)) else (none))
def Ar.l2 : Nat → Int → List Int → Int → Int → List Int → Int → Int → List Int → Int → Int → Int → Bool → Option (List Int)
 | 0, _, _, _, _, _, _, _, _, _, _, _, _ => none
 | k + 1, x3, x9, x11, x14, x33, x34, x35, x50, x51, x52, x278000, x278001 => if x52 < x51 then (if 0 ≤ x52 then (if x52 < (x50.length : Int) then (if 0 ≤ (rd x50 x52) then (if (rd x50 x52) < (x9.length : Int) then (if (rd x9 (rd x50 x52)) < 0 then (Ar.l2 k x3 (x9.set ((rd x50 x52) : Int).toNat (wrap64 (x11 + 1))) (wrap64 (x11 + 1)) x14 x33 x34 x35 x50 x51 (wrap64 (x52 + 1)) x278000 x278001) else (Ar.l2 k x3 x9 (wrap64 (x11 + 1)) x14 x33 x34 x35 x50 x51 (wrap64 (x52 + 1)) x278000 x278001)) else (none)) else (none)) else (none)) else (none)) else (Ar.l1 k x3 x9 x11 x14 x33 x34 (wrap64 (x35 + 1)) x278000 x278001)
end
def Ar.f (k : Nat) (a0_0 : Int) (a0_1 : Bool) (a1 : Int) (l2 : List Int) (a3 : Int) : Option (List Int) := if 0 ≤ a0_0 then (if (a0_0 : Int).toNat ≤ 35184372088832 then ((some (List.replicate (a0_0 : Int).toNat 0 : List Int)).bind fun y278 => (Ar.l0 k a1 l2 a3 y278 (y278.length : Int) 0 a0_0 a0_1)) else (none)) else (none)
theorem Ar.mono_l : ∀ k, (∀ y0 y1 y2 y3 y4 y5 y6 y7, LeO (Ar.l0 k y0 y1 y2 y3 y4 y5 y6 y7) (Ar.l0 (k + 1) y0 y1 y2 y3 y4 y5 y6 y7)) ∧ (∀ y0 y1 y2 y3 y4 y5 y6 y7 y8, LeO (Ar.l1 k y0 y1 y2 y3 y4 y5 y6 y7 y8) (Ar.l1 (k + 1) y0 y1 y2 y3 y4 y5 y6 y7 y8)) ∧ (∀ y0 y1 y2 y3 y4 y5 y6 y7 y8 y9, LeO (Ar.j2 k y0 y1 y2 y3 y4 y5 y6 y7 y8 y9) (Ar.j2 (k + 1) y0 y1 y2 y3 y4 y5 y6 y7 y8 y9)) ∧ (∀ y0 y1 y2 y3 y4 y5 y6 y7 y8 y9 y10 y11, LeO (Ar.l2 k y0 y1 y2 y3 y4 y5 y6 y7 y8 y9 y10 y11) (Ar.l2 (k + 1) y0 y1 y2 y3 y4 y5 y6 y7 y8 y9 y10 y11))
 | 0 => ⟨fun _ _ _ _ _ _ _ _ r h => by simp [Ar.l0] at h, fun _ _ _ _ _ _ _ _ _ r h => by simp [Ar.l1] at h, fun _ _ _ _ _ _ _ _ _ _ r h => by simp [Ar.j2] at h, fun _ _ _ _ _ _ _ _ _ _ _ _ r h => by simp [Ar.l2] at h⟩
 | k + 1 => by
  obtain ⟨ih0, ih1, ih2, ih3⟩ := Ar.mono_l k
  refine ⟨?_, ?_, ?_, ?_⟩
  ·intro y0 y1 y2 y3 y4 y5 y6 y7
   unfold Ar.l0
   repeat' first
   | (with_reducible exact ih0 _ _ _ _ _ _ _ _)
   | (with_reducible exact ih1 _ _ _ _ _ _ _ _ _)
   | (with_reducible exact LeO.refl _)
   | (with_reducible refine LeO.ite ?_ ?_)
  ·intro y0 y1 y2 y3 y4 y5 y6 y7 y8
   unfold Ar.l1
   repeat' first
   | (with_reducible exact ih2 _ _ _ _ _ _ _ _ _ _)
   | (with_reducible exact LeO.refl _)
   | (with_reducible refine LeO.ite ?_ ?_)
  ·intro y0 y1 y2 y3 y4 y5 y6 y7 y8 y9
   unfold Ar.j2
   repeat' first
   | (with_reducible exact ih3 _ _ _ _ _ _ _ _ _ _ _ _)
   | (with_reducible exact Bd.mono _ _ _ _ _)
   | (with_reducible exact LeO.refl _)
   | (with_reducible refine LeO.ite ?_ ?_)
   | (with_reducible refine LeO.bind ?_ (fun _ => ?_))
  ·intro y0 y1 y2 y3 y4 y5 y6 y7 y8 y9 y10 y11
   unfold Ar.l2
   repeat' first
   | (with_reducible exact ih1 _ _ _ _ _ _ _ _ _)
   | (with_reducible exact ih3 _ _ _ _ _ _ _ _ _ _ _ _)
   | (with_reducible exact LeO.refl _)
   | (with_reducible refine LeO.ite ?_ ?_)
theorem Ar.mono : ∀ a0 a1 a2 a3 a4 k, LeO (Ar.f k a0 a1 a2 a3 a4) (Ar.f (k + 1) a0 a1 a2 a3 a4) := by
 intro a0 a1 a2 a3 a4 k
 obtain ⟨ih0, ih1, ih2, ih3⟩ := Ar.mono_l k
 unfold Ar.f
 repeat' first
   | (with_reducible exact ih0 _ _ _ _ _ _ _ _)
   | (with_reducible exact LeO.refl _)
   | (with_reducible refine LeO.ite ?_ ?_)
   | (with_reducible refine LeO.bind ?_ (fun _ => ?_))
set_option maxHeartbeats 8000000 in
set_option maxRecDepth 100000 in
theorem Ar.calls (k : Nat) (a0_0 : Int) (a0_1 : Bool) (a1 : Int) (A2 : Option Addr) (c2 : Nat) (l2 : List Int) (a3 : Int) (r : List Int) (w : World) (hr2 : Kd.C (Kd.int .i64) w A2 l2.length l2) (hc2 : l2.length ≤ c2) (h : Ar.f k a0_0 a0_1 a1 l2 a3 = some r) :
  Calls Try.prog 77 #[.agg #[.int .i64 a0_0, .bool a0_1], .int .i64 a1, .slice A2 l2.length c2, .int .i64 a3] w fun e w' => ∃ v0_ : Value, e = .returned (v0_) ∧ Kd.R (Kd.int .i64) 3 w' w.heap.size (fun _ => True) v0_ r ∧ Below w.heap.size w w' := by
 have hu25 := Try.underlying25
 have HR2 := Aa.k hr2
 have HC2 := Aa.k hc2
 clear hr2 hc2
 have HB := Aa.k (Below.refl w.heap.size w)
 have H : (if 0 ≤ a0_0 then (if (a0_0 : Int).toNat ≤ 35184372088832 then ((some (List.replicate (a0_0 : Int).toNat 0 : List Int)).bind fun y278 => (Ar.l0 k a1 l2 a3 y278 (y278.length : Int) 0 a0_0 a0_1)) else (none)) else (none)) = some r := h
 clear h
 by_cases c5 : 0 ≤ a0_0
 rotate_left
 ·rw [if_neg c5] at H
  exact absurd H (by simp)
 rw [if_pos c5] at H
 have c5b0 := eq_true c5
 have c5b1 : decide (0 ≤ a0_0) = true := decide_eq_true c5
 clear c5
 by_cases c6 : (a0_0 : Int).toNat ≤ 35184372088832
 rotate_left
 ·rw [if_neg c6] at H
  exact absurd H (by simp)
 rw [if_pos c6] at H
 have c6b0 := eq_true c6
 have c6b1 : decide ((a0_0 : Int).toNat ≤ 35184372088832) = true := decide_eq_true c6
 clear c6
 obtain ⟨y278, hy278⟩ : ∃ y_ : List Int, y_ = (List.replicate (a0_0 : Int).toNat 0) := ⟨_, rfl⟩
 replace H : (Ar.l0 k a1 l2 a3 y278 (y278.length : Int) 0 a0_0 a0_1) = some r := by (have H2_ := (Option.bind_some _ _).symm.trans H; rw [hy278]; exact H2_)
 have Ny278 := Aa.k hy278
 clear hy278
 have H' := Aa.k H
 clear H
 go_enter Try.func77, Try.ntmps77
 go_wp2_with (first | ((with_reducible refine Be (N := 4) rfl ?_); refine Bo ?hg (N := 4) ?hd (cs := #[.int .i64 a0_0, .bool a0_1]) (t := 25) ?hr ?_; (case hd => rfl); (case hg => rfl); (case hr => (go_simp; done)); intro gb277 hg w7 hbox hb; have BK277 := Aa.k (hbox); have GW277 := Aa.k ((by rw [hg]; exact (Af HB.o) : w.heap.size ≤ gb277)); have GE277 := Aa.k ((by rw [hg]; exact (Af HB.o) : w.heap.size ≤ gb277)); replace HB := Aa.k (Ad HB.o hb); clear hb hbox hg; have hcz8_0 := Bj BK277.o; have hcz8_1 := Bn BK277.o; have hfz8_0 := Ac BK277.o 0; have hfz8_1 := Ac BK277.o 1) | ((with_reducible refine Be (N := 19) rfl ?_); refine Kd.R_make (Kd.int .i64) _ 3 rfl (N := 19) rfl 30 _ _ rfl a0_0 rfl rfl Try.underlying30 (.int .i64 0) 8 info3 rfl (by decide) (by omega) 0 (ok := fun _ => True) (okp := fun _ => True) rfl (fun _ hk => hk) trivial (of_decide_eq_true (by (with_reducible assumption))) (Nat.le_trans (Nat.mul_le_mul_right _ (of_decide_eq_true (by (with_reducible assumption)) : a0_0.toNat ≤ 35184372088832)) (by omega)) (Below.refl _ _) (Nat.le_refl _) ?_; intro v279 w9 ho10 hb hg_ hnew_; clear hg_ hnew_; ((rw [← Ny278.o] at ho10)); have HO280 := Aa.k (Kd.Ct ho10 (Af HB.o)); replace BK277 := Aa.k (Ae (g := gb277) (o := .cells #[.int .i64 a0_0, .bool a0_1] 25 (0, 0)) (by exact BK277.o) hb); replace HB := Aa.k (Ad HB.o hb); clear hb ho10; obtain ⟨Ao11, co11, eo11⟩ := Kd.Cx HO280.o; subst eo11))
 go_loopg [22] k (fun kq v22 w' => ∃ (x9_1 : List Int) (x22_1 : Int), v22 = .int .i64 x22_1 ∧ Aa (Ar.l0 kq a1 l2 a3 x9_1 (y278.length : Int) x22_1 a0_0 a0_1 = some r) ∧ Aa (kq ≤ k) ∧ Aa (Kd.R (Kd.int .i64) 3 w' w.heap.size (fun _ => True) (.slice Ao11 y278.length co11) x9_1) ∧ Aa (w'.heap[gb277]? = some (.cells #[.int .i64 a0_0, .bool a0_1] 25 (0, 0))) ∧ Aa (Below w.heap.size w w'))
 case atStart => exact ⟨(y278), (0), (by (rfl)), H', ⟨Nat.le_refl _⟩, ⟨by exact HO280.o⟩, ⟨by exact BK277.o⟩, ⟨by exact HB.o⟩⟩
 case round =>
  clear H'
  clear c5b0 c5b1 c6b0 c6b1 hcz8_0 hcz8_1 hfz8_0 hfz8_1
  obtain ⟨x9_1, x22_1, rfl, HA, HK1, HO_9, BK277, HB⟩ := hrel
  have hl9_1 := (Kd.Bb HO_9.o).1
  rw [hl9_1] at HO_9
  (try simp only [hl9_1])
  (try simp only [hl9_1] at BK277)
  cases gk with
  | zero => exact absurd HA.o (by simp [Ar.l0])
  | succ k1 =>
   have H := HA.o
   clear HA
   simp only [Ar.l0] at H
   by_cases c12 : x22_1 < (y278.length : Int)
   ·rw [if_pos c12] at H
    have c12b0 : decide (x22_1 < (y278.length : Int)) = true := decide_eq_true c12
    (try (have c12b0h := c12b0; simp only [hl9_1] at c12b0h))
    clear c12
    by_cases c13 : 0 ≤ x22_1
    rotate_left
    ·rw [if_neg c13] at H
     exact absurd H (by simp)
    rw [if_pos c13] at H
    have c13b0 : decide (0 ≤ x22_1) = true := decide_eq_true c13
    clear c13
    by_cases c14 : x22_1 < (x9_1.length : Int)
    rotate_left
    ·rw [if_neg c14] at H
     exact absurd H (by simp)
    rw [if_pos c14] at H
    have c14b0 : decide (x22_1 < (x9_1.length : Int)) = true := decide_eq_true c14
    (try (have c14b0h := c14b0; simp only [hl9_1] at c14b0h))
    clear c14
    obtain ⟨y281, hy281⟩ : ∃ y_ : List Int, y_ = (x9_1.set (x22_1 : Int).toNat (-1)) := ⟨_, rfl⟩
    replace H : (Ar.l0 k1 a1 l2 a3 y281 (y278.length : Int) (wrap64 (x22_1 + 1)) a0_0 a0_1) = some r := by (rw [hy281]; exact H)
    have Ny281 := Aa.k hy281
    clear hy281
    have H' := Aa.k H
    clear H
    have p15 : 0 ≤ (x22_1 : Int) := of_decide_eq_true (by (assumption))
    have q15 : (x22_1 : Int) < ((x9_1.length : Int) : Int) := of_decide_eq_true (by (assumption))
    obtain ⟨go15, co15, eo15, gb15, gl15, cl15, HG15⟩ := Kd.R_form HO_9.o (by omega)
    ((cases eo15))
    have GB15 := Aa.k gb15
    have GG15 := Aa.k HG15
    clear gb15 gl15 HG15
    obtain ⟨hx15_0, hf15_0⟩ := Kd.R_celln 0 HO_9.o (x22_1 : Int) p15 q15
    replace p15 := eq_true p15
    replace q15 := eq_true q15
    have HP16 := Kd.R_putg HO_9.o (x22_1 : Int) (-1)
    go_wp2_with (((refine gate_store (t := 3) (p := 27) rfl ?_); refine store_event (t := 3) (p := 27) (v := ?vo_w17) (w1 := (wr.setCell ⟨go15, (x22_1 : Int).toNat, none⟩ (.int .i64 (-1)))) ?hg ?ho ?hn ?hr ?_; (case ho => rfl); (case hg => rfl); (case hn => rfl); (case hr => (go_simp; done)); intro w17 hw; have hg : wr.grownBy w17 (some go15) := (by rw [hw]; exact HP16.2); have hp_ : Kd.R (Kd.int .i64) 3 w17 w.heap.size (fun _ => True) (.slice (some ⟨go15, 0, none⟩) x9_1.length co11) y281 := (by rw [hw, Ny281.o]; exact HP16.1); clear HP16; replace BK277 := Aa.k (Fb (g := gb277) (o := .cells #[.int .i64 a0_0, .bool a0_1] 25 (0, 0)) (by exact BK277.o) hg (Kd.R_ne HO_9.o BK277.o (by decide))); replace HO_9 := Aa.k (hp_); replace HB := Aa.k ((by rw [hw]; exact Bz (HB.o) GB15.o : Below w.heap.size w w17)); clear hg hw hp_))
    (try simp only [← hl9_1])
    go_roundg k1
    case measure => have := HK1.o; omega
    case rel => exact ⟨(y281), (wrap64 (x22_1 + 1)), (by (rfl)), H', ⟨by have := HK1.o; omega⟩, ⟨by (try simp only [hl9_1]); exact HO_9.o⟩, ⟨by (try simp only [hl9_1]); exact BK277.o⟩, ⟨by exact HB.o⟩⟩
   rw [if_neg c12] at H
   have c12b0 : decide (x22_1 < (y278.length : Int)) = false := decide_eq_false c12
   (try (have c12b0h := c12b0; simp only [hl9_1] at c12b0h))
   clear c12
   by_cases c18 : 0 ≤ a1
   rotate_left
   ·rw [if_neg c18] at H
    exact absurd H (by simp)
   rw [if_pos c18] at H
   have c18b0 : decide (0 ≤ a1) = true := decide_eq_true c18
   clear c18
   by_cases c19 : a1 < (x9_1.length : Int)
   rotate_left
   ·rw [if_neg c19] at H
    exact absurd H (by simp)
   rw [if_pos c19] at H
   have c19b0 : decide (a1 < (x9_1.length : Int)) = true := decide_eq_true c19
   (try (have c19b0h := c19b0; simp only [hl9_1] at c19b0h))
   clear c19
   obtain ⟨y282, hy282⟩ : ∃ y_ : List Int, y_ = (x9_1.set (a1 : Int).toNat 0) := ⟨_, rfl⟩
   replace H : (Ar.l1 k1 a3 y282 0 a1 l2 (l2.length : Int) 0 a0_0 a0_1) = some r := by (rw [hy282]; exact H)
   have Ny282 := Aa.k hy282
   clear hy282
   have H' := Aa.k H
   clear H
   have p20 : 0 ≤ (a1 : Int) := of_decide_eq_true (by (assumption))
   have q20 : (a1 : Int) < ((x9_1.length : Int) : Int) := of_decide_eq_true (by (assumption))
   obtain ⟨go20, co20, eo20, gb20, gl20, cl20, HG20⟩ := Kd.R_form HO_9.o (by omega)
   ((cases eo20))
   have GB20 := Aa.k gb20
   have GG20 := Aa.k HG20
   clear gb20 gl20 HG20
   obtain ⟨hx20_0, hf20_0⟩ := Kd.R_celln 0 HO_9.o (a1 : Int) p20 q20
   replace p20 := eq_true p20
   replace q20 := eq_true q20
   have HP21 := Kd.R_putg HO_9.o (a1 : Int) 0
   go_wp2_with (((refine gate_store (t := 3) (p := 31) rfl ?_); refine store_event (t := 3) (p := 31) (v := ?vo_w22) (w1 := (wr.setCell ⟨go20, (a1 : Int).toNat, none⟩ (.int .i64 0))) ?hg ?ho ?hn ?hr ?_; (case ho => rfl); (case hg => rfl); (case hn => rfl); (case hr => (go_simp; done)); intro w22 hw; have hg : wr.grownBy w22 (some go20) := (by rw [hw]; exact HP21.2); have hp_ : Kd.R (Kd.int .i64) 3 w22 w.heap.size (fun _ => True) (.slice (some ⟨go20, 0, none⟩) x9_1.length co11) y282 := (by rw [hw, Ny282.o]; exact HP21.1); clear HP21; replace BK277 := Aa.k (Fb (g := gb277) (o := .cells #[.int .i64 a0_0, .bool a0_1] 25 (0, 0)) (by exact BK277.o) hg (Kd.R_ne HO_9.o BK277.o (by decide))); replace HO_9 := Aa.k (hp_); replace HB := Aa.k ((by rw [hw]; exact Bz (HB.o) GB20.o : Below w.heap.size w w22)); clear hg hw hp_))
   go_loopg [11, 12, 35] k1 (fun kq v11 v12 v35 w' => ∃ (x9_2 : List Int) (x11_2 : Int) (x12_2 : Int) (x35_2 : Int), v11 = .int .i64 x11_2 ∧ v12 = .int .i64 x12_2 ∧ v35 = .int .i64 x35_2 ∧ Aa (Ar.l1 kq a3 x9_2 x11_2 x12_2 l2 (l2.length : Int) x35_2 a0_0 a0_1 = some r) ∧ Aa (kq ≤ k1) ∧ Aa (Kd.R (Kd.int .i64) 3 w' w.heap.size (fun _ => True) (.slice (some ⟨go20, 0, none⟩) x9_1.length co11) x9_2) ∧ Aa (w'.heap[gb277]? = some (.cells #[.int .i64 a0_0, .bool a0_1] 25 (0, 0))) ∧ Aa (Below w.heap.size w w'))
   case atStart => exact ⟨(y282), (0), (a1), (0), (by (rfl)), (by (rfl)), (by (rfl)), H', ⟨Nat.le_refl _⟩, ⟨by (try simp only [hl9_1]); exact HO_9.o⟩, ⟨by (try simp only [hl9_1]); exact BK277.o⟩, ⟨by exact HB.o⟩⟩
   case round =>
    clear H'
    clear c12b0
    clear c18b0 c19b0 p20 q20
    clear hx20_0
    obtain ⟨x9_2, x11_2, x12_2, x35_2, rfl, rfl, rfl, HA, HK2, HO_9, BK277, HB⟩ := hrel
    have hl9_2 := (Kd.Bb HO_9.o).1
    rw [hl9_2] at HO_9
    (try simp only [hl9_2])
    (try simp only [hl9_2] at BK277)
    cases gk with
    | zero => exact absurd HA.o (by simp [Ar.l1])
    | succ k2 =>
     have H := HA.o
     clear HA
     simp only [Ar.l1] at H
     by_cases c23 : x35_2 < (l2.length : Int)
     rotate_left
     ·rw [if_neg c23] at H
      have c23b0 : decide (x35_2 < (l2.length : Int)) = false := decide_eq_false c23
      (try (have c23b0h := c23b0; simp only [hl9_1, hl9_2] at c23b0h))
      clear c23
      obtain rfl := Option.some.inj H
      go_wp2
      go_ret
      exact ⟨_, by (rfl), by exact HO_9.o, by exact HB.o⟩
     rw [if_pos c23] at H
     have c23b0 : decide (x35_2 < (l2.length : Int)) = true := decide_eq_true c23
     (try (have c23b0h := c23b0; simp only [hl9_1, hl9_2] at c23b0h))
     clear c23
     by_cases c24 : 0 ≤ x35_2
     rotate_left
     ·rw [if_neg c24] at H
      exact absurd H (by simp)
     rw [if_pos c24] at H
     have c24b0 : decide (0 ≤ x35_2) = true := decide_eq_true c24
     clear c24
     by_cases c25 : x35_2 < (l2.length : Int)
     rotate_left
     ·rw [if_neg c25] at H
      exact absurd H (by simp)
     rw [if_pos c25] at H
     have c25b0 : decide (x35_2 < (l2.length : Int)) = true := decide_eq_true c25
     (try (have c25b0h := c25b0; simp only [hl9_1, hl9_2] at c25b0h))
     clear c25
     have HC26 := Aa.k H
     clear H
     have p283 : 0 ≤ (x35_2 : Int) := of_decide_eq_true (by (assumption))
     have q283 : x35_2 < (l2.length : Int) := of_decide_eq_true (by (assumption))
     obtain ⟨ad283, e283, hx283_0⟩ := Kd.Eo HR2.o x35_2 p283 q283
     cases e283
     replace hx283_0 := (HB.o.cell (World.block_lt_of_cell? w _ hx283_0)).trans hx283_0
     replace p283 := eq_true p283
     replace q283 := eq_true q283
     go_upto_if 41 with (fail)
     go_cut [11] (fun v11 wc => ∃ (kq : Nat) (x11_25 : Int), v11 = .int .i64 x11_25 ∧ Aa (Ar.j2 kq a3 x9_2 x11_25 x12_2 (rd l2 x35_2) l2 (l2.length : Int) x35_2 a0_0 a0_1 = some r) ∧ Aa (kq ≤ k2) ∧ Aa (Kd.R (Kd.int .i64) 3 wc w.heap.size (fun _ => True) (.slice (some ⟨go20, 0, none⟩) x9_2.length co11) x9_2) ∧ Aa (wc.heap[gb277]? = some (.cells #[.int .i64 a0_0, .bool a0_1] 25 (0, 0))) ∧ Aa (Below w.heap.size w wc))
     case first =>
      have H := HC26.o
      clear HC26
      by_cases c27 : x35_2 > 0
      rotate_left
      ·rw [if_neg c27] at H
       have c27b0 : decide (0 < x35_2) = false := decide_eq_false c27
       clear c27
       ((rw [c27b0]))
       have H' := Aa.k H
       clear H
       go_wp2
       go_meet
       case rel => exact ⟨_, (x11_2), (by (rfl)), H', ⟨by have := HK1.o; have := HK2.o; (omega)⟩, ⟨by (try simp only [hl9_1]); (try simp only [hl9_2]); exact HO_9.o⟩, ⟨by (try simp only [hl9_1]); (try simp only [hl9_2]); exact BK277.o⟩, ⟨by exact HB.o⟩⟩
      rw [if_pos c27] at H
      have c27b0 : decide (0 < x35_2) = true := decide_eq_true c27
      clear c27
      ((rw [c27b0]))
      have H' := Aa.k H
      clear H
      go_wp2
      go_meet
      case rel => exact ⟨_, (wrap64 (x11_2 + a3)), (by (rfl)), H', ⟨by have := HK1.o; have := HK2.o; (omega)⟩, ⟨by (try simp only [hl9_1]); (try simp only [hl9_2]); exact HO_9.o⟩, ⟨by (try simp only [hl9_1]); (try simp only [hl9_2]); exact BK277.o⟩, ⟨by exact HB.o⟩⟩
     case rest =>
      clear HC26
      clear c23b0 c24b0 c25b0 hx283_0
      clear p283 q283
      obtain ⟨kq, x11_25, rfl, HA, HJ25, HO_9, BK277, HB⟩ := hcut
      cases kq with
      | zero => exact absurd HA.o (by simp [Ar.j2])
      | succ kj25 =>
       have H := HA.o
       clear HA
       simp only [Ar.j2] at H
       obtain ⟨y284, hy284⟩ : ∃ y_ : List Int, y_ = (([x12_2] : List Int)) := ⟨_, rfl⟩
       replace H : ((Bd.f kj25 a0_0 a0_1 y284 (rd l2 x35_2)).bind fun t287 => (if 1 ≤ (t287.length : Int) then ((some (t287.drop 1 : List Int)).bind fun y290 => (Ar.l2 kj25 a3 x9_2 x11_25 (rd l2 x35_2) l2 (l2.length : Int) x35_2 y290 (y290.length : Int) 0 a0_0 a0_1)) else (none))) = some r := by (rw [hy284]; exact H)
       have Ny284 := Aa.k hy284
       clear hy284
       obtain ⟨t287, A280, H⟩ := bindS_ H
       try dsimp only at H
       have A28 := Aa.k A280
       clear A280
       by_cases c29 : 1 ≤ (t287.length : Int)
       rotate_left
       ·rw [if_neg c29] at H
        exact absurd H (by simp)
       rw [if_pos c29] at H
       have c29b0 := eq_true c29
       have c29b1 : decide (1 ≤ (t287.length : Int)) = true := decide_eq_true c29
       clear c29
       obtain ⟨y290, hy290⟩ : ∃ y_ : List Int, y_ = (t287.drop 1) := ⟨_, rfl⟩
       replace H : (Ar.l2 kj25 a3 x9_2 x11_25 (rd l2 x35_2) l2 (l2.length : Int) x35_2 y290 (y290.length : Int) 0 a0_0 a0_1) = some r := by (have H2_ := (Option.bind_some _ _).symm.trans H; rw [hy290]; exact H2_)
       have Ny290 := Aa.k hy290
       clear hy290
       have H' := Aa.k H
       clear H
       have hcz30_0 := Bj BK277.o
       have hcz30_1 := Bn BK277.o
       have hfz30_0 := Ac BK277.o 0
       have hfz30_1 := Ac BK277.o 1
       go_wp2_with (first | ((with_reducible refine Be (N := 47) rfl ?_); refine Kd.R_lit (Kd.int .i64) _ 3 ?hg (N := 47) ?hd (xs := ([x12_2] : List Int)) (inner := [.int .i64 x12_2]) (ok := fun _ => True) (okp := fun _ => True) ?hr ?hp (fun _ hk => hk) trivial (Below.refl _ _) (Nat.le_refl _) (by simp) ?_; (case hd => rfl); (case hg => rfl); (case hr => (go_simp; done)); (case hp => exact (Reps.one (show Kd.M (Kd.int .i64) _ _ _ x12_2 [.int .i64 x12_2] from rfl) (Reps.none _ _))); intro v285 w31 ho32 hb hg_ hnew_; clear hg_ hnew_; ((rw [← Ny284.o] at ho32)); have HO286 := Aa.k (Kd.Ct (Kd.Dz ho32 (Kd.R_lt (by exact HO_9.o))) (Af HB.o)); replace HO_9 := Aa.k (Kd.Cw (by exact HO_9.o) (Kd.Cy ho32) hb); replace BK277 := Aa.k (Ae (g := gb277) (o := .cells #[.int .i64 a0_0, .bool a0_1] 25 (0, 0)) (by exact BK277.o) hb); replace HB := Aa.k (Ad HB.o hb); clear hb ho32; obtain ⟨Ao33, co33, eo33⟩ := Kd.Cx HO286.o; subst eo33) | ((with_reducible refine Aj (f := 65) rfl ?_); refine Bf (some 49) rfl rfl Try.func65 (by kernel_rfl) rfl #[.agg #[.int .i64 a0_0, .bool a0_1], .slice Ao33 y284.length co33, .int .i64 (rd l2 x35_2)] rfl (by (try simp only [mT_, mC_, mN_]); rfl) ?_; (with_reducible refine (Bd.calls kj25 a0_0 a0_1 (fun k_ => some k_ = (.slice Ao33 y284.length co33 : Value).ownBlock) (.slice Ao33 y284.length co33) y284 (rd l2 x35_2) t287 w _ ?side1 ?side2 A28.o).mono ?_); (case side1 => exact HB.o); (case side2 => exact Kd.R_tight rfl HO286.o); rintro e w34 ⟨v288, rfl, ho0, hb, hkp⟩; refine ⟨_, rfl, ?_⟩; replace BK277 := Aa.k (blk_kept (by exact BK277.o) hkp (fun hs_ => (fun e_ => (Kd.R_ne HO286.o BK277.o (by decide)) e_) hs_)); have HO289 := Aa.k (Kd.Bv (ok' := fun k_ => some k_ ≠ (.slice (some ⟨go20, 0, none⟩) x9_2.length co11 : Value).ownBlock) ho0 (fun k_ hk_ => Or.elim hk_ (fun hs_ => fun e_ => (((HO_9.o).1 k_ e_.symm).2) hs_) (fun hn_ => (Kd.fresh' (Kd.R_lt (by exact HO_9.o)) k_ hn_)))); replace HO_9 := Aa.k (Kd.Bv (ok' := fun k_ => some k_ ≠ (v288 : Value).ownBlock) (Kd.R_keptB (HO_9.o) hkp (fun k_ hk_ hs_ => (hk_.2) hs_)) (fun k_ hk_ => fun e_ => Or.elim (ho0.1 k_ e_.symm) (fun hs_ => hk_.2.1 hs_) (fun hn_ => Nat.not_le.2 hk_.2.2 hn_))); replace HB := Aa.k (hb); clear hb hkp ho0; obtain ⟨Ao36, co36, eo36⟩ := Kd.Cx HO289.o; subst eo36; have q35 : (1 : Int) ≤ ((t287.length : Int) : Int) := of_decide_eq_true (by (with_reducible assumption)); obtain ⟨i035, hi035, _, hsz35, _⟩ := info_parts info3; have hroom35 : t287.length ≤ co36 := (Kd.Bb HO289.o).2.1; have hC35 : Kd.F (Kd.int .i64) _ _ Ao36 t287.length t287 := (Kd.V_at (base := w.heap.size) (Kd.R_V (Kd.Dh (HO289.o) BK277.o (by decide)))).2.2; have hcut35 := cut_from (P := Try.prog) 30 3 .i64 Try.underlying30 hi035 1 hsz35 Ao36 t287.length co36 1 (by omega) q35; have hr35 := Kd.F_cut (m := (1 : Int).toNat) (c := co36) hC35 (by omega) hroom35; obtain ⟨A35, hA35⟩ : ∃ A_x, A_x = (if co36 = (1 : Int).toNat then Ao36 else (Ao36 : Option Addr).map (·.add ((1 : Int).toNat * 1))) := ⟨_, rfl⟩; obtain ⟨c35, hc35⟩ : ∃ c_x, c_x = co36 - (1 : Int).toNat := ⟨_, rfl⟩; have hy35 : y290.length = t287.length - (1 : Int).toNat := (by rw [Ny290.o, List.length_drop] <;> omega); rw [show (t287).drop (1 : Int).toNat = y290 from Ny290.o.symm] at hr35; replace hr35 : Kd.F (Kd.int .i64) _ _ A35 y290.length y290 := (by rw [hA35]; exact hr35); rw [← hy35, ← hA35, ← hc35] at hcut35; have HO294 := Aa.k (show Kd.V (Kd.int .i64) 3 _ w.heap.size _ (.slice A35 y290.length c35) y290 from Kd.V_mk (by rw [hy35, hc35]; exact Nat.sub_le_sub_right hroom35 _) hr35); have HC294 := Aa.k (show y290.length ≤ c35 from by rw [hy35, hc35]; exact Nat.sub_le_sub_right hroom35 _); clear hr35 hC35 hroom35 hi035 hsz35 hc35; have KY35 := Aa.k hy35; have KA35 := Aa.k hA35; clear hy35 hA35; replace q35 := eq_true q35))
       go_loopg [11, 52] kj25 (fun kq v11 v52 w' => ∃ (x9_4 : List Int) (x11_4 : Int) (x52_4 : Int), v11 = .int .i64 x11_4 ∧ v52 = .int .i64 x52_4 ∧ Aa (Ar.l2 kq a3 x9_4 x11_4 (rd l2 x35_2) l2 (l2.length : Int) x35_2 y290 (y290.length : Int) x52_4 a0_0 a0_1 = some r) ∧ Aa (kq ≤ kj25) ∧ Aa (Kd.R (Kd.int .i64) 3 w' w.heap.size (fun _ => True) (.slice (some ⟨go20, 0, none⟩) x9_2.length co11) x9_4) ∧ Aa (Kd.V (Kd.int .i64) 3 w' w.heap.size (fun k_ => some k_ ≠ ((.slice (some ⟨go20, 0, none⟩) x9_2.length co11) : Value).ownBlock ∧ k_ ≠ gb277) (.slice A35 y290.length c35) y290) ∧ Aa (w'.heap[gb277]? = some (.cells #[.int .i64 a0_0, .bool a0_1] 25 (0, 0))) ∧ Aa (Below w.heap.size w w'))
       case atStart => exact ⟨(x9_2), (x11_25), (0), (by (rfl)), (by (rfl)), H', ⟨Nat.le_refl _⟩, ⟨by (try simp only [hl9_1]); (try simp only [hl9_2]); exact Kd.Bv HO_9.o (fun _ hk => trivial)⟩, ⟨by (try simp only [hl9_1]); (try simp only [hl9_2]); exact HO294.o⟩, ⟨by (try simp only [hl9_1]); (try simp only [hl9_2]); exact BK277.o⟩, ⟨by exact HB.o⟩⟩
       case round =>
        clear H'
        clear c29b0 c29b1
        clear q35 hcz30_0 hcz30_1 hfz30_0 hfz30_1
        obtain ⟨x9_4, x11_4, x52_4, rfl, rfl, HA, HK4, HO_9, HO_50, BK277, HB⟩ := hrel
        have hl9_4 := (Kd.Bb HO_9.o).1
        rw [hl9_4] at HO_9
        (try simp only [hl9_4])
        (try simp only [hl9_4] at BK277)
        (try simp only [hl9_4] at HO_50)
        cases gk with
        | zero => exact absurd HA.o (by simp [Ar.l2])
        | succ k4 =>
         have H := HA.o
         clear HA
         simp only [Ar.l2] at H
         by_cases c37 : x52_4 < (y290.length : Int)
         rotate_left
         ·rw [if_neg c37] at H
          have c37b0 : decide (x52_4 < (y290.length : Int)) = false := decide_eq_false c37
          (try (have c37b0h := c37b0; simp only [hl9_1, hl9_2, hl9_4] at c37b0h))
          clear c37
          have H' := Aa.k H
          clear H
          go_wp2
          (try simp only [← hl9_2, ← hl9_4])
          go_roundg k4
          case measure => have := HK1.o; have := HK2.o; have := HJ25.o; have := HK4.o; omega
          case rel => exact ⟨(x9_4), (x11_4), ((rd l2 x35_2)), (wrap64 (x35_2 + 1)), (by (rfl)), (by (rfl)), (by (rfl)), H', ⟨by have := HK1.o; have := HK2.o; have := HJ25.o; have := HK4.o; omega⟩, ⟨by (try simp only [hl9_1]); (try simp only [hl9_2]); (try simp only [hl9_4]); exact HO_9.o⟩, ⟨by (try simp only [hl9_1]); (try simp only [hl9_2]); (try simp only [hl9_4]); exact BK277.o⟩, ⟨by exact HB.o⟩⟩
         rw [if_pos c37] at H
         have c37b0 : decide (x52_4 < (y290.length : Int)) = true := decide_eq_true c37
         (try (have c37b0h := c37b0; simp only [hl9_1, hl9_2, hl9_4] at c37b0h))
         clear c37
         by_cases c38 : 0 ≤ x52_4
         rotate_left
         ·rw [if_neg c38] at H
          exact absurd H (by simp)
         rw [if_pos c38] at H
         have c38b0 : decide (0 ≤ x52_4) = true := decide_eq_true c38
         clear c38
         by_cases c39 : x52_4 < (y290.length : Int)
         rotate_left
         ·rw [if_neg c39] at H
          exact absurd H (by simp)
         rw [if_pos c39] at H
         have c39b0 : decide (x52_4 < (y290.length : Int)) = true := decide_eq_true c39
         (try (have c39b0h := c39b0; simp only [hl9_1, hl9_2, hl9_4] at c39b0h))
         clear c39
         by_cases c40 : 0 ≤ (rd y290 x52_4)
         rotate_left
         ·rw [if_neg c40] at H
          exact absurd H (by simp)
         rw [if_pos c40] at H
         have c40b0 : decide (0 ≤ (rd y290 x52_4)) = true := decide_eq_true c40
         clear c40
         by_cases c41 : (rd y290 x52_4) < (x9_4.length : Int)
         rotate_left
         ·rw [if_neg c41] at H
          exact absurd H (by simp)
         rw [if_pos c41] at H
         have c41b0 : decide ((rd y290 x52_4) < (x9_4.length : Int)) = true := decide_eq_true c41
         (try (have c41b0h := c41b0; simp only [hl9_1, hl9_2, hl9_4] at c41b0h))
         clear c41
         by_cases c42 : (rd x9_4 (rd y290 x52_4)) < 0
         rotate_left
         ·rw [if_neg c42] at H
          have c42b0 : decide ((rd x9_4 (rd y290 x52_4)) < 0) = false := decide_eq_false c42
          clear c42
          have H' := Aa.k H
          clear H
          have p295 : 0 ≤ (x52_4 : Int) := of_decide_eq_true (by (assumption))
          have q295 : x52_4 < (y290.length : Int) := of_decide_eq_true (by (assumption))
          obtain ⟨ad295, e295, hx295_0⟩ := Kd.Eo (Kd.V_reads' HO_50.o).2.2 x52_4 p295 q295
          cases e295
          replace p295 := eq_true p295
          replace q295 := eq_true q295
          have p296 : 0 ≤ ((rd y290 x52_4) : Int) := of_decide_eq_true (by (assumption))
          have q296 : (rd y290 x52_4) < (x9_4.length : Int) := of_decide_eq_true (by (assumption))
          obtain ⟨ad296, e296, hx296_0⟩ := Kd.Eo (Kd.Bb HO_9.o).2.2 (rd y290 x52_4) p296 q296
          obtain rfl : (⟨go20, 0, none⟩ : Addr) = ad296 := (by injection e296)
          ((simp only [add_plain] at hx296_0))
          replace p296 := eq_true p296
          replace q296 := eq_true q296
          go_wp2
          (try simp only [← hl9_4])
          go_roundg k4
          case measure => have := HK1.o; have := HK2.o; have := HJ25.o; have := HK4.o; omega
          case rel => exact ⟨(x9_4), (wrap64 (x11_4 + 1)), (wrap64 (x52_4 + 1)), (by (rfl)), (by (rfl)), H', ⟨by have := HK1.o; have := HK2.o; have := HJ25.o; have := HK4.o; omega⟩, ⟨by (try simp only [hl9_1]); (try simp only [hl9_2]); (try simp only [hl9_4]); exact HO_9.o⟩, ⟨by (try simp only [hl9_1]); (try simp only [hl9_2]); (try simp only [hl9_4]); exact HO_50.o⟩, ⟨by (try simp only [hl9_1]); (try simp only [hl9_2]); (try simp only [hl9_4]); exact BK277.o⟩, ⟨by exact HB.o⟩⟩
         rw [if_pos c42] at H
         have c42b0 : decide ((rd x9_4 (rd y290 x52_4)) < 0) = true := decide_eq_true c42
         clear c42
         obtain ⟨y297, hy297⟩ : ∃ y_ : List Int, y_ = (x9_4.set ((rd y290 x52_4) : Int).toNat (wrap64 (x11_4 + 1))) := ⟨_, rfl⟩
         replace H : (Ar.l2 k4 a3 y297 (wrap64 (x11_4 + 1)) (rd l2 x35_2) l2 (l2.length : Int) x35_2 y290 (y290.length : Int) (wrap64 (x52_4 + 1)) a0_0 a0_1) = some r := by (rw [hy297]; exact H)
         have Ny297 := Aa.k hy297
         clear hy297
         have H' := Aa.k H
         clear H
         have p295 : 0 ≤ (x52_4 : Int) := of_decide_eq_true (by (assumption))
         have q295 : x52_4 < (y290.length : Int) := of_decide_eq_true (by (assumption))
         obtain ⟨ad295, e295, hx295_0⟩ := Kd.Eo (Kd.V_reads' HO_50.o).2.2 x52_4 p295 q295
         cases e295
         replace p295 := eq_true p295
         replace q295 := eq_true q295
         have p296 : 0 ≤ ((rd y290 x52_4) : Int) := of_decide_eq_true (by (assumption))
         have q296 : (rd y290 x52_4) < (x9_4.length : Int) := of_decide_eq_true (by (assumption))
         obtain ⟨ad296, e296, hx296_0⟩ := Kd.Eo (Kd.Bb HO_9.o).2.2 (rd y290 x52_4) p296 q296
         obtain rfl : (⟨go20, 0, none⟩ : Addr) = ad296 := (by injection e296)
         ((simp only [add_plain] at hx296_0))
         replace p296 := eq_true p296
         replace q296 := eq_true q296
         have p43 : 0 ≤ ((rd y290 x52_4) : Int) := of_decide_eq_true (by (assumption))
         have q43 : ((rd y290 x52_4) : Int) < ((x9_4.length : Int) : Int) := of_decide_eq_true (by (assumption))
         obtain ⟨hx43_0, hf43_0⟩ := Kd.R_celln 0 HO_9.o ((rd y290 x52_4) : Int) p43 q43
         replace p43 := eq_true p43
         replace q43 := eq_true q43
         have HP44 := Kd.R_putg HO_9.o ((rd y290 x52_4) : Int) (wrap64 (x11_4 + 1))
         go_wp2_with (((refine gate_store (t := 3) (p := 66) rfl ?_); refine store_event (t := 3) (p := 66) (v := ?vo_w45) (w1 := (wr.setCell ⟨go20, ((rd y290 x52_4) : Int).toNat, none⟩ (.int .i64 (wrap64 (x11_4 + 1))))) ?hg ?ho ?hn ?hr ?_; (case ho => rfl); (case hg => rfl); (case hn => rfl); (case hr => (go_simp; done)); intro w45 hw; have hg : wr.grownBy w45 (some go20) := (by rw [hw]; exact HP44.2); have hp_ : Kd.R (Kd.int .i64) 3 w45 w.heap.size (fun _ => True) (.slice (some ⟨go20, 0, none⟩) x9_4.length co11) y297 := (by rw [hw, Ny297.o]; exact HP44.1); clear HP44; replace HO_50 := Aa.k (Kd.V_afterv (v := (.slice (some ⟨go20, 0, none⟩) x9_4.length co11)) (v1 := (.slice (some ⟨go20, 0, none⟩) x9_4.length co11)) (ok := (fun k_ => k_ ≠ gb277)) (by exact Kd.V_mono HO_50.o (fun _ hk => ⟨hk.2, hk.1⟩)) hg (.inl rfl)); replace BK277 := Aa.k (Fb (g := gb277) (o := .cells #[.int .i64 a0_0, .bool a0_1] 25 (0, 0)) (by exact BK277.o) hg (Kd.R_ne HO_9.o BK277.o (by decide))); replace HO_9 := Aa.k (hp_); replace HB := Aa.k ((by rw [hw]; exact Bz (HB.o) GB20.o : Below w.heap.size w w45)); clear hg hw hp_))
         (try simp only [← hl9_4])
         go_roundg k4
         case measure => have := HK1.o; have := HK2.o; have := HJ25.o; have := HK4.o; omega
         case rel => exact ⟨(y297), (wrap64 (x11_4 + 1)), (wrap64 (x52_4 + 1)), (by (rfl)), (by (rfl)), H', ⟨by have := HK1.o; have := HK2.o; have := HJ25.o; have := HK4.o; omega⟩, ⟨by (try simp only [hl9_1]); (try simp only [hl9_2]); (try simp only [hl9_4]); exact HO_9.o⟩, ⟨by (try simp only [hl9_1]); (try simp only [hl9_2]); (try simp only [hl9_4]); exact Kd.V_mono HO_50.o (fun _ hk => ⟨hk.2, hk.1⟩)⟩, ⟨by (try simp only [hl9_1]); (try simp only [hl9_2]); (try simp only [hl9_4]); exact BK277.o⟩, ⟨by exact HB.o⟩⟩

/-! ### impl_divisor: function 132 -/
def Cz.l0 : Nat → Int → Int → Option (Int)
 | 0, _, _ => none
 | k + 1, x0, x1 => if x1 = 0 then (some x0) else (Cz.l0 k x1 (Int.tmod x0 x1))
def Cz.f (k : Nat) (a0 : Int) (a1 : Int) : Option (Int) := Cz.l0 k a0 a1
theorem Cz.mono_l : ∀ k, (∀ y0 y1, LeO (Cz.l0 k y0 y1) (Cz.l0 (k + 1) y0 y1))
 | 0 => fun _ _ r h => by simp [Cz.l0] at h
 | k + 1 => by
  have ih0 := Cz.mono_l k
  ·intro y0 y1
   unfold Cz.l0
   repeat' first
   | (with_reducible exact ih0 _ _)
   | (with_reducible exact LeO.refl _)
   | (with_reducible refine LeO.ite ?_ ?_)
theorem Cz.mono : ∀ a0 a1 k, LeO (Cz.f k a0 a1) (Cz.f (k + 1) a0 a1) := by
 intro a0 a1 k
 have ih0 := Cz.mono_l k
 unfold Cz.f
 repeat' (exact ih0 _ _)
set_option maxHeartbeats 8000000 in
set_option maxRecDepth 100000 in
theorem Cz.calls (k : Nat) (a0 : Int) (a1 : Int) (r : Int) (w : World) (h : Cz.f k a0 a1 = some r) :
  Calls Try.prog 132 #[.int .i64 a0, .int .i64 a1] w fun e w' => e = .returned (.int .i64 r) ∧ Cu w w' := by
 have H : (Cz.l0 k a0 a1) = some r := h
 clear h
 have H' := Aa.k H
 clear H
 go_enter Try.func132, Try.ntmps132
 go_wp2
 repeat (go_quiet (fail); try go_wp2)
 go_loopg [0, 1] k (fun kq v0 v1 w' => ∃ (x0_1 : Int) (x1_1 : Int), v0 = .int .i64 x0_1 ∧ v1 = .int .i64 x1_1 ∧ Aa (Cz.l0 kq x0_1 x1_1 = some r) ∧ Aa (kq ≤ k) ∧ Cu w w')
 case atStart => exact ⟨(a0), (a1), (by (rfl)), (by (rfl)), H', ⟨Nat.le_refl _⟩, by repeat (exact Cu.refl _)⟩
 case round =>
  clear H'
  obtain ⟨x0_1, x1_1, rfl, rfl, HA, HK1, ⟨m1, rfl⟩⟩ := hrel
  cases gk with
  | zero => exact absurd HA.o (by simp [Cz.l0])
  | succ k1 =>
   have H := HA.o
   clear HA
   simp only [Cz.l0] at H
   by_cases c3 : x1_1 = 0
   ·rw [if_pos c3] at H
    have c3b0 : (x1_1 == 0) = true := beq_iff_eq.mpr c3
    have c3b1 : (x1_1 != 0) = false := bne_eq_false_iff_eq.mpr c3
    clear c3
    obtain rfl := Option.some.inj H
    go_wp2
    repeat (go_quiet (fail); try go_wp2)
    go_ret
    exact ⟨by (rfl), by repeat (first | exact Cu.refl _ | apply Cu.step)⟩
   rw [if_neg c3] at H
   have c3b0 : (x1_1 == 0) = false := beq_eq_false_iff_ne.mpr c3
   have c3b1 : (x1_1 != 0) = true := bne_iff_ne.mpr c3
   have H' := Aa.k H
   clear H
   go_wp2
   repeat (go_quiet (fail); try go_wp2)
   go_roundg k1
   case measure => have := HK1.o; omega
   case rel => exact ⟨(x1_1), (Int.tmod x0_1 x1_1), (by (rfl)), (by (rfl)), H', ⟨by have := HK1.o; omega⟩, by repeat (first | exact Cu.refl _ | apply Cu.step)⟩

/-! ### impl_fraction: function 124 -/
def Dy.f (k : Nat) (a0 : Int) (a1 : Int) : Option (Int × Int) := (Cz.f k a0 a1).bind fun t299 => (if t299 = 0 then (none) else (some (wrap64 (Int.tdiv a0 t299), wrap64 (Int.tdiv a1 t299))))
theorem Dy.mono : ∀ a0 a1 k, LeO (Dy.f k a0 a1) (Dy.f (k + 1) a0 a1) := by
 intro a0 a1 k
 unfold Dy.f
 repeat' first
   | (with_reducible exact Cz.mono _ _ _)
   | (with_reducible exact LeO.refl _)
   | (with_reducible refine LeO.bind ?_ (fun _ => ?_))
def Dy.T2 : Bool × List (List Nat × List Nat) := (true, [([], []), ([], []), ([0, 1], [0, 1]), ([], []), ([], []), ([3, 4], [3, 4]), ([2, 5], [2, 5]), ([6, 0, 1, 2, 3, 4, 5, 6], [6])])
def Dy.B2 : List Nat := [0, 0, 3, 0, 0, 24, 63, 127]
theorem Dy.tab2 : rtab .any (opsOf Try.f124 2) = Dy.T2 := by kernel_rfl
theorem Dy.bits2 : waitsOk Dy.T2.2 Dy.B2 = true := by kernel_rfl
set_option maxHeartbeats 8000000 in
set_option maxRecDepth 100000 in
theorem Dy.calls (k : Nat) (a0 : Int) (a1 : Int) (r1 : Int) (r2 : Int) (w : World) (h : Dy.f k a0 a1 = some (r1, r2)) :
  Calls Try.prog 124 #[.int .i64 a0, .int .i64 a1] w fun e w' => e = .returned (.agg #[.int .i64 r1, .int .i64 r2]) ∧ Below w.heap.size w w' := by
 have hu56 := Try.underlying56
 have HB := Aa.k (Below.refl w.heap.size w)
 have H : ((Cz.f k a0 a1).bind fun t299 => (if t299 = 0 then (none) else (some (wrap64 (Int.tdiv a0 t299), wrap64 (Int.tdiv a1 t299))))) = some (r1, r2) := h
 clear h
 obtain ⟨t299, A30, H⟩ := bindS_ H
 try dsimp only at H
 have A3 := Aa.k A30
 clear A30
 by_cases c4 : t299 = 0
 ·rw [if_pos c4] at H
  exact absurd H (by simp)
 rw [if_neg c4] at H
 have c4b0 : (t299 == 0) = false := beq_eq_false_iff_ne.mpr c4
 have c4b1 : (t299 != 0) = true := bne_iff_ne.mpr c4
 simp only [Option.some.injEq, Prod.mk.injEq] at H
 obtain ⟨rfl, rfl⟩ := H
 go_enter Try.func124, Try.ntmps124
 try go_wp2_with (first | ((with_reducible refine Be (N := 4) rfl ?_); refine Bo ?hg (N := 4) ?hd (cs := #[.int .i64 0, .int .i64 0]) (t := 56) ?hr ?_; (case hd => rfl); (case hg => rfl); (case hr => (go_simp; done)); intro gb298 hg w5 hbox hb; have BK298 := Aa.k (hbox); have GW298 := Aa.k ((by rw [hg]; exact (Af HB.o) : w.heap.size ≤ gb298)); have GE298 := Aa.k ((by rw [hg]; exact (Af HB.o) : w.heap.size ≤ gb298)); replace HB := Aa.k (Ad HB.o hb); clear hb hbox hg) | ((with_reducible refine Aj (f := 132) rfl ?_); refine Bf (some 8) rfl rfl Try.func132 (by kernel_rfl) rfl #[.int .i64 a0, .int .i64 a1] rfl (by (try simp only [mT_, mC_, mN_]); rfl) ?_; (with_reducible refine (Cz.calls k a0 a1 t299 _ A3.o).mono ?_); rintro e w' ⟨rfl, ⟨nd, rfl⟩⟩; refine ⟨_, rfl, ?_⟩; (try (rw [drewN_self w5]; generalize hq_ : World.drewN w5 _ = w5; have n0_ : Aa (w5.heap[gb298]? = some (.cells #[.int .i64 0, .int .i64 0] 56 (0, 0))) := ⟨by rw [← hq_]; exact (by (with_reducible repeat ((refine Dk ?_ _))); exact BK298.o)⟩; have n1_ : Aa (Below w.heap.size w w5) := ⟨by rw [← hq_]; exact (by repeat ((with_reducible first | exact HB.o | apply Bh)))⟩; clear BK298 HB hq_; have BK298 := n0_; have HB := n1_; clear n0_ n1_))))
 replace BK298 := Aa.k (Dt BK298.o)
 replace HB := Aa.k (Cf HB.o)
 refine Fp (n := 8) (S := fun w' => True) (ds := []) #[N_,N_,N_,N_,N_,N_,N_,N_] (by kernel_rfl) rfl rfl trivial (fun hHeld => ?_); refine Dv Dy.tab2 Dy.bits2 (fun HT_ HW_ => ?_)
 generalize w5.drew = w6 at BK298 HB hHeld ⊢
 apply pq_ 0 9 #[Y_,N_,N_,N_,N_,N_,N_,N_] HT_ rfl rfl (by kernel_rfl) (fun _ _ _ h => h) (by rfl)
 ·intro w'; go_simp; rfl
 ·simp only [Act.put, sT_, sZ_, sS_, Ah, Ai]; rfl
 apply pq_ 1 10 #[Y_,Y_,N_,N_,N_,N_,N_,N_] HT_ rfl rfl (by kernel_rfl) (fun _ _ _ h => h) (by rfl)
 ·intro w'; go_simp; rfl
 ·simp only [Act.put, sT_, sZ_, sS_, Ah, Ai]; rfl
 apply pq_ 2 11 #[Y_,Y_,Y_,N_,N_,N_,N_,N_] HT_ rfl rfl (by kernel_rfl) (fun _ _ _ h => h) (by rfl)
 ·intro w'; go_simp; rfl
 ·simp only [Act.put, sT_, sZ_, sS_, Ah, Ai]; rfl
 apply pq_ 3 12 #[Y_,Y_,Y_,Y_,N_,N_,N_,N_] HT_ rfl rfl (by kernel_rfl) (fun _ _ _ h => h) (by rfl)
 ·intro w'; go_simp; rfl
 ·simp only [Act.put, sT_, sZ_, sS_, Ah, Ai]; rfl
 apply pq_ 4 13 #[Y_,Y_,Y_,Y_,Y_,N_,N_,N_] HT_ rfl rfl (by kernel_rfl) (fun _ _ _ h => h) (by rfl)
 ·intro w'; go_simp; rfl
 ·simp only [Act.put, sT_, sZ_, sS_, Ah, Ai]; rfl
 apply pq_ 5 14 #[Y_,Y_,Y_,Y_,Y_,Y_,N_,N_] HT_ rfl rfl (by kernel_rfl) (fun _ _ _ h => h) (by rfl)
 ·intro w'; go_simp; rfl
 ·simp only [Act.put, sT_, sZ_, sS_, Ah, Ai]; rfl
 apply pq_ 6 15 #[Y_,Y_,Y_,Y_,Y_,Y_,Y_,N_] HT_ rfl rfl (by kernel_rfl) (fun _ _ _ h => h) (by rfl)
 ·intro w'; go_simp; rfl
 ·simp only [Act.put, sT_, sZ_, sS_, Ah, Ai]; rfl
 refine one_ (i := 7) (N := none) #[Y_,Y_,Y_,Y_,Y_,Y_,Y_,Y_] rfl rfl (Ej HT_.o (by kernel_rfl)) (by decide) (fun K hK => ?_)
 have hs7 : w6.cell? ⟨gb298, 0, none⟩ = some (.int .i64 0) := (Aw BK298.o 0).trans rfl
 have hfs7 := Ac BK298.o 0
 have hs8 : w6.cell? ⟨gb298, 1, none⟩ = some (.int .i64 0) := (Aw BK298.o 1).trans rfl
 have hfs8 := Ac BK298.o 1
 refine skip_ (w1 := ?_) (by rfl) rfl ?_ ?_
 rotate_left
 ·go_simp
  rfl
 refine hK.out _ _ trivial (fun hHeld => ?_)
 clear hK K
 refine done_ (Fa HT_.o (by kernel_rfl)) ?_
 try go_wp2
 refine bodyPost_ret (results_cell_row rfl _ _ gb298 56 #[.int .i64 (wrap64 (Int.tdiv a0 t299)), .int .i64 (wrap64 (Int.tdiv a1 t299))] (0, 0) _ rfl (by refine Cr (cs := #[.int .i64 (wrap64 (Int.tdiv a0 t299)), .int .i64 0]) ?_ 1 _ rfl; refine Cr (cs := #[.int .i64 0, .int .i64 0]) ?_ 0 _ rfl; exact BK298.o) Try.underlying56 rfl (by kernel_rfl)) rfl ?_
 exact ⟨by (rfl), by repeat ((with_reducible first | exact HB.o | refine Bz ?_ GE298.o))⟩

end Go.Proofs.Ytogflbocmiogpaa.PFnBestSearch
