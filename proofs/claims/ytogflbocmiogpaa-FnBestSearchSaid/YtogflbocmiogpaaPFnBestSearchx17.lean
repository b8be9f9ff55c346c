-- Written for this claim by this session's turned copy of the printer.
import Derived.Test.YtogflbocmiogpaaPFnBestSearchx0
import Derived.Test.YtogflbocmiogpaaPFnBestSearchx2
import Derived.Test.YtogflbocmiogpaaPFnBestSearchx14
namespace Go.Proofs.Ytogflbocmiogpaa.PFnBestSearch
open Go.RowKit Go.Proofs.YtogflbocmiogpaaW.PrintWords Go.Proofs.YtogflbocmiogpaaW.PrintLast Go.Proofs.YtogflbocmiogpaaW.PrintMore
open List renaming map_toArray → mT_, map_cons → mC_, map_nil → mN_
attribute [local go_sem] max2_int min2_int max_two min_two Fj Fh max_four min_four   -- for this text's walks alone
set_option linter.unusedVariables false
set_option linter.unusedSimpArgs false

/-! ### spec_l3Straight: function 97 -/
def Bt.l0 : Nat → Int → List Int → List Int → Int → Option (List Int)
 | 0, _, _, _, _ => none
 | k + 1, x0, x1, x5, x6 => if x6 < (x1.length : Int) then (if (wrap64 (x6 + 1)) = (x1.length : Int) then (if 0 ≤ x6 then (if x5.length < 17592186044416 then (Bt.l0 k x0 x1 (x5 ++ [rd x1 x6]) (wrap64 (x6 + 1))) else (none)) else (none)) else (if 0 ≤ x6 then (if 0 ≤ (wrap64 (x6 + 1)) then (if (wrap64 (x6 + 1)) < (x1.length : Int) then (if ((decide ((rd x1 x6) > x0)) != (decide ((rd x1 (wrap64 (x6 + 1))) > x0))) = true then (if x5.length < 17592186044416 then (Bt.l0 k x0 x1 (x5 ++ [rd x1 x6]) (wrap64 (x6 + 1))) else (none)) else (Bt.l0 k x0 x1 x5 (wrap64 (x6 + 1)))) else (none)) else (none)) else (none))) else (some x5)
def Bt.f (k : Nat) (a0 : Int) (l1 : List Int) : Option (List Int) := Bt.l0 k a0 l1 (([] : List Int)) 0
theorem Bt.mono_l : ∀ k, (∀ y0 y1 y2 y3, LeO (Bt.l0 k y0 y1 y2 y3) (Bt.l0 (k + 1) y0 y1 y2 y3))
 | 0 => fun _ _ _ _ r h => by simp [Bt.l0] at h
 | k + 1 => by
  have ih0 := Bt.mono_l k
  ·intro y0 y1 y2 y3
   unfold Bt.l0
   repeat' first
   | (with_reducible exact ih0 _ _ _ _)
   | (with_reducible exact LeO.refl _)
   | (with_reducible refine LeO.ite ?_ ?_)
theorem Bt.mono : ∀ a0 a1 k, LeO (Bt.f k a0 a1) (Bt.f (k + 1) a0 a1) := by
 intro a0 a1 k
 have ih0 := Bt.mono_l k
 unfold Bt.f
 repeat' (exact ih0 _ _ _ _)
set_option maxHeartbeats 8000000 in
set_option maxRecDepth 100000 in
theorem Bt.calls (k : Nat) (a0 : Int) (A1 : Option Addr) (c1 : Nat) (l1 : List Int) (r : List Int) (w : World) (hr1 : Kd.C (Kd.int .i64) w A1 l1.length l1) (hc1 : l1.length ≤ c1) (h : Bt.f k a0 l1 = some r) :
  Calls Try.prog 97 #[.int .i64 a0, .slice A1 l1.length c1] w fun e w' => ∃ v0_ : Value, e = .returned (v0_) ∧ Kd.R (Kd.int .i64) 3 w' w.heap.size (fun _ => True) v0_ r ∧ Below w.heap.size w w' := by
 have HR1 := Aa.k hr1
 have HC1 := Aa.k hc1
 clear hr1 hc1
 have HB := Aa.k (Below.refl w.heap.size w)
 have H : (Bt.l0 k a0 l1 (([] : List Int)) 0) = some r := h
 clear h
 obtain ⟨y363, hy363⟩ : ∃ y_ : List Int, y_ = (([] : List Int)) := ⟨_, rfl⟩
 replace H : (Bt.l0 k a0 l1 y363 0) = some r := by (rw [hy363]; exact H)
 have Ny363 := Aa.k hy363
 clear hy363
 have H' := Aa.k H
 clear H
 go_enter Try.func97, Try.ntmps97
 go_wp2_with (((refine Be (N := 7) rfl ?_); refine Kd.R_lit (Kd.int .i64) _ 3 ?hg (N := 7) ?hd (xs := ([] : List Int)) (inner := []) (ok := fun _ => True) (okp := fun _ => True) ?hr ?hp (fun _ hk => hk) trivial (Below.refl _ _) (Nat.le_refl _) (by simp) ?_; (case hd => rfl); (case hg => rfl); (case hr => (go_simp; done)); (case hp => exact (Reps.none _ _)); intro v364 w3 ho4 hb hg_ hnew_; clear hg_ hnew_; ((rw [← Ny363.o] at ho4)); have HO365 := Aa.k (Kd.Ct ho4 (Af HB.o)); replace HB := Aa.k (Ad HB.o hb); clear hb ho4))
 repeat (go_quiet (fail); try go_wp2_with (fail))
 go_loopg [5, 6] k (fun kq v5 v6 w' => ∃ (x5_1 : List Int) (x6_1 : Int), v6 = .int .i64 x6_1 ∧ Aa (Bt.l0 kq a0 l1 x5_1 x6_1 = some r) ∧ Aa (kq ≤ k) ∧ Aa (Kd.R (Kd.int .i64) 3 w' w.heap.size (fun _ => True) v5 x5_1) ∧ Aa (Below w.heap.size w w'))
 case atStart => exact ⟨(y363), (0), (by (rfl)), H', ⟨Nat.le_refl _⟩, ⟨by exact HO365.o⟩, ⟨by exact HB.o⟩⟩
 case round =>
  clear H'
  obtain ⟨x5_1, x6_1, rfl, HA, HK1, HO_5, HB⟩ := hrel
  cases gk with
  | zero => exact absurd HA.o (by simp [Bt.l0])
  | succ k1 =>
   have H := HA.o
   clear HA
   simp only [Bt.l0] at H
   by_cases c5 : x6_1 < (l1.length : Int)
   rotate_left
   ·rw [if_neg c5] at H
    have c5b0 : decide (x6_1 < (l1.length : Int)) = false := decide_eq_false c5
    clear c5
    obtain rfl := Option.some.inj H
    go_wp2
    repeat (go_quiet (fail); try go_wp2)
    go_ret
    exact ⟨_, by (rfl), by exact HO_5.o, by exact HB.o⟩
   rw [if_pos c5] at H
   have c5b0 : decide (x6_1 < (l1.length : Int)) = true := decide_eq_true c5
   clear c5
   by_cases c6 : (wrap64 (x6_1 + 1)) = (l1.length : Int)
   ·rw [if_pos c6] at H
    have c6b0 : ((wrap64 (x6_1 + 1)) == (l1.length : Int)) = true := beq_iff_eq.mpr c6
    have c6b1 : ((wrap64 (x6_1 + 1)) != (l1.length : Int)) = false := bne_eq_false_iff_eq.mpr c6
    clear c6
    by_cases c7 : 0 ≤ x6_1
    rotate_left
    ·rw [if_neg c7] at H
     exact absurd H (by simp)
    rw [if_pos c7] at H
    have c7b0 : decide (0 ≤ x6_1) = true := decide_eq_true c7
    clear c7
    by_cases c8 : x5_1.length < 17592186044416
    rotate_left
    ·rw [if_neg c8] at H
     exact absurd H (by simp)
    rw [if_pos c8] at H
    have LMc8 := Aa.k c8
    clear c8
    obtain ⟨y367, hy367⟩ : ∃ y_ : List Int, y_ = (x5_1 ++ [rd l1 x6_1]) := ⟨_, rfl⟩
    replace H : (Bt.l0 k1 a0 l1 y367 (wrap64 (x6_1 + 1))) = some r := by (rw [hy367]; exact H)
    have Ny367 := Aa.k hy367
    clear hy367
    have H' := Aa.k H
    clear H
    have p366 : 0 ≤ (x6_1 : Int) := of_decide_eq_true (by (assumption))
    have q366 : x6_1 < (l1.length : Int) := of_decide_eq_true (by (assumption))
    obtain ⟨ad366, e366, hx366_0⟩ := Kd.Eo HR1.o x6_1 p366 q366
    cases e366
    replace hx366_0 := (HB.o.cell (World.block_lt_of_cell? w _ hx366_0)).trans hx366_0
    replace p366 := eq_true p366
    replace q366 := eq_true q366
    go_wp2_with (fail)
    repeat (go_quiet (fail); try go_wp2_with (((with_reducible refine Ef (b := .append) (xs := #[.tmp 35, .tmp 40]) rfl ?_); at_builtin; refine Kd.R_append (Kd.int .i64) (w0 := w) w.heap.size rfl (.tmp 35) (.tmp 40) 30 3 (.int .i64 0) 8 rfl Try.underlying30 info3 rfl (by decide) (by omega) u5 x5_1 (rd l1 x6_1) [.int .i64 (rd l1 x6_1)] (fun _ => True) (fun _ => False) rfl rfl ?aP (fun _ hk => hk.elim) ?aF ?aO ?aB ?aS ?aL ?_; (case aP => exact rfl); (case aB => exact (by repeat ((with_reducible first | exact HB.o | apply Bh)))); (case aF => exact (fun _ _ => trivial)); (case aO => exact (by (with_reducible repeat ((apply Kd.Ee))); exact HO_5.o)); (case aS => exact (Af (by repeat ((with_reducible first | exact HB.o | apply Bh))))); (case aL => have := LMc8.o; omega); intro v368 w9 ho hb hg hat; rw [← Ny367.o] at ho; replace HB := Aa.k (hb); have HO369 := Aa.k (ho); clear ho hb hg hat)))
    go_roundg k1
    case measure => have := HK1.o; omega
    case rel => exact ⟨(y367), (wrap64 (x6_1 + 1)), (by (rfl)), H', ⟨by have := HK1.o; omega⟩, ⟨by exact HO369.o⟩, ⟨by exact HB.o⟩⟩
   rw [if_neg c6] at H
   have c6b0 : ((wrap64 (x6_1 + 1)) == (l1.length : Int)) = false := beq_eq_false_iff_ne.mpr c6
   have c6b1 : ((wrap64 (x6_1 + 1)) != (l1.length : Int)) = true := bne_iff_ne.mpr c6
   by_cases c10 : 0 ≤ x6_1
   rotate_left
   ·rw [if_neg c10] at H
    exact absurd H (by simp)
   rw [if_pos c10] at H
   have c10b0 : decide (0 ≤ x6_1) = true := decide_eq_true c10
   clear c10
   obtain ⟨ji11, hji11⟩ : ∃ j_ : Int, (wrap64 (x6_1 + 1)) = j_ := ⟨_, rfl⟩
   replace H : (if 0 ≤ (ji11) then (if (ji11) < (l1.length : Int) then (if ((decide ((rd l1 x6_1) > a0)) != (decide ((rd l1 (ji11)) > a0))) = true then (if x5_1.length < 17592186044416 then (Bt.l0 k1 a0 l1 (x5_1 ++ [rd l1 x6_1]) ji11) else (none)) else (Bt.l0 k1 a0 l1 x5_1 ji11)) else (none)) else (none)) = some r := by (rw [hji11] at H; exact H)
   (try rw [hji11] at c6b0)
   (try rw [hji11] at c6b1)
   have hji11w : (IntKind.i64.wrap (x6_1 + 1)) = ji11 := (Ah _).trans hji11
   by_cases c12 : 0 ≤ (ji11)
   rotate_left
   ·rw [if_neg c12] at H
    exact absurd H (by simp)
   rw [if_pos c12] at H
   have c12b0 : decide (0 ≤ (ji11)) = true := decide_eq_true c12
   clear c12
   by_cases c13 : (ji11) < (l1.length : Int)
   rotate_left
   ·rw [if_neg c13] at H
    exact absurd H (by simp)
   rw [if_pos c13] at H
   have c13b0 : decide ((ji11) < (l1.length : Int)) = true := decide_eq_true c13
   clear c13
   by_cases c14 : ((decide ((rd l1 x6_1) > a0)) != (decide ((rd l1 (ji11)) > a0))) = true
   rotate_left
   ·rw [if_neg c14] at H
    have c14b0 : ((decide ((rd l1 x6_1) > a0)) != (decide ((rd l1 (ji11)) > a0))) = false := by simpa using c14
    (try (have c14b1 : decide ((decide ((rd l1 x6_1) > a0)) = (decide ((rd l1 (ji11)) > a0))) = true := by simpa using c14))
    (try (have c14b2 : ((decide ((rd l1 x6_1) > a0)) == (decide ((rd l1 (ji11)) > a0))) = true := by simpa using c14))
    clear c14
    have H' := Aa.k H
    clear H
    have p370 : 0 ≤ (x6_1 : Int) := of_decide_eq_true (by (assumption))
    have q370 : x6_1 < (l1.length : Int) := of_decide_eq_true (by (assumption))
    obtain ⟨ad370, e370, hx370_0⟩ := Kd.Eo HR1.o x6_1 p370 q370
    cases e370
    replace hx370_0 := (HB.o.cell (World.block_lt_of_cell? w _ hx370_0)).trans hx370_0
    replace p370 := eq_true p370
    replace q370 := eq_true q370
    have p371 : 0 ≤ ((ji11) : Int) := of_decide_eq_true (by (assumption))
    have q371 : (ji11) < (l1.length : Int) := of_decide_eq_true (by (assumption))
    obtain ⟨ad371, e371, hx371_0⟩ := Kd.Eo HR1.o (ji11) p371 q371
    obtain rfl : ad370 = ad371 := (by injection e371)
    replace hx371_0 := (HB.o.cell (World.block_lt_of_cell? w _ hx371_0)).trans hx371_0
    replace p371 := eq_true p371
    replace q371 := eq_true q371
    go_wp2
    repeat (go_quiet (fail); try go_wp2)
    go_roundg k1
    case measure => have := HK1.o; omega
    case rel => exact ⟨(x5_1), (ji11), (by (rfl)), H', ⟨by have := HK1.o; omega⟩, ⟨by (with_reducible repeat ((apply Kd.Ee))); exact HO_5.o⟩, ⟨by repeat ((with_reducible first | exact HB.o | apply Bh))⟩⟩
   rw [if_pos c14] at H
   have c14b0 : ((decide ((rd l1 x6_1) > a0)) != (decide ((rd l1 (ji11)) > a0))) = true := c14
   (try (have c14b1 : decide ((decide ((rd l1 x6_1) > a0)) = (decide ((rd l1 (ji11)) > a0))) = false := by simpa using c14))
   (try (have c14b2 : ((decide ((rd l1 x6_1) > a0)) == (decide ((rd l1 (ji11)) > a0))) = false := by simpa using c14))
   (try (have c14b3 : ¬ ((decide ((rd l1 x6_1) > a0)) = (decide ((rd l1 (ji11)) > a0))) := by simpa using c14))
   clear c14
   by_cases c15 : x5_1.length < 17592186044416
   rotate_left
   ·rw [if_neg c15] at H
    exact absurd H (by simp)
   rw [if_pos c15] at H
   have LMc15 := Aa.k c15
   clear c15
   obtain ⟨y373, hy373⟩ : ∃ y_ : List Int, y_ = (x5_1 ++ [rd l1 x6_1]) := ⟨_, rfl⟩
   replace H : (Bt.l0 k1 a0 l1 y373 ji11) = some r := by (rw [hy373]; exact H)
   have Ny373 := Aa.k hy373
   clear hy373
   have H' := Aa.k H
   clear H
   have p370 : 0 ≤ (x6_1 : Int) := of_decide_eq_true (by (assumption))
   have q370 : x6_1 < (l1.length : Int) := of_decide_eq_true (by (assumption))
   obtain ⟨ad370, e370, hx370_0⟩ := Kd.Eo HR1.o x6_1 p370 q370
   cases e370
   replace hx370_0 := (HB.o.cell (World.block_lt_of_cell? w _ hx370_0)).trans hx370_0
   replace p370 := eq_true p370
   replace q370 := eq_true q370
   have p371 : 0 ≤ ((ji11) : Int) := of_decide_eq_true (by (assumption))
   have q371 : (ji11) < (l1.length : Int) := of_decide_eq_true (by (assumption))
   obtain ⟨ad371, e371, hx371_0⟩ := Kd.Eo HR1.o (ji11) p371 q371
   obtain rfl : ad370 = ad371 := (by injection e371)
   replace hx371_0 := (HB.o.cell (World.block_lt_of_cell? w _ hx371_0)).trans hx371_0
   replace p371 := eq_true p371
   replace q371 := eq_true q371
   have p372 : 0 ≤ (x6_1 : Int) := of_decide_eq_true (by (assumption))
   have q372 : x6_1 < (l1.length : Int) := of_decide_eq_true (by (assumption))
   obtain ⟨ad372, e372, hx372_0⟩ := Kd.Eo HR1.o x6_1 p372 q372
   obtain rfl : ad370 = ad372 := (by injection e372)
   replace hx372_0 := (HB.o.cell (World.block_lt_of_cell? w _ hx372_0)).trans hx372_0
   replace p372 := eq_true p372
   replace q372 := eq_true q372
   go_wp2_with (fail)
   repeat (go_quiet (fail); try go_wp2_with (((with_reducible refine Ef (b := .append) (xs := #[.tmp 35, .tmp 40]) rfl ?_); at_builtin; refine Kd.R_append (Kd.int .i64) (w0 := w) w.heap.size rfl (.tmp 35) (.tmp 40) 30 3 (.int .i64 0) 8 rfl Try.underlying30 info3 rfl (by decide) (by omega) u5 x5_1 (rd l1 x6_1) [.int .i64 (rd l1 x6_1)] (fun _ => True) (fun _ => False) rfl rfl ?aP (fun _ hk => hk.elim) ?aF ?aO ?aB ?aS ?aL ?_; (case aP => exact rfl); (case aB => exact (by repeat ((with_reducible first | exact HB.o | apply Bh)))); (case aF => exact (fun _ _ => trivial)); (case aO => exact (by (with_reducible repeat ((apply Kd.Ee))); exact HO_5.o)); (case aS => exact (Af (by repeat ((with_reducible first | exact HB.o | apply Bh))))); (case aL => have := LMc15.o; omega); intro v374 w16 ho hb hg hat; rw [← Ny373.o] at ho; replace HB := Aa.k (hb); have HO375 := Aa.k (ho); clear ho hb hg hat)))
   go_roundg k1
   case measure => have := HK1.o; omega
   case rel => exact ⟨(y373), (ji11), (by (rfl)), H', ⟨by have := HK1.o; omega⟩, ⟨by exact HO375.o⟩, ⟨by exact HB.o⟩⟩

/-! ### spec_DoublingSearch: function 36 -/
mutual
def Au.l0 : Nat → Int → List Int → Int → Int → Bool → Int → Int → Bool → Option (List Int × Bool)
 | 0, _, _, _, _, _, _, _, _ => none
 | k + 1, x1, x6, x7, x8, x9, x10, x377000, x377001 => if x7 > 0 then (Au.j1 k x1 x6 x7 x8 x9 x10 true x377000 x377001) else (Au.j1 k x1 x6 x7 x8 x9 x10 (decide (x8 < (wrap64 (x377000 - 1)))) x377000 x377001)
def Au.j1 : Nat → Int → List Int → Int → Int → Bool → Int → Bool → Int → Bool → Option (List Int × Bool)
 | 0, _, _, _, _, _, _, _, _, _ => none
 | k + 1, x1, x6, x7, x8, x9, x10, x27, x377000, x377001 => if x27 = true then (if x9 = true then (Au.j2 k x1 x6 x7 x8 x9 x10 (decide (x8 < (wrap64 (x377000 - 1)))) x377000 x377001) else (Au.j2 k x1 x6 x7 x8 x9 x10 false x377000 x377001)) else ((Bt.f k x1 x6).bind fun t381 => (some (t381, true)))
def Au.j2 : Nat → Int → List Int → Int → Int → Bool → Int → Bool → Int → Bool → Option (List Int × Bool)
 | 0, _, _, _, _, _, _, _, _, _ => none
 | k + 1, x1, x6, x7, x8, x9, x10, x37, x377000, x377001 => if x37 = true then ((Et.f (wrap64 (x377000 - 1)) (wrap64 (x1 + x10))).bind fun t384 => (if x6.length < 17592186044416 then ((some (x6 ++ [t384] : List Int)).bind fun y385 => (if x9 = true then (Au.l0 k x1 y385 x7 t384 (!x9) (wrap64 (2 * x10)) x377000 x377001) else (if x7 > 0 then ((Ec.f 0 (wrap64 (x1 - x10))).bind fun t388 => (if y385.length < 17592186044416 then (Au.l0 k x1 (y385 ++ [t388]) t388 t384 (!x9) (wrap64 (2 * x10)) x377000 x377001) else (none))) else (Au.l0 k x1 y385 x7 t384 (!x9) (wrap64 (2 * x10)) x377000 x377001)))) else (none))) else (if x9 = true then (Au.l0 k x1 x6 x7 x8 (!x9) (wrap64 (2 * x10)) x377000 x377001) else (if x7 > 0 then ((Ec.f 0 (wrap64 (x1 - x10))).bind fun t392 => (if x6.length < 17592186044416 then (Au.l0 k x1 (x6 ++ [t392]) t392 x8 (!x9) (wrap64 (2 * x10)) x377000 x377001) else (none))) else (Au.l0 k x1 x6 x7 x8 (!x9) (wrap64 (2 * x10)) x377000 x377001)))
end
def Au.f (k : Nat) (a0_0 : Int) (a0_1 : Bool) (a1 : Int) : Option (List Int × Bool) := (some (([] : List Int) : List Int)).bind fun y377 => ((Ea.f a0_0 a0_1 a1).bind fun t380 => (if t380 = true then (Au.l0 k a1 y377 a1 a1 true 1 a0_0 a0_1) else (some (y377, false))))
theorem Au.mono_l : ∀ k, (∀ y0 y1 y2 y3 y4 y5 y6 y7, LeO (Au.l0 k y0 y1 y2 y3 y4 y5 y6 y7) (Au.l0 (k + 1) y0 y1 y2 y3 y4 y5 y6 y7)) ∧ (∀ y0 y1 y2 y3 y4 y5 y6 y7 y8, LeO (Au.j1 k y0 y1 y2 y3 y4 y5 y6 y7 y8) (Au.j1 (k + 1) y0 y1 y2 y3 y4 y5 y6 y7 y8)) ∧ (∀ y0 y1 y2 y3 y4 y5 y6 y7 y8, LeO (Au.j2 k y0 y1 y2 y3 y4 y5 y6 y7 y8) (Au.j2 (k + 1) y0 y1 y2 y3 y4 y5 y6 y7 y8))
 | 0 => ⟨fun _ _ _ _ _ _ _ _ r h => by simp [Au.l0] at h, fun _ _ _ _ _ _ _ _ _ r h => by simp [Au.j1] at h, fun _ _ _ _ _ _ _ _ _ r h => by simp [Au.j2] at h⟩
 | k + 1 => by
  obtain ⟨ih0, ih1, ih2⟩ := Au.mono_l k
  refine ⟨?_, ?_, ?_⟩
  ·intro y0 y1 y2 y3 y4 y5 y6 y7
   unfold Au.l0
   repeat' first
   | (with_reducible exact ih1 _ _ _ _ _ _ _ _ _)
   | (with_reducible refine LeO.ite ?_ ?_)
  ·intro y0 y1 y2 y3 y4 y5 y6 y7 y8
   unfold Au.j1
   repeat' first
   | (with_reducible exact ih2 _ _ _ _ _ _ _ _ _)
   | (with_reducible exact Bt.mono _ _ _)
   | (with_reducible exact LeO.refl _)
   | (with_reducible refine LeO.ite ?_ ?_)
   | (with_reducible refine LeO.bind ?_ (fun _ => ?_))
  ·intro y0 y1 y2 y3 y4 y5 y6 y7 y8
   unfold Au.j2
   repeat' first
   | (with_reducible exact ih0 _ _ _ _ _ _ _ _)
   | (with_reducible exact LeO.refl _)
   | (with_reducible refine LeO.ite ?_ ?_)
   | (with_reducible refine LeO.bind ?_ (fun _ => ?_))
theorem Au.mono : ∀ a0 a1 a2 k, LeO (Au.f k a0 a1 a2) (Au.f (k + 1) a0 a1 a2) := by
 intro a0 a1 a2 k
 obtain ⟨ih0, ih1, ih2⟩ := Au.mono_l k
 unfold Au.f
 repeat' first
   | (with_reducible exact ih0 _ _ _ _ _ _ _ _)
   | (with_reducible exact LeO.refl _)
   | (with_reducible refine LeO.ite ?_ ?_)
   | (with_reducible refine LeO.bind ?_ (fun _ => ?_))
set_option maxHeartbeats 8000000 in
set_option maxRecDepth 100000 in
theorem Au.calls (k : Nat) (a0_0 : Int) (a0_1 : Bool) (a1 : Int) (r1 : List Int) (r2 : Bool) (w : World) (h : Au.f k a0_0 a0_1 a1 = some (r1, r2)) :
  Calls Try.prog 36 #[.agg #[.int .i64 a0_0, .bool a0_1], .int .i64 a1] w fun e w' => ∃ v0_ : Value, e = .returned (.tuple #[v0_, .bool r2]) ∧ Kd.R (Kd.int .i64) 3 w' w.heap.size (fun _ => True) v0_ r1 ∧ Below w.heap.size w w' := by
 have hu25 := Try.underlying25
 have HB := Aa.k (Below.refl w.heap.size w)
 have H : ((some (([] : List Int) : List Int)).bind fun y377 => ((Ea.f a0_0 a0_1 a1).bind fun t380 => (if t380 = true then (Au.l0 k a1 y377 a1 a1 true 1 a0_0 a0_1) else (some (y377, false))))) = some (r1, r2) := h
 clear h
 obtain ⟨y377, hy377⟩ : ∃ y_ : List Int, y_ = (([] : List Int)) := ⟨_, rfl⟩
 replace H : ((Ea.f a0_0 a0_1 a1).bind fun t380 => (if t380 = true then (Au.l0 k a1 y377 a1 a1 true 1 a0_0 a0_1) else (some (y377, false)))) = some (r1, r2) := by (have H2_ := (Option.bind_some _ _).symm.trans H; rw [hy377]; exact H2_)
 have Ny377 := Aa.k hy377
 clear hy377
 obtain ⟨t380, A30, H⟩ := bindS_ H
 try dsimp only at H
 have A3 := Aa.k A30
 clear A30
 by_cases c4 : t380 = true
 rotate_left
 ·replace c4 := Bool.eq_false_iff.mpr c4
  subst c4
  rw [if_neg (show ¬ (false = true) by decide)] at H
  simp only [Option.some.injEq, Prod.mk.injEq] at H
  obtain ⟨rfl, rfl⟩ := H
  go_enter Try.func36, Try.ntmps36
  go_wp2_with (first | ((with_reducible refine Be (N := 2) rfl ?_); refine Bo ?hg (N := 2) ?hd (cs := #[.int .i64 a0_0, .bool a0_1]) (t := 25) ?hr ?_; (case hd => rfl); (case hg => rfl); (case hr => (go_simp; done)); intro gb376 hg w39 hbox hb; have BK376 := Aa.k (hbox); have GW376 := Aa.k ((by rw [hg]; exact (Af HB.o) : w.heap.size ≤ gb376)); have GE376 := Aa.k ((by rw [hg]; exact (Af HB.o) : w.heap.size ≤ gb376)); replace HB := Aa.k (Ad HB.o hb); clear hb hbox hg) | ((with_reducible refine Be (N := 11) rfl ?_); refine Kd.R_lit (Kd.int .i64) _ 3 ?hg (N := 11) ?hd (xs := ([] : List Int)) (inner := []) (ok := fun _ => True) (okp := fun _ => True) ?hr ?hp (fun _ hk => hk) trivial (Below.refl _ _) (Nat.le_refl _) (by simp) ?_; (case hd => rfl); (case hg => rfl); (case hr => (go_simp; done)); (case hp => exact (Reps.none _ _)); intro v378 w40 ho41 hb hg_ hnew_; clear hg_ hnew_; ((rw [← Ny377.o] at ho41)); have HO379 := Aa.k (Kd.Ct ho41 (Af HB.o)); replace BK376 := Aa.k (Ae (g := gb376) (o := .cells #[.int .i64 a0_0, .bool a0_1] 25 (0, 0)) (by exact BK376.o) hb); replace HB := Aa.k (Ad HB.o hb); clear hb ho41; have hcz42_0 := Bj BK376.o; have hcz42_1 := Bn BK376.o; have hfz42_0 := Ac BK376.o 0; have hfz42_1 := Ac BK376.o 1) | ((with_reducible refine Aj (f := 84) rfl ?_); refine Bf (some 14) rfl rfl Try.func84 (by kernel_rfl) rfl #[.agg #[.int .i64 a0_0, .bool a0_1], .int .i64 a1] rfl (by (try simp only [mT_, mC_, mN_]); rfl) ?_; (with_reducible refine (Ea.calls a0_0 a0_1 a1 false _ A3.o).mono ?_); rintro e w43 ⟨rfl, hb⟩; refine ⟨_, rfl, ?_⟩; replace HO379 := Aa.k (Kd.Ba (by exact HO379.o) hb); replace BK376 := Aa.k (Ae (g := gb376) (o := .cells #[.int .i64 a0_0, .bool a0_1] 25 (0, 0)) (by exact BK376.o) hb); replace HB := Aa.k (Ad HB.o hb); clear hb))
  go_ret2
  exact ⟨_, by (rfl), by exact HO379.o, by exact HB.o⟩
 subst c4
 rw [if_pos rfl] at H
 have H' := Aa.k H
 clear H
 go_enter Try.func36, Try.ntmps36
 go_wp2_with (first | ((with_reducible refine Be (N := 2) rfl ?_); refine Bo ?hg (N := 2) ?hd (cs := #[.int .i64 a0_0, .bool a0_1]) (t := 25) ?hr ?_; (case hd => rfl); (case hg => rfl); (case hr => (go_simp; done)); intro gb376 hg w5 hbox hb; have BK376 := Aa.k (hbox); have GW376 := Aa.k ((by rw [hg]; exact (Af HB.o) : w.heap.size ≤ gb376)); have GE376 := Aa.k ((by rw [hg]; exact (Af HB.o) : w.heap.size ≤ gb376)); replace HB := Aa.k (Ad HB.o hb); clear hb hbox hg) | ((with_reducible refine Be (N := 11) rfl ?_); refine Kd.R_lit (Kd.int .i64) _ 3 ?hg (N := 11) ?hd (xs := ([] : List Int)) (inner := []) (ok := fun _ => True) (okp := fun _ => True) ?hr ?hp (fun _ hk => hk) trivial (Below.refl _ _) (Nat.le_refl _) (by simp) ?_; (case hd => rfl); (case hg => rfl); (case hr => (go_simp; done)); (case hp => exact (Reps.none _ _)); intro v378 w6 ho7 hb hg_ hnew_; clear hg_ hnew_; ((rw [← Ny377.o] at ho7)); have HO379 := Aa.k (Kd.Ct ho7 (Af HB.o)); replace BK376 := Aa.k (Ae (g := gb376) (o := .cells #[.int .i64 a0_0, .bool a0_1] 25 (0, 0)) (by exact BK376.o) hb); replace HB := Aa.k (Ad HB.o hb); clear hb ho7; have hcz8_0 := Bj BK376.o; have hcz8_1 := Bn BK376.o; have hfz8_0 := Ac BK376.o 0; have hfz8_1 := Ac BK376.o 1) | ((with_reducible refine Aj (f := 84) rfl ?_); refine Bf (some 14) rfl rfl Try.func84 (by kernel_rfl) rfl #[.agg #[.int .i64 a0_0, .bool a0_1], .int .i64 a1] rfl (by (try simp only [mT_, mC_, mN_]); rfl) ?_; (with_reducible refine (Ea.calls a0_0 a0_1 a1 true _ A3.o).mono ?_); rintro e w9 ⟨rfl, hb⟩; refine ⟨_, rfl, ?_⟩; replace HO379 := Aa.k (Kd.Ba (by exact HO379.o) hb); replace BK376 := Aa.k (Ae (g := gb376) (o := .cells #[.int .i64 a0_0, .bool a0_1] 25 (0, 0)) (by exact BK376.o) hb); replace HB := Aa.k (Ad HB.o hb); clear hb))
 go_loopg [6, 7, 8, 9, 10] k (fun kq v6 v7 v8 v9 v10 w' => ∃ (x6_1 : List Int) (x7_1 : Int) (x8_1 : Int) (x9_1 : Bool) (x10_1 : Int), v7 = .int .i64 x7_1 ∧ v8 = .int .i64 x8_1 ∧ v9 = .bool x9_1 ∧ v10 = .int .i64 x10_1 ∧ Aa (Au.l0 kq a1 x6_1 x7_1 x8_1 x9_1 x10_1 a0_0 a0_1 = some (r1, r2)) ∧ Aa (kq ≤ k) ∧ Aa (Kd.R (Kd.int .i64) 3 w' w.heap.size (fun _ => True) v6 x6_1) ∧ Aa (w'.heap[gb376]? = some (.cells #[.int .i64 a0_0, .bool a0_1] 25 (0, 0))) ∧ Aa (Below w.heap.size w w'))
 case atStart => exact ⟨(y377), (a1), (a1), (true), (1), (by (rfl)), (by (rfl)), (by (rfl)), (by (rfl)), H', ⟨Nat.le_refl _⟩, ⟨by exact HO379.o⟩, ⟨by exact BK376.o⟩, ⟨by exact HB.o⟩⟩
 case round =>
  clear H'
  clear hcz8_0 hcz8_1 hfz8_0 hfz8_1
  obtain ⟨x6_1, x7_1, x8_1, x9_1, x10_1, rfl, rfl, rfl, rfl, HA, HK1, HO_6, BK376, HB⟩ := hrel
  cases gk with
  | zero => exact absurd HA.o (by simp [Au.l0])
  | succ k1 =>
   have H := HA.o
   clear HA
   simp only [Au.l0] at H
   have HC10 := Aa.k H
   clear H
   go_upto_region 6 with (fail)
   go_cut [27] (fun v27 wc => ∃ (kq : Nat) (x27_9 : Bool), v27 = .bool x27_9 ∧ Aa (Au.j1 kq a1 x6_1 x7_1 x8_1 x9_1 x10_1 x27_9 a0_0 a0_1 = some (r1, r2)) ∧ Aa (kq ≤ k1) ∧ Aa (Kd.R (Kd.int .i64) 3 wc w.heap.size (fun _ => True) u6 x6_1) ∧ Aa (wc.heap[gb376]? = some (.cells #[.int .i64 a0_0, .bool a0_1] 25 (0, 0))) ∧ Aa (Below w.heap.size w wc))
   case first =>
    have H := HC10.o
    clear HC10
    by_cases c11 : x7_1 > 0
    ·rw [if_pos c11] at H
     have c11b0 : decide (0 < x7_1) = true := decide_eq_true c11
     clear c11
     ((skip))
     have H' := Aa.k H
     clear H
     go_wp2
     go_meet
     case rel => exact ⟨_, (true), (by (rfl)), H', ⟨by have := HK1.o; (omega)⟩, ⟨by exact HO_6.o⟩, ⟨by exact BK376.o⟩, ⟨by exact HB.o⟩⟩
    rw [if_neg c11] at H
    have c11b0 : decide (0 < x7_1) = false := decide_eq_false c11
    clear c11
    ((skip))
    have H' := Aa.k H
    clear H
    have hcz12_0 := Bj BK376.o
    have hcz12_1 := Bn BK376.o
    have hfz12_0 := Ac BK376.o 0
    have hfz12_1 := Ac BK376.o 1
    go_wp2
    go_meet
    case rel => exact ⟨_, (decide (x8_1 < (wrap64 (a0_0 - 1)))), (by (rfl)), H', ⟨by have := HK1.o; (omega)⟩, ⟨by exact HO_6.o⟩, ⟨by exact BK376.o⟩, ⟨by exact HB.o⟩⟩
   case rest =>
    clear HC10
    obtain ⟨kq, x27_9, rfl, HA, HJ9, HO_6, BK376, HB⟩ := hcut
    cases kq with
    | zero => exact absurd HA.o (by simp [Au.j1])
    | succ kj9 =>
     have H := HA.o
     clear HA
     simp only [Au.j1] at H
     by_cases c13 : x27_9 = true
     rotate_left
     ·replace c13 := Bool.eq_false_iff.mpr c13
      subst c13
      rw [if_neg (show ¬ (false = true) by decide)] at H
      obtain ⟨t381, A360, H⟩ := bindS_ H
      try dsimp only at H
      have A36 := Aa.k A360
      clear A360
      simp only [Option.some.injEq, Prod.mk.injEq] at H
      obtain ⟨rfl, rfl⟩ := H
      obtain ⟨Ao37, co37, eo37⟩ := Kd.Cx HO_6.o
      subst eo37
      go_wp2_with (((refine Aj (f := 97) rfl ?_); refine Bf (some 67) rfl rfl Try.func97 (by kernel_rfl) rfl #[.int .i64 a1, .slice Ao37 x6_1.length co37] rfl (by (try simp only [mT_, mC_, mN_]); rfl) ?_; (refine (Bt.calls kj9 a1 _ _ x6_1 t381 _ ?side1 ?side2 A36.o).mono ?_); (case side1 => repeat (exact (Kd.Bb HO_6.o).2.2)); (case side2 => exact (Kd.Bb HO_6.o).2.1); rintro e w38 ⟨v382, rfl, ho0, hb⟩; refine ⟨_, rfl, ?_⟩; have HO383 := Aa.k (Kd.Ct (Kd.Dz ho0 (Kd.R_lt (by exact HO_6.o))) (Af HB.o)); replace HO_6 := Aa.k (Kd.Cw (by exact HO_6.o) (Kd.Cy ho0) hb); replace BK376 := Aa.k (Ae (g := gb376) (o := .cells #[.int .i64 a0_0, .bool a0_1] 25 (0, 0)) (by exact BK376.o) hb); replace HB := Aa.k (Ad HB.o hb); clear hb ho0))
      go_ret2
      exact ⟨_, by (rfl), by exact Kd.Bv HO383.o (fun _ hk => trivial), by exact HB.o⟩
     subst c13
     rw [if_pos rfl] at H
     have HC14 := Aa.k H
     clear H
     go_upto_region 8 with (fail)
     go_cut [37] (fun v37 wc => ∃ (kq : Nat) (x37_13 : Bool), v37 = .bool x37_13 ∧ Aa (Au.j2 kq a1 x6_1 x7_1 x8_1 x9_1 x10_1 x37_13 a0_0 a0_1 = some (r1, r2)) ∧ Aa (kq ≤ kj9) ∧ Aa (Kd.R (Kd.int .i64) 3 wc w.heap.size (fun _ => True) u6 x6_1) ∧ Aa (wc.heap[gb376]? = some (.cells #[.int .i64 a0_0, .bool a0_1] 25 (0, 0))) ∧ Aa (Below w.heap.size w wc))
     case first =>
      have H := HC14.o
      clear HC14
      by_cases c15 : x9_1 = true
      rotate_left
      ·replace c15 := Bool.eq_false_iff.mpr c15
       subst c15
       rw [if_neg (show ¬ (false = true) by decide)] at H
       have H' := Aa.k H
       clear H
       go_wp2
       go_meet
       case rel => exact ⟨_, (false), (by (rfl)), H', ⟨by have := HK1.o; have := HJ9.o; (omega)⟩, ⟨by exact HO_6.o⟩, ⟨by exact BK376.o⟩, ⟨by exact HB.o⟩⟩
      subst c15
      rw [if_pos rfl] at H
      have H' := Aa.k H
      clear H
      have hcz16_0 := Bj BK376.o
      have hcz16_1 := Bn BK376.o
      have hfz16_0 := Ac BK376.o 0
      have hfz16_1 := Ac BK376.o 1
      go_wp2
      go_meet
      case rel => exact ⟨_, (decide (x8_1 < (wrap64 (a0_0 - 1)))), (by (rfl)), H', ⟨by have := HK1.o; have := HJ9.o; (omega)⟩, ⟨by exact HO_6.o⟩, ⟨by exact BK376.o⟩, ⟨by exact HB.o⟩⟩
     case rest =>
      clear HC14
      obtain ⟨kq, x37_13, rfl, HA, HJ13, HO_6, BK376, HB⟩ := hcut
      cases kq with
      | zero => exact absurd HA.o (by simp [Au.j2])
      | succ kj13 =>
       have H := HA.o
       clear HA
       simp only [Au.j2] at H
       by_cases c17 : x37_13 = true
       rotate_left
       ·replace c17 := Bool.eq_false_iff.mpr c17
        subst c17
        rw [if_neg (show ¬ (false = true) by decide)] at H
        by_cases c31 : x9_1 = true
        ·subst c31
         rw [if_pos rfl] at H
         have H' := Aa.k H
         clear H
         go_wp2
         go_roundg kj13
         case measure => have := HK1.o; have := HJ9.o; have := HJ13.o; omega
         case rel => exact ⟨(x6_1), (x7_1), (x8_1), (!true), (wrap64 (2 * x10_1)), (by (rfl)), (by (rfl)), (by (rfl)), (by (rfl)), H', ⟨by have := HK1.o; have := HJ9.o; have := HJ13.o; omega⟩, ⟨by exact HO_6.o⟩, ⟨by exact BK376.o⟩, ⟨by exact HB.o⟩⟩
        replace c31 := Bool.eq_false_iff.mpr c31
        subst c31
        rw [if_neg (show ¬ (false = true) by decide)] at H
        by_cases c32 : x7_1 > 0
        rotate_left
        ·rw [if_neg c32] at H
         have c32b0 : decide (0 < x7_1) = false := decide_eq_false c32
         clear c32
         have H' := Aa.k H
         clear H
         go_wp2
         go_roundg kj13
         case measure => have := HK1.o; have := HJ9.o; have := HJ13.o; omega
         case rel => exact ⟨(x6_1), (x7_1), (x8_1), (!false), (wrap64 (2 * x10_1)), (by (rfl)), (by (rfl)), (by (rfl)), (by (rfl)), H', ⟨by have := HK1.o; have := HJ9.o; have := HJ13.o; omega⟩, ⟨by exact HO_6.o⟩, ⟨by exact BK376.o⟩, ⟨by exact HB.o⟩⟩
        rw [if_pos c32] at H
        have c32b0 : decide (0 < x7_1) = true := decide_eq_true c32
        clear c32
        obtain ⟨t392, A330, H⟩ := bindS_ H
        try dsimp only at H
        have A33 := Aa.k A330
        clear A330
        by_cases c34 : x6_1.length < 17592186044416
        rotate_left
        ·rw [if_neg c34] at H
         exact absurd H (by simp)
        rw [if_pos c34] at H
        have LMc34 := Aa.k c34
        clear c34
        obtain ⟨y393, hy393⟩ : ∃ y_ : List Int, y_ = (x6_1 ++ [t392]) := ⟨_, rfl⟩
        replace H : (Au.l0 kj13 a1 y393 t392 x8_1 (!false) (wrap64 (2 * x10_1)) a0_0 a0_1) = some (r1, r2) := by (rw [hy393]; exact H)
        have Ny393 := Aa.k hy393
        clear hy393
        have H' := Aa.k H
        clear H
        go_wp2_with (first | ((with_reducible refine Aj (f := 86) rfl ?_); refine Bf (some 58) rfl rfl Try.func86 (by kernel_rfl) rfl #[.int .i64 0, .int .i64 (wrap64 (a1 - x10_1))] rfl (by (try simp only [mT_, mC_, mN_]); rfl) ?_; (with_reducible refine (Ec.calls 0 (wrap64 (a1 - x10_1)) t392 _ A33.o).mono ?_); rintro e w' ⟨rfl, ⟨nd, rfl⟩⟩; refine ⟨_, rfl, ?_⟩) | ((with_reducible refine Ef (b := .append) (xs := #[.tmp 59, .tmp 61]) rfl ?_); at_builtin; refine Kd.R_append (Kd.int .i64) (w0 := w) w.heap.size rfl (.tmp 59) (.tmp 61) 30 3 (.int .i64 0) 8 rfl Try.underlying30 info3 rfl (by decide) (by omega) u6 x6_1 t392 [.int .i64 t392] (fun _ => True) (fun _ => False) rfl rfl ?aP (fun _ hk => hk.elim) ?aF ?aO ?aB ?aS ?aL ?_; (case aP => exact rfl); (case aB => exact (by repeat ((with_reducible first | exact HB.o | apply Bh)))); (case aF => exact (fun _ _ => trivial)); (case aO => exact (by (with_reducible repeat ((apply Kd.Ee))); exact HO_6.o)); (case aS => exact (Af (by repeat ((with_reducible first | exact HB.o | apply Bh))))); (case aL => have := LMc34.o; omega); intro v394 w35 ho hb hg hat; rw [← Ny393.o] at ho; replace BK376 := Aa.k (Fb (g := gb376) (o := .cells #[.int .i64 a0_0, .bool a0_1] 25 (0, 0)) (by (with_reducible repeat ((refine Dk ?_ _))); exact BK376.o) hg (Kd.R_ne HO_6.o BK376.o (by decide))); replace HB := Aa.k (hb); have HO395 := Aa.k (ho); clear ho hb hg hat))
        go_roundg kj13
        case measure => have := HK1.o; have := HJ9.o; have := HJ13.o; omega
        case rel => exact ⟨(y393), (t392), (x8_1), (!false), (wrap64 (2 * x10_1)), (by (rfl)), (by (rfl)), (by (rfl)), (by (rfl)), H', ⟨by have := HK1.o; have := HJ9.o; have := HJ13.o; omega⟩, ⟨by exact HO395.o⟩, ⟨by exact BK376.o⟩, ⟨by exact HB.o⟩⟩
       subst c17
       rw [if_pos rfl] at H
       obtain ⟨t384, A180, H⟩ := bindS_ H
       try dsimp only at H
       have A18 := Aa.k A180
       clear A180
       by_cases c19 : x6_1.length < 17592186044416
       rotate_left
       ·rw [if_neg c19] at H
        exact absurd H (by simp)
       rw [if_pos c19] at H
       have LMc19 := Aa.k c19
       clear c19
       obtain ⟨y385, hy385⟩ : ∃ y_ : List Int, y_ = (x6_1 ++ [t384]) := ⟨_, rfl⟩
       replace H : (if x9_1 = true then (Au.l0 kj13 a1 y385 x7_1 t384 (!x9_1) (wrap64 (2 * x10_1)) a0_0 a0_1) else (if x7_1 > 0 then ((Ec.f 0 (wrap64 (a1 - x10_1))).bind fun t388 => (if y385.length < 17592186044416 then (Au.l0 kj13 a1 (y385 ++ [t388]) t388 t384 (!x9_1) (wrap64 (2 * x10_1)) a0_0 a0_1) else (none))) else (Au.l0 kj13 a1 y385 x7_1 t384 (!x9_1) (wrap64 (2 * x10_1)) a0_0 a0_1))) = some (r1, r2) := by (have H2_ := (Option.bind_some _ _).symm.trans H; rw [hy385]; exact H2_)
       have Ny385 := Aa.k hy385
       clear hy385
       by_cases c20 : x9_1 = true
       ·subst c20
        rw [if_pos rfl] at H
        have H' := Aa.k H
        clear H
        have hcz21_0 := Bj BK376.o
        have hcz21_1 := Bn BK376.o
        have hfz21_0 := Ac BK376.o 0
        have hfz21_1 := Ac BK376.o 1
        go_wp2_with (first | ((with_reducible refine Aj (f := 96) rfl ?_); refine Bf (some 44) rfl rfl Try.func96 (by kernel_rfl) rfl #[.int .i64 (wrap64 (a0_0 - 1)), .int .i64 (wrap64 (a1 + x10_1))] rfl (by (try simp only [mT_, mC_, mN_]); rfl) ?_; (with_reducible refine (Et.calls (wrap64 (a0_0 - 1)) (wrap64 (a1 + x10_1)) t384 _ A18.o).mono ?_); rintro e w' ⟨rfl, ⟨nd, rfl⟩⟩; refine ⟨_, rfl, ?_⟩) | ((with_reducible refine Ef (b := .append) (xs := #[.tmp 45, .tmp 47]) rfl ?_); at_builtin; refine Kd.R_append (Kd.int .i64) (w0 := w) w.heap.size rfl (.tmp 45) (.tmp 47) 30 3 (.int .i64 0) 8 rfl Try.underlying30 info3 rfl (by decide) (by omega) u6 x6_1 t384 [.int .i64 t384] (fun _ => True) (fun _ => False) rfl rfl ?aP (fun _ hk => hk.elim) ?aF ?aO ?aB ?aS ?aL ?_; (case aP => exact rfl); (case aB => exact (by repeat ((with_reducible first | exact HB.o | apply Bh)))); (case aF => exact (fun _ _ => trivial)); (case aO => exact (by (with_reducible repeat ((apply Kd.Ee))); exact HO_6.o)); (case aS => exact (Af (by repeat ((with_reducible first | exact HB.o | apply Bh))))); (case aL => have := LMc19.o; omega); intro v386 w22 ho hb hg hat; rw [← Ny385.o] at ho; replace BK376 := Aa.k (Fb (g := gb376) (o := .cells #[.int .i64 a0_0, .bool a0_1] 25 (0, 0)) (by (with_reducible repeat ((refine Dk ?_ _))); exact BK376.o) hg (Kd.R_ne HO_6.o BK376.o (by decide))); replace HB := Aa.k (hb); have HO387 := Aa.k (ho); clear ho hb hg hat))
        go_roundg kj13
        case measure => have := HK1.o; have := HJ9.o; have := HJ13.o; omega
        case rel => exact ⟨(y385), (x7_1), (t384), (!true), (wrap64 (2 * x10_1)), (by (rfl)), (by (rfl)), (by (rfl)), (by (rfl)), H', ⟨by have := HK1.o; have := HJ9.o; have := HJ13.o; omega⟩, ⟨by exact HO387.o⟩, ⟨by exact BK376.o⟩, ⟨by exact HB.o⟩⟩
       replace c20 := Bool.eq_false_iff.mpr c20
       subst c20
       rw [if_neg (show ¬ (false = true) by decide)] at H
       by_cases c23 : x7_1 > 0
       rotate_left
       ·rw [if_neg c23] at H
        have c23b0 : decide (0 < x7_1) = false := decide_eq_false c23
        clear c23
        have H' := Aa.k H
        clear H
        have hcz29_0 := Bj BK376.o
        have hcz29_1 := Bn BK376.o
        have hfz29_0 := Ac BK376.o 0
        have hfz29_1 := Ac BK376.o 1
        go_wp2_with (first | ((with_reducible refine Aj (f := 96) rfl ?_); refine Bf (some 44) rfl rfl Try.func96 (by kernel_rfl) rfl #[.int .i64 (wrap64 (a0_0 - 1)), .int .i64 (wrap64 (a1 + x10_1))] rfl (by (try simp only [mT_, mC_, mN_]); rfl) ?_; (with_reducible refine (Et.calls (wrap64 (a0_0 - 1)) (wrap64 (a1 + x10_1)) t384 _ A18.o).mono ?_); rintro e w' ⟨rfl, ⟨nd, rfl⟩⟩; refine ⟨_, rfl, ?_⟩) | ((with_reducible refine Ef (b := .append) (xs := #[.tmp 45, .tmp 47]) rfl ?_); at_builtin; refine Kd.R_append (Kd.int .i64) (w0 := w) w.heap.size rfl (.tmp 45) (.tmp 47) 30 3 (.int .i64 0) 8 rfl Try.underlying30 info3 rfl (by decide) (by omega) u6 x6_1 t384 [.int .i64 t384] (fun _ => True) (fun _ => False) rfl rfl ?aP (fun _ hk => hk.elim) ?aF ?aO ?aB ?aS ?aL ?_; (case aP => exact rfl); (case aB => exact (by repeat ((with_reducible first | exact HB.o | apply Bh)))); (case aF => exact (fun _ _ => trivial)); (case aO => exact (by (with_reducible repeat ((apply Kd.Ee))); exact HO_6.o)); (case aS => exact (Af (by repeat ((with_reducible first | exact HB.o | apply Bh))))); (case aL => have := LMc19.o; omega); intro v386 w30 ho hb hg hat; rw [← Ny385.o] at ho; replace BK376 := Aa.k (Fb (g := gb376) (o := .cells #[.int .i64 a0_0, .bool a0_1] 25 (0, 0)) (by (with_reducible repeat ((refine Dk ?_ _))); exact BK376.o) hg (Kd.R_ne HO_6.o BK376.o (by decide))); replace HB := Aa.k (hb); have HO387 := Aa.k (ho); clear ho hb hg hat))
        go_roundg kj13
        case measure => have := HK1.o; have := HJ9.o; have := HJ13.o; omega
        case rel => exact ⟨(y385), (x7_1), (t384), (!false), (wrap64 (2 * x10_1)), (by (rfl)), (by (rfl)), (by (rfl)), (by (rfl)), H', ⟨by have := HK1.o; have := HJ9.o; have := HJ13.o; omega⟩, ⟨by exact HO387.o⟩, ⟨by exact BK376.o⟩, ⟨by exact HB.o⟩⟩
       rw [if_pos c23] at H
       have c23b0 : decide (0 < x7_1) = true := decide_eq_true c23
       clear c23
       obtain ⟨t388, A240, H⟩ := bindS_ H
       try dsimp only at H
       have A24 := Aa.k A240
       clear A240
       by_cases c25 : y385.length < 17592186044416
       rotate_left
       ·rw [if_neg c25] at H
        exact absurd H (by simp)
       rw [if_pos c25] at H
       have LMc25 := Aa.k c25
       clear c25
       obtain ⟨y389, hy389⟩ : ∃ y_ : List Int, y_ = (y385 ++ [t388]) := ⟨_, rfl⟩
       replace H : (Au.l0 kj13 a1 y389 t388 t384 (!false) (wrap64 (2 * x10_1)) a0_0 a0_1) = some (r1, r2) := by (rw [hy389]; exact H)
       have Ny389 := Aa.k hy389
       clear hy389
       have H' := Aa.k H
       clear H
       have hcz26_0 := Bj BK376.o
       have hcz26_1 := Bn BK376.o
       have hfz26_0 := Ac BK376.o 0
       have hfz26_1 := Ac BK376.o 1
       go_wp2_with (first | ((with_reducible refine Aj (f := 96) rfl ?_); refine Bf (some 44) rfl rfl Try.func96 (by kernel_rfl) rfl #[.int .i64 (wrap64 (a0_0 - 1)), .int .i64 (wrap64 (a1 + x10_1))] rfl (by (try simp only [mT_, mC_, mN_]); rfl) ?_; (with_reducible refine (Et.calls (wrap64 (a0_0 - 1)) (wrap64 (a1 + x10_1)) t384 _ A18.o).mono ?_); rintro e w' ⟨rfl, ⟨nd, rfl⟩⟩; refine ⟨_, rfl, ?_⟩) | ((with_reducible refine Ef (b := .append) (xs := #[.tmp 45, .tmp 47]) rfl ?_); at_builtin; refine Kd.R_append (Kd.int .i64) (w0 := w) w.heap.size rfl (.tmp 45) (.tmp 47) 30 3 (.int .i64 0) 8 rfl Try.underlying30 info3 rfl (by decide) (by omega) u6 x6_1 t384 [.int .i64 t384] (fun _ => True) (fun _ => False) rfl rfl ?aP (fun _ hk => hk.elim) ?aF ?aO ?aB ?aS ?aL ?_; (case aP => exact rfl); (case aB => exact (by repeat ((with_reducible first | exact HB.o | apply Bh)))); (case aF => exact (fun _ _ => trivial)); (case aO => exact (by (with_reducible repeat ((apply Kd.Ee))); exact HO_6.o)); (case aS => exact (Af (by repeat ((with_reducible first | exact HB.o | apply Bh))))); (case aL => have := LMc19.o; omega); intro v386 w27 ho hb hg hat; rw [← Ny385.o] at ho; replace BK376 := Aa.k (Fb (g := gb376) (o := .cells #[.int .i64 a0_0, .bool a0_1] 25 (0, 0)) (by (with_reducible repeat ((refine Dk ?_ _))); exact BK376.o) hg (Kd.R_ne HO_6.o BK376.o (by decide))); replace HB := Aa.k (hb); have HO387 := Aa.k (ho); clear ho hb hg hat) | ((with_reducible refine Aj (f := 86) rfl ?_); refine Bf (some 58) rfl rfl Try.func86 (by kernel_rfl) rfl #[.int .i64 0, .int .i64 (wrap64 (a1 - x10_1))] rfl (by (try simp only [mT_, mC_, mN_]); rfl) ?_; (with_reducible refine (Ec.calls 0 (wrap64 (a1 - x10_1)) t388 _ A24.o).mono ?_); rintro e w' ⟨rfl, ⟨nd, rfl⟩⟩; refine ⟨_, rfl, ?_⟩) | ((with_reducible refine Ef (b := .append) (xs := #[.tmp 59, .tmp 61]) rfl ?_); at_builtin; refine Kd.R_append (Kd.int .i64) (w0 := w) w.heap.size rfl (.tmp 59) (.tmp 61) 30 3 (.int .i64 0) 8 rfl Try.underlying30 info3 rfl (by decide) (by omega) v386 y385 t388 [.int .i64 t388] (fun _ => True) (fun _ => False) rfl rfl ?aP (fun _ hk => hk.elim) ?aF ?aO ?aB ?aS ?aL ?_; (case aP => exact rfl); (case aB => exact (by repeat ((with_reducible first | exact HB.o | apply Bh)))); (case aF => exact (fun _ _ => trivial)); (case aO => exact (by (with_reducible repeat ((apply Kd.Ee))); exact HO387.o)); (case aS => exact (Af (by repeat ((with_reducible first | exact HB.o | apply Bh))))); (case aL => have := LMc25.o; omega); intro v390 w28 ho hb hg hat; rw [← Ny389.o] at ho; replace BK376 := Aa.k (Fb (g := gb376) (o := .cells #[.int .i64 a0_0, .bool a0_1] 25 (0, 0)) (by (with_reducible repeat ((refine Dk ?_ _))); exact BK376.o) hg (Kd.R_ne HO387.o BK376.o (by decide))); replace HB := Aa.k (hb); have HO391 := Aa.k (ho); clear ho hb hg hat))
       go_roundg kj13
       case measure => have := HK1.o; have := HJ9.o; have := HJ13.o; omega
       case rel => exact ⟨(y389), (t388), (t384), (!false), (wrap64 (2 * x10_1)), (by (rfl)), (by (rfl)), (by (rfl)), (by (rfl)), H', ⟨by have := HK1.o; have := HJ9.o; have := HJ13.o; omega⟩, ⟨by exact HO391.o⟩, ⟨by exact BK376.o⟩, ⟨by exact HB.o⟩⟩

end Go.Proofs.Ytogflbocmiogpaa.PFnBestSearch
