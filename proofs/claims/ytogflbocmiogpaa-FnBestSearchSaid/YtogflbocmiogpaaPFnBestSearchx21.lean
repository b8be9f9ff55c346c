-- Written for this claim by this session's turned copy of the printer.
import Derived.Test.YtogflbocmiogpaaPFnBestSearchx0
import Derived.Test.YtogflbocmiogpaaPFnBestSearchx1
import Derived.Test.YtogflbocmiogpaaPFnBestSearchx11
import Derived.Test.YtogflbocmiogpaaPFnBestSearchx14
import Derived.Test.YtogflbocmiogpaaPFnBestSearchx20
namespace Go.Proofs.Ytogflbocmiogpaa.PFnBestSearch
open Go.RowKit Go.Proofs.YtogflbocmiogpaaW.PrintWords Go.Proofs.YtogflbocmiogpaaW.PrintLast Go.Proofs.YtogflbocmiogpaaW.PrintMore
open List renaming setIfInBounds_toArray → sT_, set_cons_zero → sZ_, set_cons_succ → sS_, map_toArray → mT_, map_cons → mC_, map_nil → mN_
attribute [local go_sem] max2_int min2_int max_two min_two Fj Fh max_four min_four   -- for this text's walks alone
set_option linter.unusedVariables false
set_option linter.unusedSimpArgs false

/-! ### laws_vTable: function 41 -/
def Em.l0 : Nat → List (List Int) → List (List Int) → Int → Option (Bool)
 | 0, _, _, _ => none
 | k + 1, x0, x1, x5 => if x5 < (x0.length : Int) then (if 0 ≤ x5 then (if x5 < (x1.length : Int) then ((Cg.f k (Ez x0 x5) (Ez x1 x5)).bind fun t462 => (if t462 = true then (Em.l0 k x0 x1 (wrap64 (x5 + 1))) else (some false))) else (none)) else (none)) else (some true)
def Em.f (k : Nat) (l0 : List (List Int)) (l1 : List (List Int)) : Option (Bool) := if (l0.length : Int) = (l1.length : Int) then (Em.l0 k l0 l1 0) else (some false)
theorem Em.mono_l : ∀ k, (∀ y0 y1 y2, LeO (Em.l0 k y0 y1 y2) (Em.l0 (k + 1) y0 y1 y2))
 | 0 => fun _ _ _ r h => by simp [Em.l0] at h
 | k + 1 => by
  have ih0 := Em.mono_l k
  ·intro y0 y1 y2
   unfold Em.l0
   repeat' first
   | (with_reducible exact ih0 _ _ _)
   | (with_reducible exact Cg.mono _ _ _)
   | (with_reducible exact LeO.refl _)
   | (with_reducible refine LeO.ite ?_ ?_)
   | (with_reducible refine LeO.bind ?_ (fun _ => ?_))
set_option maxHeartbeats 8000000 in
set_option maxRecDepth 100000 in
theorem Em.calls (k : Nat) (A0 : Option Addr) (c0 : Nat) (l0 : List (List Int)) (A1 : Option Addr) (c1 : Nat) (l1 : List (List Int)) (r : Bool) (w : World) (hr0 : Kd.C (Kd.slice 3 (Kd.int .i64)) w A0 l0.length l0) (hc0 : l0.length ≤ c0) (hr1 : Kd.C (Kd.slice 3 (Kd.int .i64)) w A1 l1.length l1) (hc1 : l1.length ≤ c1) (h : Em.f k l0 l1 = some r) :
  Calls Try.prog 41 #[.slice A0 l0.length c0, .slice A1 l1.length c1] w fun e w' => e = .returned (.bool r) ∧ Cu w w' := by
 have HR0 := Aa.k hr0
 have HC0 := Aa.k hc0
 clear hr0 hc0
 have HR1 := Aa.k hr1
 have HC1 := Aa.k hc1
 clear hr1 hc1
 have H : (if (l0.length : Int) = (l1.length : Int) then (Em.l0 k l0 l1 0) else (some false)) = some r := h
 clear h
 by_cases c3 : (l0.length : Int) = (l1.length : Int)
 rotate_left
 ·rw [if_neg c3] at H
  have c3b0 : ((l0.length : Int) == (l1.length : Int)) = false := beq_eq_false_iff_ne.mpr c3
  have c3b1 : ((l0.length : Int) != (l1.length : Int)) = true := bne_iff_ne.mpr c3
  have c3b2 : (l0.length == l1.length) = false := by (simp at c3 ⊢; omega)
  obtain rfl := Option.some.inj H
  go_enter Try.func41, Try.ntmps41
  go_wp2
  repeat (go_quiet (fail); try go_wp2)
  go_ret
  exact ⟨by (rfl), by repeat (exact Cu.refl _)⟩
 rw [if_pos c3] at H
 have c3b0 : ((l0.length : Int) == (l1.length : Int)) = true := beq_iff_eq.mpr c3
 have c3b1 : ((l0.length : Int) != (l1.length : Int)) = false := bne_eq_false_iff_eq.mpr c3
 have c3b2 : (l0.length == l1.length) = true := by (simp at c3 ⊢; omega)
 clear c3
 have H' := Aa.k H
 clear H
 go_enter Try.func41, Try.ntmps41
 go_wp2
 repeat (go_quiet (fail); try go_wp2)
 go_loopg [5] k (fun kq v5 w' => ∃ (x5_1 : Int), v5 = .int .i64 x5_1 ∧ Aa (Em.l0 kq l0 l1 x5_1 = some r) ∧ Aa (kq ≤ k) ∧ Cu w w')
 case atStart => exact ⟨(0), (by (rfl)), H', ⟨Nat.le_refl _⟩, by repeat (exact Cu.refl _)⟩
 case round =>
  clear H'
  clear c3b0 c3b1 c3b2
  obtain ⟨x5_1, rfl, HA, HK1, ⟨m1, rfl⟩⟩ := hrel
  cases gk with
  | zero => exact absurd HA.o (by simp [Em.l0])
  | succ k1 =>
   have H := HA.o
   clear HA
   simp only [Em.l0] at H
   by_cases c4 : x5_1 < (l0.length : Int)
   rotate_left
   ·rw [if_neg c4] at H
    have c4b0 : decide (x5_1 < (l0.length : Int)) = false := decide_eq_false c4
    clear c4
    obtain rfl := Option.some.inj H
    go_wp2
    repeat (go_quiet (fail); try go_wp2)
    go_ret
    exact ⟨by (rfl), by repeat (first | exact Cu.refl _ | apply Cu.step)⟩
   rw [if_pos c4] at H
   have c4b0 : decide (x5_1 < (l0.length : Int)) = true := decide_eq_true c4
   clear c4
   by_cases c5 : 0 ≤ x5_1
   rotate_left
   ·rw [if_neg c5] at H
    exact absurd H (by simp)
   rw [if_pos c5] at H
   have c5b0 : decide (0 ≤ x5_1) = true := decide_eq_true c5
   clear c5
   by_cases c6 : x5_1 < (l1.length : Int)
   rotate_left
   ·rw [if_neg c6] at H
    exact absurd H (by simp)
   rw [if_pos c6] at H
   have c6b0 : decide (x5_1 < (l1.length : Int)) = true := decide_eq_true c6
   clear c6
   obtain ⟨t462, A70, H⟩ := bindS_ H
   try dsimp only at H
   have A7 := Aa.k A70
   clear A70
   by_cases c8 : t462 = true
   rotate_left
   ·replace c8 := Bool.eq_false_iff.mpr c8
    subst c8
    rw [if_neg (show ¬ (false = true) by decide)] at H
    obtain rfl := Option.some.inj H
    have p460 : 0 ≤ (x5_1 : Int) := of_decide_eq_true (by (assumption))
    have q460 : x5_1 < (l0.length : Int) := of_decide_eq_true (by (assumption))
    obtain ⟨ad460, A460_0, c460_0, e460, hx460_0, hl460_0, hi460_0⟩ := at_L4 HR0.o x5_1 p460 q460
    cases e460
    have HR460_0 := Aa.k hi460_0
    have HC460_0 := Aa.k hl460_0
    clear hi460_0 hl460_0
    replace p460 := eq_true p460
    replace q460 := eq_true q460
    have p461 : 0 ≤ (x5_1 : Int) := of_decide_eq_true (by (assumption))
    have q461 : x5_1 < (l1.length : Int) := of_decide_eq_true (by (assumption))
    obtain ⟨ad461, A461_0, c461_0, e461, hx461_0, hl461_0, hi461_0⟩ := at_L4 HR1.o x5_1 p461 q461
    cases e461
    have HR461_0 := Aa.k hi461_0
    have HC461_0 := Aa.k hl461_0
    clear hi461_0 hl461_0
    replace p461 := eq_true p461
    replace q461 := eq_true q461
    go_wp2_with (fail)
    repeat (go_quiet ((go_at_call 40; (try simp only [Ah, Ai]); (refine (Cg.calls k1 _ _ (Ez l0 x5_1) _ _ (Ez l1 x5_1) false _ ?side1 ?side2 ?side3 ?side4 A7.o).mono ?_); (case side1 => exact HR460_0.o); (case side2 => exact HC460_0.o); (case side3 => exact HR461_0.o); (case side4 => exact HC461_0.o); rintro e w' ⟨rfl, ⟨nd, rfl⟩⟩; (try (exact ⟨rfl, _, Eq.trans (World.drewN_drewN _ _ _) (congrArg (World.drewN _) (Nat.add_assoc _ _ _))⟩)))); try go_wp2_with (fail))
    go_ret
    exact ⟨by (rfl), by repeat (first | exact Cu.refl _ | apply Cu.step)⟩
   subst c8
   rw [if_pos rfl] at H
   have H' := Aa.k H
   clear H
   have p460 : 0 ≤ (x5_1 : Int) := of_decide_eq_true (by (assumption))
   have q460 : x5_1 < (l0.length : Int) := of_decide_eq_true (by (assumption))
   obtain ⟨ad460, A460_0, c460_0, e460, hx460_0, hl460_0, hi460_0⟩ := at_L4 HR0.o x5_1 p460 q460
   cases e460
   have HR460_0 := Aa.k hi460_0
   have HC460_0 := Aa.k hl460_0
   clear hi460_0 hl460_0
   replace p460 := eq_true p460
   replace q460 := eq_true q460
   have p461 : 0 ≤ (x5_1 : Int) := of_decide_eq_true (by (assumption))
   have q461 : x5_1 < (l1.length : Int) := of_decide_eq_true (by (assumption))
   obtain ⟨ad461, A461_0, c461_0, e461, hx461_0, hl461_0, hi461_0⟩ := at_L4 HR1.o x5_1 p461 q461
   cases e461
   have HR461_0 := Aa.k hi461_0
   have HC461_0 := Aa.k hl461_0
   clear hi461_0 hl461_0
   replace p461 := eq_true p461
   replace q461 := eq_true q461
   go_wp2_with (fail)
   repeat (go_quiet ((go_at_call 40; (try simp only [Ah, Ai]); (refine (Cg.calls k1 _ _ (Ez l0 x5_1) _ _ (Ez l1 x5_1) true _ ?side1 ?side2 ?side3 ?side4 A7.o).mono ?_); (case side1 => exact HR460_0.o); (case side2 => exact HC460_0.o); (case side3 => exact HR461_0.o); (case side4 => exact HC461_0.o); rintro e w' ⟨rfl, ⟨nd, rfl⟩⟩; (try (exact ⟨rfl, _, Eq.trans (World.drewN_drewN _ _ _) (congrArg (World.drewN _) (Nat.add_assoc _ _ _))⟩)))); try go_wp2_with (fail))
   go_roundg k1
   case measure => have := HK1.o; omega
   case rel => exact ⟨(wrap64 (x5_1 + 1)), (by (rfl)), H', ⟨by have := HK1.o; omega⟩, by repeat (first | exact Cu.refl _ | apply Cu.step)⟩

/-! ### impl_Road_isSearch: function 101 -/
mutual
def Aq.j0 : Nat → Int → List Int → Bool → Int → Bool → Option (Bool)
 | 0, _, _, _, _, _ => none
 | k + 1, x1, x2, x19, x464000, x464001 => if x19 = true then (some false) else (Aq.l0 k x1 x2 x1 x1 x2 (x2.length : Int) 0 x464000 x464001)
def Aq.l0 : Nat → Int → List Int → Int → Int → List Int → Int → Int → Int → Bool → Option (Bool)
 | 0, _, _, _, _, _, _, _, _, _ => none
 | k + 1, x1, x2, x7, x8, x22, x23, x24, x464000, x464001 => if x24 < x23 then (if 0 ≤ x24 then (if x24 < (x22.length : Int) then (if (rd x22 x24) = x1 then (Aq.j2 k x1 x2 x7 x8 (rd x22 x24) x22 x23 x24 true x464000 x464001) else (if x24 > 0 then (if 0 ≤ (wrap64 (x24 - 1)) then (if (wrap64 (x24 - 1)) < (x2.length : Int) then (Aq.j2 k x1 x2 x7 x8 (rd x22 x24) x22 x23 x24 ((decide ((rd x22 x24) < x1)) == (decide ((rd x2 (wrap64 (x24 - 1))) < x1))) x464000 x464001) else (none)) else (none)) else (Aq.j2 k x1 x2 x7 x8 (rd x22 x24) x22 x23 x24 false x464000 x464001))) else (none)) else (none)) else (if x7 = 0 then (some (x8 == (wrap64 (x464000 - 1)))) else (some false))
def Aq.j2 : Nat → Int → List Int → Int → Int → Int → List Int → Int → Int → Bool → Int → Bool → Option (Bool)
 | 0, _, _, _, _, _, _, _, _, _, _, _ => none
 | k + 1, x1, x2, x7, x8, x10, x22, x23, x24, x48, x464000, x464001 => if x48 = true then (some false) else (if x10 ≥ x7 then (if x10 ≤ x8 then (some false) else (Aq.l0 k x1 x2 (mn x7 x10) (mx x8 x10) x22 x23 (wrap64 (x24 + 1)) x464000 x464001)) else (Aq.l0 k x1 x2 (mn x7 x10) (mx x8 x10) x22 x23 (wrap64 (x24 + 1)) x464000 x464001))
end
def Aq.f (k : Nat) (a0_0 : Int) (a0_1 : Bool) (a1 : Int) (l2 : List Int) : Option (Bool) := if (l2.length : Int) = 0 then (Aq.j0 k a1 l2 true a0_0 a0_1) else ((Dm.f k a0_0 a0_1 l2).bind fun t464 => (Aq.j0 k a1 l2 (!t464) a0_0 a0_1))
theorem Aq.mono_l : ∀ k, (∀ y0 y1 y2 y3 y4, LeO (Aq.j0 k y0 y1 y2 y3 y4) (Aq.j0 (k + 1) y0 y1 y2 y3 y4)) ∧ (∀ y0 y1 y2 y3 y4 y5 y6 y7 y8, LeO (Aq.l0 k y0 y1 y2 y3 y4 y5 y6 y7 y8) (Aq.l0 (k + 1) y0 y1 y2 y3 y4 y5 y6 y7 y8)) ∧ (∀ y0 y1 y2 y3 y4 y5 y6 y7 y8 y9 y10, LeO (Aq.j2 k y0 y1 y2 y3 y4 y5 y6 y7 y8 y9 y10) (Aq.j2 (k + 1) y0 y1 y2 y3 y4 y5 y6 y7 y8 y9 y10))
 | 0 => ⟨fun _ _ _ _ _ r h => by simp [Aq.j0] at h, fun _ _ _ _ _ _ _ _ _ r h => by simp [Aq.l0] at h, fun _ _ _ _ _ _ _ _ _ _ _ r h => by simp [Aq.j2] at h⟩
 | k + 1 => by
  obtain ⟨ih0, ih1, ih2⟩ := Aq.mono_l k
  refine ⟨?_, ?_, ?_⟩
  ·intro y0 y1 y2 y3 y4
   unfold Aq.j0
   repeat' first
   | (with_reducible exact ih1 _ _ _ _ _ _ _ _ _)
   | (with_reducible exact LeO.refl _)
   | (with_reducible refine LeO.ite ?_ ?_)
  ·intro y0 y1 y2 y3 y4 y5 y6 y7 y8
   unfold Aq.l0
   repeat' first
   | (with_reducible exact ih2 _ _ _ _ _ _ _ _ _ _ _)
   | (with_reducible exact LeO.refl _)
   | (with_reducible refine LeO.ite ?_ ?_)
  ·intro y0 y1 y2 y3 y4 y5 y6 y7 y8 y9 y10
   unfold Aq.j2
   repeat' first
   | (with_reducible exact ih1 _ _ _ _ _ _ _ _ _)
   | (with_reducible exact LeO.refl _)
   | (with_reducible refine LeO.ite ?_ ?_)
theorem Aq.mono : ∀ a0 a1 a2 a3 k, LeO (Aq.f k a0 a1 a2 a3) (Aq.f (k + 1) a0 a1 a2 a3) := by
 intro a0 a1 a2 a3 k
 obtain ⟨ih0, ih1, ih2⟩ := Aq.mono_l k
 unfold Aq.f
 repeat' first
   | (with_reducible exact ih0 _ _ _ _ _)
   | (with_reducible exact Dm.mono _ _ _ _)
   | (with_reducible refine LeO.ite ?_ ?_)
   | (with_reducible refine LeO.bind ?_ (fun _ => ?_))
set_option maxHeartbeats 8000000 in
set_option maxRecDepth 100000 in
theorem Aq.calls (k : Nat) (a0_0 : Int) (a0_1 : Bool) (a1 : Int) (A2 : Option Addr) (c2 : Nat) (l2 : List Int) (r : Bool) (w : World) (hr2 : Kd.C (Kd.int .i64) w A2 l2.length l2) (hc2 : l2.length ≤ c2) (h : Aq.f k a0_0 a0_1 a1 l2 = some r) :
  Calls Try.prog 101 #[.agg #[.int .i64 a0_0, .bool a0_1], .int .i64 a1, .slice A2 l2.length c2] w fun e w' => e = .returned (.bool r) ∧ Below w.heap.size w w' := by
 have hu25 := Try.underlying25
 have HR2 := Aa.k hr2
 have HC2 := Aa.k hc2
 clear hr2 hc2
 have HB := Aa.k (Below.refl w.heap.size w)
 have H : (if (l2.length : Int) = 0 then (Aq.j0 k a1 l2 true a0_0 a0_1) else ((Dm.f k a0_0 a0_1 l2).bind fun t464 => (Aq.j0 k a1 l2 (!t464) a0_0 a0_1))) = some r := h
 clear h
 have HC4 := Aa.k H
 clear H
 go_enter Try.func101, Try.ntmps101
 go_upto_region 1 with (((refine Be (N := 3) rfl ?_); refine Bo ?hg (N := 3) ?hd (cs := #[.int .i64 a0_0, .bool a0_1]) (t := 25) ?hr ?_; (case hd => rfl); (case hg => rfl); (case hr => (go_simp; done)); intro gb463 hg w5 hbox hb; have BK463 := Aa.k (hbox); have GW463 := Aa.k ((by rw [hg]; exact (Af HB.o) : w.heap.size ≤ gb463)); have GE463 := Aa.k ((by rw [hg]; exact (Af HB.o) : w.heap.size ≤ gb463)); replace HB := Aa.k (Ad HB.o hb); clear hb hbox hg))
 (try simp only [Act.put, sT_, sZ_, sS_])
 go_cut [19] (fun v19 wc => ∃ (kq : Nat) (x19_3 : Bool), v19 = .bool x19_3 ∧ Aa (Aq.j0 kq a1 l2 x19_3 a0_0 a0_1 = some r) ∧ Aa (kq ≤ k) ∧ Aa (wc.heap[gb463]? = some (.cells #[.int .i64 a0_0, .bool a0_1] 25 (0, 0))) ∧ Aa (Below w.heap.size w wc))
 case first =>
  have H := HC4.o
  clear HC4
  by_cases c6 : (l2.length : Int) = 0
  ·rw [if_pos c6] at H
   have c6b0 : ((l2.length : Int) == 0) = true := beq_iff_eq.mpr c6
   have c6b1 : ((l2.length : Int) != 0) = false := bne_eq_false_iff_eq.mpr c6
   clear c6
   ((skip))
   have H' := Aa.k H
   clear H
   go_wp2
   go_meet
   case rel => exact ⟨_, (true), (by (rfl)), H', ⟨by (omega)⟩, ⟨by exact BK463.o⟩, ⟨by exact HB.o⟩⟩
  rw [if_neg c6] at H
  have c6b0 : ((l2.length : Int) == 0) = false := beq_eq_false_iff_ne.mpr c6
  have c6b1 : ((l2.length : Int) != 0) = true := bne_iff_ne.mpr c6
  have c6b2 : ¬ (l2 = []) := fun h_ => c6 (by rw [h_]; rfl)
  ((skip))
  obtain ⟨t464, A70, H⟩ := bindS_ H
  try dsimp only at H
  have A7 := Aa.k A70
  clear A70
  have H' := Aa.k H
  clear H
  have hcz8_0 := Bj BK463.o
  have hcz8_1 := Bn BK463.o
  have hfz8_0 := Ac BK463.o 0
  have hfz8_1 := Ac BK463.o 1
  go_wp2_with ((go_at_call 61; (refine (Dm.calls k a0_0 a0_1 _ _ l2 t464 _ ?side1 ?side2 A7.o).mono ?_); (case side1 => repeat (exact (Kd.Dx HR2.o HB.o))); (case side2 => exact HC2.o); rintro e w9 ⟨rfl, hb⟩; replace BK463 := Aa.k (Ae (g := gb463) (o := .cells #[.int .i64 a0_0, .bool a0_1] 25 (0, 0)) (by exact BK463.o) hb); replace HB := Aa.k (Ad HB.o hb); clear hb))
  go_meet
  case rel => exact ⟨_, (!t464), (by (rfl)), H', ⟨by (omega)⟩, ⟨by exact BK463.o⟩, ⟨by exact HB.o⟩⟩
 case rest =>
  clear HC4
  obtain ⟨kq, x19_3, rfl, HA, HJ3, BK463, HB⟩ := hcut
  cases kq with
  | zero => exact absurd HA.o (by simp [Aq.j0])
  | succ kj3 =>
   have H := HA.o
   clear HA
   simp only [Aq.j0] at H
   by_cases c10 : x19_3 = true
   ·subst c10
    rw [if_pos rfl] at H
    obtain rfl := Option.some.inj H
    go_wp2
    go_ret
    exact ⟨by (rfl), by exact HB.o⟩
   replace c10 := Bool.eq_false_iff.mpr c10
   subst c10
   rw [if_neg (show ¬ (false = true) by decide)] at H
   have H' := Aa.k H
   clear H
   go_wp2
   go_loopg [7, 8, 24] kj3 (fun kq v7 v8 v24 w' => ∃ (x7_2 : Int) (x8_2 : Int) (x24_2 : Int), v7 = .int .i64 x7_2 ∧ v8 = .int .i64 x8_2 ∧ v24 = .int .i64 x24_2 ∧ Aa (Aq.l0 kq a1 l2 x7_2 x8_2 l2 (l2.length : Int) x24_2 a0_0 a0_1 = some r) ∧ Aa (kq ≤ kj3) ∧ Aa (w'.heap[gb463]? = some (.cells #[.int .i64 a0_0, .bool a0_1] 25 (0, 0))) ∧ Aa (Below w.heap.size w w'))
   case atStart => exact ⟨(a1), (a1), (0), (by (rfl)), (by (rfl)), (by (rfl)), H', ⟨Nat.le_refl _⟩, ⟨by exact BK463.o⟩, ⟨by exact HB.o⟩⟩
   case round =>
    clear H'
    obtain ⟨x7_2, x8_2, x24_2, rfl, rfl, rfl, HA, HK2, BK463, HB⟩ := hrel
    cases gk with
    | zero => exact absurd HA.o (by simp [Aq.l0])
    | succ k2 =>
     have H := HA.o
     clear HA
     simp only [Aq.l0] at H
     by_cases c11 : x24_2 < (l2.length : Int)
     rotate_left
     ·rw [if_neg c11] at H
      have c11b0 : decide (x24_2 < (l2.length : Int)) = false := decide_eq_false c11
      clear c11
      by_cases c27 : x7_2 = 0
      rotate_left
      ·rw [if_neg c27] at H
       have c27b0 : (x7_2 == 0) = false := beq_eq_false_iff_ne.mpr c27
       have c27b1 : (x7_2 != 0) = true := bne_iff_ne.mpr c27
       obtain rfl := Option.some.inj H
       go_wp2
       go_ret
       exact ⟨by (rfl), by exact HB.o⟩
      rw [if_pos c27] at H
      have c27b0 : (x7_2 == 0) = true := beq_iff_eq.mpr c27
      have c27b1 : (x7_2 != 0) = false := bne_eq_false_iff_eq.mpr c27
      clear c27
      obtain rfl := Option.some.inj H
      have hcz28_0 := Bj BK463.o
      have hcz28_1 := Bn BK463.o
      have hfz28_0 := Ac BK463.o 0
      have hfz28_1 := Ac BK463.o 1
      go_wp2
      go_ret
      exact ⟨by (rfl), by exact HB.o⟩
     rw [if_pos c11] at H
     have c11b0 : decide (x24_2 < (l2.length : Int)) = true := decide_eq_true c11
     clear c11
     by_cases c12 : 0 ≤ x24_2
     rotate_left
     ·rw [if_neg c12] at H
      exact absurd H (by simp)
     rw [if_pos c12] at H
     have c12b0 : decide (0 ≤ x24_2) = true := decide_eq_true c12
     clear c12
     by_cases c13 : x24_2 < (l2.length : Int)
     rotate_left
     ·rw [if_neg c13] at H
      exact absurd H (by simp)
     rw [if_pos c13] at H
     have c13b0 : decide (x24_2 < (l2.length : Int)) = true := decide_eq_true c13
     clear c13
     have HC14 := Aa.k H
     clear H
     have p465 : 0 ≤ (x24_2 : Int) := of_decide_eq_true (by (assumption))
     have q465 : x24_2 < (l2.length : Int) := of_decide_eq_true (by (assumption))
     obtain ⟨ad465, e465, hx465_0⟩ := Kd.Eo HR2.o x24_2 p465 q465
     cases e465
     replace hx465_0 := (HB.o.cell (World.block_lt_of_cell? w _ hx465_0)).trans hx465_0
     replace p465 := eq_true p465
     replace q465 := eq_true q465
     go_upto_region 7 with (fail)
     go_cut [48] (fun v48 wc => ∃ (kq : Nat) (x48_13 : Bool), v48 = .bool x48_13 ∧ Aa (Aq.j2 kq a1 l2 x7_2 x8_2 (rd l2 x24_2) l2 (l2.length : Int) x24_2 x48_13 a0_0 a0_1 = some r) ∧ Aa (kq ≤ k2) ∧ Aa (wc.heap[gb463]? = some (.cells #[.int .i64 a0_0, .bool a0_1] 25 (0, 0))) ∧ Aa (Below w.heap.size w wc))
     case first =>
      have H := HC14.o
      clear HC14
      by_cases c15 : (rd l2 x24_2) = a1
      ·rw [if_pos c15] at H
       have c15b0 : ((rd l2 x24_2) == a1) = true := beq_iff_eq.mpr c15
       have c15b1 : ((rd l2 x24_2) != a1) = false := bne_eq_false_iff_eq.mpr c15
       clear c15
       ((skip))
       have H' := Aa.k H
       clear H
       go_wp2
       go_meet
       case rel => exact ⟨_, (true), (by (rfl)), H', ⟨by have := HJ3.o; have := HK2.o; (omega)⟩, ⟨by exact BK463.o⟩, ⟨by exact HB.o⟩⟩
      rw [if_neg c15] at H
      have c15b0 : ((rd l2 x24_2) == a1) = false := beq_eq_false_iff_ne.mpr c15
      have c15b1 : ((rd l2 x24_2) != a1) = true := bne_iff_ne.mpr c15
      ((skip))
      by_cases c16 : x24_2 > 0
      rotate_left
      ·rw [if_neg c16] at H
       have c16b0 : decide (0 < x24_2) = false := decide_eq_false c16
       clear c16
       have H' := Aa.k H
       clear H
       go_wp2
       go_meet
       case rel => exact ⟨_, (false), (by (rfl)), H', ⟨by have := HJ3.o; have := HK2.o; (omega)⟩, ⟨by exact BK463.o⟩, ⟨by exact HB.o⟩⟩
      rw [if_pos c16] at H
      have c16b0 : decide (0 < x24_2) = true := decide_eq_true c16
      clear c16
      obtain ⟨ji17, hji17⟩ : ∃ j_ : Int, (wrap64 (x24_2 - 1)) = j_ := ⟨_, rfl⟩
      replace H : (if 0 ≤ (ji17) then (if (ji17) < (l2.length : Int) then (Aq.j2 k2 a1 l2 x7_2 x8_2 (rd l2 x24_2) l2 (l2.length : Int) x24_2 ((decide ((rd l2 x24_2) < a1)) == (decide ((rd l2 (ji17)) < a1))) a0_0 a0_1) else (none)) else (none)) = some r := by (rw [hji17] at H; exact H)
      have hji17w : (IntKind.i64.wrap (x24_2 - 1)) = ji17 := (Ah _).trans hji17
      by_cases c18 : 0 ≤ (ji17)
      rotate_left
      ·rw [if_neg c18] at H
       exact absurd H (by simp)
      rw [if_pos c18] at H
      have c18b0 : decide (0 ≤ (ji17)) = true := decide_eq_true c18
      clear c18
      by_cases c19 : (ji17) < (l2.length : Int)
      rotate_left
      ·rw [if_neg c19] at H
       exact absurd H (by simp)
      rw [if_pos c19] at H
      have c19b0 : decide ((ji17) < (l2.length : Int)) = true := decide_eq_true c19
      clear c19
      have H' := Aa.k H
      clear H
      have p466 : 0 ≤ ((ji17) : Int) := of_decide_eq_true (by (assumption))
      have q466 : (ji17) < (l2.length : Int) := of_decide_eq_true (by (assumption))
      obtain ⟨ad466, e466, hx466_0⟩ := Kd.Eo HR2.o (ji17) p466 q466
      obtain rfl : ad465 = ad466 := (by injection e466)
      replace hx466_0 := (HB.o.cell (World.block_lt_of_cell? w _ hx466_0)).trans hx466_0
      replace p466 := eq_true p466
      replace q466 := eq_true q466
      go_wp2
      go_meet
      case rel => exact ⟨_, (((decide ((rd l2 x24_2) < a1)) == (decide ((rd l2 (ji17)) < a1)))), (by (rfl)), H', ⟨by have := HJ3.o; have := HK2.o; (omega)⟩, ⟨by exact BK463.o⟩, ⟨by exact HB.o⟩⟩
     case rest =>
      clear HC14
      clear c11b0 c12b0 c13b0
      clear hx465_0
      clear p465 q465
      obtain ⟨kq, x48_13, rfl, HA, HJ13, BK463, HB⟩ := hcut
      cases kq with
      | zero => exact absurd HA.o (by simp [Aq.j2])
      | succ kj13 =>
       have H := HA.o
       clear HA
       simp only [Aq.j2] at H
       by_cases c20 : x48_13 = true
       ·subst c20
        rw [if_pos rfl] at H
        obtain rfl := Option.some.inj H
        go_wp2
        go_ret
        exact ⟨by (rfl), by exact HB.o⟩
       replace c20 := Bool.eq_false_iff.mpr c20
       subst c20
       rw [if_neg (show ¬ (false = true) by decide)] at H
       by_cases c21 : (rd l2 x24_2) ≥ x7_2
       rotate_left
       ·rw [if_neg c21] at H
        have c21b0 : decide (x7_2 ≤ (rd l2 x24_2)) = false := decide_eq_false c21
        clear c21
        obtain ⟨ji25, hji25⟩ : ∃ j_ : Int, (mn x7_2 (rd l2 x24_2)) = j_ := ⟨_, rfl⟩
        replace H : (Aq.l0 kj13 a1 l2 ji25 (mx x8_2 (rd l2 x24_2)) l2 (l2.length : Int) (wrap64 (x24_2 + 1)) a0_0 a0_1) = some r := by (rw [hji25] at H; exact H)
        have hji25_ : (if (rd l2 x24_2) < x7_2 then (rd l2 x24_2) else x7_2) = ji25 := hji25
        obtain ⟨ji26, hji26⟩ : ∃ j_ : Int, (mx x8_2 (rd l2 x24_2)) = j_ := ⟨_, rfl⟩
        replace H : (Aq.l0 kj13 a1 l2 ji25 ji26 l2 (l2.length : Int) (wrap64 (x24_2 + 1)) a0_0 a0_1) = some r := by (rw [hji26] at H; exact H)
        have hji26_ : (if x8_2 < (rd l2 x24_2) then (rd l2 x24_2) else x8_2) = ji26 := hji26
        have H' := Aa.k H
        clear H
        go_wp2
        go_roundg kj13
        case measure => have := HJ3.o; have := HK2.o; have := HJ13.o; omega
        case rel => exact ⟨(ji25), (ji26), (wrap64 (x24_2 + 1)), (by (rfl)), (by (rfl)), (by (rfl)), H', ⟨by have := HJ3.o; have := HK2.o; have := HJ13.o; omega⟩, ⟨by exact BK463.o⟩, ⟨by exact HB.o⟩⟩
       rw [if_pos c21] at H
       have c21b0 : decide (x7_2 ≤ (rd l2 x24_2)) = true := decide_eq_true c21
       clear c21
       by_cases c22 : (rd l2 x24_2) ≤ x8_2
       ·rw [if_pos c22] at H
        have c22b0 : decide ((rd l2 x24_2) ≤ x8_2) = true := decide_eq_true c22
        clear c22
        obtain rfl := Option.some.inj H
        go_wp2
        go_ret
        exact ⟨by (rfl), by exact HB.o⟩
       rw [if_neg c22] at H
       have c22b0 : decide ((rd l2 x24_2) ≤ x8_2) = false := decide_eq_false c22
       clear c22
       obtain ⟨ji23, hji23⟩ : ∃ j_ : Int, (mn x7_2 (rd l2 x24_2)) = j_ := ⟨_, rfl⟩
       replace H : (Aq.l0 kj13 a1 l2 ji23 (mx x8_2 (rd l2 x24_2)) l2 (l2.length : Int) (wrap64 (x24_2 + 1)) a0_0 a0_1) = some r := by (rw [hji23] at H; exact H)
       have hji23_ : (if (rd l2 x24_2) < x7_2 then (rd l2 x24_2) else x7_2) = ji23 := hji23
       obtain ⟨ji24, hji24⟩ : ∃ j_ : Int, (mx x8_2 (rd l2 x24_2)) = j_ := ⟨_, rfl⟩
       replace H : (Aq.l0 kj13 a1 l2 ji23 ji24 l2 (l2.length : Int) (wrap64 (x24_2 + 1)) a0_0 a0_1) = some r := by (rw [hji24] at H; exact H)
       have hji24_ : (if x8_2 < (rd l2 x24_2) then (rd l2 x24_2) else x8_2) = ji24 := hji24
       have H' := Aa.k H
       clear H
       go_wp2
       go_roundg kj13
       case measure => have := HJ3.o; have := HK2.o; have := HJ13.o; omega
       case rel => exact ⟨(ji23), (ji24), (wrap64 (x24_2 + 1)), (by (rfl)), (by (rfl)), (by (rfl)), H', ⟨by have := HJ3.o; have := HK2.o; have := HJ13.o; omega⟩, ⟨by exact BK463.o⟩, ⟨by exact HB.o⟩⟩

/-! ### impl_IsSearch: function 42 -/
def Fw.f (k : Nat) (a0_0 : Int) (a0_1 : Bool) (a1 : Int) (l2 : List Int) : Option (Bool × Bool) := (Co.f k a0_0 a0_1 a1).bind fun t468 => (if t468 = true then ((Aq.f k a0_0 a0_1 a1 l2).bind fun t469 => (some (t469, true))) else (some (false, false)))
set_option maxHeartbeats 8000000 in
set_option maxRecDepth 100000 in
theorem Fw.calls (k : Nat) (a0_0 : Int) (a0_1 : Bool) (a1 : Int) (A2 : Option Addr) (c2 : Nat) (l2 : List Int) (r1 : Bool) (r2 : Bool) (w : World) (hr2 : Kd.C (Kd.int .i64) w A2 l2.length l2) (hc2 : l2.length ≤ c2) (h : Fw.f k a0_0 a0_1 a1 l2 = some (r1, r2)) :
  Calls Try.prog 42 #[.agg #[.int .i64 a0_0, .bool a0_1], .int .i64 a1, .slice A2 l2.length c2] w fun e w' => e = .returned (.tuple #[.bool r1, .bool r2]) ∧ Below w.heap.size w w' := by
 have hu25 := Try.underlying25
 have HR2 := Aa.k hr2
 have HC2 := Aa.k hc2
 clear hr2 hc2
 have HB := Aa.k (Below.refl w.heap.size w)
 have H : ((Co.f k a0_0 a0_1 a1).bind fun t468 => (if t468 = true then ((Aq.f k a0_0 a0_1 a1 l2).bind fun t469 => (some (t469, true))) else (some (false, false)))) = some (r1, r2) := h
 clear h
 obtain ⟨t468, A40, H⟩ := bindS_ H
 try dsimp only at H
 have A4 := Aa.k A40
 clear A40
 by_cases c5 : t468 = true
 rotate_left
 ·replace c5 := Bool.eq_false_iff.mpr c5
  subst c5
  rw [if_neg (show ¬ (false = true) by decide)] at H
  simp only [Option.some.injEq, Prod.mk.injEq] at H
  obtain ⟨rfl, rfl⟩ := H
  go_enter Try.func42, Try.ntmps42
  go_wp2_with (first | ((with_reducible refine Be (N := 3) rfl ?_); refine Bo ?hg (N := 3) ?hd (cs := #[.int .i64 a0_0, .bool a0_1]) (t := 25) ?hr ?_; (case hd => rfl); (case hg => rfl); (case hr => (go_simp; done)); intro gb467 hg w12 hbox hb; have BK467 := Aa.k (hbox); have GW467 := Aa.k ((by rw [hg]; exact (Af HB.o) : w.heap.size ≤ gb467)); have GE467 := Aa.k ((by rw [hg]; exact (Af HB.o) : w.heap.size ≤ gb467)); replace HB := Aa.k (Ad HB.o hb); clear hb hbox hg; have hcz13_0 := Bj BK467.o; have hcz13_1 := Bn BK467.o; have hfz13_0 := Ac BK467.o 0; have hfz13_1 := Ac BK467.o 1) | ((with_reducible refine Aj (f := 82) rfl ?_); refine Bf (some 10) rfl rfl Try.func82 (by kernel_rfl) rfl #[.agg #[.int .i64 a0_0, .bool a0_1], .int .i64 a1] rfl (by (try simp only [mT_, mC_, mN_]); rfl) ?_; (with_reducible refine (Co.calls k a0_0 a0_1 a1 false _ A4.o).mono ?_); rintro e w14 ⟨rfl, hb⟩; refine ⟨_, rfl, ?_⟩; replace BK467 := Aa.k (Ae (g := gb467) (o := .cells #[.int .i64 a0_0, .bool a0_1] 25 (0, 0)) (by exact BK467.o) hb); replace HB := Aa.k (Ad HB.o hb); clear hb))
  go_ret2
  exact ⟨by (rfl), by exact HB.o⟩
 subst c5
 rw [if_pos rfl] at H
 obtain ⟨t469, A60, H⟩ := bindS_ H
 try dsimp only at H
 have A6 := Aa.k A60
 clear A60
 simp only [Option.some.injEq, Prod.mk.injEq] at H
 obtain ⟨rfl, rfl⟩ := H
 go_enter Try.func42, Try.ntmps42
 go_wp2_with (first | ((with_reducible refine Be (N := 3) rfl ?_); refine Bo ?hg (N := 3) ?hd (cs := #[.int .i64 a0_0, .bool a0_1]) (t := 25) ?hr ?_; (case hd => rfl); (case hg => rfl); (case hr => (go_simp; done)); intro gb467 hg w7 hbox hb; have BK467 := Aa.k (hbox); have GW467 := Aa.k ((by rw [hg]; exact (Af HB.o) : w.heap.size ≤ gb467)); have GE467 := Aa.k ((by rw [hg]; exact (Af HB.o) : w.heap.size ≤ gb467)); replace HB := Aa.k (Ad HB.o hb); clear hb hbox hg; have hcz8_0 := Bj BK467.o; have hcz8_1 := Bn BK467.o; have hfz8_0 := Ac BK467.o 0; have hfz8_1 := Ac BK467.o 1) | ((with_reducible refine Aj (f := 82) rfl ?_); refine Bf (some 10) rfl rfl Try.func82 (by kernel_rfl) rfl #[.agg #[.int .i64 a0_0, .bool a0_1], .int .i64 a1] rfl (by (try simp only [mT_, mC_, mN_]); rfl) ?_; (with_reducible refine (Co.calls k a0_0 a0_1 a1 true _ A4.o).mono ?_); rintro e w9 ⟨rfl, hb⟩; refine ⟨_, rfl, ?_⟩; replace BK467 := Aa.k (Ae (g := gb467) (o := .cells #[.int .i64 a0_0, .bool a0_1] 25 (0, 0)) (by exact BK467.o) hb); replace HB := Aa.k (Ad HB.o hb); clear hb; have hcz10_0 := Bj BK467.o; have hcz10_1 := Bn BK467.o; have hfz10_0 := Ac BK467.o 0; have hfz10_1 := Ac BK467.o 1) | ((with_reducible refine Aj (f := 101) rfl ?_); refine Bf (some 15) rfl rfl Try.func101 (by kernel_rfl) rfl #[.agg #[.int .i64 a0_0, .bool a0_1], .int .i64 a1, .slice A2 l2.length c2] rfl (by (try simp only [mT_, mC_, mN_]); rfl) ?_; (with_reducible refine (Aq.calls k a0_0 a0_1 a1 _ _ l2 t469 _ ?side1 ?side2 A6.o).mono ?_); (case side1 => repeat (exact (Kd.Dx HR2.o HB.o))); (case side2 => exact HC2.o); rintro e w11 ⟨rfl, hb⟩; refine ⟨_, rfl, ?_⟩; replace BK467 := Aa.k (Ae (g := gb467) (o := .cells #[.int .i64 a0_0, .bool a0_1] 25 (0, 0)) (by exact BK467.o) hb); replace HB := Aa.k (Ad HB.o hb); clear hb))
 go_ret2
 exact ⟨by (rfl), by exact HB.o⟩

/-! ### impl_isSought: function 75 -/
def Ex.f (k : Nat) (a0_0 : Int) (a0_1 : Bool) (a1 : Int) (l2 : List Int) : Option (Bool) := (Co.f k a0_0 a0_1 a1).bind fun t471 => (if t471 = true then ((Aq.f k a0_0 a0_1 a1 l2).bind fun t472 => (some t472)) else (some false))
theorem Ex.mono : ∀ a0 a1 a2 a3 k, LeO (Ex.f k a0 a1 a2 a3) (Ex.f (k + 1) a0 a1 a2 a3) := by
 intro a0 a1 a2 a3 k
 unfold Ex.f
 repeat' first
   | (with_reducible exact Aq.mono _ _ _ _ _)
   | (with_reducible exact Co.mono _ _ _ _)
   | (with_reducible exact LeO.refl _)
   | (with_reducible refine LeO.ite ?_ ?_)
   | (with_reducible refine LeO.bind ?_ (fun _ => ?_))
set_option maxHeartbeats 8000000 in
set_option maxRecDepth 100000 in
theorem Ex.calls (k : Nat) (a0_0 : Int) (a0_1 : Bool) (a1 : Int) (A2 : Option Addr) (c2 : Nat) (l2 : List Int) (r : Bool) (w : World) (hr2 : Kd.C (Kd.int .i64) w A2 l2.length l2) (hc2 : l2.length ≤ c2) (h : Ex.f k a0_0 a0_1 a1 l2 = some r) :
  Calls Try.prog 75 #[.agg #[.int .i64 a0_0, .bool a0_1], .int .i64 a1, .slice A2 l2.length c2] w fun e w' => e = .returned (.bool r) ∧ Below w.heap.size w w' := by
 have hu25 := Try.underlying25
 have HR2 := Aa.k hr2
 have HC2 := Aa.k hc2
 clear hr2 hc2
 have HB := Aa.k (Below.refl w.heap.size w)
 have H : ((Co.f k a0_0 a0_1 a1).bind fun t471 => (if t471 = true then ((Aq.f k a0_0 a0_1 a1 l2).bind fun t472 => (some t472)) else (some false))) = some r := h
 clear h
 obtain ⟨t471, A40, H⟩ := bindS_ H
 try dsimp only at H
 have A4 := Aa.k A40
 clear A40
 by_cases c5 : t471 = true
 rotate_left
 ·replace c5 := Bool.eq_false_iff.mpr c5
  subst c5
  rw [if_neg (show ¬ (false = true) by decide)] at H
  obtain rfl := Option.some.inj H
  go_enter Try.func75, Try.ntmps75
  go_wp2_with (first | ((with_reducible refine Be (N := 3) rfl ?_); refine Bo ?hg (N := 3) ?hd (cs := #[.int .i64 a0_0, .bool a0_1]) (t := 25) ?hr ?_; (case hd => rfl); (case hg => rfl); (case hr => (go_simp; done)); intro gb470 hg w12 hbox hb; have BK470 := Aa.k (hbox); have GW470 := Aa.k ((by rw [hg]; exact (Af HB.o) : w.heap.size ≤ gb470)); have GE470 := Aa.k ((by rw [hg]; exact (Af HB.o) : w.heap.size ≤ gb470)); replace HB := Aa.k (Ad HB.o hb); clear hb hbox hg; have hcz13_0 := Bj BK470.o; have hcz13_1 := Bn BK470.o; have hfz13_0 := Ac BK470.o 0; have hfz13_1 := Ac BK470.o 1) | ((with_reducible refine Aj (f := 82) rfl ?_); refine Bf (some 9) rfl rfl Try.func82 (by kernel_rfl) rfl #[.agg #[.int .i64 a0_0, .bool a0_1], .int .i64 a1] rfl (by (try simp only [mT_, mC_, mN_]); rfl) ?_; (with_reducible refine (Co.calls k a0_0 a0_1 a1 false _ A4.o).mono ?_); rintro e w14 ⟨rfl, hb⟩; refine ⟨_, rfl, ?_⟩; replace BK470 := Aa.k (Ae (g := gb470) (o := .cells #[.int .i64 a0_0, .bool a0_1] 25 (0, 0)) (by exact BK470.o) hb); replace HB := Aa.k (Ad HB.o hb); clear hb))
  go_ret
  exact ⟨by (rfl), by exact HB.o⟩
 subst c5
 rw [if_pos rfl] at H
 obtain ⟨t472, A60, H⟩ := bindS_ H
 try dsimp only at H
 have A6 := Aa.k A60
 clear A60
 obtain rfl := Option.some.inj H
 go_enter Try.func75, Try.ntmps75
 go_wp2_with (first | ((with_reducible refine Be (N := 3) rfl ?_); refine Bo ?hg (N := 3) ?hd (cs := #[.int .i64 a0_0, .bool a0_1]) (t := 25) ?hr ?_; (case hd => rfl); (case hg => rfl); (case hr => (go_simp; done)); intro gb470 hg w7 hbox hb; have BK470 := Aa.k (hbox); have GW470 := Aa.k ((by rw [hg]; exact (Af HB.o) : w.heap.size ≤ gb470)); have GE470 := Aa.k ((by rw [hg]; exact (Af HB.o) : w.heap.size ≤ gb470)); replace HB := Aa.k (Ad HB.o hb); clear hb hbox hg; have hcz8_0 := Bj BK470.o; have hcz8_1 := Bn BK470.o; have hfz8_0 := Ac BK470.o 0; have hfz8_1 := Ac BK470.o 1) | ((with_reducible refine Aj (f := 82) rfl ?_); refine Bf (some 9) rfl rfl Try.func82 (by kernel_rfl) rfl #[.agg #[.int .i64 a0_0, .bool a0_1], .int .i64 a1] rfl (by (try simp only [mT_, mC_, mN_]); rfl) ?_; (with_reducible refine (Co.calls k a0_0 a0_1 a1 true _ A4.o).mono ?_); rintro e w9 ⟨rfl, hb⟩; refine ⟨_, rfl, ?_⟩; replace BK470 := Aa.k (Ae (g := gb470) (o := .cells #[.int .i64 a0_0, .bool a0_1] 25 (0, 0)) (by exact BK470.o) hb); replace HB := Aa.k (Ad HB.o hb); clear hb; have hcz10_0 := Bj BK470.o; have hcz10_1 := Bn BK470.o; have hfz10_0 := Ac BK470.o 0; have hfz10_1 := Ac BK470.o 1) | (go_at_call 101; (with_reducible refine (Aq.calls k a0_0 a0_1 a1 _ _ l2 t472 _ ?side1 ?side2 A6.o).mono ?_); (case side1 => repeat (exact (Kd.Dx HR2.o HB.o))); (case side2 => exact HC2.o); rintro e w11 ⟨rfl, hb⟩; replace BK470 := Aa.k (Ae (g := gb470) (o := .cells #[.int .i64 a0_0, .bool a0_1] 25 (0, 0)) (by exact BK470.o) hb); replace HB := Aa.k (Ad HB.o hb); clear hb))
 go_ret
 exact ⟨by (rfl), by exact HB.o⟩

/-! ### impl_SearchRatio: function 43 -/
def Bw.f (k : Nat) (a0_0 : Int) (a0_1 : Bool) (a1 : Int) (l2 : List Int) (a3 : Int) : Option (Int × Int × Bool) := (Ex.f k a0_0 a0_1 a1 l2).bind fun t475 => (if t475 = true then ((Fx.f a3).bind fun t476 => (if t476 = true then ((Bg.f k a0_0 a0_1 a1 l2 a3).bind fun bt477 => (some (bt477.1, bt477.2.1, true))) else (some (0, 0, false)))) else (some (0, 0, false)))
theorem Bw.mono : ∀ a0 a1 a2 a3 a4 k, LeO (Bw.f k a0 a1 a2 a3 a4) (Bw.f (k + 1) a0 a1 a2 a3 a4) := by
 intro a0 a1 a2 a3 a4 k
 unfold Bw.f
 repeat' first
   | (with_reducible exact Bg.mono _ _ _ _ _ _)
   | (with_reducible exact Ex.mono _ _ _ _ _)
   | (with_reducible exact LeO.refl _)
   | (with_reducible refine LeO.ite ?_ ?_)
   | (with_reducible refine LeO.bind ?_ (fun _ => ?_))
set_option maxHeartbeats 8000000 in
set_option maxRecDepth 100000 in
theorem Bw.calls (k : Nat) (a0_0 : Int) (a0_1 : Bool) (a1 : Int) (A2 : Option Addr) (c2 : Nat) (l2 : List Int) (a3 : Int) (r1 : Int) (r2 : Int) (r3 : Bool) (w : World) (hr2 : Kd.C (Kd.int .i64) w A2 l2.length l2) (hc2 : l2.length ≤ c2) (h : Bw.f k a0_0 a0_1 a1 l2 a3 = some (r1, r2, r3)) :
  Calls Try.prog 43 #[.agg #[.int .i64 a0_0, .bool a0_1], .int .i64 a1, .slice A2 l2.length c2, .int .i64 a3] w fun e w' => e = .returned (.tuple #[.agg #[.int .i64 r1, .int .i64 r2], .bool r3]) ∧ Below w.heap.size w w' := by
 have hu25 := Try.underlying25
 have hu56 := Try.underlying56
 have HR2 := Aa.k hr2
 have HC2 := Aa.k hc2
 clear hr2 hc2
 have HB := Aa.k (Below.refl w.heap.size w)
 have H : ((Ex.f k a0_0 a0_1 a1 l2).bind fun t475 => (if t475 = true then ((Fx.f a3).bind fun t476 => (if t476 = true then ((Bg.f k a0_0 a0_1 a1 l2 a3).bind fun bt477 => (some (bt477.1, bt477.2.1, true))) else (some (0, 0, false)))) else (some (0, 0, false)))) = some (r1, r2, r3) := h
 clear h
 obtain ⟨t475, A50, H⟩ := bindS_ H
 try dsimp only at H
 have A5 := Aa.k A50
 clear A50
 by_cases c6 : t475 = true
 rotate_left
 ·replace c6 := Bool.eq_false_iff.mpr c6
  subst c6
  rw [if_neg (show ¬ (false = true) by decide)] at H
  simp only [Option.some.injEq, Prod.mk.injEq] at H
  obtain ⟨rfl, rfl, rfl⟩ := H
  go_enter Try.func43, Try.ntmps43
  go_wp2_with (first | ((with_reducible refine Be (N := 4) rfl ?_); refine Bo ?hg (N := 4) ?hd (cs := #[.int .i64 a0_0, .bool a0_1]) (t := 25) ?hr ?_; (case hd => rfl); (case hg => rfl); (case hr => (go_simp; done)); intro gb473 hg w28 hbox hb; have BK473 := Aa.k (hbox); have GW473 := Aa.k ((by rw [hg]; exact (Af HB.o) : w.heap.size ≤ gb473)); have GE473 := Aa.k ((by rw [hg]; exact (Af HB.o) : w.heap.size ≤ gb473)); replace HB := Aa.k (Ad HB.o hb); clear hb hbox hg) | ((with_reducible refine Be (N := 8) rfl ?_); refine Bo ?hg (N := 8) ?hd (cs := #[.int .i64 0, .int .i64 0]) (t := 56) ?hr ?_; (case hd => rfl); (case hg => rfl); (case hr => (go_simp; done)); intro gb474 hg w29 hbox hb; have BK474 := Aa.k (hbox); have GW474 := Aa.k ((by rw [hg]; exact (Af HB.o) : w.heap.size ≤ gb474)); have GE474 := Aa.k ((by rw [hg]; exact (Af HB.o) : w.heap.size ≤ gb474)); replace HB := Aa.k (Ad HB.o hb); have NB473_474 := Aa.k ((by rw [hg]; exact Nat.ne_of_lt (Ca (g := gb473) (o := .cells #[.int .i64 a0_0, .bool a0_1] 25 (0, 0)) (by exact BK473.o)) : gb473 ≠ gb474)); have NB474_473 := Aa.k ((by rw [hg]; exact Nat.ne_of_gt (Ca (g := gb473) (o := .cells #[.int .i64 a0_0, .bool a0_1] 25 (0, 0)) (by exact BK473.o)) : gb474 ≠ gb473)); replace BK473 := Aa.k (Ae (g := gb473) (o := .cells #[.int .i64 a0_0, .bool a0_1] 25 (0, 0)) (by exact BK473.o) hb); clear hb hbox hg; have hnb30 := NB473_474.o; have hnc30 := NB474_473.o; have hcz31_0 := Bj BK473.o; have hcz31_1 := Bn BK473.o; have hfz31_0 := Ac BK473.o 0; have hfz31_1 := Ac BK473.o 1) | ((with_reducible refine Aj (f := 75) rfl ?_); refine Bf (some 15) rfl rfl Try.func75 (by kernel_rfl) rfl #[.agg #[.int .i64 a0_0, .bool a0_1], .int .i64 a1, .slice A2 l2.length c2] rfl (by (try simp only [mT_, mC_, mN_]); rfl) ?_; (with_reducible refine (Ex.calls k a0_0 a0_1 a1 _ _ l2 false _ ?side1 ?side2 A5.o).mono ?_); (case side1 => repeat (exact (Kd.Dx HR2.o HB.o))); (case side2 => exact HC2.o); rintro e w32 ⟨rfl, hb⟩; refine ⟨_, rfl, ?_⟩; replace BK473 := Aa.k (Ae (g := gb473) (o := .cells #[.int .i64 a0_0, .bool a0_1] 25 (0, 0)) (by exact BK473.o) hb); replace BK474 := Aa.k (Ae (g := gb474) (o := .cells #[.int .i64 0, .int .i64 0] 56 (0, 0)) (by exact BK474.o) hb); replace HB := Aa.k (Ad HB.o hb); clear hb; have hcz33_0 := Bj BK474.o; have hcz33_1 := Bn BK474.o; have hfz33_0 := Ac BK474.o 0; have hfz33_1 := Ac BK474.o 1))
  refine bodyPost_ret (results_ct rfl _ _ gb474 56 #[.int .i64 0, .int .i64 0] (0, 0) _ rfl (by refine Cr (cs := #[.int .i64 0, .int .i64 0]) ?_ 1 _ rfl; refine Cr (cs := #[.int .i64 0, .int .i64 0]) ?_ 0 _ rfl; exact BK474.o) Try.underlying56 rfl (by kernel_rfl)) rfl ?_
  exact ⟨by (rfl), by repeat ((with_reducible first | exact HB.o | refine Bz ?_ GE474.o))⟩
 subst c6
 rw [if_pos rfl] at H
 obtain ⟨t476, A70, H⟩ := bindS_ H
 try dsimp only at H
 have A7 := Aa.k A70
 clear A70
 by_cases c8 : t476 = true
 rotate_left
 ·replace c8 := Bool.eq_false_iff.mpr c8
  subst c8
  rw [if_neg (show ¬ (false = true) by decide)] at H
  simp only [Option.some.injEq, Prod.mk.injEq] at H
  obtain ⟨rfl, rfl, rfl⟩ := H
  go_enter Try.func43, Try.ntmps43
  go_wp2_with (first | ((with_reducible refine Be (N := 4) rfl ?_); refine Bo ?hg (N := 4) ?hd (cs := #[.int .i64 a0_0, .bool a0_1]) (t := 25) ?hr ?_; (case hd => rfl); (case hg => rfl); (case hr => (go_simp; done)); intro gb473 hg w22 hbox hb; have BK473 := Aa.k (hbox); have GW473 := Aa.k ((by rw [hg]; exact (Af HB.o) : w.heap.size ≤ gb473)); have GE473 := Aa.k ((by rw [hg]; exact (Af HB.o) : w.heap.size ≤ gb473)); replace HB := Aa.k (Ad HB.o hb); clear hb hbox hg) | ((with_reducible refine Be (N := 8) rfl ?_); refine Bo ?hg (N := 8) ?hd (cs := #[.int .i64 0, .int .i64 0]) (t := 56) ?hr ?_; (case hd => rfl); (case hg => rfl); (case hr => (go_simp; done)); intro gb474 hg w23 hbox hb; have BK474 := Aa.k (hbox); have GW474 := Aa.k ((by rw [hg]; exact (Af HB.o) : w.heap.size ≤ gb474)); have GE474 := Aa.k ((by rw [hg]; exact (Af HB.o) : w.heap.size ≤ gb474)); replace HB := Aa.k (Ad HB.o hb); have NB473_474 := Aa.k ((by rw [hg]; exact Nat.ne_of_lt (Ca (g := gb473) (o := .cells #[.int .i64 a0_0, .bool a0_1] 25 (0, 0)) (by exact BK473.o)) : gb473 ≠ gb474)); have NB474_473 := Aa.k ((by rw [hg]; exact Nat.ne_of_gt (Ca (g := gb473) (o := .cells #[.int .i64 a0_0, .bool a0_1] 25 (0, 0)) (by exact BK473.o)) : gb474 ≠ gb473)); replace BK473 := Aa.k (Ae (g := gb473) (o := .cells #[.int .i64 a0_0, .bool a0_1] 25 (0, 0)) (by exact BK473.o) hb); clear hb hbox hg; have hnb24 := NB473_474.o; have hnc24 := NB474_473.o; have hcz25_0 := Bj BK473.o; have hcz25_1 := Bn BK473.o; have hfz25_0 := Ac BK473.o 0; have hfz25_1 := Ac BK473.o 1) | ((with_reducible refine Aj (f := 75) rfl ?_); refine Bf (some 15) rfl rfl Try.func75 (by kernel_rfl) rfl #[.agg #[.int .i64 a0_0, .bool a0_1], .int .i64 a1, .slice A2 l2.length c2] rfl (by (try simp only [mT_, mC_, mN_]); rfl) ?_; (with_reducible refine (Ex.calls k a0_0 a0_1 a1 _ _ l2 true _ ?side1 ?side2 A5.o).mono ?_); (case side1 => repeat (exact (Kd.Dx HR2.o HB.o))); (case side2 => exact HC2.o); rintro e w26 ⟨rfl, hb⟩; refine ⟨_, rfl, ?_⟩; replace BK473 := Aa.k (Ae (g := gb473) (o := .cells #[.int .i64 a0_0, .bool a0_1] 25 (0, 0)) (by exact BK473.o) hb); replace BK474 := Aa.k (Ae (g := gb474) (o := .cells #[.int .i64 0, .int .i64 0] 56 (0, 0)) (by exact BK474.o) hb); replace HB := Aa.k (Ad HB.o hb); clear hb) | (go_at_call 90; (with_reducible refine (Fx.calls a3 false _ A7.o).mono ?_); rintro e w' ⟨rfl, ⟨nd, rfl⟩⟩; (try (rw [drewN_self w26]; generalize hq_ : World.drewN w26 _ = w26; have n0_ : Aa (w26.heap[gb473]? = some (.cells #[.int .i64 a0_0, .bool a0_1] 25 (0, 0))) := ⟨by rw [← hq_]; exact (by (with_reducible repeat ((refine Dk ?_ _))); exact BK473.o)⟩; have n1_ : Aa (w26.heap[gb474]? = some (.cells #[.int .i64 0, .int .i64 0] 56 (0, 0))) := ⟨by rw [← hq_]; exact (by (with_reducible repeat ((refine Dk ?_ _))); exact BK474.o)⟩; have n2_ : Aa (Below w.heap.size w w26) := ⟨by rw [← hq_]; exact (by repeat ((with_reducible first | exact HB.o | apply Bh)))⟩; clear BK473 BK474 HB hq_; have BK473 := n0_; have BK474 := n1_; have HB := n2_; clear n0_ n1_ n2_)); have hcz27_0 := Bj BK474.o; have hcz27_1 := Bn BK474.o; have hfz27_0 := Ac BK474.o 0; have hfz27_1 := Ac BK474.o 1))
  refine bodyPost_ret (results_ct rfl _ _ gb474 56 #[.int .i64 0, .int .i64 0] (0, 0) _ rfl (by refine Cr (cs := #[.int .i64 0, .int .i64 0]) ?_ 1 _ rfl; refine Cr (cs := #[.int .i64 0, .int .i64 0]) ?_ 0 _ rfl; exact BK474.o) Try.underlying56 rfl (by kernel_rfl)) rfl ?_
  exact ⟨by (rfl), by repeat ((with_reducible first | exact HB.o | refine Bz ?_ GE474.o))⟩
 subst c8
 rw [if_pos rfl] at H
 obtain ⟨⟨t477, t478, t479⟩, A90, H⟩ := bindS_ H
 try dsimp only at H
 have A9 := Aa.k A90
 clear A90
 simp only [Option.some.injEq, Prod.mk.injEq] at H
 obtain ⟨rfl, rfl, rfl⟩ := H
 go_enter Try.func43, Try.ntmps43
 go_wp2_with (first | ((with_reducible refine Be (N := 4) rfl ?_); refine Bo ?hg (N := 4) ?hd (cs := #[.int .i64 a0_0, .bool a0_1]) (t := 25) ?hr ?_; (case hd => rfl); (case hg => rfl); (case hr => (go_simp; done)); intro gb473 hg w10 hbox hb; have BK473 := Aa.k (hbox); have GW473 := Aa.k ((by rw [hg]; exact (Af HB.o) : w.heap.size ≤ gb473)); have GE473 := Aa.k ((by rw [hg]; exact (Af HB.o) : w.heap.size ≤ gb473)); replace HB := Aa.k (Ad HB.o hb); clear hb hbox hg) | ((with_reducible refine Be (N := 8) rfl ?_); refine Bo ?hg (N := 8) ?hd (cs := #[.int .i64 0, .int .i64 0]) (t := 56) ?hr ?_; (case hd => rfl); (case hg => rfl); (case hr => (go_simp; done)); intro gb474 hg w11 hbox hb; have BK474 := Aa.k (hbox); have GW474 := Aa.k ((by rw [hg]; exact (Af HB.o) : w.heap.size ≤ gb474)); have GE474 := Aa.k ((by rw [hg]; exact (Af HB.o) : w.heap.size ≤ gb474)); replace HB := Aa.k (Ad HB.o hb); have NB473_474 := Aa.k ((by rw [hg]; exact Nat.ne_of_lt (Ca (g := gb473) (o := .cells #[.int .i64 a0_0, .bool a0_1] 25 (0, 0)) (by exact BK473.o)) : gb473 ≠ gb474)); have NB474_473 := Aa.k ((by rw [hg]; exact Nat.ne_of_gt (Ca (g := gb473) (o := .cells #[.int .i64 a0_0, .bool a0_1] 25 (0, 0)) (by exact BK473.o)) : gb474 ≠ gb473)); replace BK473 := Aa.k (Ae (g := gb473) (o := .cells #[.int .i64 a0_0, .bool a0_1] 25 (0, 0)) (by exact BK473.o) hb); clear hb hbox hg; have hnb12 := NB473_474.o; have hnc12 := NB474_473.o; have hcz13_0 := Bj BK473.o; have hcz13_1 := Bn BK473.o; have hfz13_0 := Ac BK473.o 0; have hfz13_1 := Ac BK473.o 1) | ((with_reducible refine Aj (f := 75) rfl ?_); refine Bf (some 15) rfl rfl Try.func75 (by kernel_rfl) rfl #[.agg #[.int .i64 a0_0, .bool a0_1], .int .i64 a1, .slice A2 l2.length c2] rfl (by (try simp only [mT_, mC_, mN_]); rfl) ?_; (with_reducible refine (Ex.calls k a0_0 a0_1 a1 _ _ l2 true _ ?side1 ?side2 A5.o).mono ?_); (case side1 => repeat (exact (Kd.Dx HR2.o HB.o))); (case side2 => exact HC2.o); rintro e w14 ⟨rfl, hb⟩; refine ⟨_, rfl, ?_⟩; replace BK473 := Aa.k (Ae (g := gb473) (o := .cells #[.int .i64 a0_0, .bool a0_1] 25 (0, 0)) (by exact BK473.o) hb); replace BK474 := Aa.k (Ae (g := gb474) (o := .cells #[.int .i64 0, .int .i64 0] 56 (0, 0)) (by exact BK474.o) hb); replace HB := Aa.k (Ad HB.o hb); clear hb) | (go_at_call 90; (with_reducible refine (Fx.calls a3 true _ A7.o).mono ?_); rintro e w' ⟨rfl, ⟨nd, rfl⟩⟩; (try (rw [drewN_self w14]; generalize hq_ : World.drewN w14 _ = w14; have n0_ : Aa (w14.heap[gb473]? = some (.cells #[.int .i64 a0_0, .bool a0_1] 25 (0, 0))) := ⟨by rw [← hq_]; exact (by (with_reducible repeat ((refine Dk ?_ _))); exact BK473.o)⟩; have n1_ : Aa (w14.heap[gb474]? = some (.cells #[.int .i64 0, .int .i64 0] 56 (0, 0))) := ⟨by rw [← hq_]; exact (by (with_reducible repeat ((refine Dk ?_ _))); exact BK474.o)⟩; have n2_ : Aa (Below w.heap.size w w14) := ⟨by rw [← hq_]; exact (by repeat ((with_reducible first | exact HB.o | apply Bh)))⟩; clear BK473 BK474 HB hq_; have BK473 := n0_; have BK474 := n1_; have HB := n2_; clear n0_ n1_ n2_)); have hcz15_0 := Bj BK473.o; have hcz15_1 := Bn BK473.o; have hfz15_0 := Ac BK473.o 0; have hfz15_1 := Ac BK473.o 1) | ((with_reducible refine Aj (f := 91) rfl ?_); refine Bf (some 28) rfl rfl Try.func91 (by kernel_rfl) rfl #[.agg #[.int .i64 a0_0, .bool a0_1], .int .i64 a1, .slice A2 l2.length c2, .int .i64 a3] rfl (by (try simp only [mT_, mC_, mN_]); rfl) ?_; (with_reducible refine (Bg.calls k a0_0 a0_1 a1 _ _ l2 a3 t477 t478 t479 _ ?side1 ?side2 A9.o).mono ?_); (case side1 => repeat (exact (Kd.Dx HR2.o HB.o))); (case side2 => exact HC2.o); rintro e w16 ⟨rfl, hb⟩; refine ⟨_, rfl, ?_⟩; replace BK473 := Aa.k (Ae (g := gb473) (o := .cells #[.int .i64 a0_0, .bool a0_1] 25 (0, 0)) (by exact BK473.o) hb); replace BK474 := Aa.k (Ae (g := gb474) (o := .cells #[.int .i64 0, .int .i64 0] 56 (0, 0)) (by exact BK474.o) hb); replace HB := Aa.k (Ad HB.o hb); clear hb) | ((with_reducible refine Be (N := 10) rfl ?_); refine Bo ?hg (N := 10) ?hd (cs := #[.int .i64 0, .int .i64 0]) (t := 56) ?hr ?_; (case hd => rfl); (case hg => rfl); (case hr => (go_simp; done)); intro gb480 hg w17 hbox hb; have BK480 := Aa.k (hbox); have GW480 := Aa.k ((by rw [hg]; exact (Af HB.o) : w.heap.size ≤ gb480)); have GE480 := Aa.k ((by rw [hg]; exact (Af HB.o) : w.heap.size ≤ gb480)); replace HB := Aa.k (Ad HB.o hb); have NB473_480 := Aa.k ((by rw [hg]; exact Nat.ne_of_lt (Ca (g := gb473) (o := .cells #[.int .i64 a0_0, .bool a0_1] 25 (0, 0)) (by exact BK473.o)) : gb473 ≠ gb480)); have NB480_473 := Aa.k ((by rw [hg]; exact Nat.ne_of_gt (Ca (g := gb473) (o := .cells #[.int .i64 a0_0, .bool a0_1] 25 (0, 0)) (by exact BK473.o)) : gb480 ≠ gb473)); replace BK473 := Aa.k (Ae (g := gb473) (o := .cells #[.int .i64 a0_0, .bool a0_1] 25 (0, 0)) (by exact BK473.o) hb); have NB474_480 := Aa.k ((by rw [hg]; exact Nat.ne_of_lt (Ca (g := gb474) (o := .cells #[.int .i64 0, .int .i64 0] 56 (0, 0)) (by exact BK474.o)) : gb474 ≠ gb480)); have NB480_474 := Aa.k ((by rw [hg]; exact Nat.ne_of_gt (Ca (g := gb474) (o := .cells #[.int .i64 0, .int .i64 0] 56 (0, 0)) (by exact BK474.o)) : gb480 ≠ gb474)); replace BK474 := Aa.k (Ae (g := gb474) (o := .cells #[.int .i64 0, .int .i64 0] 56 (0, 0)) (by exact BK474.o) hb); clear hb hbox hg; have hnb18 := NB480_473.o; have hnc18 := NB473_480.o; have hnb19 := NB480_474.o; have hnc19 := NB474_480.o; have hcz20_0 := Bj BK480.o; have hcz20_1 := Bn BK480.o; have hfz20_0 := Ac BK480.o 0; have hfz20_1 := Ac BK480.o 1; have hcz21_0 := Bj BK474.o; have hcz21_1 := Bn BK474.o; have hfz21_0 := Ac BK474.o 0; have hfz21_1 := Ac BK474.o 1))
 refine bodyPost_ret (results_ct rfl _ _ gb474 56 #[.int .i64 t477, .int .i64 t478] (0, 0) _ rfl (by refine Cr (cs := #[.int .i64 t477, .int .i64 0]) ?_ 1 _ rfl; refine Cr (cs := #[.int .i64 0, .int .i64 0]) ?_ 0 _ rfl; refine Cb ?_ NB474_480.o _; refine Cb ?_ NB474_480.o _; exact BK474.o) Try.underlying56 rfl (by kernel_rfl)) rfl ?_
 exact ⟨by (rfl), by repeat ((with_reducible first | exact HB.o | refine Bz ?_ GE474.o | refine Bz ?_ GE480.o))⟩

end Go.Proofs.Ytogflbocmiogpaa.PFnBestSearch
