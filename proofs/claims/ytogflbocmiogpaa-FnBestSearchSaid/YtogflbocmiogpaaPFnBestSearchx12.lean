-- Written for this claim by this session's turned copy of the printer.
import Derived.Test.YtogflbocmiogpaaPFnBestSearchx0
namespace Go.Proofs.Ytogflbocmiogpaa.PFnBestSearch
open Go.RowKit Go.Proofs.YtogflbocmiogpaaW.PrintWords Go.Proofs.YtogflbocmiogpaaW.PrintLast Go.Proofs.YtogflbocmiogpaaW.PrintMore
open List renaming setIfInBounds_toArray → sT_, set_cons_zero → sZ_, set_cons_succ → sS_
attribute [local go_sem] max2_int min2_int max_two min_two Fj Fh max_four min_four   -- for this text's walks alone
set_option linter.unusedVariables false
set_option linter.unusedSimpArgs false

/-! ### impl_Road_straight: function 65 -/
mutual
def Bd.j0 : Nat → List Int → Int → Int → Int → Int → Bool → Option (List Int)
 | 0, _, _, _, _, _, _ => none
 | k + 1, x1, x2, x7, x8, x273000, x273001 => Bd.l0 k x1 x2 x7 x8 x273000 x273001
def Bd.l0 : Nat → List Int → Int → Int → Int → Int → Bool → Option (List Int)
 | 0, _, _, _, _, _, _ => none
 | k + 1, x1, x2, x7, x8, x273000, x273001 => if x7 = x2 then (some x1) else (if x273000 = 0 then (none) else (if x1.length < 17592186044416 then (Bd.l0 k (x1 ++ [Int.tmod (wrap64 ((wrap64 (x7 + x8)) + x273000)) x273000]) x2 (Int.tmod (wrap64 ((wrap64 (x7 + x8)) + x273000)) x273000) x8 x273000 x273001) else (none)))
end
def Bd.f (k : Nat) (a0_0 : Int) (a0_1 : Bool) (l1 : List Int) (a2 : Int) : Option (List Int) := if 0 ≤ (wrap64 ((l1.length : Int) - 1)) then (if (wrap64 ((l1.length : Int) - 1)) < (l1.length : Int) then (if a0_1 = true then (if a0_0 = 0 then (none) else (if (Int.tmod (wrap64 ((wrap64 (a2 - (rd l1 (wrap64 ((l1.length : Int) - 1))))) + a0_0)) a0_0) > (wrap64 (a0_0 - (Int.tmod (wrap64 ((wrap64 (a2 - (rd l1 (wrap64 ((l1.length : Int) - 1))))) + a0_0)) a0_0))) then (Bd.j0 k l1 a2 (rd l1 (wrap64 ((l1.length : Int) - 1))) (-1) a0_0 a0_1) else (Bd.j0 k l1 a2 (rd l1 (wrap64 ((l1.length : Int) - 1))) 1 a0_0 a0_1))) else (if (wrap64 (a2 - (rd l1 (wrap64 ((l1.length : Int) - 1))))) < 0 then (Bd.j0 k l1 a2 (rd l1 (wrap64 ((l1.length : Int) - 1))) (-1) a0_0 a0_1) else (Bd.j0 k l1 a2 (rd l1 (wrap64 ((l1.length : Int) - 1))) 1 a0_0 a0_1))) else (none)) else (none)
theorem Bd.mono_l : ∀ k, (∀ y0 y1 y2 y3 y4 y5, LeO (Bd.j0 k y0 y1 y2 y3 y4 y5) (Bd.j0 (k + 1) y0 y1 y2 y3 y4 y5)) ∧ (∀ y0 y1 y2 y3 y4 y5, LeO (Bd.l0 k y0 y1 y2 y3 y4 y5) (Bd.l0 (k + 1) y0 y1 y2 y3 y4 y5))
 | 0 => ⟨fun _ _ _ _ _ _ r h => by simp [Bd.j0] at h, fun _ _ _ _ _ _ r h => by simp [Bd.l0] at h⟩
 | k + 1 => by
  obtain ⟨ih0, ih1⟩ := Bd.mono_l k
  refine ⟨?_, ?_⟩
  ·intro y0 y1 y2 y3 y4 y5
   unfold Bd.j0
   repeat' (exact ih1 _ _ _ _ _ _)
  ·intro y0 y1 y2 y3 y4 y5
   unfold Bd.l0
   repeat' first
   | (with_reducible exact ih1 _ _ _ _ _ _)
   | (with_reducible exact LeO.refl _)
   | (with_reducible refine LeO.ite ?_ ?_)
theorem Bd.mono : ∀ a0 a1 a2 a3 k, LeO (Bd.f k a0 a1 a2 a3) (Bd.f (k + 1) a0 a1 a2 a3) := by
 intro a0 a1 a2 a3 k
 obtain ⟨ih0, ih1⟩ := Bd.mono_l k
 unfold Bd.f
 repeat' first
   | (with_reducible exact ih0 _ _ _ _ _ _)
   | (with_reducible exact LeO.refl _)
   | (with_reducible refine LeO.ite ?_ ?_)
set_option maxHeartbeats 8000000 in
set_option maxRecDepth 100000 in
theorem Bd.calls (k : Nat) (a0_0 : Int) (a0_1 : Bool) (P1_ : Nat → Prop) (u9000_ : Value) (l1 : List Int) (a2 : Int) (r : List Int) (w0 w : World) (hB : Below w0.heap.size w0 w) (ho1 : Kd.R (Kd.int .i64) 3 w w0.heap.size P1_ u9000_ l1) (h : Bd.f k a0_0 a0_1 l1 a2 = some r) :
  Calls Try.prog 65 #[.agg #[.int .i64 a0_0, .bool a0_1], u9000_, .int .i64 a2] w fun e w' => ∃ v0_ : Value, e = .returned (v0_) ∧ Kd.R (Kd.int .i64) 3 w' w0.heap.size (fun k_ => (P1_ k_ ∨ w.heap.size ≤ k_)) v0_ r ∧ Below w0.heap.size w0 w' ∧ Kept w w' (fun k_ => P1_ k_) := by
 have hu25 := Try.underlying25
 have HO1 := Aa.k (show Kd.R (Kd.int .i64) 3 w w0.heap.size (fun k_ => (P1_ k_ ∨ w.heap.size ≤ k_)) u9000_ l1 from Kd.Bv ho1 (fun k_ hk => (.inl hk)))
 have HK := Aa.k (Kept.refl w (fun k_ => P1_ k_))
 have HW0 := Aa.k hB.size
 have HB := Aa.k hB
 clear hB
 have H : (if 0 ≤ (wrap64 ((l1.length : Int) - 1)) then (if (wrap64 ((l1.length : Int) - 1)) < (l1.length : Int) then (if a0_1 = true then (if a0_0 = 0 then (none) else (if (Int.tmod (wrap64 ((wrap64 (a2 - (rd l1 (wrap64 ((l1.length : Int) - 1))))) + a0_0)) a0_0) > (wrap64 (a0_0 - (Int.tmod (wrap64 ((wrap64 (a2 - (rd l1 (wrap64 ((l1.length : Int) - 1))))) + a0_0)) a0_0))) then (Bd.j0 k l1 a2 (rd l1 (wrap64 ((l1.length : Int) - 1))) (-1) a0_0 a0_1) else (Bd.j0 k l1 a2 (rd l1 (wrap64 ((l1.length : Int) - 1))) 1 a0_0 a0_1))) else (if (wrap64 (a2 - (rd l1 (wrap64 ((l1.length : Int) - 1))))) < 0 then (Bd.j0 k l1 a2 (rd l1 (wrap64 ((l1.length : Int) - 1))) (-1) a0_0 a0_1) else (Bd.j0 k l1 a2 (rd l1 (wrap64 ((l1.length : Int) - 1))) 1 a0_0 a0_1))) else (none)) else (none)) = some r := h
 clear h
 obtain ⟨ji4, hji4⟩ : ∃ j_ : Int, (wrap64 ((l1.length : Int) - 1)) = j_ := ⟨_, rfl⟩
 replace H : (if 0 ≤ (ji4) then (if (ji4) < (l1.length : Int) then (if a0_1 = true then (if a0_0 = 0 then (none) else (if (Int.tmod (wrap64 ((wrap64 (a2 - (rd l1 (ji4)))) + a0_0)) a0_0) > (wrap64 (a0_0 - (Int.tmod (wrap64 ((wrap64 (a2 - (rd l1 (ji4)))) + a0_0)) a0_0))) then (Bd.j0 k l1 a2 (rd l1 (ji4)) (-1) a0_0 a0_1) else (Bd.j0 k l1 a2 (rd l1 (ji4)) 1 a0_0 a0_1))) else (if (wrap64 (a2 - (rd l1 (ji4)))) < 0 then (Bd.j0 k l1 a2 (rd l1 (ji4)) (-1) a0_0 a0_1) else (Bd.j0 k l1 a2 (rd l1 (ji4)) 1 a0_0 a0_1))) else (none)) else (none)) = some r := by (rw [hji4] at H; exact H)
 have hji4w : (IntKind.i64.wrap ((l1.length : Int) - 1)) = ji4 := (Ah _).trans hji4
 by_cases c5 : 0 ≤ (ji4)
 rotate_left
 ·rw [if_neg c5] at H
  exact absurd H (by simp)
 rw [if_pos c5] at H
 have c5b0 : decide (0 ≤ (ji4)) = true := decide_eq_true c5
 clear c5
 by_cases c6 : (ji4) < (l1.length : Int)
 rotate_left
 ·rw [if_neg c6] at H
  exact absurd H (by simp)
 rw [if_pos c6] at H
 have c6b0 : decide ((ji4) < (l1.length : Int)) = true := decide_eq_true c6
 clear c6
 have HC7 := Aa.k H
 clear H
 go_enter Try.func65, Try.ntmps65
 go_upto_if 20 with (((refine Be (N := 3) rfl ?_); refine Bo ?hg (N := 3) ?hd (cs := #[.int .i64 a0_0, .bool a0_1]) (t := 25) ?hr ?_; (case hd => rfl); (case hg => rfl); (case hr => (go_simp; done)); intro gb272 hg w8 hbox hb; replace HO1 := Aa.k (Kd.Ba (by exact HO1.o) hb); have BK272 := Aa.k (hbox); have GW272 := Aa.k ((by rw [hg]; exact (by (exact HK.o.1)) : w.heap.size ≤ gb272)); replace HK := Aa.k (Kept.below (S := (fun k_ => P1_ k_)) HK.o hb); have GE272 := Aa.k ((by rw [hg]; exact (Af HB.o) : w0.heap.size ≤ gb272)); replace HB := Aa.k (Ad HB.o hb); clear hb hbox hg; obtain ⟨Ao9, co9, eo9⟩ := Kd.Cx HO1.o; subst eo9; have p273 : 0 ≤ ((ji4) : Int) := of_decide_eq_true (by (assumption)); have q273 : (ji4) < (l1.length : Int) := of_decide_eq_true (by (assumption)); obtain ⟨ad273, e273, hx273_0⟩ := Kd.Eo (Kd.Bb HO1.o).2.2 (ji4) p273 q273; cases e273; replace p273 := eq_true p273; replace q273 := eq_true q273; have hcz10_0 := Bj BK272.o; have hcz10_1 := Bn BK272.o; have hfz10_0 := Ac BK272.o 0; have hfz10_1 := Ac BK272.o 1))
 (try simp only [Act.put, sT_, sZ_, sS_])
 go_cut [8] (fun v8 wc => ∃ (kq : Nat) (x8_6 : Int), v8 = .int .i64 x8_6 ∧ Aa (Bd.j0 kq l1 a2 (rd l1 (ji4)) x8_6 a0_0 a0_1 = some r) ∧ Aa (kq ≤ k) ∧ Aa (Kd.R (Kd.int .i64) 3 wc w0.heap.size (fun k_ => (P1_ k_ ∨ w.heap.size ≤ k_)) (.slice (some ad273) l1.length co9) l1) ∧ Aa (wc.heap[gb272]? = some (.cells #[.int .i64 a0_0, .bool a0_1] 25 (0, 0))) ∧ Aa (Kept w wc (fun k_ => P1_ k_)) ∧ Aa (Below w0.heap.size w0 wc))
 case first =>
  have H := HC7.o
  clear HC7
  by_cases c11 : a0_1 = true
  rotate_left
  ·replace c11 := Bool.eq_false_iff.mpr c11
   subst c11
   rw [if_neg (show ¬ (false = true) by decide)] at H
   by_cases c16 : (wrap64 (a2 - (rd l1 (ji4)))) < 0
   rotate_left
   ·rw [if_neg c16] at H
    have c16b0 : decide ((wrap64 (a2 - (rd l1 (ji4)))) < 0) = false := decide_eq_false c16
    clear c16
    have H' := Aa.k H
    clear H
    go_wp2
    go_meet
    case rel => exact ⟨_, (1), (by (rfl)), H', ⟨by (omega)⟩, ⟨by exact HO1.o⟩, ⟨by exact BK272.o⟩, ⟨by exact HK.o⟩, ⟨by exact HB.o⟩⟩
   rw [if_pos c16] at H
   have c16b0 : decide ((wrap64 (a2 - (rd l1 (ji4)))) < 0) = true := decide_eq_true c16
   clear c16
   have H' := Aa.k H
   clear H
   go_wp2
   go_meet
   case rel => exact ⟨_, ((-1)), (by (rfl)), H', ⟨by (omega)⟩, ⟨by exact HO1.o⟩, ⟨by exact BK272.o⟩, ⟨by exact HK.o⟩, ⟨by exact HB.o⟩⟩
  subst c11
  rw [if_pos rfl] at H
  by_cases c12 : a0_0 = 0
  ·rw [if_pos c12] at H
   exact absurd H (by simp)
  rw [if_neg c12] at H
  have c12b0 : (a0_0 == 0) = false := beq_eq_false_iff_ne.mpr c12
  have c12b1 : (a0_0 != 0) = true := bne_iff_ne.mpr c12
  ((skip))
  by_cases c13 : (Int.tmod (wrap64 ((wrap64 (a2 - (rd l1 (ji4)))) + a0_0)) a0_0) > (wrap64 (a0_0 - (Int.tmod (wrap64 ((wrap64 (a2 - (rd l1 (ji4)))) + a0_0)) a0_0)))
  rotate_left
  ·rw [if_neg c13] at H
   have c13b0 : decide ((wrap64 (a0_0 - (Int.tmod (wrap64 ((wrap64 (a2 - (rd l1 (ji4)))) + a0_0)) a0_0))) < (Int.tmod (wrap64 ((wrap64 (a2 - (rd l1 (ji4)))) + a0_0)) a0_0)) = false := decide_eq_false c13
   clear c13
   have H' := Aa.k H
   clear H
   have hcz15_0 := Bj BK272.o
   have hcz15_1 := Bn BK272.o
   have hfz15_0 := Ac BK272.o 0
   have hfz15_1 := Ac BK272.o 1
   go_wp2
   go_meet
   case rel => exact ⟨_, (1), (by (rfl)), H', ⟨by (omega)⟩, ⟨by exact HO1.o⟩, ⟨by exact BK272.o⟩, ⟨by exact HK.o⟩, ⟨by exact HB.o⟩⟩
  rw [if_pos c13] at H
  have c13b0 : decide ((wrap64 (a0_0 - (Int.tmod (wrap64 ((wrap64 (a2 - (rd l1 (ji4)))) + a0_0)) a0_0))) < (Int.tmod (wrap64 ((wrap64 (a2 - (rd l1 (ji4)))) + a0_0)) a0_0)) = true := decide_eq_true c13
  clear c13
  have H' := Aa.k H
  clear H
  have hcz14_0 := Bj BK272.o
  have hcz14_1 := Bn BK272.o
  have hfz14_0 := Ac BK272.o 0
  have hfz14_1 := Ac BK272.o 1
  go_wp2
  go_meet
  case rel => exact ⟨_, ((-1)), (by (rfl)), H', ⟨by (omega)⟩, ⟨by exact HO1.o⟩, ⟨by exact BK272.o⟩, ⟨by exact HK.o⟩, ⟨by exact HB.o⟩⟩
 case rest =>
  clear HC7
  clear c5b0 c6b0 hcz10_0
  clear hcz10_1 hfz10_0 hfz10_1 hx273_0 p273 q273
  obtain ⟨kq, x8_6, rfl, HA, HJ6, HO_1, BK272, HK, HB⟩ := hcut
  cases kq with
  | zero => exact absurd HA.o (by simp [Bd.j0])
  | succ kj6 =>
   have H := HA.o
   clear HA
   simp only [Bd.j0] at H
   have H' := Aa.k H
   clear H
   go_wp2
   go_loopg [1, 7] kj6 (fun kq v1 v7 w' => ∃ (x1_2 : List Int) (x7_2 : Int), v7 = .int .i64 x7_2 ∧ Aa (Bd.l0 kq x1_2 a2 x7_2 x8_6 a0_0 a0_1 = some r) ∧ Aa (kq ≤ kj6) ∧ Aa (Kd.R (Kd.int .i64) 3 w' w0.heap.size (fun k_ => (P1_ k_ ∨ w.heap.size ≤ k_)) v1 x1_2) ∧ Aa (w'.heap[gb272]? = some (.cells #[.int .i64 a0_0, .bool a0_1] 25 (0, 0))) ∧ Aa (Kept w w' (fun k_ => P1_ k_)) ∧ Aa (Below w0.heap.size w0 w'))
   case atStart => exact ⟨(l1), ((rd l1 (ji4))), (by (rfl)), H', ⟨Nat.le_refl _⟩, ⟨by exact HO_1.o⟩, ⟨by exact BK272.o⟩, ⟨by exact HK.o⟩, ⟨by exact HB.o⟩⟩
   case round =>
    clear H'
    obtain ⟨x1_2, x7_2, rfl, HA, HK2, HO_1, BK272, HK, HB⟩ := hrel
    cases gk with
    | zero => exact absurd HA.o (by simp [Bd.l0])
    | succ k2 =>
     have H := HA.o
     clear HA
     simp only [Bd.l0] at H
     by_cases c17 : x7_2 = a2
     ·rw [if_pos c17] at H
      have c17b0 : (x7_2 == a2) = true := beq_iff_eq.mpr c17
      have c17b1 : (x7_2 != a2) = false := bne_eq_false_iff_eq.mpr c17
      clear c17
      obtain rfl := Option.some.inj H
      go_wp2
      go_ret
      exact ⟨_, by (rfl), by exact HO_1.o, by exact HB.o, by exact HK.o⟩
     rw [if_neg c17] at H
     have c17b0 : (x7_2 == a2) = false := beq_eq_false_iff_ne.mpr c17
     have c17b1 : (x7_2 != a2) = true := bne_iff_ne.mpr c17
     by_cases c18 : a0_0 = 0
     ·rw [if_pos c18] at H
      exact absurd H (by simp)
     rw [if_neg c18] at H
     have c18b0 : (a0_0 == 0) = false := beq_eq_false_iff_ne.mpr c18
     have c18b1 : (a0_0 != 0) = true := bne_iff_ne.mpr c18
     by_cases c19 : x1_2.length < 17592186044416
     rotate_left
     ·rw [if_neg c19] at H
      exact absurd H (by simp)
     rw [if_pos c19] at H
     have LMc19 := Aa.k c19
     clear c19
     obtain ⟨y274, hy274⟩ : ∃ y_ : List Int, y_ = (x1_2 ++ [Int.tmod (wrap64 ((wrap64 (x7_2 + x8_6)) + a0_0)) a0_0]) := ⟨_, rfl⟩
     replace H : (Bd.l0 k2 y274 a2 (Int.tmod (wrap64 ((wrap64 (x7_2 + x8_6)) + a0_0)) a0_0) x8_6 a0_0 a0_1) = some r := by (rw [hy274]; exact H)
     have Ny274 := Aa.k hy274
     clear hy274
     have H' := Aa.k H
     clear H
     have hcz20_0 := Bj BK272.o
     have hcz20_1 := Bn BK272.o
     have hfz20_0 := Ac BK272.o 0
     have hfz20_1 := Ac BK272.o 1
     go_wp2_with (((refine Ef (b := .append) (xs := #[.tmp 50, .tmp 52]) rfl ?_); at_builtin; refine Kd.R_append (Kd.int .i64) (w0 := w0) w0.heap.size rfl (.tmp 50) (.tmp 52) 30 3 (.int .i64 0) 8 rfl Try.underlying30 info3 rfl (by decide) (by omega) u1 x1_2 (Int.tmod (wrap64 ((wrap64 (x7_2 + x8_6)) + a0_0)) a0_0) [.int .i64 (Int.tmod (wrap64 ((wrap64 (x7_2 + x8_6)) + a0_0)) a0_0)] (fun k_ => (P1_ k_ ∨ w.heap.size ≤ k_)) (fun _ => False) rfl rfl ?aP (fun _ hk => hk.elim) ?aF ?aO ?aB ?aS ?aL ?_; (case aP => exact rfl); (case aB => exact HB.o); (case aF => exact (fun k_ hk => (.inr (Nat.le_trans (by (exact HK.o.1)) hk)))); (case aO => exact (by exact HO_1.o)); (case aS => exact (Af HB.o)); (case aL => have := LMc19.o; omega); intro v275 w21 ho hb hg hat; rw [← Ny274.o] at ho; replace BK272 := Aa.k (Fb (g := gb272) (o := .cells #[.int .i64 a0_0, .bool a0_1] 25 (0, 0)) (by exact BK272.o) hg (Kd.R_ne HO_1.o BK272.o (by decide))); replace HB := Aa.k (hb); replace HK := Aa.k (Kept.of_grown (S := (fun k_ => P1_ k_)) hg HK.o (fun k_ e_ => (HO_1.o.1 k_ e_))); have HO276 := Aa.k (ho); clear ho hb hg hat))
     go_roundg k2
     case measure => have := HJ6.o; have := HK2.o; omega
     case rel => exact ⟨(y274), (Int.tmod (wrap64 ((wrap64 (x7_2 + x8_6)) + a0_0)) a0_0), (by (rfl)), H', ⟨by have := HJ6.o; have := HK2.o; omega⟩, ⟨by exact HO276.o⟩, ⟨by exact BK272.o⟩, ⟨by exact HK.o⟩, ⟨by exact HB.o⟩⟩

end Go.Proofs.Ytogflbocmiogpaa.PFnBestSearch
