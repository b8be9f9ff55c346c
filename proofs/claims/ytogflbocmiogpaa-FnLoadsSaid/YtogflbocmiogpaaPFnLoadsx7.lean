-- Written for this claim by this session's turned copy of the printer.
import Derived.Test.YtogflbocmiogpaaPFnLoadsx0
import Derived.Test.YtogflbocmiogpaaPFnLoadsx5
import Derived.Test.YtogflbocmiogpaaPFnLoadsx6
namespace Go.Proofs.Ytogflbocmiogpaa.PFnLoads
open Go.RowKit Go.Proofs.YtogflbocmiogpaaW.PrintWords Go.Proofs.YtogflbocmiogpaaW.PrintLast Go.Proofs.YtogflbocmiogpaaW.PrintMore
attribute [local go_sem] max2_int min2_int max_two min_two max_three min_three max_four min_four   -- for this text's walks alone
set_option linter.unusedVariables false
set_option linter.unusedSimpArgs false

/-! ### impl_SearchLoad: function 23 -/
mutual
def impl_SearchLoad.j0 : Nat → Int → List Int → List Int → Bool → Int → Bool → Option (Int × Bool)
 | 0, _, _, _, _, _, _ => none
 | k + 1, x1, x2, x3, x23, x319000, x319001 => if x23 = true then (some (0, false)) else ((impl_Road_times.f k x319000 x319001 x1 x2 0).bind fun t321 => (impl_SearchLoad.l0 k x3 0 t321 (t321.length : Int) 0))
def impl_SearchLoad.l0 : Nat → List Int → Int → List Int → Int → Int → Option (Int × Bool)
 | 0, _, _, _, _, _ => none
 | k + 1, x3, x10, x27, x28, x29 => if x29 < x28 then (if 0 ≤ x29 then (if x29 < (x27.length : Int) then (if x29 < (x3.length : Int) then (impl_SearchLoad.l0 k x3 (wrap64 (x10 + (wrap64 ((rd x3 x29) * (rd x27 x29))))) x27 x28 (wrap64 (x29 + 1))) else (none)) else (none)) else (none)) else (some (x10, true))
end
def impl_SearchLoad.f (k : Nat) (a0_0 : Int) (a0_1 : Bool) (a1 : Int) (l2 : List Int) (l3 : List Int) : Option (Int × Bool) := (impl_isSought.f k a0_0 a0_1 a1 l2).bind fun t319 => (if t319 = true then ((impl_Road_areHefts.f k a0_0 a0_1 l3).bind fun t320 => (impl_SearchLoad.j0 k a1 l2 l3 (!t320) a0_0 a0_1)) else (impl_SearchLoad.j0 k a1 l2 l3 true a0_0 a0_1))
set_option maxHeartbeats 8000000 in
set_option maxRecDepth 100000 in
theorem impl_SearchLoad.calls (k : Nat) (a0_0 : Int) (a0_1 : Bool) (a1 : Int) (A2 : Option Addr) (c2 : Nat) (l2 : List Int) (A3 : Option Addr) (c3 : Nat) (l3 : List Int) (r1 : Int) (r2 : Bool) (w : World) (hr2 : Kd.C (Kd.int .i64) w A2 l2.length l2) (hc2 : l2.length ≤ c2) (hr3 : Kd.C (Kd.int .i64) w A3 l3.length l3) (hc3 : l3.length ≤ c3) (h : impl_SearchLoad.f k a0_0 a0_1 a1 l2 l3 = some (r1, r2)) :
  Calls Try.prog 23 #[.agg #[.int .i64 a0_0, .bool a0_1], .int .i64 a1, .slice A2 l2.length c2, .slice A3 l3.length c3] w fun e w' => e = .returned (.tuple #[.int .i64 r1, .bool r2]) ∧ Below w.heap.size w w' := by
 have hu25 := Try.underlying25
 have HR2 := Aside0.mk hr2
 have HC2 := Aside0.mk hc2
 clear hr2 hc2
 have HR3 := Aside0.mk hr3
 have HC3 := Aside0.mk hc3
 clear hr3 hc3
 have HB := Aside0.mk (Below.refl w.heap.size w)
 have H : ((impl_isSought.f k a0_0 a0_1 a1 l2).bind fun t319 => (if t319 = true then ((impl_Road_areHefts.f k a0_0 a0_1 l3).bind fun t320 => (impl_SearchLoad.j0 k a1 l2 l3 (!t320) a0_0 a0_1)) else (impl_SearchLoad.j0 k a1 l2 l3 true a0_0 a0_1))) = some (r1, r2) := h
 clear h
 have HC5 := Aside0.mk H
 clear H
 go_enter Try.func23, Try.ntmps23
 go_upto_region 1 with (((refine gate_dst (N := 4) rfl ?_); refine box_event ?hg (N := 4) ?hd (cs := #[.int .i64 a0_0, .bool a0_1]) (t := 25) ?hr ?_; (case hd => rfl); (case hg => rfl); (case hr => (go_simp; done)); intro gb318 hg w6 hbox hb; have n0_ := Aside0.mk (below_step (by repeat ((with_reducible (exact HB.out)))) hb); have n1_ := Aside0.mk (hbox); have n2_ := Aside0.mk ((by rw [hg]; exact (below_size (by repeat ((with_reducible (exact HB.out))))) : w.heap.size ≤ gb318)); have n3_ := Aside0.mk ((by rw [hg]; exact (below_size (by repeat ((with_reducible (exact HB.out))))) : w.heap.size ≤ gb318)); clear HB; have HB := n0_; have BK318 := n1_; have GW318 := n2_; have GE318 := n3_; clear n0_ n1_ n2_ n3_; clear hb hbox hg))
 (try simp only [Act.put, List.setIfInBounds_toArray, List.set_cons_zero, List.set_cons_succ])
 go_cut [23] (fun v23 wc => ∃ (kq : Nat) (x23_4 : Bool), v23 = .bool x23_4 ∧ Aside0 (impl_SearchLoad.j0 kq a1 l2 l3 x23_4 a0_0 a0_1 = some (r1, r2)) ∧ Aside0 (kq ≤ k) ∧ Aside0 (wc.heap[gb318]? = some (.cells #[.int .i64 a0_0, .bool a0_1] 25 (0, 0))) ∧ Aside0 (Below w.heap.size w wc))
 case first =>
  have H := HC5.out
  clear HC5
  replace H := Option.bind_eq_some_iff.mp H
  obtain ⟨t319, A70, H⟩ := H
  try dsimp only at H
  have A7 := Aside0.mk A70
  clear A70
  by_cases c8 : t319 = true
  rotate_left
  ·replace c8 := Bool.eq_false_iff.mpr c8
   subst c8
   rw [if_neg (show ¬ (false = true) by decide)] at H
   have H' := Aside0.mk H
   clear H
   have hcz14_0 : w6.cell? ⟨gb318, 0, none⟩ = some (.int .i64 a0_0) := (blk_cell BK318.out 0).trans rfl
   have hcz14_1 : w6.cell? ⟨gb318, 1, none⟩ = some (.bool a0_1) := (blk_cell BK318.out 1).trans rfl
   have hfz14_0 := blk_frozen BK318.out 0
   have hfz14_1 := blk_frozen BK318.out 1
   go_wp2_with (((refine gate_callee (f := 75) rfl ?_); refine goesL_ (some 16) rfl rfl Try.func75 (by kernel_rfl) rfl #[.agg #[.int .i64 a0_0, .bool a0_1], .int .i64 a1, .slice A2 l2.length c2] rfl (by (try simp only [List.map_toArray, List.map_cons, List.map_nil]); (rfl)) ?_; (refine (impl_isSought.calls k a0_0 a0_1 a1 _ _ l2 false _ ?side1 ?side2 A7.out).mono ?_); (case side1 => repeat (exact (Kd.C_below HR2.out HB.out))); (case side2 => exact HC2.out); rintro e w15 ⟨rfl, hb⟩; refine ⟨_, rfl, ?_⟩; have n0_ := Aside0.mk (blk_below (g := gb318) (o := .cells #[.int .i64 a0_0, .bool a0_1] 25 (0, 0)) (by (with_reducible repeat (fail)); exact BK318.out) hb); have n1_ := Aside0.mk (below_step (by repeat ((with_reducible (exact HB.out)))) hb); clear BK318; clear HB; have BK318 := n0_; have HB := n1_; clear n0_ n1_; (try clear hb); (try clear hb2); (try clear hk); (try clear hi)))
   go_meet
   case rel => exact ⟨_, (true), (by (rfl)), H', ⟨by (omega)⟩, ⟨by (with_reducible repeat (fail)); exact BK318.out⟩, ⟨by repeat ((with_reducible (exact HB.out)))⟩⟩
  subst c8
  rw [if_pos rfl] at H
  replace H := Option.bind_eq_some_iff.mp H
  obtain ⟨t320, A90, H⟩ := H
  try dsimp only at H
  have A9 := Aside0.mk A90
  clear A90
  have H' := Aside0.mk H
  clear H
  have hcz10_0 : w6.cell? ⟨gb318, 0, none⟩ = some (.int .i64 a0_0) := (blk_cell BK318.out 0).trans rfl
  have hcz10_1 : w6.cell? ⟨gb318, 1, none⟩ = some (.bool a0_1) := (blk_cell BK318.out 1).trans rfl
  have hfz10_0 := blk_frozen BK318.out 0
  have hfz10_1 := blk_frozen BK318.out 1
  go_wp2_with (first | ((with_reducible refine gate_callee (f := 75) rfl ?_); refine goesL_ (some 16) rfl rfl Try.func75 (by kernel_rfl) rfl #[.agg #[.int .i64 a0_0, .bool a0_1], .int .i64 a1, .slice A2 l2.length c2] rfl (by (try simp only [List.map_toArray, List.map_cons, List.map_nil]); (rfl)) ?_; (with_reducible refine (impl_isSought.calls k a0_0 a0_1 a1 _ _ l2 true _ ?side1 ?side2 A7.out).mono ?_); (case side1 => repeat (exact (Kd.C_below HR2.out HB.out))); (case side2 => exact HC2.out); rintro e w11 ⟨rfl, hb⟩; refine ⟨_, rfl, ?_⟩; have n0_ := Aside0.mk (blk_below (g := gb318) (o := .cells #[.int .i64 a0_0, .bool a0_1] 25 (0, 0)) (by (with_reducible repeat (fail)); exact BK318.out) hb); have n1_ := Aside0.mk (below_step (by repeat ((with_reducible (exact HB.out)))) hb); clear BK318; clear HB; have BK318 := n0_; have HB := n1_; clear n0_ n1_; (try clear hb); (try clear hb2); (try clear hk); (try clear hi); have hcz12_0 : w11.cell? ⟨gb318, 0, none⟩ = some (.int .i64 a0_0) := (blk_cell BK318.out 0).trans rfl; have hcz12_1 : w11.cell? ⟨gb318, 1, none⟩ = some (.bool a0_1) := (blk_cell BK318.out 1).trans rfl; have hfz12_0 := blk_frozen BK318.out 0; have hfz12_1 := blk_frozen BK318.out 1) | (go_at_call 76; (with_reducible refine (impl_Road_areHefts.calls k a0_0 a0_1 _ _ l3 t320 _ ?side1 ?side2 A9.out).mono ?_); (case side1 => repeat (exact (Kd.C_below HR3.out HB.out))); (case side2 => exact HC3.out); rintro e w13 ⟨rfl, hb⟩; have n0_ := Aside0.mk (blk_below (g := gb318) (o := .cells #[.int .i64 a0_0, .bool a0_1] 25 (0, 0)) (by (with_reducible repeat (fail)); exact BK318.out) hb); have n1_ := Aside0.mk (below_step (by repeat ((with_reducible (exact HB.out)))) hb); clear BK318; clear HB; have BK318 := n0_; have HB := n1_; clear n0_ n1_; (try clear hb); (try clear hb2); (try clear hk); (try clear hi)))
  go_meet
  case rel => exact ⟨_, (!t320), (by (rfl)), H', ⟨by (omega)⟩, ⟨by (with_reducible repeat (fail)); exact BK318.out⟩, ⟨by repeat ((with_reducible (exact HB.out)))⟩⟩
 case rest =>
  clear HC5
  (try clear c2); (try clear p2); (try clear c3); (try clear c7); (try clear c8); (try clear hcz10_0); (try clear hcz10_1); (try clear hcz12_0); (try clear hcz12_1); (try clear hcz14_0); (try clear hcz14_1); (try clear hfz10_0); (try clear hfz10_1); (try clear hfz12_0); (try clear hfz12_1); (try clear hfz14_0)
  (try clear hfz14_1)
  obtain ⟨kq, x23_4, rfl, HA, HJ4, BK318, HB⟩ := hcut
  cases kq with
  | zero => exact absurd HA.out (by simp [impl_SearchLoad.j0])
  | succ kj4 =>
   have H := HA.out
   clear HA
   simp only [impl_SearchLoad.j0] at H
   by_cases c16 : x23_4 = true
   ·subst c16
    rw [if_pos rfl] at H
    simp only [Option.some.injEq, Prod.mk.injEq] at H
    obtain ⟨rfl, rfl⟩ := H
    go_wp2
    go_ret2
    exact ⟨by (rfl), by repeat ((with_reducible (exact HB.out)))⟩
   replace c16 := Bool.eq_false_iff.mpr c16
   subst c16
   rw [if_neg (show ¬ (false = true) by decide)] at H
   replace H := Option.bind_eq_some_iff.mp H
   obtain ⟨t321, A170, H⟩ := H
   try dsimp only at H
   have A17 := Aside0.mk A170
   clear A170
   have H' := Aside0.mk H
   clear H
   have hcz18_0 : wc.cell? ⟨gb318, 0, none⟩ = some (.int .i64 a0_0) := (blk_cell BK318.out 0).trans rfl
   have hcz18_1 : wc.cell? ⟨gb318, 1, none⟩ = some (.bool a0_1) := (blk_cell BK318.out 1).trans rfl
   have hfz18_0 := blk_frozen BK318.out 0
   have hfz18_1 := blk_frozen BK318.out 1
   go_wp2_with (((refine gate_callee (f := 77) rfl ?_); refine goesL_ (some 27) rfl rfl Try.func77 (by kernel_rfl) rfl #[.agg #[.int .i64 a0_0, .bool a0_1], .int .i64 a1, .slice A2 l2.length c2, .int .i64 0] rfl (by (try simp only [List.map_toArray, List.map_cons, List.map_nil]); (rfl)) ?_; (refine (impl_Road_times.calls kj4 a0_0 a0_1 a1 _ _ l2 0 t321 _ ?side1 ?side2 A17.out).mono ?_); (case side1 => repeat (exact (Kd.C_below HR2.out HB.out))); (case side2 => exact HC2.out); rintro e w19 ⟨v322, rfl, ho0, hb⟩; refine ⟨_, rfl, ?_⟩; have n0_ := Aside0.mk (Kd.R_lower ho0 (below_size (by repeat ((with_reducible (exact HB.out)))))); have n1_ := Aside0.mk (blk_below (g := gb318) (o := .cells #[.int .i64 a0_0, .bool a0_1] 25 (0, 0)) (by (with_reducible repeat (fail)); exact BK318.out) hb); have n2_ := Aside0.mk (below_step (by repeat ((with_reducible (exact HB.out)))) hb); clear BK318; clear HB; have HO323 := n0_; have BK318 := n1_; have HB := n2_; clear n0_ n1_ n2_; (try clear hb); (try clear hb2); (try clear hk); (try clear hi); (try clear ho0); obtain ⟨Ao20, co20, eo20⟩ := Kd.R_slice HO323.out; subst eo20))
   go_loopg [10, 29] kj4 (fun kq v10 v29 w' => ∃ (x10_2 : Int) (x29_2 : Int), v10 = .int .i64 x10_2 ∧ v29 = .int .i64 x29_2 ∧ Aside0 (impl_SearchLoad.l0 kq l3 x10_2 t321 (t321.length : Int) x29_2 = some (r1, r2)) ∧ Aside0 (kq ≤ kj4) ∧ Aside0 (Kd.R (Kd.int .i64) 3 w' w.heap.size (fun _ => True) (.slice Ao20 t321.length co20) t321) ∧ Aside0 (w'.heap[gb318]? = some (.cells #[.int .i64 a0_0, .bool a0_1] 25 (0, 0))) ∧ Aside0 (Below w.heap.size w w'))
   case atStart => exact ⟨(0), (0), (by (rfl)), (by (rfl)), H', ⟨Nat.le_refl _⟩, ⟨by (with_reducible repeat (fail)); exact HO323.out⟩, ⟨by (with_reducible repeat (fail)); exact BK318.out⟩, ⟨by repeat ((with_reducible (exact HB.out)))⟩⟩
   case round =>
    clear H'
    (try clear c1); (try clear c2); (try clear p2); (try clear c3); (try clear c7); (try clear c8); (try clear c16); (try clear hcz10_0); (try clear hcz10_1); (try clear hcz12_0); (try clear hcz12_1); (try clear hcz14_0); (try clear hcz14_1); (try clear hcz18_0); (try clear hcz18_1); (try clear hfz10_0)
    (try clear hfz10_1); (try clear hfz12_0); (try clear hfz12_1); (try clear hfz14_0); (try clear hfz14_1); (try clear hfz18_0); (try clear hfz18_1); (try clear p2)
    obtain ⟨x10_2, x29_2, rfl, rfl, HA, HK2, HO_27, BK318, HB⟩ := hrel
    cases gk with
    | zero => exact absurd HA.out (by simp [impl_SearchLoad.l0])
    | succ k2 =>
     have H := HA.out
     clear HA
     simp only [impl_SearchLoad.l0] at H
     by_cases c21 : x29_2 < (t321.length : Int)
     rotate_left
     ·rw [if_neg c21] at H
      have c21b0 : decide (x29_2 < (t321.length : Int)) = false := decide_eq_false c21
      clear c21
      simp only [Option.some.injEq, Prod.mk.injEq] at H
      obtain ⟨rfl, rfl⟩ := H
      go_wp2
      go_ret2
      exact ⟨by (rfl), by repeat ((with_reducible (exact HB.out)))⟩
     rw [if_pos c21] at H
     have c21b0 : decide (x29_2 < (t321.length : Int)) = true := decide_eq_true c21
     clear c21
     by_cases c22 : 0 ≤ x29_2
     rotate_left
     ·rw [if_neg c22] at H
      exact absurd H (by simp)
     rw [if_pos c22] at H
     have c22b0 : decide (0 ≤ x29_2) = true := decide_eq_true c22
     clear c22
     by_cases c23 : x29_2 < (t321.length : Int)
     rotate_left
     ·rw [if_neg c23] at H
      exact absurd H (by simp)
     rw [if_pos c23] at H
     have c23b0 : decide (x29_2 < (t321.length : Int)) = true := decide_eq_true c23
     clear c23
     by_cases c24 : x29_2 < (l3.length : Int)
     rotate_left
     ·rw [if_neg c24] at H
      exact absurd H (by simp)
     rw [if_pos c24] at H
     have c24b0 : decide (x29_2 < (l3.length : Int)) = true := decide_eq_true c24
     clear c24
     have H' := Aside0.mk H
     clear H
     have p324 : 0 ≤ (x29_2 : Int) := of_decide_eq_true (by (assumption))
     have q324 : x29_2 < (t321.length : Int) := of_decide_eq_true (by (assumption))
     obtain ⟨ad324, e324, hx324_0⟩ := Kd.at_int (Kd.R_reads' HO_27.out).2.2 x29_2 p324 q324
     cases e324
     replace p324 := eq_true p324
     replace q324 := eq_true q324
     have p325 : 0 ≤ (x29_2 : Int) := of_decide_eq_true (by (assumption))
     have q325 : x29_2 < (l3.length : Int) := of_decide_eq_true (by (assumption))
     obtain ⟨ad325, e325, hx325_0⟩ := Kd.at_int HR3.out x29_2 p325 q325
     cases e325
     replace hx325_0 := (HB.out.cell (World.block_lt_of_cell? w _ hx325_0)).trans hx325_0
     replace p325 := eq_true p325
     replace q325 := eq_true q325
     go_wp2
     go_roundg k2
     case measure => have := HJ4.out; have := HK2.out; omega
     case rel => exact ⟨(wrap64 (x10_2 + (wrap64 ((rd l3 x29_2) * (rd t321 x29_2))))), (wrap64 (x29_2 + 1)), (by (rfl)), (by (rfl)), H', ⟨by have := HJ4.out; have := HK2.out; omega⟩, ⟨by (with_reducible repeat (fail)); exact HO_27.out⟩, ⟨by (with_reducible repeat (fail)); exact BK318.out⟩, ⟨by repeat ((with_reducible (exact HB.out)))⟩⟩

end Go.Proofs.Ytogflbocmiogpaa.PFnLoads
