-- Written for this claim by this session's turned copy of the printer.
import Derived.Test.YtogflbocmiogpaaPFnLoadsx0
import Derived.Test.YtogflbocmiogpaaPFnLoadsx1
import Derived.Test.YtogflbocmiogpaaPFnLoadsx4
import Derived.Test.YtogflbocmiogpaaPFnLoadsx7
import Derived.Test.YtogflbocmiogpaaPFnLoadsx9
import Derived.Test.YtogflbocmiogpaaPFnLoadsx10
import Derived.Test.YtogflbocmiogpaaPFnLoadsx11
import Derived.Test.YtogflbocmiogpaaPFnLoadsx12
import Derived.Test.YtogflbocmiogpaaPFnLoadsx20
namespace Go.Proofs.Ytogflbocmiogpaa.PFnLoads
open Go.RowKit Go.Proofs.YtogflbocmiogpaaW.PrintWords Go.Proofs.YtogflbocmiogpaaW.PrintLast Go.Proofs.YtogflbocmiogpaaW.PrintMore
open Bool renaming true → Y_, false → N_
attribute [local go_sem] max2_int min2_int max_two min_two max_three min_three max_four min_four   -- for this text's walks alone
set_option linter.unusedVariables false
set_option linter.unusedSimpArgs false

/-! ### laws_FnLoads: function 4 -/
mutual
def laws_FnLoads.j0 : Nat → Int → List Int → Int → Bool → Int → Bool → Option (Bool)
 | 0, _, _, _, _, _, _ => none
 | k + 1, x12, x13, x14, x15, x449000, x449001 => if x15 = true then ((impl_AllSearches.f k x449000 x449001 x12).bind fun bt455 => (if bt455.2 = true then (laws_FnLoads.l0 k x12 x13 x14 bt455.1 false 0 x449000 x449001) else (some true))) else (some true)
def laws_FnLoads.l0 : Nat → Int → List Int → Int → List (List Int) → Bool → Int → Int → Bool → Option (Bool)
 | 0, _, _, _, _, _, _, _, _ => none
 | k + 1, x12, x13, x14, x20, x22, x23, x449000, x449001 => if x23 < (x20.length : Int) then (if 0 ≤ x23 then ((impl_SearchLoad.f k x449000 x449001 x12 (rd_L5 x20 x23) x13).bind fun bt460 => (if bt460.2 = true then (if bt460.1 < x14 then (none) else (if x22 = true then (laws_FnLoads.l0 k x12 x13 x14 x20 true (wrap64 (x23 + 1)) x449000 x449001) else (laws_FnLoads.l0 k x12 x13 x14 x20 (bt460.1 == x14) (wrap64 (x23 + 1)) x449000 x449001))) else (none))) else (none)) else (some x22)
end
def laws_FnLoads.f (k : Nat) (l0 : List Int) : Option (Bool) := (laws_vBig.f l0).bind fun t424 => (if t424 = true then (some true) else ((spec_DrawSearchLoad.f k l0).bind fun bt425 => ((impl_SearchLoad.f k bt425.1 bt425.2.1 bt425.2.2.1 bt425.2.2.2.1 bt425.2.2.2.2).bind fun bt435 => ((spec_SearchLoad.f k bt425.1 bt425.2.1 bt425.2.2.1 bt425.2.2.2.1 bt425.2.2.2.2).bind fun bt437 => ((laws_vCut.f l0 1).bind fun t439 => ((spec_DrawLeastLoad.f k t439).bind fun bt442 => ((impl_LeastLoad.f k bt442.1 bt442.2.1 bt442.2.2.1 bt442.2.2.2).bind fun bt449 => ((spec_LeastLoad.f k bt442.1 bt442.2.1 bt442.2.2.1 bt442.2.2.2).bind fun bt451 => (if bt435.1 = bt437.1 then (if (bt435.2 != bt437.2) = true then (none) else (if bt449.1 = bt451.1 then (if (bt449.2 != bt451.2) = true then (none) else (if bt435.2 = true then ((impl_LeastLoad.f k bt425.1 bt425.2.1 bt425.2.2.1 bt425.2.2.2.2).bind fun bt453 => (if bt453.2 = true then (if bt435.1 < bt453.1 then (none) else (laws_FnLoads.j0 k bt442.2.2.1 bt442.2.2.2 bt449.1 bt449.2 bt442.1 bt442.2.1)) else (none))) else (laws_FnLoads.j0 k bt442.2.2.1 bt442.2.2.2 bt449.1 bt449.2 bt442.1 bt442.2.1))) else (none))) else (none))))))))))
def laws_FnLoads.T24 : Bool × List (List Nat × List Nat) := (true, [([], []), ([], []), ([], []), ([], []), ([2, 3], [2, 3]), ([4], [4]), ([], []), ([0, 1, 5, 6], [0, 1, 5, 6]), ([7], [7]), ([8], [8]), ([8], [8]), ([9, 7, 0, 1, 2, 3, 4, 5, 6, 7, 8, 9], [9]), ([10, 11, 0, 1, 2, 3, 4, 5, 6, 7, 8, 9, 10, 11], [10])])
def laws_FnLoads.B24 : List Nat := [0, 0, 0, 0, 12, 28, 0, 127, 255, 511, 511, 1023, 4095]
theorem laws_FnLoads.tab24 : rtab .any (opsOf Try.f4 24) = laws_FnLoads.T24 := by kernel_rfl
theorem laws_FnLoads.bits24 : waitsOk laws_FnLoads.T24.2 laws_FnLoads.B24 = true := by kernel_rfl
set_option maxHeartbeats 8000000 in
set_option maxRecDepth 100000 in
theorem laws_FnLoads.calls (k : Nat) (A0 : Option Addr) (c0 : Nat) (l0 : List Int) (r : Bool) (w : World) (hr0 : Kd.C (Kd.int .u8) w A0 l0.length l0) (hc0 : l0.length ≤ c0) (h : laws_FnLoads.f k l0 = some r) :
  Calls Try.prog 4 #[.slice A0 l0.length c0] w fun e w' => e = .returned (.bool r) ∧ Below w.heap.size w w' := by
 have hu25 := Try.underlying25
 have HR0 := Aside0.mk hr0
 have HC0 := Aside0.mk hc0
 clear hr0 hc0
 have HB := Aside0.mk (Below.refl w.heap.size w)
 have H : ((laws_vBig.f l0).bind fun t424 => (if t424 = true then (some true) else ((spec_DrawSearchLoad.f k l0).bind fun bt425 => ((impl_SearchLoad.f k bt425.1 bt425.2.1 bt425.2.2.1 bt425.2.2.2.1 bt425.2.2.2.2).bind fun bt435 => ((spec_SearchLoad.f k bt425.1 bt425.2.1 bt425.2.2.1 bt425.2.2.2.1 bt425.2.2.2.2).bind fun bt437 => ((laws_vCut.f l0 1).bind fun t439 => ((spec_DrawLeastLoad.f k t439).bind fun bt442 => ((impl_LeastLoad.f k bt442.1 bt442.2.1 bt442.2.2.1 bt442.2.2.2).bind fun bt449 => ((spec_LeastLoad.f k bt442.1 bt442.2.1 bt442.2.2.1 bt442.2.2.2).bind fun bt451 => (if bt435.1 = bt437.1 then (if (bt435.2 != bt437.2) = true then (none) else (if bt449.1 = bt451.1 then (if (bt449.2 != bt451.2) = true then (none) else (if bt435.2 = true then ((impl_LeastLoad.f k bt425.1 bt425.2.1 bt425.2.2.1 bt425.2.2.2.2).bind fun bt453 => (if bt453.2 = true then (if bt435.1 < bt453.1 then (none) else (laws_FnLoads.j0 k bt442.2.2.1 bt442.2.2.2 bt449.1 bt449.2 bt442.1 bt442.2.1)) else (none))) else (laws_FnLoads.j0 k bt442.2.2.1 bt442.2.2.2 bt449.1 bt449.2 bt442.1 bt442.2.1))) else (none))) else (none))))))))))) = some r := h
 clear h
 replace H := Option.bind_eq_some_iff.mp H
 obtain ⟨t424, A20, H⟩ := H
 try dsimp only at H
 have A2 := Aside0.mk A20
 clear A20
 by_cases c3 : t424 = true
 ·subst c3
  rw [if_pos rfl] at H
  obtain rfl := Option.some.inj H
  go_enter Try.func4, Try.ntmps4
  go_wp2_with (((refine gate_callee (f := 21) rfl ?_); refine goesL_ (some 27) rfl rfl Try.func21 (by kernel_rfl) rfl #[.slice A0 l0.length c0] rfl (by (try simp only [List.map_toArray, List.map_cons, List.map_nil]); (rfl)) ?_; (refine (laws_vBig.calls _ _ l0 true _ ?side1 ?side2 A2.out).mono ?_); (case side1 => repeat (exact HR0.out)); (case side2 => exact HC0.out); rintro e w' ⟨rfl, ⟨nd, rfl⟩⟩; refine ⟨_, rfl, ?_⟩))
  go_ret
  exact ⟨by (rfl), by repeat ((with_reducible first | exact HB.out | apply pw_below_drewN))⟩
 replace c3 := Bool.eq_false_iff.mpr c3
 subst c3
 rw [if_neg (show ¬ (false = true) by decide)] at H
 replace H := Option.bind_eq_some_iff.mp H
 obtain ⟨⟨t425, t426, t427, t428, t431⟩, A40, H⟩ := H
 try dsimp only at H
 have A4 := Aside0.mk A40
 clear A40
 replace H := Option.bind_eq_some_iff.mp H
 obtain ⟨⟨t435, t436⟩, A50, H⟩ := H
 try dsimp only at H
 have A5 := Aside0.mk A50
 clear A50
 replace H := Option.bind_eq_some_iff.mp H
 obtain ⟨⟨t437, t438⟩, A60, H⟩ := H
 try dsimp only at H
 have A6 := Aside0.mk A60
 clear A60
 replace H := Option.bind_eq_some_iff.mp H
 obtain ⟨t439, A70, H⟩ := H
 try dsimp only at H
 have A7 := Aside0.mk A70
 clear A70
 replace H := Option.bind_eq_some_iff.mp H
 obtain ⟨⟨t442, t443, t444, t445⟩, A80, H⟩ := H
 try dsimp only at H
 have A8 := Aside0.mk A80
 clear A80
 replace H := Option.bind_eq_some_iff.mp H
 obtain ⟨⟨t449, t450⟩, A90, H⟩ := H
 try dsimp only at H
 have A9 := Aside0.mk A90
 clear A90
 replace H := Option.bind_eq_some_iff.mp H
 obtain ⟨⟨t451, t452⟩, A100, H⟩ := H
 try dsimp only at H
 have A10 := Aside0.mk A100
 clear A100
 by_cases c11 : t435 = t437
 rotate_left
 ·rw [if_neg c11] at H
  exact absurd H (by simp)
 rw [if_pos c11] at H
 have c11b0 : (t435 == t437) = true := beq_iff_eq.mpr c11
 have c11b1 : (t435 != t437) = false := bne_eq_false_iff_eq.mpr c11
 clear c11
 by_cases c12 : (t436 != t438) = true
 ·rw [if_pos c12] at H
  exact absurd H (by simp)
 rw [if_neg c12] at H
 have c12b0 : (t436 != t438) = false := by simpa using c12
 (try (have c12b1 : decide (t436 = t438) = true := by simpa using c12))
 (try (have c12b2 : (t436 == t438) = true := by simpa using c12))
 clear c12
 by_cases c13 : t449 = t451
 rotate_left
 ·rw [if_neg c13] at H
  exact absurd H (by simp)
 rw [if_pos c13] at H
 have c13b0 : (t449 == t451) = true := beq_iff_eq.mpr c13
 have c13b1 : (t449 != t451) = false := bne_eq_false_iff_eq.mpr c13
 clear c13
 by_cases c14 : (t450 != t452) = true
 ·rw [if_pos c14] at H
  exact absurd H (by simp)
 rw [if_neg c14] at H
 have c14b0 : (t450 != t452) = false := by simpa using c14
 (try (have c14b1 : decide (t450 = t452) = true := by simpa using c14))
 (try (have c14b2 : (t450 == t452) = true := by simpa using c14))
 clear c14
 have HC15 := Aside0.mk H
 clear H
 go_enter Try.func4, Try.ntmps4
 go_upto_if 90 with (first | ((with_reducible refine gate_callee (f := 21) rfl ?_); refine goesL_ (some 27) rfl rfl Try.func21 (by kernel_rfl) rfl #[.slice A0 l0.length c0] rfl (by (try simp only [List.map_toArray, List.map_cons, List.map_nil]); (rfl)) ?_; (with_reducible refine (laws_vBig.calls _ _ l0 false _ ?side1 ?side2 A2.out).mono ?_); (case side1 => repeat (exact HR0.out)); (case side2 => exact HC0.out); rintro e w' ⟨rfl, ⟨nd, rfl⟩⟩; refine ⟨_, rfl, ?_⟩) | ((with_reducible refine gate_callee (f := 22) rfl ?_); refine goesL_ (some 30) rfl rfl Try.func22 (by kernel_rfl) rfl #[.slice A0 l0.length c0] rfl (by (try simp only [List.map_toArray, List.map_cons, List.map_nil]); (rfl)) ?_; (with_reducible refine (spec_DrawSearchLoad.calls k _ _ l0 t425 t426 t427 t428 t431 _ ?side1 ?side2 A4.out).mono ?_); (case side1 => repeat (exact HR0.out)); (case side2 => exact HC0.out); rintro e w16 ⟨v429, v432, rfl, ho0, ho1, hb⟩; refine ⟨_, rfl, ?_⟩; have n0_ := Aside0.mk (Kd.R_lower ho0 (below_size (by repeat ((with_reducible first | exact HB.out | apply pw_below_drewN))))); have n1_ := Aside0.mk (Kd.R_lower ho1 (below_size (by repeat ((with_reducible first | exact HB.out | apply pw_below_drewN))))); have n2_ := Aside0.mk (below_step (by repeat ((with_reducible first | exact HB.out | apply pw_below_drewN))) hb); clear HB; have HO430 := n0_; have HO433 := n1_; have HB := n2_; clear n0_ n1_ n2_; (try clear hb); (try clear hb2); (try clear hk); (try clear hi); (try clear ho0); (try clear ho1)) | ((with_reducible refine gate_dst (N := 3) rfl ?_); refine box_event ?hg (N := 3) ?hd (cs := #[.int .i64 0, .bool false]) (t := 25) ?hr ?_; (case hd => rfl); (case hg => rfl); (case hr => (go_simp; done)); intro gb434 hg w17 hbox hb; have n0_ := Aside0.mk (Kd.R_below (by (with_reducible repeat (fail)); exact HO430.out) hb); have n1_ := Aside0.mk (Kd.R_below (by (with_reducible repeat (fail)); exact HO433.out) hb); have n2_ := Aside0.mk (below_step (by repeat ((with_reducible (exact HB.out)))) hb); have n3_ := Aside0.mk (hbox); have n4_ := Aside0.mk ((by rw [hg]; exact (below_size (by repeat ((with_reducible (exact HB.out))))) : w.heap.size ≤ gb434)); have n5_ := Aside0.mk ((by rw [hg]; exact (below_size (by repeat ((with_reducible (exact HB.out))))) : w.heap.size ≤ gb434)); clear HO430; clear HO433; clear HB; have HO430 := n0_; have HO433 := n1_; have HB := n2_; have BK434 := n3_; have GW434 := n4_; have GE434 := n5_; clear n0_ n1_ n2_ n3_ n4_ n5_; clear hb hbox hg; have hcz18_0 : w17.cell? ⟨gb434, 0, none⟩ = some (.int .i64 0) := (blk_cell BK434.out 0).trans rfl; have hcz18_1 : w17.cell? ⟨gb434, 1, none⟩ = some (.bool false) := (blk_cell BK434.out 1).trans rfl; have hfz18_0 := blk_frozen BK434.out 0; have hfz18_1 := blk_frozen BK434.out 1; obtain ⟨Ao19, co19, eo19⟩ := Kd.R_slice HO430.out; subst eo19; obtain ⟨Ao20, co20, eo20⟩ := Kd.R_slice HO433.out; subst eo20) | ((with_reducible refine gate_callee (f := 23) rfl ?_); refine goesL_ (some 40) rfl rfl Try.func23 (by kernel_rfl) rfl #[.agg #[.int .i64 t425, .bool t426], .int .i64 t427, .slice Ao19 t428.length co19, .slice Ao20 t431.length co20] rfl (by (try simp only [List.map_toArray, List.map_cons, List.map_nil]); (rfl)) ?_; (with_reducible refine (impl_SearchLoad.calls k t425 t426 t427 _ _ t428 _ _ t431 t435 t436 _ ?side1 ?side2 ?side3 ?side4 A5.out).mono ?_); (case side1 => refine (Kd.R_reads' (e := 3) (base := w.heap.size) (ok := fun k_ => some k_ ≠ (.slice Ao20 t431.length co20 : Value).ownBlock) (n := t428.length) (c := co19) ?_).2.2; exact (by (with_reducible repeat (fail)); exact (Kd.R_mono (Kd.R_far (p := ⟨gb434, 1, none⟩) (Kd.R_far (p := ⟨gb434, 0, none⟩) (Kd.R_types HO430.out BK434.out (by decide)) (fun _ hk => hk.2) (.int .i64 t425)) (fun _ hk => hk.2) (.bool t426)) (fun _ h_ => h_.1)))); (case side2 => exact (Kd.R_reads' HO430.out).2.1); (case side3 => refine (Kd.R_reads' (e := 3) (base := w.heap.size) (ok := fun k_ => some k_ ≠ (.slice Ao19 t428.length co19 : Value).ownBlock) (n := t431.length) (c := co20) ?_).2.2; exact (by (with_reducible repeat (fail)); exact (Kd.R_mono (Kd.R_far (p := ⟨gb434, 1, none⟩) (Kd.R_far (p := ⟨gb434, 0, none⟩) (Kd.R_types HO433.out BK434.out (by decide)) (fun _ hk => hk.2) (.int .i64 t425)) (fun _ hk => hk.2) (.bool t426)) (fun _ h_ => h_.1)))); (case side4 => exact (Kd.R_reads' HO433.out).2.1); rintro e w21 ⟨rfl, hb⟩; refine ⟨_, rfl, ?_⟩; have n0_ := Aside0.mk (Kd.R_below (by (with_reducible repeat (fail)); exact (Kd.R_mono (Kd.R_far (p := ⟨gb434, 1, none⟩) (Kd.R_far (p := ⟨gb434, 0, none⟩) (Kd.R_types HO430.out BK434.out (by decide)) (fun _ hk => hk.2) (.int .i64 t425)) (fun _ hk => hk.2) (.bool t426)) (fun _ h_ => h_.1))) hb); have n1_ := Aside0.mk (Kd.R_below (by (with_reducible repeat (fail)); exact (Kd.R_mono (Kd.R_far (p := ⟨gb434, 1, none⟩) (Kd.R_far (p := ⟨gb434, 0, none⟩) (Kd.R_types HO433.out BK434.out (by decide)) (fun _ hk => hk.2) (.int .i64 t425)) (fun _ hk => hk.2) (.bool t426)) (fun _ h_ => h_.1))) hb); have n2_ := Aside0.mk (blk_below (g := gb434) (o := .cells #[.int .i64 t425, .bool t426] 25 (0, 0)) (by (with_reducible repeat (fail)); refine blk_put (cs := #[.int .i64 t425, .bool false]) ?_ 1 _ rfl; (with_reducible repeat (fail)); refine blk_put (cs := #[.int .i64 0, .bool false]) ?_ 0 _ rfl; (with_reducible repeat (fail)); exact BK434.out) hb); have n3_ := Aside0.mk (below_step (by repeat ((with_reducible first | exact HB.out | refine below_set ?_ GE434.out))) hb); clear HO430; clear HO433; clear BK434; clear HB; have HO430 := n0_; have HO433 := n1_; have BK434 := n2_; have HB := n3_; clear n0_ n1_ n2_ n3_; (try clear hb); (try clear hb2); (try clear hk); (try clear hi); have hcz22_0 : w21.cell? ⟨gb434, 0, none⟩ = some (.int .i64 t425) := (blk_cell BK434.out 0).trans rfl; have hcz22_1 : w21.cell? ⟨gb434, 1, none⟩ = some (.bool t426) := (blk_cell BK434.out 1).trans rfl; have hfz22_0 := blk_frozen BK434.out 0; have hfz22_1 := blk_frozen BK434.out 1) | ((with_reducible refine gate_callee (f := 24) rfl ?_); refine goesL_ (some 48) rfl rfl Try.func24 (by kernel_rfl) rfl #[.agg #[.int .i64 t425, .bool t426], .int .i64 t427, .slice Ao19 t428.length co19, .slice Ao20 t431.length co20] rfl (by (try simp only [List.map_toArray, List.map_cons, List.map_nil]); (rfl)) ?_; (with_reducible refine (spec_SearchLoad.calls k t425 t426 t427 _ _ t428 _ _ t431 t437 t438 _ ?side1 ?side2 ?side3 ?side4 A6.out).mono ?_); (case side1 => repeat (exact (Kd.R_reads' HO430.out).2.2)); (case side2 => exact (Kd.R_reads' HO430.out).2.1); (case side3 => repeat (exact (Kd.R_reads' HO433.out).2.2)); (case side4 => exact (Kd.R_reads' HO433.out).2.1); rintro e w23 ⟨rfl, hb⟩; refine ⟨_, rfl, ?_⟩; have n0_ := Aside0.mk (Kd.R_below (by (with_reducible repeat (fail)); exact HO430.out) hb); have n1_ := Aside0.mk (Kd.R_below (by (with_reducible repeat (fail)); exact HO433.out) hb); have n2_ := Aside0.mk (blk_below (g := gb434) (o := .cells #[.int .i64 t425, .bool t426] 25 (0, 0)) (by (with_reducible repeat (fail)); exact BK434.out) hb); have n3_ := Aside0.mk (below_step (by repeat ((with_reducible (exact HB.out)))) hb); clear HO430; clear HO433; clear BK434; clear HB; have HO430 := n0_; have HO433 := n1_; have BK434 := n2_; have HB := n3_; clear n0_ n1_ n2_ n3_; (try clear hb); (try clear hb2); (try clear hk); (try clear hi)) | ((with_reducible refine gate_callee (f := 26) rfl ?_); refine goesL_ (some 53) rfl rfl Try.func26 (by kernel_rfl) rfl #[.slice A0 l0.length c0, .int .i64 1] rfl (by (try simp only [List.map_toArray, List.map_cons, List.map_nil]); (rfl)) ?_; (with_reducible refine (laws_vCut.calls _ _ l0 1 t439 _ ?side1 ?side2 A7.out).mono ?_); (case side1 => repeat (exact (Kd.C_below HR0.out HB.out))); (case side2 => exact HC0.out); rintro e w24 ⟨v440, rfl, ho0, hb⟩; refine ⟨_, rfl, ?_⟩; have n0_ := Aside0.mk (Kd.R_below (by (with_reducible repeat (fail)); exact HO430.out) hb); have n1_ := Aside0.mk (Kd.R_below (by (with_reducible repeat (fail)); exact HO433.out) hb); have n2_ := Aside0.mk (Kd.R_lower ho0 (below_size (by repeat ((with_reducible (exact HB.out)))))); have n3_ := Aside0.mk (blk_below (g := gb434) (o := .cells #[.int .i64 t425, .bool t426] 25 (0, 0)) (by (with_reducible repeat (fail)); exact BK434.out) hb); have n4_ := Aside0.mk (below_step (by repeat ((with_reducible (exact HB.out)))) hb); clear HO430; clear HO433; clear BK434; clear HB; have HO430 := n0_; have HO433 := n1_; have HO441 := n2_; have BK434 := n3_; have HB := n4_; clear n0_ n1_ n2_ n3_ n4_; (try clear hb); (try clear hb2); (try clear hk); (try clear hi); (try clear ho0); obtain ⟨Ao25, co25, eo25⟩ := Kd.R_slice HO441.out; subst eo25) | ((with_reducible refine gate_callee (f := 25) rfl ?_); refine goesL_ (some 54) rfl rfl Try.func25 (by kernel_rfl) rfl #[.slice Ao25 t439.length co25] rfl (by (try simp only [List.map_toArray, List.map_cons, List.map_nil]); (rfl)) ?_; (with_reducible refine (spec_DrawLeastLoad.calls k _ _ t439 t442 t443 t444 t445 _ ?side1 ?side2 A8.out).mono ?_); (case side1 => repeat (exact (Kd.R_reads' HO441.out).2.2)); (case side2 => exact (Kd.R_reads' HO441.out).2.1); rintro e w26 ⟨v446, rfl, ho0, hb⟩; refine ⟨_, rfl, ?_⟩; have n0_ := Aside0.mk (Kd.R_elder' (by (with_reducible repeat (fail)); exact HO430.out) (Kd.R_base ho0) hb); have n1_ := Aside0.mk (Kd.R_elder' (by (with_reducible repeat (fail)); exact HO433.out) (Kd.R_base ho0) hb); have n2_ := Aside0.mk (Kd.R_below (by (with_reducible repeat (fail)); exact HO441.out) hb); have n3_ := Aside0.mk (Kd.R_lower (Kd.R_new' (Kd.R_new' ho0 (Kd.R_lt (by (with_reducible repeat (fail)); exact HO430.out))) (Kd.R_lt (by (with_reducible repeat (fail)); exact HO433.out))) (below_size (by repeat ((with_reducible (exact HB.out)))))); have n4_ := Aside0.mk (blk_below (g := gb434) (o := .cells #[.int .i64 t425, .bool t426] 25 (0, 0)) (by (with_reducible repeat (fail)); exact BK434.out) hb); have n5_ := Aside0.mk (below_step (by repeat ((with_reducible (exact HB.out)))) hb); clear HO430; clear HO433; clear HO441; clear BK434; clear HB; have HO430 := n0_; have HO433 := n1_; have HO441 := n2_; have HO447 := n3_; have BK434 := n4_; have HB := n5_; clear n0_ n1_ n2_ n3_ n4_ n5_; (try clear hb); (try clear hb2); (try clear hk); (try clear hi); (try clear ho0)) | ((with_reducible refine gate_dst (N := 11) rfl ?_); refine box_event ?hg (N := 11) ?hd (cs := #[.int .i64 0, .bool false]) (t := 25) ?hr ?_; (case hd => rfl); (case hg => rfl); (case hr => (go_simp; done)); intro gb448 hg w27 hbox hb; have n0_ := Aside0.mk (Kd.R_below (by (with_reducible repeat (fail)); exact HO430.out) hb); have n1_ := Aside0.mk (Kd.R_below (by (with_reducible repeat (fail)); exact HO433.out) hb); have n2_ := Aside0.mk (Kd.R_below (by (with_reducible repeat (fail)); exact HO441.out) hb); have n3_ := Aside0.mk (Kd.R_below (by (with_reducible repeat (fail)); exact HO447.out) hb); have n4_ := Aside0.mk (blk_below (g := gb434) (o := .cells #[.int .i64 t425, .bool t426] 25 (0, 0)) (by (with_reducible repeat (fail)); exact BK434.out) hb); have n5_ := Aside0.mk (below_step (by repeat ((with_reducible (exact HB.out)))) hb); have n6_ := Aside0.mk (hbox); have n7_ := Aside0.mk ((by rw [hg]; exact (below_size (by repeat ((with_reducible (exact HB.out))))) : w.heap.size ≤ gb448)); have n8_ := Aside0.mk ((by rw [hg]; exact (below_size (by repeat ((with_reducible (exact HB.out))))) : w.heap.size ≤ gb448)); have n9_ := Aside0.mk ((by rw [hg]; exact Nat.ne_of_lt (blk_lt (g := gb434) (o := .cells #[.int .i64 t425, .bool t426] 25 (0, 0)) (by (with_reducible repeat (fail)); exact BK434.out)) : gb434 ≠ gb448)); have n10_ := Aside0.mk ((by rw [hg]; exact Nat.ne_of_gt (blk_lt (g := gb434) (o := .cells #[.int .i64 t425, .bool t426] 25 (0, 0)) (by (with_reducible repeat (fail)); exact BK434.out)) : gb448 ≠ gb434)); clear HO430; clear HO433; clear HO441; clear HO447; clear BK434; clear HB; have HO430 := n0_; have HO433 := n1_; have HO441 := n2_; have HO447 := n3_; have BK434 := n4_; have HB := n5_; have BK448 := n6_; have GW448 := n7_; have GE448 := n8_; have NB434_448 := n9_; have NB448_434 := n10_; clear n0_ n1_ n2_ n3_ n4_ n5_ n6_ n7_ n8_ n9_ n10_; clear hb hbox hg; have hnb28 := NB448_434.out; have hnc28 := NB434_448.out; have hcz29_0 : w27.cell? ⟨gb448, 0, none⟩ = some (.int .i64 0) := (blk_cell BK448.out 0).trans rfl; have hcz29_1 : w27.cell? ⟨gb448, 1, none⟩ = some (.bool false) := (blk_cell BK448.out 1).trans rfl; have hfz29_0 := blk_frozen BK448.out 0; have hfz29_1 := blk_frozen BK448.out 1; obtain ⟨Ao30, co30, eo30⟩ := Kd.R_slice HO447.out; subst eo30) | ((with_reducible refine gate_callee (f := 27) rfl ?_); refine goesL_ (some 62) rfl rfl Try.func27 (by kernel_rfl) rfl #[.agg #[.int .i64 t442, .bool t443], .int .i64 t444, .slice Ao30 t445.length co30] rfl (by (try simp only [List.map_toArray, List.map_cons, List.map_nil]); (rfl)) ?_; (with_reducible refine (impl_LeastLoad.calls k t442 t443 t444 _ _ t445 t449 t450 _ ?side1 ?side2 A9.out).mono ?_); (case side1 => refine (Kd.R_reads' (e := 3) (base := w.heap.size) (ok := fun k_ => ((True ∧ some k_ ≠ (.slice Ao19 t428.length co19 : Value).ownBlock) ∧ some k_ ≠ (.slice Ao20 t431.length co20 : Value).ownBlock)) (n := t445.length) (c := co30) ?_).2.2; exact (by (with_reducible repeat (fail)); exact (Kd.R_mono (Kd.R_far (p := ⟨gb448, 1, none⟩) (Kd.R_far (p := ⟨gb448, 0, none⟩) (Kd.R_types HO447.out BK448.out (by decide)) (fun _ hk => hk.2) (.int .i64 t442)) (fun _ hk => hk.2) (.bool t443)) (fun _ h_ => h_.1)))); (case side2 => exact (Kd.R_reads' HO447.out).2.1); rintro e w31 ⟨rfl, hb⟩; refine ⟨_, rfl, ?_⟩; have n0_ := Aside0.mk (Kd.R_below (by (with_reducible repeat (fail)); exact (Kd.R_mono (Kd.R_far (p := ⟨gb448, 1, none⟩) (Kd.R_far (p := ⟨gb448, 0, none⟩) (Kd.R_types HO430.out BK448.out (by decide)) (fun _ hk => hk.2) (.int .i64 t442)) (fun _ hk => hk.2) (.bool t443)) (fun _ h_ => h_.1))) hb); have n1_ := Aside0.mk (Kd.R_below (by (with_reducible repeat (fail)); exact (Kd.R_mono (Kd.R_far (p := ⟨gb448, 1, none⟩) (Kd.R_far (p := ⟨gb448, 0, none⟩) (Kd.R_types HO433.out BK448.out (by decide)) (fun _ hk => hk.2) (.int .i64 t442)) (fun _ hk => hk.2) (.bool t443)) (fun _ h_ => h_.1))) hb); have n2_ := Aside0.mk (Kd.R_below (by (with_reducible repeat (fail)); exact (Kd.R_mono (Kd.R_far (p := ⟨gb448, 1, none⟩) (Kd.R_far (p := ⟨gb448, 0, none⟩) (Kd.R_types HO441.out BK448.out (by decide)) (fun _ hk => hk.2) (.int .i64 t442)) (fun _ hk => hk.2) (.bool t443)) (fun _ h_ => h_.1))) hb); have n3_ := Aside0.mk (Kd.R_below (by (with_reducible repeat (fail)); exact (Kd.R_mono (Kd.R_far (p := ⟨gb448, 1, none⟩) (Kd.R_far (p := ⟨gb448, 0, none⟩) (Kd.R_types HO447.out BK448.out (by decide)) (fun _ hk => hk.2) (.int .i64 t442)) (fun _ hk => hk.2) (.bool t443)) (fun _ h_ => h_.1))) hb); have n4_ := Aside0.mk (blk_below (g := gb434) (o := .cells #[.int .i64 t425, .bool t426] 25 (0, 0)) (by (with_reducible repeat (fail)); refine blk_far ?_ NB434_448.out _; (with_reducible repeat (fail)); refine blk_far ?_ NB434_448.out _; (with_reducible repeat (fail)); exact BK434.out) hb); have n5_ := Aside0.mk (blk_below (g := gb448) (o := .cells #[.int .i64 t442, .bool t443] 25 (0, 0)) (by (with_reducible repeat (fail)); refine blk_put (cs := #[.int .i64 t442, .bool false]) ?_ 1 _ rfl; (with_reducible repeat (fail)); refine blk_put (cs := #[.int .i64 0, .bool false]) ?_ 0 _ rfl; (with_reducible repeat (fail)); exact BK448.out) hb); have n6_ := Aside0.mk (below_step (by repeat ((with_reducible first | exact HB.out | refine below_set ?_ GE448.out))) hb); clear HO430; clear HO433; clear HO441; clear HO447; clear BK434; clear BK448; clear HB; have HO430 := n0_; have HO433 := n1_; have HO441 := n2_; have HO447 := n3_; have BK434 := n4_; have BK448 := n5_; have HB := n6_; clear n0_ n1_ n2_ n3_ n4_ n5_ n6_; (try clear hb); (try clear hb2); (try clear hk); (try clear hi); have hcz32_0 : w31.cell? ⟨gb448, 0, none⟩ = some (.int .i64 t442) := (blk_cell BK448.out 0).trans rfl; have hcz32_1 : w31.cell? ⟨gb448, 1, none⟩ = some (.bool t443) := (blk_cell BK448.out 1).trans rfl; have hfz32_0 := blk_frozen BK448.out 0; have hfz32_1 := blk_frozen BK448.out 1) | ((with_reducible refine gate_callee (f := 28) rfl ?_); refine goesL_ (some 69) rfl rfl Try.func28 (by kernel_rfl) rfl #[.agg #[.int .i64 t442, .bool t443], .int .i64 t444, .slice Ao30 t445.length co30] rfl (by (try simp only [List.map_toArray, List.map_cons, List.map_nil]); (rfl)) ?_; (with_reducible refine (spec_LeastLoad.calls k t442 t443 t444 _ _ t445 t451 t452 _ ?side1 ?side2 A10.out).mono ?_); (case side1 => repeat (exact (Kd.R_reads' HO447.out).2.2)); (case side2 => exact (Kd.R_reads' HO447.out).2.1); rintro e w33 ⟨rfl, hb⟩; refine ⟨_, rfl, ?_⟩; have n0_ := Aside0.mk (Kd.R_below (by (with_reducible repeat (fail)); exact HO430.out) hb); have n1_ := Aside0.mk (Kd.R_below (by (with_reducible repeat (fail)); exact HO433.out) hb); have n2_ := Aside0.mk (Kd.R_below (by (with_reducible repeat (fail)); exact HO441.out) hb); have n3_ := Aside0.mk (Kd.R_below (by (with_reducible repeat (fail)); exact HO447.out) hb); have n4_ := Aside0.mk (blk_below (g := gb434) (o := .cells #[.int .i64 t425, .bool t426] 25 (0, 0)) (by (with_reducible repeat (fail)); exact BK434.out) hb); have n5_ := Aside0.mk (blk_below (g := gb448) (o := .cells #[.int .i64 t442, .bool t443] 25 (0, 0)) (by (with_reducible repeat (fail)); exact BK448.out) hb); have n6_ := Aside0.mk (below_step (by repeat ((with_reducible (exact HB.out)))) hb); clear HO430; clear HO433; clear HO441; clear HO447; clear BK434; clear BK448; clear HB; have HO430 := n0_; have HO433 := n1_; have HO441 := n2_; have HO447 := n3_; have BK434 := n4_; have BK448 := n5_; have HB := n6_; clear n0_ n1_ n2_ n3_ n4_ n5_ n6_; (try clear hb); (try clear hb2); (try clear hk); (try clear hi)))
 (try simp only [Act.put, List.setIfInBounds_toArray, List.set_cons_zero, List.set_cons_succ])
 go_cut [] (fun wc => ∃ (kq : Nat), Aside0 (laws_FnLoads.j0 kq t444 t445 t449 t450 t442 t443 = some r) ∧ Aside0 (kq ≤ k) ∧ Aside0 (Kd.R (Kd.int .i64) 3 wc w.heap.size (fun _ => True) (.slice Ao30 t445.length co30) t445) ∧ Aside0 (wc.heap[gb434]? = some (.cells #[.int .i64 t425, .bool t426] 25 (0, 0))) ∧ Aside0 (wc.heap[gb448]? = some (.cells #[.int .i64 t442, .bool t443] 25 (0, 0))) ∧ Aside0 (Below w.heap.size w wc))
 case first =>
  have H := HC15.out
  clear HC15
  by_cases c34 : t436 = true
  rotate_left
  ·replace c34 := Bool.eq_false_iff.mpr c34
   subst c34
   rw [if_neg (show ¬ (false = true) by decide)] at H
   have H' := Aside0.mk H
   clear H
   go_wp2
   go_meet
   case rel => exact ⟨_, H', ⟨by (omega)⟩, ⟨by (with_reducible repeat (fail)); exact Kd.R_mono HO447.out (fun _ hk => trivial)⟩, ⟨by (with_reducible repeat (fail)); exact BK434.out⟩, ⟨by (with_reducible repeat (fail)); exact BK448.out⟩, ⟨by repeat ((with_reducible (exact HB.out)))⟩⟩
  subst c34
  rw [if_pos rfl] at H
  replace H := Option.bind_eq_some_iff.mp H
  obtain ⟨⟨t453, t454⟩, A350, H⟩ := H
  try dsimp only at H
  have A35 := Aside0.mk A350
  clear A350
  by_cases c36 : t454 = true
  rotate_left
  ·replace c36 := Bool.eq_false_iff.mpr c36
   subst c36
   rw [if_neg (show ¬ (false = true) by decide)] at H
   exact absurd H (by simp)
  subst c36
  rw [if_pos rfl] at H
  by_cases c37 : t435 < t453
  ·rw [if_pos c37] at H
   exact absurd H (by simp)
  rw [if_neg c37] at H
  have c37b0 : decide (t435 < t453) = false := decide_eq_false c37
  clear c37
  ((skip))
  have H' := Aside0.mk H
  clear H
  have hnb38 := NB434_448.out
  have hnc38 := NB448_434.out
  have hcz39_0 : w33.cell? ⟨gb434, 0, none⟩ = some (.int .i64 t425) := (blk_cell BK434.out 0).trans rfl
  have hcz39_1 : w33.cell? ⟨gb434, 1, none⟩ = some (.bool t426) := (blk_cell BK434.out 1).trans rfl
  have hfz39_0 := blk_frozen BK434.out 0
  have hfz39_1 := blk_frozen BK434.out 1
  go_wp2_with (((refine gate_callee (f := 27) rfl ?_); refine goesL_ (some 95) rfl rfl Try.func27 (by kernel_rfl) rfl #[.agg #[.int .i64 t425, .bool t426], .int .i64 t427, .slice Ao20 t431.length co20] rfl (by (try simp only [List.map_toArray, List.map_cons, List.map_nil]); (rfl)) ?_; (refine (impl_LeastLoad.calls k t425 t426 t427 _ _ t431 t453 true _ ?side1 ?side2 A35.out).mono ?_); (case side1 => repeat (exact (Kd.R_reads' HO433.out).2.2)); (case side2 => exact (Kd.R_reads' HO433.out).2.1); rintro e w40 ⟨rfl, hb⟩; refine ⟨_, rfl, ?_⟩; have n0_ := Aside0.mk (Kd.R_below (by (with_reducible repeat (fail)); exact HO430.out) hb); have n1_ := Aside0.mk (Kd.R_below (by (with_reducible repeat (fail)); exact HO433.out) hb); have n2_ := Aside0.mk (Kd.R_below (by (with_reducible repeat (fail)); exact HO441.out) hb); have n3_ := Aside0.mk (Kd.R_below (by (with_reducible repeat (fail)); exact HO447.out) hb); have n4_ := Aside0.mk (blk_below (g := gb434) (o := .cells #[.int .i64 t425, .bool t426] 25 (0, 0)) (by (with_reducible repeat (fail)); exact BK434.out) hb); have n5_ := Aside0.mk (blk_below (g := gb448) (o := .cells #[.int .i64 t442, .bool t443] 25 (0, 0)) (by (with_reducible repeat (fail)); exact BK448.out) hb); have n6_ := Aside0.mk (below_step (by repeat ((with_reducible (exact HB.out)))) hb); clear HO430; clear HO433; clear HO441; clear HO447; clear BK434; clear BK448; clear HB; have HO430 := n0_; have HO433 := n1_; have HO441 := n2_; have HO447 := n3_; have BK434 := n4_; have BK448 := n5_; have HB := n6_; clear n0_ n1_ n2_ n3_ n4_ n5_ n6_; (try clear hb); (try clear hb2); (try clear hk); (try clear hi)))
  go_meet
  case rel => exact ⟨_, H', ⟨by (omega)⟩, ⟨by (with_reducible repeat (fail)); exact Kd.R_mono HO447.out (fun _ hk => trivial)⟩, ⟨by (with_reducible repeat (fail)); exact BK434.out⟩, ⟨by (with_reducible repeat (fail)); exact BK448.out⟩, ⟨by repeat ((with_reducible (exact HB.out)))⟩⟩
 case rest =>
  clear HC15
  (try clear c1); (try clear c2); (try clear p2); (try clear c3); (try clear c4); (try clear c11); (try clear c11b0); (try clear c11b1); (try clear c12); (try clear c12b0); (try clear c12b1); (try clear c12b2); (try clear c13); (try clear c13b0); (try clear c13b1); (try clear c14); (try clear c14b0)
  (try clear c14b1); (try clear c14b2); (try clear c21); (try clear c22); (try clear c23); (try clear c24); (try clear c25); (try clear c26); (try clear c27); (try clear c28); (try clear c34); (try clear c36); (try clear c37); (try clear c37b0); (try clear c38); (try clear hcz18_0); (try clear hcz18_1)
  (try clear hcz22_0); (try clear hcz22_1); (try clear hcz29_0); (try clear hcz29_1); (try clear hcz32_0); (try clear hcz32_1); (try clear hcz39_0); (try clear hcz39_1); (try clear hfz18_0); (try clear hfz18_1); (try clear hfz22_0); (try clear hfz22_1); (try clear hfz29_0); (try clear hfz29_1); (try clear hfz32_0)
  (try clear hfz32_1); (try clear hfz39_0); (try clear hfz39_1)
  obtain ⟨kq, HA, HJ14, HO_13, BK434, BK448, HB⟩ := hcut
  cases kq with
  | zero => exact absurd HA.out (by simp [laws_FnLoads.j0])
  | succ kj14 =>
   have H := HA.out
   clear HA
   simp only [laws_FnLoads.j0] at H
   by_cases c41 : t450 = true
   rotate_left
   ·replace c41 := Bool.eq_false_iff.mpr c41
    subst c41
    rw [if_neg (show ¬ (false = true) by decide)] at H
    obtain rfl := Option.some.inj H
    go_wp2
    go_ret
    exact ⟨by (rfl), by repeat ((with_reducible (exact HB.out)))⟩
   subst c41
   rw [if_pos rfl] at H
   replace H := Option.bind_eq_some_iff.mp H
   obtain ⟨⟨t455, t458⟩, A420, H⟩ := H
   try dsimp only at H
   have A42 := Aside0.mk A420
   clear A420
   by_cases c43 : t458 = true
   rotate_left
   ·replace c43 := Bool.eq_false_iff.mpr c43
    subst c43
    rw [if_neg (show ¬ (false = true) by decide)] at H
    obtain rfl := Option.some.inj H
    have hnb60 := NB448_434.out
    have hnc60 := NB434_448.out
    have hcz61_0 : wc.cell? ⟨gb448, 0, none⟩ = some (.int .i64 t442) := (blk_cell BK448.out 0).trans rfl
    have hcz61_1 : wc.cell? ⟨gb448, 1, none⟩ = some (.bool t443) := (blk_cell BK448.out 1).trans rfl
    have hfz61_0 := blk_frozen BK448.out 0
    have hfz61_1 := blk_frozen BK448.out 1
    go_wp2_with (((refine gate_callee (f := 29) rfl ?_); refine goesL_ (some 110) rfl rfl Try.func29 (by kernel_rfl) rfl #[.agg #[.int .i64 t442, .bool t443], .int .i64 t444] rfl (by (try simp only [List.map_toArray, List.map_cons, List.map_nil]); (rfl)) ?_; (refine (impl_AllSearches.calls kj14 t442 t443 t444 t455 false _ A42.out).mono ?_); rintro e w62 ⟨v456, rfl, ho0, hb⟩; refine ⟨_, rfl, ?_⟩; have n0_ := Aside0.mk (Kd.R_below (by (with_reducible repeat (fail)); exact HO_13.out) hb); have n1_ := Aside0.mk (Kd.S_lower (Kd.S_new' ho0 (Kd.R_lt (by (with_reducible repeat (fail)); exact HO_13.out))) (below_size (by repeat ((with_reducible (exact HB.out)))))); have n2_ := Aside0.mk (blk_below (g := gb434) (o := .cells #[.int .i64 t425, .bool t426] 25 (0, 0)) (by (with_reducible repeat (fail)); exact BK434.out) hb); have n3_ := Aside0.mk (blk_below (g := gb448) (o := .cells #[.int .i64 t442, .bool t443] 25 (0, 0)) (by (with_reducible repeat (fail)); exact BK448.out) hb); have n4_ := Aside0.mk (below_step (by repeat ((with_reducible (exact HB.out)))) hb); clear HO_13; clear BK434; clear BK448; clear HB; have HO_13 := n0_; have HO457 := n1_; have BK434 := n2_; have BK448 := n3_; have HB := n4_; clear n0_ n1_ n2_ n3_ n4_; (try clear hb); (try clear hb2); (try clear hk); (try clear hi); (try clear ho0)))
    go_ret
    exact ⟨by (rfl), by repeat ((with_reducible (exact HB.out)))⟩
   subst c43
   rw [if_pos rfl] at H
   have H' := Aside0.mk H
   clear H
   have hnb44 := NB448_434.out
   have hnc44 := NB434_448.out
   have hcz45_0 : wc.cell? ⟨gb448, 0, none⟩ = some (.int .i64 t442) := (blk_cell BK448.out 0).trans rfl
   have hcz45_1 : wc.cell? ⟨gb448, 1, none⟩ = some (.bool t443) := (blk_cell BK448.out 1).trans rfl
   have hfz45_0 := blk_frozen BK448.out 0
   have hfz45_1 := blk_frozen BK448.out 1
   go_wp2_with (((refine gate_callee (f := 29) rfl ?_); refine goesL_ (some 110) rfl rfl Try.func29 (by kernel_rfl) rfl #[.agg #[.int .i64 t442, .bool t443], .int .i64 t444] rfl (by (try simp only [List.map_toArray, List.map_cons, List.map_nil]); (rfl)) ?_; (refine (impl_AllSearches.calls kj14 t442 t443 t444 t455 true _ A42.out).mono ?_); rintro e w46 ⟨v456, rfl, ho0, hb⟩; refine ⟨_, rfl, ?_⟩; have n0_ := Aside0.mk (Kd.R_below (by (with_reducible repeat (fail)); exact HO_13.out) hb); have n1_ := Aside0.mk (Kd.S_lower (Kd.S_new' ho0 (Kd.R_lt (by (with_reducible repeat (fail)); exact HO_13.out))) (below_size (by repeat ((with_reducible (exact HB.out)))))); have n2_ := Aside0.mk (blk_below (g := gb434) (o := .cells #[.int .i64 t425, .bool t426] 25 (0, 0)) (by (with_reducible repeat (fail)); exact BK434.out) hb); have n3_ := Aside0.mk (blk_below (g := gb448) (o := .cells #[.int .i64 t442, .bool t443] 25 (0, 0)) (by (with_reducible repeat (fail)); exact BK448.out) hb); have n4_ := Aside0.mk (below_step (by repeat ((with_reducible (exact HB.out)))) hb); clear HO_13; clear BK434; clear BK448; clear HB; have HO_13 := n0_; have HO457 := n1_; have BK434 := n2_; have BK448 := n3_; have HB := n4_; clear n0_ n1_ n2_ n3_ n4_; (try clear hb); (try clear hb2); (try clear hk); (try clear hi); (try clear ho0)))
   go_loopg [22, 23] kj14 (fun kq v22 v23 w' => ∃ (x22_2 : Bool) (x23_2 : Int), v22 = .bool x22_2 ∧ v23 = .int .i64 x23_2 ∧ Aside0 (laws_FnLoads.l0 kq t444 t445 t449 t455 x22_2 x23_2 t442 t443 = some r) ∧ Aside0 (kq ≤ kj14) ∧ Aside0 (Kd.R (Kd.int .i64) 3 w' w.heap.size (fun _ => True) (.slice Ao30 t445.length co30) t445) ∧ Aside0 (Kd.S (Kd.slice 3 (Kd.int .i64)) 30 w' w.heap.size (fun k_ => some k_ ≠ ((.slice Ao30 t445.length co30) : Value).ownBlock) v456 t455) ∧ Aside0 (w'.heap[gb434]? = some (.cells #[.int .i64 t425, .bool t426] 25 (0, 0))) ∧ Aside0 (w'.heap[gb448]? = some (.cells #[.int .i64 t442, .bool t443] 25 (0, 0))) ∧ Aside0 (Below w.heap.size w w'))
   case atStart => exact ⟨(false), (0), (by (rfl)), (by (rfl)), H', ⟨Nat.le_refl _⟩, ⟨by (with_reducible repeat (fail)); exact HO_13.out⟩, ⟨by (with_reducible repeat (fail)); exact Kd.S_mono HO457.out (fun _ hk => hk.2)⟩, ⟨by (with_reducible repeat (fail)); exact BK434.out⟩, ⟨by (with_reducible repeat (fail)); exact BK448.out⟩, ⟨by repeat ((with_reducible (exact HB.out)))⟩⟩
   case round =>
    clear H'
    (try clear c1); (try clear c2); (try clear p2); (try clear c3); (try clear c4); (try clear c11); (try clear c11b0); (try clear c11b1); (try clear c12); (try clear c12b0); (try clear c12b1); (try clear c12b2); (try clear c13); (try clear c13b0); (try clear c13b1); (try clear c14); (try clear c14b0)
    (try clear c14b1); (try clear c14b2); (try clear c21); (try clear c22); (try clear c23); (try clear c24); (try clear c25); (try clear c26); (try clear c27); (try clear c28); (try clear c29); (try clear c34); (try clear c36); (try clear c37); (try clear c37b0); (try clear c38); (try clear c41)
    (try clear c43); (try clear c44); (try clear hcz18_0); (try clear hcz18_1); (try clear hcz22_0); (try clear hcz22_1); (try clear hcz29_0); (try clear hcz29_1); (try clear hcz32_0); (try clear hcz32_1); (try clear hcz39_0); (try clear hcz39_1); (try clear hcz45_0); (try clear hcz45_1); (try clear hfz18_0)
    (try clear hfz18_1); (try clear hfz22_0); (try clear hfz22_1); (try clear hfz29_0); (try clear hfz29_1); (try clear hfz32_0); (try clear hfz32_1); (try clear hfz39_0); (try clear hfz39_1); (try clear hfz45_0); (try clear hfz45_1); (try clear p2)
    obtain ⟨x22_2, x23_2, rfl, rfl, HA, HK2, HO_13, HO_20, BK434, BK448, HB⟩ := hrel
    cases gk with
    | zero => exact absurd HA.out (by simp [laws_FnLoads.l0])
    | succ k2 =>
     have H := HA.out
     clear HA
     simp only [laws_FnLoads.l0] at H
     by_cases c47 : x23_2 < (t455.length : Int)
     rotate_left
     ·rw [if_neg c47] at H
      have c47b0 : decide (x23_2 < (t455.length : Int)) = false := decide_eq_false c47
      clear c47
      obtain rfl := Option.some.inj H
      obtain ⟨Ao59, co59, eo59⟩ := Kd.S_slice HO_20.out
      subst eo59
      go_wp2
      go_ret
      exact ⟨by (rfl), by repeat ((with_reducible (exact HB.out)))⟩
     rw [if_pos c47] at H
     have c47b0 : decide (x23_2 < (t455.length : Int)) = true := decide_eq_true c47
     clear c47
     by_cases c48 : 0 ≤ x23_2
     rotate_left
     ·rw [if_neg c48] at H
      exact absurd H (by simp)
     rw [if_pos c48] at H
     have c48b0 : decide (0 ≤ x23_2) = true := decide_eq_true c48
     clear c48
     replace H := Option.bind_eq_some_iff.mp H
     obtain ⟨⟨t460, t461⟩, A490, H⟩ := H
     try dsimp only at H
     have A49 := Aside0.mk A490
     clear A490
     by_cases c50 : t461 = true
     rotate_left
     ·replace c50 := Bool.eq_false_iff.mpr c50
      subst c50
      rw [if_neg (show ¬ (false = true) by decide)] at H
      exact absurd H (by simp)
     subst c50
     rw [if_pos rfl] at H
     by_cases c51 : t460 < t449
     ·rw [if_pos c51] at H
      exact absurd H (by simp)
     rw [if_neg c51] at H
     have c51b0 : decide (t460 < t449) = false := decide_eq_false c51
     clear c51
     by_cases c52 : x22_2 = true
     ·subst c52
      rw [if_pos rfl] at H
      have H' := Aside0.mk H
      clear H
      obtain ⟨Ao53, co53, eo53⟩ := Kd.S_slice HO_20.out
      subst eo53
      try go_wp2
      have n0_ := Aside0.mk (Kd.R_drew HO_13.out)
      have n1_ := Aside0.mk (Kd.S_drew HO_20.out)
      have n2_ := Aside0.mk (blk_drew BK434.out)
      have n3_ := Aside0.mk (blk_drew BK448.out)
      have n4_ := Aside0.mk (below_drew1 HB.out)
      clear HO_13
      clear HO_20
      clear BK434
      clear BK448
      clear HB
      have HO_13 := n0_
      have HO_20 := n1_
      have BK434 := n2_
      have BK448 := n3_
      have HB := n4_
      clear n0_ n1_ n2_ n3_ n4_
      have p459 : 0 ≤ (x23_2 : Int) := of_decide_eq_true (by (assumption))
      have q459 : x23_2 < (t455.length : Int) := of_decide_eq_true (by (assumption))
      obtain ⟨ad459, A459_0, c459_0, e459, hx459_0, hl459_0, hi459_0⟩ := at_L5 (Kd.S_reads' HO_20.out).2.2 x23_2 p459 q459
      cases e459
      obtain ⟨ce459, hce459, hMe459, hcc459⟩ := Kd.S_get HO_20.out [] x23_2 p459 (by (exact q459))
      obtain ⟨ve459_0, rfl, ge459_0⟩ := hMe459
      have hv459_0 := hcc459 0 _ rfl
      rw [Nat.add_zero, show ((Kd.slice 3 (Kd.int .i64))).sz = 1 from rfl, Nat.mul_one] at hv459_0
      replace hv459_0 := Option.some.inj (hv459_0.symm.trans hx459_0)
      rw [hv459_0] at ge459_0
      have HL459_0 := Aside0.mk (show Kd.R (Kd.int .i64) 3 _ _ _ _ (rd_L5 t455 x23_2) from ge459_0)
      clear hv459_0 ge459_0
      clear hcc459 hce459
      have HR459_0 := Aside0.mk hi459_0
      have HC459_0 := Aside0.mk hl459_0
      clear hi459_0 hl459_0
      replace p459 := eq_true p459
      replace q459 := eq_true q459
      refine start_ (n := 13) (S := fun w' => w'.cell? ⟨gb448, 0, none⟩ = some (.int .i64 t442) ∧ w'.cell? ⟨gb448, 1, none⟩ = some (.bool t443) ∧ w'.cell? (ad459.add (x23_2).toNat) = some (.slice A459_0 (rd_L5 t455 x23_2).length c459_0)) (ds := []) #[N_,N_,N_,N_,N_,N_,N_,N_,N_,N_,N_,N_,N_] (by kernel_rfl) rfl rfl ⟨(blk_cell BK448.out 0).trans rfl, (blk_cell BK448.out 1).trans rfl, hx459_0⟩ (fun hHeld => ?_); refine with_tabW laws_FnLoads.tab24 laws_FnLoads.bits24 (fun HT_ HW_ => ?_)
      generalize wr.drew = w54 at HO_13 HO_20 BK434 BK448 HB HL459_0 HR459_0 hx459_0 hHeld ⊢
      refine pure_ (i := 1) (N := some 123) (v := ?_) (a' := ?_) #[N_,Y_,N_,N_,N_,N_,N_,N_,N_,N_,N_,N_,N_] rfl rfl (any_of HT_.out (by kernel_rfl)) (fun _ _ _ h => h) (Or.inl ⟨by rfl, ?_⟩) ?_ ?_
      rotate_left
      ·intro w'
       go_simp
       rfl
      rotate_left
      ·simp only [Act.put, List.setIfInBounds_toArray, List.set_cons_zero, List.set_cons_succ, i64_w, i32_w]
       rfl
      refine pure_ (i := 2) (N := some 124) (v := ?_) (a' := ?_) #[N_,Y_,Y_,N_,N_,N_,N_,N_,N_,N_,N_,N_,N_] rfl rfl (any_of HT_.out (by kernel_rfl)) (fun _ _ _ h => h) (Or.inl ⟨by rfl, ?_⟩) ?_ ?_
      rotate_left
      ·intro w'
       go_simp
       rfl
      rotate_left
      ·simp only [Act.put, List.setIfInBounds_toArray, List.set_cons_zero, List.set_cons_succ, i64_w, i32_w]
       rfl
      refine pure_ (i := 3) (N := some 125) (v := ?_) (a' := ?_) #[N_,Y_,Y_,Y_,N_,N_,N_,N_,N_,N_,N_,N_,N_] rfl rfl (any_of HT_.out (by kernel_rfl)) (fun _ _ _ h => h) (Or.inl ⟨by rfl, ?_⟩) ?_ ?_
      rotate_left
      ·intro w'
       go_simp
       rfl
      rotate_left
      ·simp only [Act.put, List.setIfInBounds_toArray, List.set_cons_zero, List.set_cons_succ, i64_w, i32_w]
       rfl
      refine pure_ (i := 4) (N := some 126) (v := ?_) (a' := ?_) #[N_,Y_,Y_,Y_,Y_,N_,N_,N_,N_,N_,N_,N_,N_] rfl rfl (any_of HT_.out (by kernel_rfl)) (fun _ _ _ h => h) (Or.inl ⟨by rfl, ?_⟩) ?_ ?_
      rotate_left
      ·intro w'
       go_simp
       rfl
      rotate_left
      ·simp only [Act.put, List.setIfInBounds_toArray, List.set_cons_zero, List.set_cons_succ, i64_w, i32_w]
       rfl
      refine pure_ (i := 6) (N := some 128) (v := ?_) (a' := ?_) #[N_,Y_,Y_,Y_,Y_,N_,Y_,N_,N_,N_,N_,N_,N_] rfl rfl (any_of HT_.out (by kernel_rfl)) (fun _ _ _ h => h) (Or.inl ⟨by rfl, ?_⟩) ?_ ?_
      rotate_left
      ·intro w'
       go_simp
       rfl
      rotate_left
      ·simp only [Act.put, List.setIfInBounds_toArray, List.set_cons_zero, List.set_cons_succ, i64_w, i32_w]
       rfl
      refine take_ (i := 0) (N := some 122) (v := ?_) (a' := ?_) #[Y_,Y_,Y_,Y_,Y_,N_,Y_,N_,N_,N_,N_,N_,N_] rfl rfl (take_ofW HT_.out HW_.out (by kernel_rfl)) (fun _ _ _ h => h) (Or.inl ⟨by rfl, ?_⟩) hHeld ?_ ?_
      rotate_left
      ·rintro w' ⟨s0, s1, s2⟩
       go_simp
       rfl
      rotate_left
      ·simp only [Act.put, List.setIfInBounds_toArray, List.set_cons_zero, List.set_cons_succ, i64_w, i32_w]
       rfl
      refine take_ (i := 5) (N := some 127) (v := ?_) (a' := ?_) #[Y_,Y_,Y_,Y_,Y_,Y_,Y_,N_,N_,N_,N_,N_,N_] rfl rfl (take_ofW HT_.out HW_.out (by kernel_rfl)) (fun _ _ _ h => h) (Or.inl ⟨by rfl, ?_⟩) hHeld ?_ ?_
      rotate_left
      ·rintro w' ⟨s0, s1, s2⟩
       go_simp
       rfl
      rotate_left
      ·simp only [Act.put, List.setIfInBounds_toArray, List.set_cons_zero, List.set_cons_succ, i64_w, i32_w]
       rfl
      refine one_ (i := 7) (N := some 129) #[Y_,Y_,Y_,Y_,Y_,Y_,Y_,Y_,N_,N_,N_,N_,N_] rfl rfl (one_of HT_.out (by kernel_rfl)) (by decide) (fun K hK => ?_)
      refine goes_ Try.func23 (by kernel_rfl) rfl #[.agg #[.int .i64 t442, .bool t443], .int .i64 t444, .slice A459_0 (rd_L5 t455 x23_2).length c459_0, .slice Ao30 t445.length co30] (by rfl) rfl rfl (by (try simp only [List.map_toArray, List.map_cons, List.map_nil]); (rfl)) ?_
      refine (impl_SearchLoad.calls k2 t442 t443 t444 _ _ (rd_L5 t455 x23_2) _ _ t445 t460 true _ ?side1 ?side2 ?side3 ?side4 A49.out).mono ?_
      (case side1 => repeat ((exact (by repeat (exact HR459_0.out)))))
      (case side2 => exact HC459_0.out)
      (case side3 => repeat (exact (Kd.R_reads' HO_13.out).2.2))
      (case side4 => exact (Kd.R_reads' HO_13.out).2.1)
      rintro e w55 ⟨rfl, hb⟩
      have HS2_ := (hb.cell (World.block_lt_of_cell? _ _ (hHeld.2.2))).trans (hHeld.2.2)
      refine ⟨_, rfl, ?_⟩
      have n0_ := Aside0.mk (Kd.R_below (by (with_reducible repeat (fail)); exact HO_13.out) hb)
      have n1_ := Aside0.mk (Kd.S_below (by (with_reducible repeat (fail)); exact HO_20.out) hb)
      have n2_ := Aside0.mk (Kd.R_below (by (with_reducible repeat (fail)); exact HL459_0.out) hb)
      have n3_ := Aside0.mk (blk_below (g := gb434) (o := .cells #[.int .i64 t425, .bool t426] 25 (0, 0)) (by (with_reducible repeat (fail)); exact BK434.out) hb)
      have n4_ := Aside0.mk (blk_below (g := gb448) (o := .cells #[.int .i64 t442, .bool t443] 25 (0, 0)) (by (with_reducible repeat (fail)); exact BK448.out) hb)
      have n5_ := Aside0.mk (Kd.C_below (by repeat (exact HR459_0.out)) hb)
      have n6_ := Aside0.mk (below_step (by repeat ((with_reducible (exact HB.out)))) hb)
      clear HO_13
      clear HO_20
      clear HL459_0
      clear BK434
      clear BK448
      clear HR459_0
      clear HB
      have HO_13 := n0_
      have HO_20 := n1_
      have HL459_0 := n2_
      have BK434 := n3_
      have BK448 := n4_
      have HR459_0 := n5_
      have HB := n6_
      clear n0_ n1_ n2_ n3_ n4_ n5_ n6_
      (try clear hb)
      (try clear hb2)
      (try clear hk)
      (try clear hi)
      refine hK.out _ _ ⟨(blk_cell BK448.out 0).trans rfl, (blk_cell BK448.out 1).trans rfl, HS2_⟩ (fun hHeld => ?_)
      clear hK K
      refine norm_ (a' := ?_) ?_ ?_
      rotate_left
      ·show Act.put _ (some 129) _ = _
       simp only [Act.put, List.setIfInBounds_toArray, List.set_cons_zero, List.set_cons_succ, i64_w, i32_w]
       rfl
      refine pure_ (i := 8) (N := some 121) (v := ?_) (a' := ?_) #[Y_,Y_,Y_,Y_,Y_,Y_,Y_,Y_,Y_,N_,N_,N_,N_] rfl rfl (any_of HT_.out (by kernel_rfl)) (fun _ _ _ h => h) (Or.inl ⟨by rfl, ?_⟩) ?_ ?_
      rotate_left
      ·intro w'
       go_simp
       rfl
      rotate_left
      ·simp only [Act.put, List.setIfInBounds_toArray, List.set_cons_zero, List.set_cons_succ, i64_w, i32_w]
       rfl
      refine pure_ (i := 9) (N := some 130) (v := ?_) (a' := ?_) #[Y_,Y_,Y_,Y_,Y_,Y_,Y_,Y_,Y_,Y_,N_,N_,N_] rfl rfl (any_of HT_.out (by kernel_rfl)) (fun _ _ _ h => h) (Or.inl ⟨by rfl, ?_⟩) ?_ ?_
      rotate_left
      ·intro w'
       go_simp
       rfl
      rotate_left
      ·simp only [Act.put, List.setIfInBounds_toArray, List.set_cons_zero, List.set_cons_succ, i64_w, i32_w]
       rfl
      refine pure_ (i := 10) (N := some 131) (v := ?_) (a' := ?_) #[Y_,Y_,Y_,Y_,Y_,Y_,Y_,Y_,Y_,Y_,Y_,N_,N_] rfl rfl (any_of HT_.out (by kernel_rfl)) (fun _ _ _ h => h) (Or.inl ⟨by rfl, ?_⟩) ?_ ?_
      rotate_left
      ·intro w'
       go_simp
       rfl
      rotate_left
      ·simp only [Act.put, List.setIfInBounds_toArray, List.set_cons_zero, List.set_cons_succ, i64_w, i32_w]
       rfl
      refine pure_ (i := 11) (N := some 24) (v := ?_) (a' := ?_) #[Y_,Y_,Y_,Y_,Y_,Y_,Y_,Y_,Y_,Y_,Y_,Y_,N_] rfl rfl (any_of HT_.out (by kernel_rfl)) (fun _ _ _ h => h) (Or.inl ⟨by rfl, ?_⟩) ?_ ?_
      rotate_left
      ·intro w'
       go_simp
       rfl
      rotate_left
      ·simp only [Act.put, List.setIfInBounds_toArray, List.set_cons_zero, List.set_cons_succ, i64_w, i32_w]
       rfl
      refine pure_ (i := 12) (N := some 25) (v := ?_) (a' := ?_) #[Y_,Y_,Y_,Y_,Y_,Y_,Y_,Y_,Y_,Y_,Y_,Y_,Y_] rfl rfl (any_of HT_.out (by kernel_rfl)) (fun _ _ _ h => h) (Or.inl ⟨by rfl, ?_⟩) ?_ ?_
      rotate_left
      ·intro w'
       go_simp
       rfl
      rotate_left
      ·simp only [Act.put, List.setIfInBounds_toArray, List.set_cons_zero, List.set_cons_succ, i64_w, i32_w]
       rfl
      refine done_ (done_of HT_.out (by kernel_rfl)) ?_
      try go_wp2
      go_roundg k2
      case measure => have := HJ14.out; have := HK2.out; omega
      case rel => exact ⟨(true), (wrap64 (x23_2 + 1)), (by (rfl)), (by (rfl)), H', ⟨by have := HJ14.out; have := HK2.out; omega⟩, ⟨by (with_reducible repeat (fail)); exact HO_13.out⟩, ⟨by (with_reducible repeat (fail)); exact HO_20.out⟩, ⟨by (with_reducible repeat (fail)); exact BK434.out⟩, ⟨by (with_reducible repeat (fail)); exact BK448.out⟩, ⟨by repeat ((with_reducible (exact HB.out)))⟩⟩
     replace c52 := Bool.eq_false_iff.mpr c52
     subst c52
     rw [if_neg (show ¬ (false = true) by decide)] at H
     have H' := Aside0.mk H
     clear H
     obtain ⟨Ao56, co56, eo56⟩ := Kd.S_slice HO_20.out
     subst eo56
     try go_wp2
     have n0_ := Aside0.mk (Kd.R_drew HO_13.out)
     have n1_ := Aside0.mk (Kd.S_drew HO_20.out)
     have n2_ := Aside0.mk (blk_drew BK434.out)
     have n3_ := Aside0.mk (blk_drew BK448.out)
     have n4_ := Aside0.mk (below_drew1 HB.out)
     clear HO_13
     clear HO_20
     clear BK434
     clear BK448
     clear HB
     have HO_13 := n0_
     have HO_20 := n1_
     have BK434 := n2_
     have BK448 := n3_
     have HB := n4_
     clear n0_ n1_ n2_ n3_ n4_
     have p459 : 0 ≤ (x23_2 : Int) := of_decide_eq_true (by (assumption))
     have q459 : x23_2 < (t455.length : Int) := of_decide_eq_true (by (assumption))
     obtain ⟨ad459, A459_0, c459_0, e459, hx459_0, hl459_0, hi459_0⟩ := at_L5 (Kd.S_reads' HO_20.out).2.2 x23_2 p459 q459
     cases e459
     obtain ⟨ce459, hce459, hMe459, hcc459⟩ := Kd.S_get HO_20.out [] x23_2 p459 (by (exact q459))
     obtain ⟨ve459_0, rfl, ge459_0⟩ := hMe459
     have hv459_0 := hcc459 0 _ rfl
     rw [Nat.add_zero, show ((Kd.slice 3 (Kd.int .i64))).sz = 1 from rfl, Nat.mul_one] at hv459_0
     replace hv459_0 := Option.some.inj (hv459_0.symm.trans hx459_0)
     rw [hv459_0] at ge459_0
     have HL459_0 := Aside0.mk (show Kd.R (Kd.int .i64) 3 _ _ _ _ (rd_L5 t455 x23_2) from ge459_0)
     clear hv459_0 ge459_0
     clear hcc459 hce459
     have HR459_0 := Aside0.mk hi459_0
     have HC459_0 := Aside0.mk hl459_0
     clear hi459_0 hl459_0
     replace p459 := eq_true p459
     replace q459 := eq_true q459
     refine start_ (n := 13) (S := fun w' => w'.cell? ⟨gb448, 0, none⟩ = some (.int .i64 t442) ∧ w'.cell? ⟨gb448, 1, none⟩ = some (.bool t443) ∧ w'.cell? (ad459.add (x23_2).toNat) = some (.slice A459_0 (rd_L5 t455 x23_2).length c459_0)) (ds := []) #[N_,N_,N_,N_,N_,N_,N_,N_,N_,N_,N_,N_,N_] (by kernel_rfl) rfl rfl ⟨(blk_cell BK448.out 0).trans rfl, (blk_cell BK448.out 1).trans rfl, hx459_0⟩ (fun hHeld => ?_); refine with_tabW laws_FnLoads.tab24 laws_FnLoads.bits24 (fun HT_ HW_ => ?_)
     generalize wr.drew = w57 at HO_13 HO_20 BK434 BK448 HB HL459_0 HR459_0 hx459_0 hHeld ⊢
     refine pure_ (i := 1) (N := some 123) (v := ?_) (a' := ?_) #[N_,Y_,N_,N_,N_,N_,N_,N_,N_,N_,N_,N_,N_] rfl rfl (any_of HT_.out (by kernel_rfl)) (fun _ _ _ h => h) (Or.inl ⟨by rfl, ?_⟩) ?_ ?_
     rotate_left
     ·intro w'
      go_simp
      rfl
     rotate_left
     ·simp only [Act.put, List.setIfInBounds_toArray, List.set_cons_zero, List.set_cons_succ, i64_w, i32_w]
      rfl
     refine pure_ (i := 2) (N := some 124) (v := ?_) (a' := ?_) #[N_,Y_,Y_,N_,N_,N_,N_,N_,N_,N_,N_,N_,N_] rfl rfl (any_of HT_.out (by kernel_rfl)) (fun _ _ _ h => h) (Or.inl ⟨by rfl, ?_⟩) ?_ ?_
     rotate_left
     ·intro w'
      go_simp
      rfl
     rotate_left
     ·simp only [Act.put, List.setIfInBounds_toArray, List.set_cons_zero, List.set_cons_succ, i64_w, i32_w]
      rfl
     refine pure_ (i := 3) (N := some 125) (v := ?_) (a' := ?_) #[N_,Y_,Y_,Y_,N_,N_,N_,N_,N_,N_,N_,N_,N_] rfl rfl (any_of HT_.out (by kernel_rfl)) (fun _ _ _ h => h) (Or.inl ⟨by rfl, ?_⟩) ?_ ?_
     rotate_left
     ·intro w'
      go_simp
      rfl
     rotate_left
     ·simp only [Act.put, List.setIfInBounds_toArray, List.set_cons_zero, List.set_cons_succ, i64_w, i32_w]
      rfl
     refine pure_ (i := 4) (N := some 126) (v := ?_) (a' := ?_) #[N_,Y_,Y_,Y_,Y_,N_,N_,N_,N_,N_,N_,N_,N_] rfl rfl (any_of HT_.out (by kernel_rfl)) (fun _ _ _ h => h) (Or.inl ⟨by rfl, ?_⟩) ?_ ?_
     rotate_left
     ·intro w'
      go_simp
      rfl
     rotate_left
     ·simp only [Act.put, List.setIfInBounds_toArray, List.set_cons_zero, List.set_cons_succ, i64_w, i32_w]
      rfl
     refine pure_ (i := 6) (N := some 128) (v := ?_) (a' := ?_) #[N_,Y_,Y_,Y_,Y_,N_,Y_,N_,N_,N_,N_,N_,N_] rfl rfl (any_of HT_.out (by kernel_rfl)) (fun _ _ _ h => h) (Or.inl ⟨by rfl, ?_⟩) ?_ ?_
     rotate_left
     ·intro w'
      go_simp
      rfl
     rotate_left
     ·simp only [Act.put, List.setIfInBounds_toArray, List.set_cons_zero, List.set_cons_succ, i64_w, i32_w]
      rfl
     refine take_ (i := 0) (N := some 122) (v := ?_) (a' := ?_) #[Y_,Y_,Y_,Y_,Y_,N_,Y_,N_,N_,N_,N_,N_,N_] rfl rfl (take_ofW HT_.out HW_.out (by kernel_rfl)) (fun _ _ _ h => h) (Or.inl ⟨by rfl, ?_⟩) hHeld ?_ ?_
     rotate_left
     ·rintro w' ⟨s0, s1, s2⟩
      go_simp
      rfl
     rotate_left
     ·simp only [Act.put, List.setIfInBounds_toArray, List.set_cons_zero, List.set_cons_succ, i64_w, i32_w]
      rfl
     refine take_ (i := 5) (N := some 127) (v := ?_) (a' := ?_) #[Y_,Y_,Y_,Y_,Y_,Y_,Y_,N_,N_,N_,N_,N_,N_] rfl rfl (take_ofW HT_.out HW_.out (by kernel_rfl)) (fun _ _ _ h => h) (Or.inl ⟨by rfl, ?_⟩) hHeld ?_ ?_
     rotate_left
     ·rintro w' ⟨s0, s1, s2⟩
      go_simp
      rfl
     rotate_left
     ·simp only [Act.put, List.setIfInBounds_toArray, List.set_cons_zero, List.set_cons_succ, i64_w, i32_w]
      rfl
     refine one_ (i := 7) (N := some 129) #[Y_,Y_,Y_,Y_,Y_,Y_,Y_,Y_,N_,N_,N_,N_,N_] rfl rfl (one_of HT_.out (by kernel_rfl)) (by decide) (fun K hK => ?_)
     refine goes_ Try.func23 (by kernel_rfl) rfl #[.agg #[.int .i64 t442, .bool t443], .int .i64 t444, .slice A459_0 (rd_L5 t455 x23_2).length c459_0, .slice Ao30 t445.length co30] (by rfl) rfl rfl (by (try simp only [List.map_toArray, List.map_cons, List.map_nil]); (rfl)) ?_
     refine (impl_SearchLoad.calls k2 t442 t443 t444 _ _ (rd_L5 t455 x23_2) _ _ t445 t460 true _ ?side1 ?side2 ?side3 ?side4 A49.out).mono ?_
     (case side1 => repeat ((exact (by repeat (exact HR459_0.out)))))
     (case side2 => exact HC459_0.out)
     (case side3 => repeat (exact (Kd.R_reads' HO_13.out).2.2))
     (case side4 => exact (Kd.R_reads' HO_13.out).2.1)
     rintro e w58 ⟨rfl, hb⟩
     have HS2_ := (hb.cell (World.block_lt_of_cell? _ _ (hHeld.2.2))).trans (hHeld.2.2)
     refine ⟨_, rfl, ?_⟩
     have n0_ := Aside0.mk (Kd.R_below (by (with_reducible repeat (fail)); exact HO_13.out) hb)
     have n1_ := Aside0.mk (Kd.S_below (by (with_reducible repeat (fail)); exact HO_20.out) hb)
     have n2_ := Aside0.mk (Kd.R_below (by (with_reducible repeat (fail)); exact HL459_0.out) hb)
     have n3_ := Aside0.mk (blk_below (g := gb434) (o := .cells #[.int .i64 t425, .bool t426] 25 (0, 0)) (by (with_reducible repeat (fail)); exact BK434.out) hb)
     have n4_ := Aside0.mk (blk_below (g := gb448) (o := .cells #[.int .i64 t442, .bool t443] 25 (0, 0)) (by (with_reducible repeat (fail)); exact BK448.out) hb)
     have n5_ := Aside0.mk (Kd.C_below (by repeat (exact HR459_0.out)) hb)
     have n6_ := Aside0.mk (below_step (by repeat ((with_reducible (exact HB.out)))) hb)
     clear HO_13
     clear HO_20
     clear HL459_0
     clear BK434
     clear BK448
     clear HR459_0
     clear HB
     have HO_13 := n0_
     have HO_20 := n1_
     have HL459_0 := n2_
     have BK434 := n3_
     have BK448 := n4_
     have HR459_0 := n5_
     have HB := n6_
     clear n0_ n1_ n2_ n3_ n4_ n5_ n6_
     (try clear hb)
     (try clear hb2)
     (try clear hk)
     (try clear hi)
     refine hK.out _ _ ⟨(blk_cell BK448.out 0).trans rfl, (blk_cell BK448.out 1).trans rfl, HS2_⟩ (fun hHeld => ?_)
     clear hK K
     refine norm_ (a' := ?_) ?_ ?_
     rotate_left
     ·show Act.put _ (some 129) _ = _
      simp only [Act.put, List.setIfInBounds_toArray, List.set_cons_zero, List.set_cons_succ, i64_w, i32_w]
      rfl
     refine pure_ (i := 8) (N := some 121) (v := ?_) (a' := ?_) #[Y_,Y_,Y_,Y_,Y_,Y_,Y_,Y_,Y_,N_,N_,N_,N_] rfl rfl (any_of HT_.out (by kernel_rfl)) (fun _ _ _ h => h) (Or.inl ⟨by rfl, ?_⟩) ?_ ?_
     rotate_left
     ·intro w'
      go_simp
      rfl
     rotate_left
     ·simp only [Act.put, List.setIfInBounds_toArray, List.set_cons_zero, List.set_cons_succ, i64_w, i32_w]
      rfl
     refine pure_ (i := 9) (N := some 130) (v := ?_) (a' := ?_) #[Y_,Y_,Y_,Y_,Y_,Y_,Y_,Y_,Y_,Y_,N_,N_,N_] rfl rfl (any_of HT_.out (by kernel_rfl)) (fun _ _ _ h => h) (Or.inl ⟨by rfl, ?_⟩) ?_ ?_
     rotate_left
     ·intro w'
      go_simp
      rfl
     rotate_left
     ·simp only [Act.put, List.setIfInBounds_toArray, List.set_cons_zero, List.set_cons_succ, i64_w, i32_w]
      rfl
     refine pure_ (i := 10) (N := some 131) (v := ?_) (a' := ?_) #[Y_,Y_,Y_,Y_,Y_,Y_,Y_,Y_,Y_,Y_,Y_,N_,N_] rfl rfl (any_of HT_.out (by kernel_rfl)) (fun _ _ _ h => h) (Or.inl ⟨by rfl, ?_⟩) ?_ ?_
     rotate_left
     ·intro w'
      go_simp
      rfl
     rotate_left
     ·simp only [Act.put, List.setIfInBounds_toArray, List.set_cons_zero, List.set_cons_succ, i64_w, i32_w]
      rfl
     refine pure_ (i := 11) (N := some 24) (v := ?_) (a' := ?_) #[Y_,Y_,Y_,Y_,Y_,Y_,Y_,Y_,Y_,Y_,Y_,Y_,N_] rfl rfl (any_of HT_.out (by kernel_rfl)) (fun _ _ _ h => h) (Or.inl ⟨by rfl, ?_⟩) ?_ ?_
     rotate_left
     ·intro w'
      go_simp
      rfl
     rotate_left
     ·simp only [Act.put, List.setIfInBounds_toArray, List.set_cons_zero, List.set_cons_succ, i64_w, i32_w]
      rfl
     refine pure_ (i := 12) (N := some 25) (v := ?_) (a' := ?_) #[Y_,Y_,Y_,Y_,Y_,Y_,Y_,Y_,Y_,Y_,Y_,Y_,Y_] rfl rfl (any_of HT_.out (by kernel_rfl)) (fun _ _ _ h => h) (Or.inl ⟨by rfl, ?_⟩) ?_ ?_
     rotate_left
     ·intro w'
      go_simp
      rfl
     rotate_left
     ·simp only [Act.put, List.setIfInBounds_toArray, List.set_cons_zero, List.set_cons_succ, i64_w, i32_w]
      rfl
     refine done_ (done_of HT_.out (by kernel_rfl)) ?_
     try go_wp2
     go_roundg k2
     case measure => have := HJ14.out; have := HK2.out; omega
     case rel => exact ⟨((t460 == t449)), (wrap64 (x23_2 + 1)), (by (rfl)), (by (rfl)), H', ⟨by have := HJ14.out; have := HK2.out; omega⟩, ⟨by (with_reducible repeat (fail)); exact HO_13.out⟩, ⟨by (with_reducible repeat (fail)); exact HO_20.out⟩, ⟨by (with_reducible repeat (fail)); exact BK434.out⟩, ⟨by (with_reducible repeat (fail)); exact BK448.out⟩, ⟨by repeat ((with_reducible (exact HB.out)))⟩⟩

/-- THE ONE PURE STATEMENT of laws_FnLoads: yours. -/
def laws_FnLoads.Pure : Prop := ∀ (l0 : List Int), l0.length ≤ maxLen → l0.length * 1 ≤ 140737488351232 → (∀ x ∈ l0, (Lit.int .u8 x).wf = true) → ∃ k, laws_FnLoads.f k l0 = some true
theorem laws_FnLoads.walk (P : laws_FnLoads.Pure) (a0 : Option Addr) (len0 cap0 : Nat) (z0 : List Int) (w : World) (w0 : (a0 = none ∧ len0 = 0 ∧ cap0 = 0 ∧ z0 = []) ∨ ∃ x, a0 = some x ∧ len0 ≤ cap0 ∧ cap0 ≤ maxLen ∧ z0.length = cap0 ∧ (∀ i, i < z0.length → w.cell? (x.add i) = some (.int .u8 (z0.getD i 0))) ∧ ∀ n ∈ z0, (Lit.int .u8 n).wf = true) (y0 : len0 * 1 ≤ 140737488351232) :
  Calls Try.prog 4 #[.slice a0 len0 cap0] w fun e w' => e = .returned (.bool true) ∧ Below w.heap.size w w' := by
 obtain ⟨l0, rfl, hr0, hm0, hw0, hc0⟩ := ReadsInt.ofRowC w0
 obtain ⟨k, h⟩ := P l0 hm0 y0 hw0
 refine (laws_FnLoads.calls k _ _ l0 true w (Kd.C_of_reads (d := (0 : Int)) (h1 := fun _ => rfl) hr0) hc0 h).mono ?_
 rintro e w' ⟨rfl, hd⟩
 exact ⟨rfl, hd⟩

end Go.Proofs.Ytogflbocmiogpaa.PFnLoads
