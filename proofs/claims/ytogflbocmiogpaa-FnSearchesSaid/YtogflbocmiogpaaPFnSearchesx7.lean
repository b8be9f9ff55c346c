-- Written for this claim by this session's turned copy of the printer.
import Derived.Test.YtogflbocmiogpaaPFnSearchesx0
import Derived.Test.YtogflbocmiogpaaPFnSearchesx2
import Derived.Test.YtogflbocmiogpaaPFnSearchesx3
import Derived.Test.YtogflbocmiogpaaPFnSearchesx4
import Derived.Test.YtogflbocmiogpaaPFnSearchesx5
import Derived.Test.YtogflbocmiogpaaPFnSearchesx6
namespace Go.Proofs.Ytogflbocmiogpaa.PFnSearches
open Go.RowKit Go.Proofs.YtogflbocmiogpaaW.PrintWords Go.Proofs.YtogflbocmiogpaaW.PrintLast Go.Proofs.YtogflbocmiogpaaW.PrintMore
attribute [local go_sem] max2_int min2_int max_two min_two max_three min_three max_four min_four   -- for this text's walks alone
set_option linter.unusedVariables false
set_option linter.unusedSimpArgs false

/-! ### spec_DrawSearchTimes: function 44 -/
def spec_DrawSearchTimes.inn (k : Nat) (s0_0 : List Int) (s0_1 : Int) (s0_2 : Int) : Option (Int × Bool × Int × List Int × Int × Int × Int) := (spec_l1Cur_linePlace.f s0_0 s0_1 s0_2).bind fun bt346 => ((spec_l1Cur_turns3.f k s0_0 bt346.2.2.2.1 bt346.2.2.2.2 bt346.1 bt346.2.1 bt346.2.2.1).bind fun bt352 => ((some (([0, 0, 1, 2, 9, 10, (-1)] : List Int) : List Int)).bind fun y357 => ((spec_l1Cur_pick.f s0_0 bt352.2.1 bt352.2.2 24).bind fun bt360 => (if 0 ≤ (wrap64 (5 + (wrap64 (Int.tdiv bt360.1 11)))) then (if (wrap64 (5 + (wrap64 (Int.tdiv bt360.1 11)))) ≤ (y357.length : Int) then ((spec_l1Cur_among.f s0_0 bt360.2.1 bt360.2.2 (y357.take ((wrap64 (5 + (wrap64 (Int.tdiv bt360.1 11)))) : Int).toNat)).bind fun bt367 => (some (bt346.1, bt346.2.1, bt346.2.2.1, bt352.1, bt367.1, bt367.2.1, bt367.2.2))) else (none)) else (none)))))
def spec_DrawSearchTimes.T3 : Bool × List (List Nat × List Nat) := (true, [([], []), ([], []), ([], []), ([], []), ([], []), ([2, 3, 4], [2, 3, 4]), ([], []), ([], []), ([], []), ([8, 5], [8]), ([9], [9]), ([10], [10]), ([7, 11], [7, 11]), ([6, 12, 9], [6, 12]), ([0, 13, 0], [0]), ([1, 14, 0, 1, 14], [1]), ([5, 15, 0, 1, 2, 3, 4, 5, 14, 15], [5]), ([13, 16, 0, 1, 2, 3, 4, 5, 6, 7, 8, 9, 10, 11, 12, 13, 14, 15, 16], [13])])
def spec_DrawSearchTimes.B3 : List Nat := [0, 0, 0, 0, 0, 28, 0, 0, 0, 316, 828, 1852, 4028, 8188, 16381, 32767, 65535, 131071]
theorem spec_DrawSearchTimes.tab3 : rtab .any (opsOf Try.f44 3) = spec_DrawSearchTimes.T3 := by kernel_rfl
theorem spec_DrawSearchTimes.bits3 : waitsOk spec_DrawSearchTimes.T3.2 spec_DrawSearchTimes.B3 = true := by kernel_rfl
set_option maxHeartbeats 8000000 in
set_option maxRecDepth 100000 in
theorem spec_DrawSearchTimes.strong (k : Nat) (A0 : Option Addr) (c0 : Nat) (g gb345 : Nat) (s0_0 : List Int) (s0_1 : Int) (s0_2 : Int) (r1 : Int) (r2 : Bool) (r3 : Int) (r4 : List Int) (r5 : Int) (r6 : Int) (r7 : Int) (w0 w W1 : World) (hww : w = w0) (hgb : w.heap.size = gb345) (hgq : gb345 + 1 = g) (hwq : (w.alloc (Obj.cells #[.int .i64 0, .bool false] 25)).alloc (Obj.cells #[.slice A0 s0_0.length c0, .int .i64 0, .int .u64 0] 68) = W1) (hI : IsS68 w W1 g s0_0 s0_1 s0_2) (hBK : W1.heap[gb345]? = some (.cells #[.int .i64 0, .bool false] 25 (0, 0))) (hB : Below w.heap.size w W1) (h : spec_DrawSearchTimes.inn k s0_0 s0_1 s0_2 = some (r1, r2, r3, r4, r5, r6, r7)) :
  Calls Try.prog 44 #[.slice A0 s0_0.length c0] w fun e w' => ∃ v3_ : Value, e = .returned (.tuple #[.agg #[.int .i64 r1, .bool r2], .int .i64 r3, v3_, .int .i64 r5]) ∧ Kd.R (Kd.int .i64) 3 w' w.heap.size (fun _ => True) v3_ r4 ∧ IsS68 w w' g s0_0 r6 r7 ∧ Below w.heap.size w w' ∧ KeepBut w w' g none := by
 have HWQ := Aside0.mk hwq
 have HGQ := Aside0.mk hgq
 clear hwq
 have hu25 := Try.underlying25
 subst hww
 have HI0 := Aside0.mk hI
 have HK := Aside0.mk (KeepBut.of_below hB g none)
 have HL := Aside0.mk (Nat.le_refl w.heap.size)
 have HW0 := Aside0.mk (Nat.le_refl w.heap.size)
 have HB := Aside0.mk hB
 have BK345 := Aside0.mk hBK
 have GW345 := Aside0.mk (Nat.le_of_eq hgb)
 have GE345 := Aside0.mk (Nat.le_of_eq hgb)
 have NB0_345 := Aside0.mk (show g ≠ gb345 by omega)
 have NB345_0 := Aside0.mk (show gb345 ≠ g by omega)
 have HGB := Aside0.mk hgb
 clear hI hB hBK hgb
 have H : ((spec_l1Cur_linePlace.f s0_0 s0_1 s0_2).bind fun bt346 => ((spec_l1Cur_turns3.f k s0_0 bt346.2.2.2.1 bt346.2.2.2.2 bt346.1 bt346.2.1 bt346.2.2.1).bind fun bt352 => ((some (([0, 0, 1, 2, 9, 10, (-1)] : List Int) : List Int)).bind fun y357 => ((spec_l1Cur_pick.f s0_0 bt352.2.1 bt352.2.2 24).bind fun bt360 => (if 0 ≤ (wrap64 (5 + (wrap64 (Int.tdiv bt360.1 11)))) then (if (wrap64 (5 + (wrap64 (Int.tdiv bt360.1 11)))) ≤ (y357.length : Int) then ((spec_l1Cur_among.f s0_0 bt360.2.1 bt360.2.2 (y357.take ((wrap64 (5 + (wrap64 (Int.tdiv bt360.1 11)))) : Int).toNat)).bind fun bt367 => (some (bt346.1, bt346.2.1, bt346.2.2.1, bt352.1, bt367.1, bt367.2.1, bt367.2.2))) else (none)) else (none)))))) = some (r1, r2, r3, r4, r5, r6, r7) := h
 clear h
 replace H := Option.bind_eq_some_iff.mp H
 obtain ⟨⟨t346, t347, t348, t349, t350⟩, A20, H⟩ := H
 try dsimp only at H
 have A2 := Aside0.mk A20
 clear A20
 replace H := Option.bind_eq_some_iff.mp H
 obtain ⟨⟨t352, t355, t356⟩, A30, H⟩ := H
 try dsimp only at H
 have A3 := Aside0.mk A30
 clear A30
 obtain ⟨y357, hy357⟩ : ∃ y_ : List Int, y_ = (([0, 0, 1, 2, 9, 10, (-1)] : List Int)) := ⟨_, rfl⟩
 replace H : ((spec_l1Cur_pick.f s0_0 t355 t356 24).bind fun bt360 => (if 0 ≤ (wrap64 (5 + (wrap64 (Int.tdiv bt360.1 11)))) then (if (wrap64 (5 + (wrap64 (Int.tdiv bt360.1 11)))) ≤ (y357.length : Int) then ((spec_l1Cur_among.f s0_0 bt360.2.1 bt360.2.2 (y357.take ((wrap64 (5 + (wrap64 (Int.tdiv bt360.1 11)))) : Int).toNat)).bind fun bt367 => (some (t346, t347, t348, t352, bt367.1, bt367.2.1, bt367.2.2))) else (none)) else (none))) = some (r1, r2, r3, r4, r5, r6, r7) := by (have H2_ := (Option.bind_some _ _).symm.trans H; rw [hy357]; with_reducible exact H2_)
 have Ny357 := Aside0.mk hy357
 clear hy357
 replace H := Option.bind_eq_some_iff.mp H
 obtain ⟨⟨t360, t361, t362⟩, A40, H⟩ := H
 try dsimp only at H
 have A4 := Aside0.mk A40
 clear A40
 obtain ⟨ji5, hji5⟩ : ∃ j_ : Int, (wrap64 (5 + (wrap64 (Int.tdiv t360 11)))) = j_ := ⟨_, rfl⟩
 replace H : (if 0 ≤ (ji5) then (if (ji5) ≤ (y357.length : Int) then ((spec_l1Cur_among.f s0_0 t361 t362 (y357.take ((ji5) : Int).toNat)).bind fun bt367 => (some (t346, t347, t348, t352, bt367.1, bt367.2.1, bt367.2.2))) else (none)) else (none)) = some (r1, r2, r3, r4, r5, r6, r7) := by (rw [hji5] at H; exact H)
 (try rw [hji5] at A2)
 (try rw [hji5] at A3)
 (try rw [hji5] at A4)
 have hji5w : (IntKind.i64.wrap (5 + (wrap64 (Int.tdiv t360 11)))) = ji5 := (i64_w _).trans hji5
 by_cases c6 : 0 ≤ (ji5)
 ·rw [if_pos c6] at H
  have c6b0 := eq_true c6
  have c6b1 : decide (0 ≤ (ji5)) = true := decide_eq_true c6
  clear c6
  by_cases c7 : (ji5) ≤ (y357.length : Int)
  ·rw [if_pos c7] at H
   have c7b0 := eq_true c7
   have c7b1 : decide ((ji5) ≤ (y357.length : Int)) = true := decide_eq_true c7
   clear c7
   obtain ⟨y363, hy363⟩ : ∃ y_ : List Int, y_ = (y357.take ((ji5) : Int).toNat) := ⟨_, rfl⟩
   replace H : ((spec_l1Cur_among.f s0_0 t361 t362 y363).bind fun bt367 => (some (t346, t347, t348, t352, bt367.1, bt367.2.1, bt367.2.2))) = some (r1, r2, r3, r4, r5, r6, r7) := by (rw [hy363]; with_reducible exact H)
   have Ny363 := Aside0.mk hy363
   clear hy363
   replace H := Option.bind_eq_some_iff.mp H
   obtain ⟨⟨t367, t368, t369⟩, A80, H⟩ := H
   try dsimp only at H
   have A8 := Aside0.mk A80
   clear A80
   simp only [Option.some.injEq, Prod.mk.injEq] at H
   obtain ⟨rfl, rfl, rfl, rfl, rfl, rfl, rfl⟩ := H
   go_enter Try.func44, Try.ntmps44
   go_upto_region 2 with (fail)
   rw [HWQ.out]
   simp only [HGB.out, HGQ.out]
   try go_wp2_with (first | ((with_reducible refine gate_callee (f := 72) rfl ?_); refine goesL_ (some 14) rfl rfl Try.func72 (by kernel_rfl) rfl #[.pointer (some ⟨g, 0, none⟩)] rfl (by (try simp only [List.map_toArray, List.map_cons, List.map_nil]); (rfl)) ?_; (with_reducible refine (spec_l1Cur_linePlace.calls g s0_0 s0_1 s0_2 t346 t347 t348 t349 t350 w _ ?side1 ?side2 A2.out).mono ?_); (case side1 => repeat ((with_reducible (exact HI0.out)))); (case side2 => repeat ((with_reducible (exact HB.out)))); rintro e w10 ⟨rfl, hi, hb, hk⟩; refine ⟨_, rfl, ?_⟩; have n0_ := Aside0.mk (KeepBut.blk hk (g' := gb345) (o := .cells #[.int .i64 0, .bool false] 25 (0, 0)) (by (with_reducible repeat (fail)); exact BK345.out) NB345_0.out (by simp)); have n1_ := Aside0.mk (KeepBut.trans (by repeat ((with_reducible (exact HK.out)))) hk (.inl rfl)); have n2_ := Aside0.mk (hb); have n3_ := Aside0.mk (hi); clear BK345; clear HK; clear HB; clear HI0; have BK345 := n0_; have HK := n1_; have HB := n2_; have HI0 := n3_; clear n0_ n1_ n2_ n3_; (try clear hb); (try clear hb2); (try clear hk); (try clear hi)) | ((with_reducible refine gate_dst (N := 7) rfl ?_); refine box_event ?hg (N := 7) ?hd (cs := #[.int .i64 0, .bool false]) (t := 25) ?hr ?_; (case hd => rfl); (case hg => rfl); (case hr => (go_simp; done)); intro gb351 hg w11 hbox hb; have n0_ := Aside0.mk (IsS68.below (by repeat ((with_reducible (exact HI0.out)))) hb); have n1_ := Aside0.mk (blk_below (g := gb345) (o := .cells #[.int .i64 0, .bool false] 25 (0, 0)) (by (with_reducible repeat (fail)); exact BK345.out) hb); have n2_ := Aside0.mk (KeepBut.trans (by repeat ((with_reducible (exact HK.out)))) (KeepBut.of_below hb g none) (.inl rfl)); have n3_ := Aside0.mk (below_step (by repeat ((with_reducible (exact HB.out)))) hb); have n4_ := Aside0.mk (hbox); have n5_ := Aside0.mk ((by rw [hg]; exact (keep_size (w := w) (g := g) (row := none) (by repeat ((with_reducible (exact HK.out))))) : w.heap.size ≤ gb351)); have n6_ := Aside0.mk ((Nat.le_trans HW0.out (by rw [hg]; exact (keep_size (w := w) (g := g) (row := none) (by repeat ((with_reducible (exact HK.out))))) : w.heap.size ≤ gb351) : w.heap.size ≤ gb351)); have n7_ := Aside0.mk ((by rw [hg]; exact Nat.ne_of_lt (blk_lt (g := gb345) (o := .cells #[.int .i64 0, .bool false] 25 (0, 0)) (by (with_reducible repeat (fail)); exact BK345.out)) : gb345 ≠ gb351)); have n8_ := Aside0.mk ((by rw [hg]; exact Nat.ne_of_gt (blk_lt (g := gb345) (o := .cells #[.int .i64 0, .bool false] 25 (0, 0)) (by (with_reducible repeat (fail)); exact BK345.out)) : gb351 ≠ gb345)); have n9_ := Aside0.mk ((by rw [hg]; exact Nat.ne_of_lt (IsS68.lt (show IsS68 w _ g s0_0 t349 t350 from by repeat ((with_reducible (exact HI0.out))))) : g ≠ gb351)); have n10_ := Aside0.mk ((by rw [hg]; exact Nat.ne_of_gt (IsS68.lt (show IsS68 w _ g s0_0 t349 t350 from by repeat ((with_reducible (exact HI0.out))))) : gb351 ≠ g)); clear HI0; clear BK345; clear HK; clear HB; have HI0 := n0_; have BK345 := n1_; have HK := n2_; have HB := n3_; have BK351 := n4_; have GW351 := n5_; have GE351 := n6_; have NB345_351 := n7_; have NB351_345 := n8_; have NB0_351 := n9_; have NB351_0 := n10_; clear n0_ n1_ n2_ n3_ n4_ n5_ n6_ n7_ n8_ n9_ n10_; clear hb hbox hg; have hnb12 := NB351_345.out; have hnc12 := NB345_351.out; have hnb13 := NB351_0.out; have hnc13 := NB0_351.out; have hcz14_0 : w11.cell? ⟨gb351, 0, none⟩ = some (.int .i64 0) := (blk_cell BK351.out 0).trans rfl; have hcz14_1 : w11.cell? ⟨gb351, 1, none⟩ = some (.bool false) := (blk_cell BK351.out 1).trans rfl; have hfz14_0 := blk_frozen BK351.out 0; have hfz14_1 := blk_frozen BK351.out 1))
   have n0_ : Aside0 (((w11.setCell ⟨gb351, 0, none⟩ (.int .i64 t346)).setCell ⟨gb351, 1, none⟩ (.bool t347)).heap[gb345]? = some (.cells #[.int .i64 0, .bool false] 25 (0, 0))) := ⟨by (with_reducible repeat (fail)); refine blk_far ?_ NB345_351.out _; (with_reducible repeat (fail)); refine blk_far ?_ NB345_351.out _; (with_reducible repeat (fail)); exact BK345.out⟩
   have n1_ : Aside0 (((w11.setCell ⟨gb351, 0, none⟩ (.int .i64 t346)).setCell ⟨gb351, 1, none⟩ (.bool t347)).heap[gb351]? = some (.cells #[.int .i64 t346, .bool t347] 25 (0, 0))) := ⟨by (with_reducible repeat (fail)); refine blk_put (cs := #[.int .i64 t346, .bool false]) ?_ 1 _ rfl; (with_reducible repeat (fail)); refine blk_put (cs := #[.int .i64 0, .bool false]) ?_ 0 _ rfl; (with_reducible repeat (fail)); exact BK351.out⟩
   have n2_ : Aside0 (IsS68 w ((w11.setCell ⟨gb351, 0, none⟩ (.int .i64 t346)).setCell ⟨gb351, 1, none⟩ (.bool t347)) g s0_0 t349 t350) := ⟨by repeat ((with_reducible first | exact HI0.out | refine IsS68.far ?_ NB0_351.out _))⟩
   have n3_ : Aside0 (KeepBut w ((w11.setCell ⟨gb351, 0, none⟩ (.int .i64 t346)).setCell ⟨gb351, 1, none⟩ (.bool t347)) g none) := ⟨by repeat ((with_reducible first | exact HK.out | refine keep_far ?_ GW351.out _))⟩
   have n4_ : Aside0 (Below w.heap.size w ((w11.setCell ⟨gb351, 0, none⟩ (.int .i64 t346)).setCell ⟨gb351, 1, none⟩ (.bool t347))) := ⟨by repeat ((with_reducible first | exact HB.out | refine below_set ?_ GE351.out))⟩
   (try clear BK345)
   (try clear BK351)
   (try clear HI0)
   (try clear HK)
   (try clear HB)
   generalize ((w11.setCell ⟨gb351, 0, none⟩ (.int .i64 t346)).setCell ⟨gb351, 1, none⟩ (.bool t347)) = w15 at n0_ n1_ n2_ n3_ n4_ ⊢
   have BK345 := n0_
   have BK351 := n1_
   have HI0 := n2_
   have HK := n3_
   have HB := n4_
   clear n0_ n1_ n2_ n3_ n4_
   have n0_ := Aside0.mk (blk_drew BK345.out)
   have n1_ := Aside0.mk (blk_drew BK351.out)
   have n2_ := Aside0.mk (IsS68.drew HI0.out)
   have n3_ := Aside0.mk (keep_drew HK.out)
   have n4_ := Aside0.mk (below_drew1 HB.out)
   clear BK345
   clear BK351
   clear HI0
   clear HK
   clear HB
   have BK345 := n0_
   have BK351 := n1_
   have HI0 := n2_
   have HK := n3_
   have HB := n4_
   clear n0_ n1_ n2_ n3_ n4_
   refine start_ (n := 18) (S := fun w' => w'.cell? ⟨gb351, 0, none⟩ = some (.int .i64 t346) ∧ w'.cell? ⟨gb351, 1, none⟩ = some (.bool t347)) (ds := []) #[false, false, false, false, false, false, false, false, false, false, false, false, false, false, false, false, false, false] (by kernel_rfl) rfl rfl ⟨(blk_cell BK351.out 0).trans rfl, (blk_cell BK351.out 1).trans rfl⟩ (fun hHeld => ?_); refine with_tabW spec_DrawSearchTimes.tab3 spec_DrawSearchTimes.bits3 (fun HT_ HW_ => ?_)
   generalize w15.drew = w16 at BK345 BK351 HI0 HK HB hHeld ⊢
   refine pure_ (i := 1) (N := some 18) (v := ?_) (a' := ?_) #[false, true, false, false, false, false, false, false, false, false, false, false, false, false, false, false, false, false] rfl rfl (any_of HT_.out (by kernel_rfl)) (fun _ _ _ h => h) (Or.inl ⟨by rfl, ?_⟩) ?_ ?_
   rotate_left
   ·intro w'
    go_simp
    with_reducible rfl
   rotate_left
   ·simp only [Act.put, List.setIfInBounds_toArray, List.set_cons_zero, List.set_cons_succ, i64_w, i32_w]
    rfl
   refine pure_ (i := 2) (N := some 19) (v := ?_) (a' := ?_) #[false, true, true, false, false, false, false, false, false, false, false, false, false, false, false, false, false, false] rfl rfl (any_of HT_.out (by kernel_rfl)) (fun _ _ _ h => h) (Or.inl ⟨by rfl, ?_⟩) ?_ ?_
   rotate_left
   ·intro w'
    go_simp
    with_reducible rfl
   rotate_left
   ·simp only [Act.put, List.setIfInBounds_toArray, List.set_cons_zero, List.set_cons_succ, i64_w, i32_w]
    rfl
   refine pure_ (i := 4) (N := some 21) (v := ?_) (a' := ?_) #[false, true, true, false, true, false, false, false, false, false, false, false, false, false, false, false, false, false] rfl rfl (any_of HT_.out (by kernel_rfl)) (fun _ _ _ h => h) (Or.inl ⟨by rfl, ?_⟩) ?_ ?_
   rotate_left
   ·intro w'
    go_simp
    with_reducible rfl
   rotate_left
   ·simp only [Act.put, List.setIfInBounds_toArray, List.set_cons_zero, List.set_cons_succ, i64_w, i32_w]
    rfl
   refine pure_ (i := 6) (N := some 23) (v := ?_) (a' := ?_) #[false, true, true, false, true, false, true, false, false, false, false, false, false, false, false, false, false, false] rfl rfl (any_of HT_.out (by kernel_rfl)) (fun _ _ _ h => h) (Or.inl ⟨by rfl, ?_⟩) ?_ ?_
   rotate_left
   ·intro w'
    go_simp
    with_reducible rfl
   rotate_left
   ·simp only [Act.put, List.setIfInBounds_toArray, List.set_cons_zero, List.set_cons_succ, i64_w, i32_w]
    rfl
   refine pure_ (i := 8) (N := some 25) (v := ?_) (a' := ?_) #[false, true, true, false, true, false, true, false, true, false, false, false, false, false, false, false, false, false] rfl rfl (any_of HT_.out (by kernel_rfl)) (fun _ _ _ h => h) (Or.inl ⟨by rfl, ?_⟩) ?_ ?_
   rotate_left
   ·intro w'
    go_simp
    with_reducible rfl
   rotate_left
   ·simp only [Act.put, List.setIfInBounds_toArray, List.set_cons_zero, List.set_cons_succ, i64_w, i32_w]
    rfl
   refine take_ (i := 0) (N := some 17) (v := ?_) (a' := ?_) #[true, true, true, false, true, false, true, false, true, false, false, false, false, false, false, false, false, false] rfl rfl (take_ofW HT_.out HW_.out (by kernel_rfl)) (fun _ _ _ h => h) (Or.inl ⟨by rfl, ?_⟩) hHeld ?_ ?_
   rotate_left
   ·rintro w' ⟨s0, s1⟩
    go_simp
    with_reducible rfl
   rotate_left
   ·simp only [Act.put, List.setIfInBounds_toArray, List.set_cons_zero, List.set_cons_succ, i64_w, i32_w]
    rfl
   refine take_ (i := 3) (N := some 20) (v := ?_) (a' := ?_) #[true, true, true, true, true, false, true, false, true, false, false, false, false, false, false, false, false, false] rfl rfl (take_ofW HT_.out HW_.out (by kernel_rfl)) (fun _ _ _ h => h) (Or.inl ⟨by rfl, ?_⟩) hHeld ?_ ?_
   rotate_left
   ·rintro w' ⟨s0, s1⟩
    go_simp
    with_reducible rfl
   rotate_left
   ·simp only [Act.put, List.setIfInBounds_toArray, List.set_cons_zero, List.set_cons_succ, i64_w, i32_w]
    rfl
   refine join_ (σ := Value × Value) 6 #[true, true, true, true, true, true, true, true, true, true, true, true, false, false, false, false, false, false] (fun s_ => [(22, s_.1), (24, s_.2), (26, .int .i64 t360), (27, .int .i64 (wrap64 (Int.tdiv t360 11))), (28, .int .i64 ji5)]) (fun s_ w' => (w'.cell? ⟨gb351, 0, none⟩ = some (.int .i64 t346) ∧ w'.cell? ⟨gb351, 1, none⟩ = some (.bool t347)) ∧ (Kd.R (Kd.int .i64) 3 w' w.heap.size (fun k_ => some k_ ≠ (s_.2 : Value).ownBlock) s_.1 t352) ∧ (Kd.R (Kd.int .i64) 3 w' w.heap.size (fun k_ => some k_ ≠ (s_.1 : Value).ownBlock) s_.2 y357) ∧ (w'.heap[gb345]? = some (.cells #[.int .i64 0, .bool false] 25 (0, 0))) ∧ (w'.heap[gb351]? = some (.cells #[.int .i64 t346, .bool t347] 25 (0, 0))) ∧ (IsS68 w w' g s0_0 t361 t362) ∧ (KeepBut w w' g none) ∧ (Below w.heap.size w w')) ?_ ?_
   rotate_left
   ·intro hCont
    refine two_ (i := 5) (j := 7) (Ni := some 22) (Nj := some 24) #[true, true, true, true, true, true, true, false, true, false, false, false, false, false, false, false, false, false] #[true, true, true, true, true, false, true, true, true, false, false, false, false, false, false, false, false, false] rfl rfl rfl rfl (two_of HT_.out (by kernel_rfl)) (by decide) (by decide) (fun K hK => ?_) (fun K hK => ?_)
    ·skip
     refine goes_ Try.func73 (by kernel_rfl) rfl #[.pointer (some ⟨g, 0, none⟩), .agg #[.int .i64 t346, .bool t347], .int .i64 t348] (by rfl) rfl rfl (by (try simp only [List.map_toArray, List.map_cons, List.map_nil]); (rfl)) ?_
     with_reducible refine (spec_l1Cur_turns3.calls k g s0_0 t349 t350 t346 t347 t348 t352 t355 t356 w _ ?side1 ?side2 A3.out).mono ?_
     (case side1 => repeat ((with_reducible (exact HI0.out))))
     (case side2 => repeat ((with_reducible (exact HB.out))))
     rintro e w17 ⟨v353, rfl, ho0, hi, hb, hk⟩
     refine ⟨_, rfl, ?_⟩
     have n0_ := Aside0.mk (KeepBut.blk hk (g' := gb345) (o := .cells #[.int .i64 0, .bool false] 25 (0, 0)) (by (with_reducible repeat (fail)); exact BK345.out) NB345_0.out (by simp))
     have n1_ := Aside0.mk (KeepBut.blk hk (g' := gb351) (o := .cells #[.int .i64 t346, .bool t347] 25 (0, 0)) (by (with_reducible repeat (fail)); exact BK351.out) NB351_0.out (by simp))
     have n2_ := Aside0.mk (Kd.R_lower ho0 (keep_size (w := w) (g := g) (row := none) (by repeat ((with_reducible (exact HK.out))))))
     have n3_ := Aside0.mk (KeepBut.trans (by repeat ((with_reducible (exact HK.out)))) hk (.inl rfl))
     have n4_ := Aside0.mk (hb)
     have n5_ := Aside0.mk (hi)
     clear BK345
     clear BK351
     clear HK
     clear HB
     clear HI0
     have BK345 := n0_
     have BK351 := n1_
     have HO354 := n2_
     have HK := n3_
     have HB := n4_
     have HI0 := n5_
     clear n0_ n1_ n2_ n3_ n4_ n5_
     (try clear hb)
     (try clear hb2)
     (try clear hk)
     (try clear hi)
     (try clear ho0)
     refine hK.out _ _ ⟨(blk_cell BK351.out 0).trans rfl, (blk_cell BK351.out 1).trans rfl⟩ (fun hHeld => ?_)
     clear hK K
     refine norm_ (a' := ?_) ?_ ?_
     rotate_left
     ·show Act.put _ (some 22) _ = _
      simp only [Act.put, List.setIfInBounds_toArray, List.set_cons_zero, List.set_cons_succ, i64_w, i32_w]
      rfl
     refine two_ (i := 7) (j := 9) (Ni := some 24) (Nj := some 26) #[true, true, true, true, true, true, true, true, true, false, false, false, false, false, false, false, false, false] #[true, true, true, true, true, true, true, false, true, true, false, false, false, false, false, false, false, false] rfl rfl rfl rfl (two_of HT_.out (by kernel_rfl)) (by decide) (by decide) (fun K hK => ?_) (fun K hK => ?_)
     ·skip
      refine Kd.R_lit_step (Kd.int .i64) _ 3 ?hg (N := 24) ?hd (xs := ([0, 0, 1, 2, 9, 10, (-1)] : List Int)) (inner := [.int .i64 0, .int .i64 0, .int .i64 1, .int .i64 2, .int .i64 9, .int .i64 10, .int .i64 (-1)]) (ok := fun _ => True) (okp := fun _ => True) ?hr ?hp (fun _ hk => hk) trivial (Below.refl _ _) (Nat.le_refl _) (by simp) ?_; (case hd => rfl); (case hg => rfl); (case hr => (go_simp; done)); (case hp => exact (Reps.one (show Kd.M (Kd.int .i64) _ _ _ 0 [.int .i64 0] from rfl) (Reps.one (show Kd.M (Kd.int .i64) _ _ _ 0 [.int .i64 0] from rfl) (Reps.one (show Kd.M (Kd.int .i64) _ _ _ 1 [.int .i64 1] from rfl) (Reps.one (show Kd.M (Kd.int .i64) _ _ _ 2 [.int .i64 2] from rfl) (Reps.one (show Kd.M (Kd.int .i64) _ _ _ 9 [.int .i64 9] from rfl) (Reps.one (show Kd.M (Kd.int .i64) _ _ _ 10 [.int .i64 10] from rfl) (Reps.one (show Kd.M (Kd.int .i64) _ _ _ (-1) [.int .i64 (-1)] from rfl) (Reps.none _ _)))))))))
      intro v358 w18 ho19 hb hg_ hnew_
      clear hg_ hnew_
      ((rw [← Ny357.out] at ho19))
      have n0_ := Aside0.mk (Kd.R_elder' (by (with_reducible repeat (fail)); exact HO354.out) (Kd.R_base ho19) hb)
      have n1_ := Aside0.mk (Kd.R_lower (Kd.R_new' ho19 (Kd.R_lt (by (with_reducible repeat (fail)); exact HO354.out))) (keep_size (w := w) (g := g) (row := none) (by repeat ((with_reducible (exact HK.out))))))
      have n2_ := Aside0.mk (IsS68.below (by repeat ((with_reducible (exact HI0.out)))) hb)
      have n3_ := Aside0.mk (blk_below (g := gb345) (o := .cells #[.int .i64 0, .bool false] 25 (0, 0)) (by (with_reducible repeat (fail)); exact BK345.out) hb)
      have n4_ := Aside0.mk (blk_below (g := gb351) (o := .cells #[.int .i64 t346, .bool t347] 25 (0, 0)) (by (with_reducible repeat (fail)); exact BK351.out) hb)
      have n5_ := Aside0.mk (KeepBut.trans (by repeat ((with_reducible (exact HK.out)))) (KeepBut.of_below hb g none) (.inl rfl))
      have n6_ := Aside0.mk (below_step (by repeat ((with_reducible (exact HB.out)))) hb)
      clear HO354
      clear HI0
      clear BK345
      clear BK351
      clear HK
      clear HB
      have HO354 := n0_
      have HO359 := n1_
      have HI0 := n2_
      have BK345 := n3_
      have BK351 := n4_
      have HK := n5_
      have HB := n6_
      clear n0_ n1_ n2_ n3_ n4_ n5_ n6_
      clear hb ho19
      refine hK.out _ _ ⟨(blk_cell BK351.out 0).trans rfl, (blk_cell BK351.out 1).trans rfl⟩ (fun hHeld => ?_)
      clear hK K
      refine norm_ (a' := ?_) ?_ ?_
      rotate_left
      ·show Act.put _ (some 24) _ = _
       simp only [Act.put, List.setIfInBounds_toArray, List.set_cons_zero, List.set_cons_succ, i64_w, i32_w]
       rfl
      refine one_ (i := 9) (N := some 26) #[true, true, true, true, true, true, true, true, true, true, false, false, false, false, false, false, false, false] rfl rfl (one_of HT_.out (by kernel_rfl)) (by decide) (fun K hK => ?_)
      refine goes_ Try.func89 (by kernel_rfl) rfl #[.pointer (some ⟨g, 0, none⟩), .int .i64 24] (by rfl) rfl rfl (by (try simp only [List.map_toArray, List.map_cons, List.map_nil]); (rfl)) ?_
      with_reducible refine (spec_l1Cur_pick.calls g s0_0 t355 t356 24 t360 t361 t362 w _ ?side1 ?side2 A4.out).mono ?_
      (case side1 => repeat ((with_reducible (exact HI0.out))))
      (case side2 => repeat ((with_reducible (exact HB.out))))
      rintro e w20 ⟨rfl, hi, hb, hk⟩
      refine ⟨_, rfl, ?_⟩
      have n0_ := Aside0.mk (KeepBut.blk hk (g' := gb345) (o := .cells #[.int .i64 0, .bool false] 25 (0, 0)) (by (with_reducible repeat (fail)); exact BK345.out) NB345_0.out (by simp))
      have n1_ := Aside0.mk (KeepBut.blk hk (g' := gb351) (o := .cells #[.int .i64 t346, .bool t347] 25 (0, 0)) (by (with_reducible repeat (fail)); exact BK351.out) NB351_0.out (by simp))
      have n2_ := Aside0.mk (Kd.R_mono (Kd.R_keep (IsS68.apart (show IsS68 w _ g s0_0 t355 t356 from by repeat ((with_reducible (exact HI0.out)))) (by (with_reducible repeat (fail)); exact HO354.out) (by decide)) hk (fun _ h => h.2)) (fun _ h => h.1))
      have n3_ := Aside0.mk (Kd.R_mono (Kd.R_keep (IsS68.apart (show IsS68 w _ g s0_0 t355 t356 from by repeat ((with_reducible (exact HI0.out)))) (by (with_reducible repeat (fail)); exact HO359.out) (by decide)) hk (fun _ h => h.2)) (fun _ h => h.1))
      have n4_ := Aside0.mk (KeepBut.trans (by repeat ((with_reducible (exact HK.out)))) hk (.inl rfl))
      have n5_ := Aside0.mk (hb)
      have n6_ := Aside0.mk (hi)
      clear BK345
      clear BK351
      clear HO354
      clear HO359
      clear HK
      clear HB
      clear HI0
      have BK345 := n0_
      have BK351 := n1_
      have HO354 := n2_
      have HO359 := n3_
      have HK := n4_
      have HB := n5_
      have HI0 := n6_
      clear n0_ n1_ n2_ n3_ n4_ n5_ n6_
      (try clear hb)
      (try clear hb2)
      (try clear hk)
      (try clear hi)
      refine hK.out _ _ ⟨(blk_cell BK351.out 0).trans rfl, (blk_cell BK351.out 1).trans rfl⟩ (fun hHeld => ?_)
      clear hK K
      refine norm_ (a' := ?_) ?_ ?_
      rotate_left
      ·show Act.put _ (some 26) _ = _
       simp only [Act.put, List.setIfInBounds_toArray, List.set_cons_zero, List.set_cons_succ, i64_w, i32_w]
       rfl
      refine pure_ (i := 10) (N := some 27) (v := ?_) (a' := ?_) #[true, true, true, true, true, true, true, true, true, true, true, false, false, false, false, false, false, false] rfl rfl (any_of HT_.out (by kernel_rfl)) (fun _ _ _ h => h) (Or.inl ⟨by rfl, ?_⟩) ?_ ?_
      rotate_left
      ·intro w'
       go_simp
       with_reducible rfl
      rotate_left
      ·simp only [Act.put, List.setIfInBounds_toArray, List.set_cons_zero, List.set_cons_succ, i64_w, i32_w]
       rfl
      refine pure_ (i := 11) (N := some 28) (v := ?_) (a' := ?_) #[true, true, true, true, true, true, true, true, true, true, true, true, false, false, false, false, false, false] rfl rfl (any_of HT_.out (by kernel_rfl)) (fun _ _ _ h => h) (Or.inl ⟨by rfl, ?_⟩) ?_ ?_
      rotate_left
      ·intro w'
       go_simp
       with_reducible rfl
      rotate_left
      ·simp only [Act.put, List.setIfInBounds_toArray, List.set_cons_zero, List.set_cons_succ, i64_w, i32_w]
       rfl
      exact norm_ (by simp only [putAll, Act.put, List.setIfInBounds_toArray, List.set_cons_zero, List.set_cons_succ]) (hCont (v353, v358) _ ⟨hHeld, (by (with_reducible repeat (fail)); exact Kd.R_mono HO354.out (fun _ hk => hk.2)), (by (with_reducible repeat (fail)); exact Kd.R_mono HO359.out (fun _ hk => hk.2)), (by (with_reducible repeat (fail)); exact BK345.out), (by (with_reducible repeat (fail)); exact BK351.out), (by repeat ((with_reducible (exact HI0.out)))), (by repeat ((with_reducible (exact HK.out)))), (by repeat ((with_reducible (exact HB.out))))⟩)
     ·skip
      refine goes_ Try.func89 (by kernel_rfl) rfl #[.pointer (some ⟨g, 0, none⟩), .int .i64 24] (by rfl) rfl rfl (by (try simp only [List.map_toArray, List.map_cons, List.map_nil]); (rfl)) ?_
      with_reducible refine (spec_l1Cur_pick.calls g s0_0 t355 t356 24 t360 t361 t362 w _ ?side1 ?side2 A4.out).mono ?_
      (case side1 => repeat ((with_reducible (exact HI0.out))))
      (case side2 => repeat ((with_reducible (exact HB.out))))
      rintro e w18 ⟨rfl, hi, hb, hk⟩
      refine ⟨_, rfl, ?_⟩
      have n0_ := Aside0.mk (KeepBut.blk hk (g' := gb345) (o := .cells #[.int .i64 0, .bool false] 25 (0, 0)) (by (with_reducible repeat (fail)); exact BK345.out) NB345_0.out (by simp))
      have n1_ := Aside0.mk (KeepBut.blk hk (g' := gb351) (o := .cells #[.int .i64 t346, .bool t347] 25 (0, 0)) (by (with_reducible repeat (fail)); exact BK351.out) NB351_0.out (by simp))
      have n2_ := Aside0.mk (Kd.R_mono (Kd.R_keep (IsS68.apart (show IsS68 w _ g s0_0 t355 t356 from by repeat ((with_reducible (exact HI0.out)))) (by (with_reducible repeat (fail)); exact HO354.out) (by decide)) hk (fun _ h => h.2)) (fun _ h => h.1))
      have n3_ := Aside0.mk (KeepBut.trans (by repeat ((with_reducible (exact HK.out)))) hk (.inl rfl))
      have n4_ := Aside0.mk (hb)
      have n5_ := Aside0.mk (hi)
      clear BK345
      clear BK351
      clear HO354
      clear HK
      clear HB
      clear HI0
      have BK345 := n0_
      have BK351 := n1_
      have HO354 := n2_
      have HK := n3_
      have HB := n4_
      have HI0 := n5_
      clear n0_ n1_ n2_ n3_ n4_ n5_
      (try clear hb)
      (try clear hb2)
      (try clear hk)
      (try clear hi)
      refine hK.out _ _ ⟨(blk_cell BK351.out 0).trans rfl, (blk_cell BK351.out 1).trans rfl⟩ (fun hHeld => ?_)
      clear hK K
      refine norm_ (a' := ?_) ?_ ?_
      rotate_left
      ·show Act.put _ (some 26) _ = _
       simp only [Act.put, List.setIfInBounds_toArray, List.set_cons_zero, List.set_cons_succ, i64_w, i32_w]
       rfl
      refine pure_ (i := 10) (N := some 27) (v := ?_) (a' := ?_) #[true, true, true, true, true, true, true, false, true, true, true, false, false, false, false, false, false, false] rfl rfl (any_of HT_.out (by kernel_rfl)) (fun _ _ _ h => h) (Or.inl ⟨by rfl, ?_⟩) ?_ ?_
      rotate_left
      ·intro w'
       go_simp
       with_reducible rfl
      rotate_left
      ·simp only [Act.put, List.setIfInBounds_toArray, List.set_cons_zero, List.set_cons_succ, i64_w, i32_w]
       rfl
      refine pure_ (i := 11) (N := some 28) (v := ?_) (a' := ?_) #[true, true, true, true, true, true, true, false, true, true, true, true, false, false, false, false, false, false] rfl rfl (any_of HT_.out (by kernel_rfl)) (fun _ _ _ h => h) (Or.inl ⟨by rfl, ?_⟩) ?_ ?_
      rotate_left
      ·intro w'
       go_simp
       with_reducible rfl
      rotate_left
      ·simp only [Act.put, List.setIfInBounds_toArray, List.set_cons_zero, List.set_cons_succ, i64_w, i32_w]
       rfl
      refine one_ (i := 7) (N := some 24) #[true, true, true, true, true, true, true, true, true, true, true, true, false, false, false, false, false, false] rfl rfl (one_of HT_.out (by kernel_rfl)) (by decide) (fun K hK => ?_)
      refine Kd.R_lit_step (Kd.int .i64) _ 3 ?hg (N := 24) ?hd (xs := ([0, 0, 1, 2, 9, 10, (-1)] : List Int)) (inner := [.int .i64 0, .int .i64 0, .int .i64 1, .int .i64 2, .int .i64 9, .int .i64 10, .int .i64 (-1)]) (ok := fun _ => True) (okp := fun _ => True) ?hr ?hp (fun _ hk => hk) trivial (Below.refl _ _) (Nat.le_refl _) (by simp) ?_; (case hd => rfl); (case hg => rfl); (case hr => (go_simp; done)); (case hp => exact (Reps.one (show Kd.M (Kd.int .i64) _ _ _ 0 [.int .i64 0] from rfl) (Reps.one (show Kd.M (Kd.int .i64) _ _ _ 0 [.int .i64 0] from rfl) (Reps.one (show Kd.M (Kd.int .i64) _ _ _ 1 [.int .i64 1] from rfl) (Reps.one (show Kd.M (Kd.int .i64) _ _ _ 2 [.int .i64 2] from rfl) (Reps.one (show Kd.M (Kd.int .i64) _ _ _ 9 [.int .i64 9] from rfl) (Reps.one (show Kd.M (Kd.int .i64) _ _ _ 10 [.int .i64 10] from rfl) (Reps.one (show Kd.M (Kd.int .i64) _ _ _ (-1) [.int .i64 (-1)] from rfl) (Reps.none _ _)))))))))
      intro v358 w19 ho20 hb hg_ hnew_
      clear hg_ hnew_
      ((rw [← Ny357.out] at ho20))
      have n0_ := Aside0.mk (Kd.R_elder' (by (with_reducible repeat (fail)); exact HO354.out) (Kd.R_base ho20) hb)
      have n1_ := Aside0.mk (Kd.R_lower (Kd.R_new' ho20 (Kd.R_lt (by (with_reducible repeat (fail)); exact HO354.out))) (keep_size (w := w) (g := g) (row := none) (by repeat ((with_reducible (exact HK.out))))))
      have n2_ := Aside0.mk (IsS68.below (by repeat ((with_reducible (exact HI0.out)))) hb)
      have n3_ := Aside0.mk (blk_below (g := gb345) (o := .cells #[.int .i64 0, .bool false] 25 (0, 0)) (by (with_reducible repeat (fail)); exact BK345.out) hb)
      have n4_ := Aside0.mk (blk_below (g := gb351) (o := .cells #[.int .i64 t346, .bool t347] 25 (0, 0)) (by (with_reducible repeat (fail)); exact BK351.out) hb)
      have n5_ := Aside0.mk (KeepBut.trans (by repeat ((with_reducible (exact HK.out)))) (KeepBut.of_below hb g none) (.inl rfl))
      have n6_ := Aside0.mk (below_step (by repeat ((with_reducible (exact HB.out)))) hb)
      clear HO354
      clear HI0
      clear BK345
      clear BK351
      clear HK
      clear HB
      have HO354 := n0_
      have HO359 := n1_
      have HI0 := n2_
      have BK345 := n3_
      have BK351 := n4_
      have HK := n5_
      have HB := n6_
      clear n0_ n1_ n2_ n3_ n4_ n5_ n6_
      clear hb ho20
      refine hK.out _ _ ⟨(blk_cell BK351.out 0).trans rfl, (blk_cell BK351.out 1).trans rfl⟩ (fun hHeld => ?_)
      clear hK K
      refine norm_ (a' := ?_) ?_ ?_
      rotate_left
      ·show Act.put _ (some 24) _ = _
       simp only [Act.put, List.setIfInBounds_toArray, List.set_cons_zero, List.set_cons_succ, i64_w, i32_w]
       rfl
      exact norm_ (by simp only [putAll, Act.put, List.setIfInBounds_toArray, List.set_cons_zero, List.set_cons_succ]) (hCont (v353, v358) _ ⟨hHeld, (by (with_reducible repeat (fail)); exact Kd.R_mono HO354.out (fun _ hk => hk.2)), (by (with_reducible repeat (fail)); exact Kd.R_mono HO359.out (fun _ hk => hk.2)), (by (with_reducible repeat (fail)); exact BK345.out), (by (with_reducible repeat (fail)); exact BK351.out), (by repeat ((with_reducible (exact HI0.out)))), (by repeat ((with_reducible (exact HK.out)))), (by repeat ((with_reducible (exact HB.out))))⟩)
    ·skip
     refine Kd.R_lit_step (Kd.int .i64) _ 3 ?hg (N := 24) ?hd (xs := ([0, 0, 1, 2, 9, 10, (-1)] : List Int)) (inner := [.int .i64 0, .int .i64 0, .int .i64 1, .int .i64 2, .int .i64 9, .int .i64 10, .int .i64 (-1)]) (ok := fun _ => True) (okp := fun _ => True) ?hr ?hp (fun _ hk => hk) trivial (Below.refl _ _) (Nat.le_refl _) (by simp) ?_; (case hd => rfl); (case hg => rfl); (case hr => (go_simp; done)); (case hp => exact (Reps.one (show Kd.M (Kd.int .i64) _ _ _ 0 [.int .i64 0] from rfl) (Reps.one (show Kd.M (Kd.int .i64) _ _ _ 0 [.int .i64 0] from rfl) (Reps.one (show Kd.M (Kd.int .i64) _ _ _ 1 [.int .i64 1] from rfl) (Reps.one (show Kd.M (Kd.int .i64) _ _ _ 2 [.int .i64 2] from rfl) (Reps.one (show Kd.M (Kd.int .i64) _ _ _ 9 [.int .i64 9] from rfl) (Reps.one (show Kd.M (Kd.int .i64) _ _ _ 10 [.int .i64 10] from rfl) (Reps.one (show Kd.M (Kd.int .i64) _ _ _ (-1) [.int .i64 (-1)] from rfl) (Reps.none _ _)))))))))
     intro v358 w17 ho18 hb hg_ hnew_
     clear hg_ hnew_
     ((rw [← Ny357.out] at ho18))
     have n0_ := Aside0.mk (Kd.R_lower ho18 (keep_size (w := w) (g := g) (row := none) (by repeat ((with_reducible (exact HK.out))))))
     have n1_ := Aside0.mk (IsS68.below (by repeat ((with_reducible (exact HI0.out)))) hb)
     have n2_ := Aside0.mk (blk_below (g := gb345) (o := .cells #[.int .i64 0, .bool false] 25 (0, 0)) (by (with_reducible repeat (fail)); exact BK345.out) hb)
     have n3_ := Aside0.mk (blk_below (g := gb351) (o := .cells #[.int .i64 t346, .bool t347] 25 (0, 0)) (by (with_reducible repeat (fail)); exact BK351.out) hb)
     have n4_ := Aside0.mk (KeepBut.trans (by repeat ((with_reducible (exact HK.out)))) (KeepBut.of_below hb g none) (.inl rfl))
     have n5_ := Aside0.mk (below_step (by repeat ((with_reducible (exact HB.out)))) hb)
     clear HI0
     clear BK345
     clear BK351
     clear HK
     clear HB
     have HO359 := n0_
     have HI0 := n1_
     have BK345 := n2_
     have BK351 := n3_
     have HK := n4_
     have HB := n5_
     clear n0_ n1_ n2_ n3_ n4_ n5_
     clear hb ho18
     refine hK.out _ _ ⟨(blk_cell BK351.out 0).trans rfl, (blk_cell BK351.out 1).trans rfl⟩ (fun hHeld => ?_)
     clear hK K
     refine norm_ (a' := ?_) ?_ ?_
     rotate_left
     ·show Act.put _ (some 24) _ = _
      simp only [Act.put, List.setIfInBounds_toArray, List.set_cons_zero, List.set_cons_succ, i64_w, i32_w]
      rfl
     refine one_ (i := 5) (N := some 22) #[true, true, true, true, true, true, true, true, true, false, false, false, false, false, false, false, false, false] rfl rfl (one_of HT_.out (by kernel_rfl)) (by decide) (fun K hK => ?_)
     refine goes_ Try.func73 (by kernel_rfl) rfl #[.pointer (some ⟨g, 0, none⟩), .agg #[.int .i64 t346, .bool t347], .int .i64 t348] (by rfl) rfl rfl (by (try simp only [List.map_toArray, List.map_cons, List.map_nil]); (rfl)) ?_
     with_reducible refine (spec_l1Cur_turns3.calls k g s0_0 t349 t350 t346 t347 t348 t352 t355 t356 w _ ?side1 ?side2 A3.out).mono ?_
     (case side1 => repeat ((with_reducible (exact HI0.out))))
     (case side2 => repeat ((with_reducible (exact HB.out))))
     rintro e w19 ⟨v353, rfl, ho0, hi, hb, hk⟩
     refine ⟨_, rfl, ?_⟩
     have n0_ := Aside0.mk (KeepBut.blk hk (g' := gb345) (o := .cells #[.int .i64 0, .bool false] 25 (0, 0)) (by (with_reducible repeat (fail)); exact BK345.out) NB345_0.out (by simp))
     have n1_ := Aside0.mk (KeepBut.blk hk (g' := gb351) (o := .cells #[.int .i64 t346, .bool t347] 25 (0, 0)) (by (with_reducible repeat (fail)); exact BK351.out) NB351_0.out (by simp))
     have n2_ := Aside0.mk (Kd.R_mono (Kd.R_told (Kd.R_oldK (IsS68.apart (show IsS68 w _ g s0_0 t349 t350 from by repeat ((with_reducible (exact HI0.out)))) (by (with_reducible repeat (fail)); exact HO359.out) (by decide)) hk) (Kd.R_base ho0)) (fun _ h_ => h_.1))
     have n3_ := Aside0.mk (Kd.R_lower (Kd.R_new' ho0 (Kd.R_lt (by (with_reducible repeat (fail)); exact HO359.out))) (keep_size (w := w) (g := g) (row := none) (by repeat ((with_reducible (exact HK.out))))))
     have n4_ := Aside0.mk (KeepBut.trans (by repeat ((with_reducible (exact HK.out)))) hk (.inl rfl))
     have n5_ := Aside0.mk (hb)
     have n6_ := Aside0.mk (hi)
     clear BK345
     clear BK351
     clear HO359
     clear HK
     clear HB
     clear HI0
     have BK345 := n0_
     have BK351 := n1_
     have HO359 := n2_
     have HO354 := n3_
     have HK := n4_
     have HB := n5_
     have HI0 := n6_
     clear n0_ n1_ n2_ n3_ n4_ n5_ n6_
     (try clear hb)
     (try clear hb2)
     (try clear hk)
     (try clear hi)
     (try clear ho0)
     refine hK.out _ _ ⟨(blk_cell BK351.out 0).trans rfl, (blk_cell BK351.out 1).trans rfl⟩ (fun hHeld => ?_)
     clear hK K
     refine norm_ (a' := ?_) ?_ ?_
     rotate_left
     ·show Act.put _ (some 22) _ = _
      simp only [Act.put, List.setIfInBounds_toArray, List.set_cons_zero, List.set_cons_succ, i64_w, i32_w]
      rfl
     refine one_ (i := 9) (N := some 26) #[true, true, true, true, true, true, true, true, true, true, false, false, false, false, false, false, false, false] rfl rfl (one_of HT_.out (by kernel_rfl)) (by decide) (fun K hK => ?_)
     refine goes_ Try.func89 (by kernel_rfl) rfl #[.pointer (some ⟨g, 0, none⟩), .int .i64 24] (by rfl) rfl rfl (by (try simp only [List.map_toArray, List.map_cons, List.map_nil]); (rfl)) ?_
     with_reducible refine (spec_l1Cur_pick.calls g s0_0 t355 t356 24 t360 t361 t362 w _ ?side1 ?side2 A4.out).mono ?_
     (case side1 => repeat ((with_reducible (exact HI0.out))))
     (case side2 => repeat ((with_reducible (exact HB.out))))
     rintro e w20 ⟨rfl, hi, hb, hk⟩
     refine ⟨_, rfl, ?_⟩
     have n0_ := Aside0.mk (KeepBut.blk hk (g' := gb345) (o := .cells #[.int .i64 0, .bool false] 25 (0, 0)) (by (with_reducible repeat (fail)); exact BK345.out) NB345_0.out (by simp))
     have n1_ := Aside0.mk (KeepBut.blk hk (g' := gb351) (o := .cells #[.int .i64 t346, .bool t347] 25 (0, 0)) (by (with_reducible repeat (fail)); exact BK351.out) NB351_0.out (by simp))
     have n2_ := Aside0.mk (Kd.R_mono (Kd.R_keep (IsS68.apart (show IsS68 w _ g s0_0 t355 t356 from by repeat ((with_reducible (exact HI0.out)))) (by (with_reducible repeat (fail)); exact HO359.out) (by decide)) hk (fun _ h => h.2)) (fun _ h => h.1))
     have n3_ := Aside0.mk (Kd.R_mono (Kd.R_keep (IsS68.apart (show IsS68 w _ g s0_0 t355 t356 from by repeat ((with_reducible (exact HI0.out)))) (by (with_reducible repeat (fail)); exact HO354.out) (by decide)) hk (fun _ h => h.2)) (fun _ h => h.1))
     have n4_ := Aside0.mk (KeepBut.trans (by repeat ((with_reducible (exact HK.out)))) hk (.inl rfl))
     have n5_ := Aside0.mk (hb)
     have n6_ := Aside0.mk (hi)
     clear BK345
     clear BK351
     clear HO359
     clear HO354
     clear HK
     clear HB
     clear HI0
     have BK345 := n0_
     have BK351 := n1_
     have HO359 := n2_
     have HO354 := n3_
     have HK := n4_
     have HB := n5_
     have HI0 := n6_
     clear n0_ n1_ n2_ n3_ n4_ n5_ n6_
     (try clear hb)
     (try clear hb2)
     (try clear hk)
     (try clear hi)
     refine hK.out _ _ ⟨(blk_cell BK351.out 0).trans rfl, (blk_cell BK351.out 1).trans rfl⟩ (fun hHeld => ?_)
     clear hK K
     refine norm_ (a' := ?_) ?_ ?_
     rotate_left
     ·show Act.put _ (some 26) _ = _
      simp only [Act.put, List.setIfInBounds_toArray, List.set_cons_zero, List.set_cons_succ, i64_w, i32_w]
      rfl
     refine pure_ (i := 10) (N := some 27) (v := ?_) (a' := ?_) #[true, true, true, true, true, true, true, true, true, true, true, false, false, false, false, false, false, false] rfl rfl (any_of HT_.out (by kernel_rfl)) (fun _ _ _ h => h) (Or.inl ⟨by rfl, ?_⟩) ?_ ?_
     rotate_left
     ·intro w'
      go_simp
      with_reducible rfl
     rotate_left
     ·simp only [Act.put, List.setIfInBounds_toArray, List.set_cons_zero, List.set_cons_succ, i64_w, i32_w]
      rfl
     refine pure_ (i := 11) (N := some 28) (v := ?_) (a' := ?_) #[true, true, true, true, true, true, true, true, true, true, true, true, false, false, false, false, false, false] rfl rfl (any_of HT_.out (by kernel_rfl)) (fun _ _ _ h => h) (Or.inl ⟨by rfl, ?_⟩) ?_ ?_
     rotate_left
     ·intro w'
      go_simp
      with_reducible rfl
     rotate_left
     ·simp only [Act.put, List.setIfInBounds_toArray, List.set_cons_zero, List.set_cons_succ, i64_w, i32_w]
      rfl
     exact norm_ (by simp only [putAll, Act.put, List.setIfInBounds_toArray, List.set_cons_zero, List.set_cons_succ]) (hCont (v353, v358) _ ⟨hHeld, (by (with_reducible repeat (fail)); exact Kd.R_mono HO354.out (fun _ hk => hk.2)), (by (with_reducible repeat (fail)); exact Kd.R_mono HO359.out (fun _ hk => hk.2)), (by (with_reducible repeat (fail)); exact BK345.out), (by (with_reducible repeat (fail)); exact BK351.out), (by repeat ((with_reducible (exact HI0.out)))), (by repeat ((with_reducible (exact HK.out)))), (by repeat ((with_reducible (exact HB.out))))⟩)
   rintro ⟨v353, v358⟩ w21 ⟨hS_, h0_, h1_, h2_, h3_, h4_, h5_, h6_⟩
   have n0_ : Aside0 (Kd.R (Kd.int .i64) 3 w21 w.heap.size (fun k_ => some k_ ≠ (v358 : Value).ownBlock) v353 t352) := ⟨h0_⟩
   have n1_ : Aside0 (Kd.R (Kd.int .i64) 3 w21 w.heap.size (fun k_ => some k_ ≠ (v353 : Value).ownBlock) v358 y357) := ⟨h1_⟩
   have n2_ : Aside0 (w21.heap[gb345]? = some (.cells #[.int .i64 0, .bool false] 25 (0, 0))) := ⟨h2_⟩
   have n3_ : Aside0 (w21.heap[gb351]? = some (.cells #[.int .i64 t346, .bool t347] 25 (0, 0))) := ⟨h3_⟩
   have n4_ : Aside0 (IsS68 w w21 g s0_0 t361 t362) := ⟨h4_⟩
   have n5_ : Aside0 (KeepBut w w21 g none) := ⟨h5_⟩
   have n6_ : Aside0 (Below w.heap.size w w21) := ⟨h6_⟩
   clear BK345
   clear BK351
   clear HI0
   clear HK
   clear HB
   clear h0_ h1_ h2_ h3_ h4_ h5_ h6_
   have HO354 := n0_
   have HO359 := n1_
   have BK345 := n2_
   have BK351 := n3_
   have HI0 := n4_
   have HK := n5_
   have HB := n6_
   clear n0_ n1_ n2_ n3_ n4_ n5_ n6_
   have hHeld : w21.cell? ⟨gb351, 0, none⟩ = some (.int .i64 t346) ∧ w21.cell? ⟨gb351, 1, none⟩ = some (.bool t347) := hS_
   obtain ⟨Ao23, co23, eo23⟩ := Kd.R_slice HO359.out
   ((subst eo23))
   have q22 : ((ji5) : Int) ≤ ((y357.length : Int) : Int) := of_decide_eq_true (by (with_reducible assumption))
   obtain ⟨i022, hi022, _, hsz22, _⟩ := info_parts (by kernel_rfl : (Try.prog.info? 3).map (fun i => (i.zero, i.size, i.bytes)) = some (some (.int .i64 0), 1, 8))
   have hroom22 : y357.length ≤ co23 := (Kd.R_reads' HO359.out).2.1
   have hC22 : Kd.C (Kd.int .i64) _ Ao23 y357.length y357 := (Kd.R_reads' HO359.out).2.2
   have hcut22 := cut_to (P := Try.prog) 30 3 .i64 Try.underlying30 hi022 Ao23 y357.length co23 (ji5) (of_decide_eq_true (by (with_reducible assumption))) q22 hroom22
   have hr22 := Kd.C_take (m := ((ji5) : Int).toNat) hC22 (by omega)
   have hy22 : y363.length = ((ji5) : Int).toNat := (by rw [Ny363.out, List.length_take]; omega)
   rw [← Ny363.out] at hr22
   rw [← hy22] at hcut22
   have HR366 := Aside0.mk hr22
   have HC366 := Aside0.mk (show y363.length ≤ co23 from by omega)
   clear hr22 hC22 hroom22 hi022 hsz22
   have KY22 := Aside0.mk hy22
   clear hy22
   have KL22 := Aside0.mk (show ((ji5) : Int).toNat ≤ y357.length from by omega)
   replace q22 := eq_true q22
   refine norm_ (a' := ?_) ?_ ?_
   rotate_left
   ·simp only [putAll, Act.put, List.setIfInBounds_toArray, List.set_cons_zero, List.set_cons_succ]
    rfl
   refine pure_ (i := 12) (N := some 29) (v := ?_) (a' := ?_) #[true, true, true, true, true, true, true, true, true, true, true, true, true, false, false, false, false, false] rfl rfl (any_of HT_.out (by kernel_rfl)) (fun _ _ _ h => h) (Or.inl ⟨by rfl, ?_⟩) ?_ ?_
   rotate_left
   ·intro w'
    go_simp
    with_reducible rfl
   rotate_left
   ·simp only [Act.put, List.setIfInBounds_toArray, List.set_cons_zero, List.set_cons_succ, i64_w, i32_w]
    rfl
   refine one_ (i := 13) (N := some 30) #[true, true, true, true, true, true, true, true, true, true, true, true, true, true, false, false, false, false] rfl rfl (one_of HT_.out (by kernel_rfl)) (by decide) (fun K hK => ?_)
   refine goes_ Try.func88 (by kernel_rfl) rfl #[.pointer (some ⟨g, 0, none⟩), .slice Ao23 y363.length co23] (by rfl) rfl rfl (by (try simp only [List.map_toArray, List.map_cons, List.map_nil]); (rfl)) ?_
   with_reducible refine (spec_l1Cur_among.calls g s0_0 t361 t362 _ _ y363 t367 t368 t369 w _ ?side1 ?side2 ?side3 ?side4 ?side5 A8.out).mono ?_
   (case side1 => repeat ((with_reducible (exact HI0.out))))
   (case side2 => repeat ((with_reducible (exact HB.out))))
   (case side3 => repeat ((exact (by repeat ((with_reducible exact HR366.out))))))
   (case side4 => exact HC366.out)
   (case side5 => exact fun ad he h_ he_ => (IsS68.own_ne HI0.out HO359.out (by decide)) (by cases he; simp [Value.ownBlock, he_]))
   rintro e w24 ⟨rfl, hi, hb, hk⟩
   refine ⟨_, rfl, ?_⟩
   have n0_ := Aside0.mk (KeepBut.blk hk (g' := gb345) (o := .cells #[.int .i64 0, .bool false] 25 (0, 0)) (by (with_reducible repeat (fail)); exact BK345.out) NB345_0.out (by simp))
   have n1_ := Aside0.mk (KeepBut.blk hk (g' := gb351) (o := .cells #[.int .i64 t346, .bool t347] 25 (0, 0)) (by (with_reducible repeat (fail)); exact BK351.out) NB351_0.out (by simp))
   have n2_ := Aside0.mk (Kd.R_mono (Kd.R_keep (IsS68.apart (show IsS68 w _ g s0_0 t361 t362 from by repeat ((with_reducible (exact HI0.out)))) (by (with_reducible repeat (fail)); exact HO354.out) (by decide)) hk (fun _ h => h.2)) (fun _ h => h.1))
   have n3_ := Aside0.mk (Kd.R_mono (Kd.R_keep (IsS68.apart (show IsS68 w _ g s0_0 t361 t362 from by repeat ((with_reducible (exact HI0.out)))) (by (with_reducible repeat (fail)); exact HO359.out) (by decide)) hk (fun _ h => h.2)) (fun _ h => h.1))
   have n4_ := Aside0.mk (KeepBut.trans (by repeat ((with_reducible (exact HK.out)))) hk (.inl rfl))
   have n5_ := Aside0.mk (hb)
   have n6_ := Aside0.mk (hi)
   clear BK345
   clear BK351
   clear HO354
   clear HO359
   clear HK
   clear HB
   clear HI0
   have BK345 := n0_
   have BK351 := n1_
   have HO354 := n2_
   have HO359 := n3_
   have HK := n4_
   have HB := n5_
   have HI0 := n6_
   clear n0_ n1_ n2_ n3_ n4_ n5_ n6_
   (try clear hb)
   (try clear hb2)
   (try clear hk)
   (try clear hi)
   refine hK.out _ _ ⟨(blk_cell BK351.out 0).trans rfl, (blk_cell BK351.out 1).trans rfl⟩ (fun hHeld => ?_)
   clear hK K
   refine norm_ (a' := ?_) ?_ ?_
   rotate_left
   ·show Act.put _ (some 30) _ = _
    simp only [Act.put, List.setIfInBounds_toArray, List.set_cons_zero, List.set_cons_succ, i64_w, i32_w]
    rfl
   refine one_ (i := 14) (N := none) #[true, true, true, true, true, true, true, true, true, true, true, true, true, true, true, false, false, false] rfl rfl (one_of HT_.out (by kernel_rfl)) (by decide) (fun K hK => ?_)
   have hs25 : w24.cell? ⟨gb345, 0, none⟩ = some (.int .i64 0) := (blk_cell BK345.out 0).trans rfl
   have hfs25 := blk_frozen BK345.out 0
   have hns25_1 := NB351_345.out
   have hms25_1 := NB345_351.out
   have hs26 : w24.cell? ⟨gb345, 1, none⟩ = some (.bool false) := (blk_cell BK345.out 1).trans rfl
   have hfs26 := blk_frozen BK345.out 1
   have hns26_1 := NB351_345.out
   have hms26_1 := NB345_351.out
   refine skip_ (w1 := ?_) (by rfl) rfl ?_ ?_
   rotate_left
   ·go_simp
    rfl
   refine hK.out _ _ ⟨((cell_far (p := ⟨gb345, _, none⟩) NB351_345.out _).trans (((cell_far (p := ⟨gb345, _, none⟩) NB351_345.out _).trans (hHeld.1)))), ((cell_far (p := ⟨gb345, _, none⟩) NB351_345.out _).trans (((cell_far (p := ⟨gb345, _, none⟩) NB351_345.out _).trans (hHeld.2))))⟩ (fun hHeld => ?_)
   clear hK K
   refine pure_ (i := 15) (N := some 3) (v := ?_) (a' := ?_) #[true, true, true, true, true, true, true, true, true, true, true, true, true, true, true, true, false, false] rfl rfl (any_of HT_.out (by kernel_rfl)) (fun _ _ _ h => h) (Or.inl ⟨by rfl, ?_⟩) ?_ ?_
   rotate_left
   ·intro w'
    go_simp
    with_reducible rfl
   rotate_left
   ·simp only [Act.put, List.setIfInBounds_toArray, List.set_cons_zero, List.set_cons_succ, i64_w, i32_w]
    rfl
   refine pure_ (i := 16) (N := some 4) (v := ?_) (a' := ?_) #[true, true, true, true, true, true, true, true, true, true, true, true, true, true, true, true, true, false] rfl rfl (any_of HT_.out (by kernel_rfl)) (fun _ _ _ h => h) (Or.inl ⟨by rfl, ?_⟩) ?_ ?_
   rotate_left
   ·intro w'
    go_simp
    with_reducible rfl
   rotate_left
   ·simp only [Act.put, List.setIfInBounds_toArray, List.set_cons_zero, List.set_cons_succ, i64_w, i32_w]
    rfl
   refine pure_ (i := 17) (N := some 5) (v := ?_) (a' := ?_) #[true, true, true, true, true, true, true, true, true, true, true, true, true, true, true, true, true, true] rfl rfl (any_of HT_.out (by kernel_rfl)) (fun _ _ _ h => h) (Or.inl ⟨by rfl, ?_⟩) ?_ ?_
   rotate_left
   ·intro w'
    go_simp
    with_reducible rfl
   rotate_left
   ·simp only [Act.put, List.setIfInBounds_toArray, List.set_cons_zero, List.set_cons_succ, i64_w, i32_w]
    rfl
   refine done_ (done_of HT_.out (by kernel_rfl)) ?_
   try go_wp2
   refine bodyPost_ret (results_list (rs := [.cell 2 25, .tmp 3, .tmp 4, .tmp 5]) rfl (by simp) (.cell gb345 25 #[.int .i64 t346, .bool t347] (0, 0) _ rfl (by (with_reducible repeat (fail)); refine blk_put (cs := #[.int .i64 t346, .bool false]) ?_ 1 _ rfl; (with_reducible repeat (fail)); refine blk_put (cs := #[.int .i64 0, .bool false]) ?_ 0 _ rfl; (with_reducible repeat (fail)); exact BK345.out) Try.underlying25 rfl (by kernel_rfl) (.tmp (.tmp (.tmp .nil))))) rfl ?_
   exact ⟨_, by (rfl), by (with_reducible repeat (fail)); exact Kd.R_mono (Kd.R_far (p := ⟨gb345, 1, none⟩) (Kd.R_far (p := ⟨gb345, 0, none⟩) (Kd.R_types HO354.out BK345.out (by decide)) (fun _ hk => hk.2) (.int .i64 t346)) (fun _ hk => hk.2) (.bool t347)) (fun _ hk => trivial), by repeat ((with_reducible first | exact HI0.out | refine IsS68.far ?_ NB0_345.out _)), by repeat ((with_reducible first | exact HB.out | refine below_set ?_ GE345.out)), by repeat ((with_reducible first | exact HK.out | refine keep_far ?_ GW345.out _))⟩
  ·rw [if_neg c7] at H
   exact absurd H (by simp)
 ·rw [if_neg c6] at H
  exact absurd H (by simp)
/-- The draw itself: its cursor begins at the input's head. -/
def spec_DrawSearchTimes.f (k : Nat) (l0 : List Int) : Option (Int × Bool × Int × List Int × Int) := (spec_DrawSearchTimes.inn k l0 0 0).bind fun b => some (b.1, b.2.1, b.2.2.1, b.2.2.2.1, b.2.2.2.2.1)
set_option maxRecDepth 100000 in
theorem spec_DrawSearchTimes.calls (k : Nat) (A0 : Option Addr) (c0 : Nat) (l0 : List Int) (r1 : Int) (r2 : Bool) (r3 : Int) (r4 : List Int) (r5 : Int) (w : World) (hr0 : Kd.C (Kd.int .u8) w A0 l0.length l0) (hc0 : l0.length ≤ c0) (h : spec_DrawSearchTimes.f k l0 = some (r1, r2, r3, r4, r5)) :
  Calls Try.prog 44 #[.slice A0 l0.length c0] w fun e w' => ∃ v3_ : Value, e = .returned (.tuple #[.agg #[.int .i64 r1, .bool r2], .int .i64 r3, v3_, .int .i64 r5]) ∧ Kd.R (Kd.int .i64) 3 w' w.heap.size (fun _ => True) v3_ r4 ∧ Below w.heap.size w w' := by
 obtain ⟨⟨q0, q1, q2, q3, q4, q5, q6⟩, h1, h2⟩ := Option.bind_eq_some_iff.mp h
 simp only [Option.some.injEq, Prod.mk.injEq] at h2
 obtain ⟨rfl, rfl, rfl, rfl, rfl⟩ := h2
 have hb0 := blk_new (w.alloc (Obj.cells #[.int .i64 0, .bool false] 25)) (Obj.cells #[.slice A0 l0.length c0, .int .i64 0, .int .u64 0] 68)
 have hs0 : (w.alloc (Obj.cells #[.int .i64 0, .bool false] 25)).heap.size = w.heap.size + 1 := Array.size_push ..
 rw [hs0] at hb0
 refine (spec_DrawSearchTimes.strong k A0 c0 (w.heap.size + 1) w.heap.size l0 0 0 q0 q1 q2 q3 q4 q5 q6 w w _ rfl rfl rfl rfl ⟨A0, c0, hb0, by omega, hr0⟩ (blk_below (blk_new w (Obj.cells #[.int .i64 0, .bool false] 25)) (below_alloc (Below.refl _ _) _)) (below_alloc (below_alloc (Below.refl _ _) _) _) h1).mono ?_
 rintro e w' ⟨v3_, rfl, ho0, -, hb, -⟩
 exact ⟨v3_, rfl, Kd.R_lower ho0 (Nat.le_refl _), hb⟩

/-! ### impl_SearchTimes: function 45 -/
def impl_SearchTimes.f (k : Nat) (a0_0 : Int) (a0_1 : Bool) (a1 : Int) (l2 : List Int) (a3 : Int) : Option (List Int × Bool) := (impl_isSought.f k a0_0 a0_1 a1 l2).bind fun t346 => (if t346 = true then ((impl_isExtra.f a3).bind fun t347 => (if t347 = true then ((impl_Road_times.f k a0_0 a0_1 a1 l2 a3).bind fun t348 => (some (t348, true))) else (some (([] : List Int), false)))) else (some (([] : List Int), false)))
set_option maxHeartbeats 8000000 in
set_option maxRecDepth 100000 in
theorem impl_SearchTimes.calls (k : Nat) (a0_0 : Int) (a0_1 : Bool) (a1 : Int) (A2 : Option Addr) (c2 : Nat) (l2 : List Int) (a3 : Int) (r1 : List Int) (r2 : Bool) (w : World) (hr2 : Kd.C (Kd.int .i64) w A2 l2.length l2) (hc2 : l2.length ≤ c2) (h : impl_SearchTimes.f k a0_0 a0_1 a1 l2 a3 = some (r1, r2)) :
  Calls Try.prog 45 #[.agg #[.int .i64 a0_0, .bool a0_1], .int .i64 a1, .slice A2 l2.length c2, .int .i64 a3] w fun e w' => ∃ v0_ : Value, e = .returned (.tuple #[v0_, .bool r2]) ∧ Kd.R (Kd.int .i64) 3 w' w.heap.size (fun _ => True) v0_ r1 ∧ Below w.heap.size w w' := by
 have hu25 := Try.underlying25
 have HR2 := Aside0.mk hr2
 have HC2 := Aside0.mk hc2
 clear hr2 hc2
 have HB := Aside0.mk (Below.refl w.heap.size w)
 have H : ((impl_isSought.f k a0_0 a0_1 a1 l2).bind fun t346 => (if t346 = true then ((impl_isExtra.f a3).bind fun t347 => (if t347 = true then ((impl_Road_times.f k a0_0 a0_1 a1 l2 a3).bind fun t348 => (some (t348, true))) else (some (([] : List Int), false)))) else (some (([] : List Int), false)))) = some (r1, r2) := h
 clear h
 replace H := Option.bind_eq_some_iff.mp H
 obtain ⟨t346, A50, H⟩ := H
 try dsimp only at H
 have A5 := Aside0.mk A50
 clear A50
 by_cases c6 : t346 = true
 ·subst c6
  rw [if_pos rfl] at H
  replace H := Option.bind_eq_some_iff.mp H
  obtain ⟨t347, A70, H⟩ := H
  try dsimp only at H
  have A7 := Aside0.mk A70
  clear A70
  by_cases c8 : t347 = true
  ·subst c8
   rw [if_pos rfl] at H
   replace H := Option.bind_eq_some_iff.mp H
   obtain ⟨t348, A90, H⟩ := H
   try dsimp only at H
   have A9 := Aside0.mk A90
   clear A90
   simp only [Option.some.injEq, Prod.mk.injEq] at H
   obtain ⟨rfl, rfl⟩ := H
   go_enter Try.func45, Try.ntmps45
   go_wp2_with (first | ((with_reducible refine gate_dst (N := 4) rfl ?_); refine box_event ?hg (N := 4) ?hd (cs := #[.int .i64 a0_0, .bool a0_1]) (t := 25) ?hr ?_; (case hd => rfl); (case hg => rfl); (case hr => (go_simp; done)); intro gb345 hg w10 hbox hb; have n0_ := Aside0.mk (below_step (by repeat ((with_reducible (exact HB.out)))) hb); have n1_ := Aside0.mk (hbox); have n2_ := Aside0.mk ((by rw [hg]; exact (below_size (by repeat ((with_reducible (exact HB.out))))) : w.heap.size ≤ gb345)); have n3_ := Aside0.mk ((by rw [hg]; exact (below_size (by repeat ((with_reducible (exact HB.out))))) : w.heap.size ≤ gb345)); clear HB; have HB := n0_; have BK345 := n1_; have GW345 := n2_; have GE345 := n3_; clear n0_ n1_ n2_ n3_; clear hb hbox hg; have hcz11_0 : w10.cell? ⟨gb345, 0, none⟩ = some (.int .i64 a0_0) := (blk_cell BK345.out 0).trans rfl; have hcz11_1 : w10.cell? ⟨gb345, 1, none⟩ = some (.bool a0_1) := (blk_cell BK345.out 1).trans rfl; have hfz11_0 := blk_frozen BK345.out 0; have hfz11_1 := blk_frozen BK345.out 1) | ((with_reducible refine gate_callee (f := 75) rfl ?_); refine goesL_ (some 13) rfl rfl Try.func75 (by kernel_rfl) rfl #[.agg #[.int .i64 a0_0, .bool a0_1], .int .i64 a1, .slice A2 l2.length c2] rfl (by (try simp only [List.map_toArray, List.map_cons, List.map_nil]); (rfl)) ?_; (with_reducible refine (impl_isSought.calls k a0_0 a0_1 a1 _ _ l2 true _ ?side1 ?side2 A5.out).mono ?_); (case side1 => repeat ((exact (Kd.C_below HR2.out HB.out)))); (case side2 => exact HC2.out); rintro e w12 ⟨rfl, hb⟩; refine ⟨_, rfl, ?_⟩; have n0_ := Aside0.mk (blk_below (g := gb345) (o := .cells #[.int .i64 a0_0, .bool a0_1] 25 (0, 0)) (by (with_reducible repeat (fail)); exact BK345.out) hb); have n1_ := Aside0.mk (below_step (by repeat ((with_reducible (exact HB.out)))) hb); clear BK345; clear HB; have BK345 := n0_; have HB := n1_; clear n0_ n1_; (try clear hb); (try clear hb2); (try clear hk); (try clear hi)) | (go_at_call 90; (with_reducible refine (impl_isExtra.calls a3 true _ A7.out).mono ?_); rintro e w' ⟨rfl, ⟨nd, rfl⟩⟩; have hcz13_0 : w12.cell? ⟨gb345, 0, none⟩ = some (.int .i64 a0_0) := (blk_cell BK345.out 0).trans rfl; have hcz13_1 : w12.cell? ⟨gb345, 1, none⟩ = some (.bool a0_1) := (blk_cell BK345.out 1).trans rfl; have hfz13_0 := blk_frozen BK345.out 0; have hfz13_1 := blk_frozen BK345.out 1) | ((with_reducible refine gate_callee (f := 77) rfl ?_); refine goesL_ (some 24) rfl rfl Try.func77 (by kernel_rfl) rfl #[.agg #[.int .i64 a0_0, .bool a0_1], .int .i64 a1, .slice A2 l2.length c2, .int .i64 a3] rfl (by (try simp only [List.map_toArray, List.map_cons, List.map_nil]); (rfl)) ?_; (with_reducible refine (impl_Road_times.calls k a0_0 a0_1 a1 _ _ l2 a3 t348 _ ?side1 ?side2 A9.out).mono ?_); (case side1 => repeat ((exact (Kd.C_below HR2.out (by repeat ((with_reducible first | exact HB.out | apply pw_below_drewN))))))); (case side2 => exact HC2.out); rintro e w14 ⟨v349, rfl, ho0, hb⟩; refine ⟨_, rfl, ?_⟩; have n0_ := Aside0.mk (Kd.R_lower ho0 (below_size (by repeat ((with_reducible first | exact HB.out | apply pw_below_drewN))))); have n1_ := Aside0.mk (blk_below (g := gb345) (o := .cells #[.int .i64 a0_0, .bool a0_1] 25 (0, 0)) (by (with_reducible repeat ((refine blk_drewN ?_ _))); exact BK345.out) hb); have n2_ := Aside0.mk (below_step (by repeat ((with_reducible first | exact HB.out | apply pw_below_drewN))) hb); clear BK345; clear HB; have HO350 := n0_; have BK345 := n1_; have HB := n2_; clear n0_ n1_ n2_; (try clear hb); (try clear hb2); (try clear hk); (try clear hi); (try clear ho0)))
   go_ret2
   exact ⟨_, by (rfl), by (with_reducible repeat (fail)); exact HO350.out, by repeat ((with_reducible (exact HB.out)))⟩
  ·replace c8 := Bool.eq_false_iff.mpr c8
   subst c8
   rw [if_neg (show ¬ (false = true) by decide)] at H
   simp only [Option.some.injEq, Prod.mk.injEq] at H
   obtain ⟨rfl, rfl⟩ := H
   go_enter Try.func45, Try.ntmps45
   go_wp2_with (first | ((with_reducible refine gate_dst (N := 4) rfl ?_); refine box_event ?hg (N := 4) ?hd (cs := #[.int .i64 a0_0, .bool a0_1]) (t := 25) ?hr ?_; (case hd => rfl); (case hg => rfl); (case hr => (go_simp; done)); intro gb345 hg w15 hbox hb; have n0_ := Aside0.mk (below_step (by repeat ((with_reducible (exact HB.out)))) hb); have n1_ := Aside0.mk (hbox); have n2_ := Aside0.mk ((by rw [hg]; exact (below_size (by repeat ((with_reducible (exact HB.out))))) : w.heap.size ≤ gb345)); have n3_ := Aside0.mk ((by rw [hg]; exact (below_size (by repeat ((with_reducible (exact HB.out))))) : w.heap.size ≤ gb345)); clear HB; have HB := n0_; have BK345 := n1_; have GW345 := n2_; have GE345 := n3_; clear n0_ n1_ n2_ n3_; clear hb hbox hg; have hcz16_0 : w15.cell? ⟨gb345, 0, none⟩ = some (.int .i64 a0_0) := (blk_cell BK345.out 0).trans rfl; have hcz16_1 : w15.cell? ⟨gb345, 1, none⟩ = some (.bool a0_1) := (blk_cell BK345.out 1).trans rfl; have hfz16_0 := blk_frozen BK345.out 0; have hfz16_1 := blk_frozen BK345.out 1) | ((with_reducible refine gate_callee (f := 75) rfl ?_); refine goesL_ (some 13) rfl rfl Try.func75 (by kernel_rfl) rfl #[.agg #[.int .i64 a0_0, .bool a0_1], .int .i64 a1, .slice A2 l2.length c2] rfl (by (try simp only [List.map_toArray, List.map_cons, List.map_nil]); (rfl)) ?_; (with_reducible refine (impl_isSought.calls k a0_0 a0_1 a1 _ _ l2 true _ ?side1 ?side2 A5.out).mono ?_); (case side1 => repeat ((exact (Kd.C_below HR2.out HB.out)))); (case side2 => exact HC2.out); rintro e w17 ⟨rfl, hb⟩; refine ⟨_, rfl, ?_⟩; have n0_ := Aside0.mk (blk_below (g := gb345) (o := .cells #[.int .i64 a0_0, .bool a0_1] 25 (0, 0)) (by (with_reducible repeat (fail)); exact BK345.out) hb); have n1_ := Aside0.mk (below_step (by repeat ((with_reducible (exact HB.out)))) hb); clear BK345; clear HB; have BK345 := n0_; have HB := n1_; clear n0_ n1_; (try clear hb); (try clear hb2); (try clear hk); (try clear hi)) | (go_at_call 90; (with_reducible refine (impl_isExtra.calls a3 false _ A7.out).mono ?_); rintro e w' ⟨rfl, ⟨nd, rfl⟩⟩))
   go_ret2
   exact ⟨_, by (rfl), by (exact Kd.R_nil _ _ _ _ _), by repeat ((with_reducible first | exact HB.out | apply pw_below_drewN))⟩
 ·replace c6 := Bool.eq_false_iff.mpr c6
  subst c6
  rw [if_neg (show ¬ (false = true) by decide)] at H
  simp only [Option.some.injEq, Prod.mk.injEq] at H
  obtain ⟨rfl, rfl⟩ := H
  go_enter Try.func45, Try.ntmps45
  go_wp2_with (first | ((with_reducible refine gate_dst (N := 4) rfl ?_); refine box_event ?hg (N := 4) ?hd (cs := #[.int .i64 a0_0, .bool a0_1]) (t := 25) ?hr ?_; (case hd => rfl); (case hg => rfl); (case hr => (go_simp; done)); intro gb345 hg w18 hbox hb; have n0_ := Aside0.mk (below_step (by repeat ((with_reducible (exact HB.out)))) hb); have n1_ := Aside0.mk (hbox); have n2_ := Aside0.mk ((by rw [hg]; exact (below_size (by repeat ((with_reducible (exact HB.out))))) : w.heap.size ≤ gb345)); have n3_ := Aside0.mk ((by rw [hg]; exact (below_size (by repeat ((with_reducible (exact HB.out))))) : w.heap.size ≤ gb345)); clear HB; have HB := n0_; have BK345 := n1_; have GW345 := n2_; have GE345 := n3_; clear n0_ n1_ n2_ n3_; clear hb hbox hg; have hcz19_0 : w18.cell? ⟨gb345, 0, none⟩ = some (.int .i64 a0_0) := (blk_cell BK345.out 0).trans rfl; have hcz19_1 : w18.cell? ⟨gb345, 1, none⟩ = some (.bool a0_1) := (blk_cell BK345.out 1).trans rfl; have hfz19_0 := blk_frozen BK345.out 0; have hfz19_1 := blk_frozen BK345.out 1) | ((with_reducible refine gate_callee (f := 75) rfl ?_); refine goesL_ (some 13) rfl rfl Try.func75 (by kernel_rfl) rfl #[.agg #[.int .i64 a0_0, .bool a0_1], .int .i64 a1, .slice A2 l2.length c2] rfl (by (try simp only [List.map_toArray, List.map_cons, List.map_nil]); (rfl)) ?_; (with_reducible refine (impl_isSought.calls k a0_0 a0_1 a1 _ _ l2 false _ ?side1 ?side2 A5.out).mono ?_); (case side1 => repeat ((exact (Kd.C_below HR2.out HB.out)))); (case side2 => exact HC2.out); rintro e w20 ⟨rfl, hb⟩; refine ⟨_, rfl, ?_⟩; have n0_ := Aside0.mk (blk_below (g := gb345) (o := .cells #[.int .i64 a0_0, .bool a0_1] 25 (0, 0)) (by (with_reducible repeat (fail)); exact BK345.out) hb); have n1_ := Aside0.mk (below_step (by repeat ((with_reducible (exact HB.out)))) hb); clear BK345; clear HB; have BK345 := n0_; have HB := n1_; clear n0_ n1_; (try clear hb); (try clear hb2); (try clear hk); (try clear hi)))
  go_ret2
  exact ⟨_, by (rfl), by (exact Kd.R_nil _ _ _ _ _), by repeat ((with_reducible (exact HB.out)))⟩

end Go.Proofs.Ytogflbocmiogpaa.PFnSearches
