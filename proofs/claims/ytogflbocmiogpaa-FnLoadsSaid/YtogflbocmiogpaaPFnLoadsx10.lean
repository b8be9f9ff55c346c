-- Written for this claim by this session's turned copy of the printer.
import Derived.Test.YtogflbocmiogpaaPFnLoadsx0
import Derived.Test.YtogflbocmiogpaaPFnLoadsx1
import Derived.Test.YtogflbocmiogpaaPFnLoadsx4
import Derived.Test.YtogflbocmiogpaaPFnLoadsx9
namespace Go.Proofs.Ytogflbocmiogpaa.PFnLoads
open Go.RowKit Go.Proofs.YtogflbocmiogpaaW.PrintWords Go.Proofs.YtogflbocmiogpaaW.PrintLast Go.Proofs.YtogflbocmiogpaaW.PrintMore
open Bool renaming true → Y_, false → N_
attribute [local go_sem] max2_int min2_int max_two min_two max_three min_three max_four min_four   -- for this text's walks alone
set_option linter.unusedVariables false
set_option linter.unusedSimpArgs false

/-! ### spec_DrawLeastLoad: function 25 -/
def spec_DrawLeastLoad.inn (k : Nat) (s0_0 : List Int) (s0_1 : Int) (s0_2 : Int) : Option (Int × Bool × Int × List Int × Int × Int) := (spec_l1Cur_shortLine.f s0_0 s0_1 s0_2).bind fun bt389 => ((spec_l1Cur_hefts3.f k s0_0 bt389.2.2.2.1 bt389.2.2.2.2 bt389.1 bt389.2.1).bind fun bt395 => (some (bt389.1, bt389.2.1, bt389.2.2.1, bt395.1, bt395.2.1, bt395.2.2)))
def spec_DrawLeastLoad.T3 : Bool × List (List Nat × List Nat) := (true, [([], []), ([], []), ([], []), ([], []), ([2, 3], [2, 3]), ([0, 4, 0], [0]), ([1, 5, 0, 1, 5], [1]), ([4, 6, 0, 1, 2, 3, 4, 5, 6], [4])])
def spec_DrawLeastLoad.B3 : List Nat := [0, 0, 0, 0, 12, 29, 63, 127]
theorem spec_DrawLeastLoad.tab3 : rtab .any (opsOf Try.f25 3) = spec_DrawLeastLoad.T3 := by kernel_rfl
theorem spec_DrawLeastLoad.bits3 : waitsOk spec_DrawLeastLoad.T3.2 spec_DrawLeastLoad.B3 = true := by kernel_rfl
set_option maxHeartbeats 8000000 in
set_option maxRecDepth 100000 in
theorem spec_DrawLeastLoad.strong (k : Nat) (A0 : Option Addr) (c0 : Nat) (g gb388 : Nat) (s0_0 : List Int) (s0_1 : Int) (s0_2 : Int) (r1 : Int) (r2 : Bool) (r3 : Int) (r4 : List Int) (r5 : Int) (r6 : Int) (w0 w W1 : World) (hww : w = w0) (hgb : w.heap.size = gb388) (hgq : gb388 + 1 = g) (hwq : (w.alloc (Obj.cells #[.int .i64 0, .bool false] 25)).alloc (Obj.cells #[.slice A0 s0_0.length c0, .int .i64 0, .int .u64 0] 68) = W1) (hI : IsS68 w W1 g s0_0 s0_1 s0_2) (hBK : W1.heap[gb388]? = some (.cells #[.int .i64 0, .bool false] 25 (0, 0))) (hB : Below w.heap.size w W1) (h : spec_DrawLeastLoad.inn k s0_0 s0_1 s0_2 = some (r1, r2, r3, r4, r5, r6)) :
  Calls Try.prog 25 #[.slice A0 s0_0.length c0] w fun e w' => ∃ v3_ : Value, e = .returned (.tuple #[.agg #[.int .i64 r1, .bool r2], .int .i64 r3, v3_]) ∧ Kd.R (Kd.int .i64) 3 w' w.heap.size (fun _ => True) v3_ r4 ∧ IsS68 w w' g s0_0 r5 r6 ∧ Below w.heap.size w w' ∧ KeepBut w w' g none := by
 have HWQ := Aside0.mk hwq
 have HGQ := Aside0.mk hgq
 clear hwq
 have hu25 := Try.underlying25
 subst hww
 have HI0 := Aside0.mk hI
 have HK := Aside0.mk (KeepBut.of_below hB g none)
 have HL := Aside0.mk (Nat.le_refl w.heap.size)
 have HW0 := Aside0.mk (Nat.le_refl w.heap.size)
 have HB := Aside0.mk hB
 have BK388 := Aside0.mk hBK
 have GW388 := Aside0.mk (Nat.le_of_eq hgb)
 have GE388 := Aside0.mk (Nat.le_of_eq hgb)
 have NB0_388 := Aside0.mk (show g ≠ gb388 by omega)
 have NB388_0 := Aside0.mk (show gb388 ≠ g by omega)
 have HGB := Aside0.mk hgb
 clear hI hB hBK hgb
 have H : ((spec_l1Cur_shortLine.f s0_0 s0_1 s0_2).bind fun bt389 => ((spec_l1Cur_hefts3.f k s0_0 bt389.2.2.2.1 bt389.2.2.2.2 bt389.1 bt389.2.1).bind fun bt395 => (some (bt389.1, bt389.2.1, bt389.2.2.1, bt395.1, bt395.2.1, bt395.2.2)))) = some (r1, r2, r3, r4, r5, r6) := h
 clear h
 replace H := Option.bind_eq_some_iff.mp H
 obtain ⟨⟨t389, t390, t391, t392, t393⟩, A20, H⟩ := H
 try dsimp only at H
 have A2 := Aside0.mk A20
 clear A20
 replace H := Option.bind_eq_some_iff.mp H
 obtain ⟨⟨t395, t398, t399⟩, A30, H⟩ := H
 try dsimp only at H
 have A3 := Aside0.mk A30
 clear A30
 simp only [Option.some.injEq, Prod.mk.injEq] at H
 obtain ⟨rfl, rfl, rfl, rfl, rfl, rfl⟩ := H
 go_enter Try.func25, Try.ntmps25
 go_upto_region 2 with (fail)
 rw [HWQ.out]
 simp only [HGB.out, HGQ.out]
 try go_wp2_with (first | ((with_reducible refine gate_callee (f := 81) rfl ?_); refine goesL_ (some 13) rfl rfl Try.func81 (by kernel_rfl) rfl #[.pointer (some ⟨g, 0, none⟩)] rfl (by (try simp only [List.map_toArray, List.map_cons, List.map_nil]); (rfl)) ?_; (with_reducible refine (spec_l1Cur_shortLine.calls g s0_0 s0_1 s0_2 t389 t390 t391 t392 t393 w _ ?side1 ?side2 A2.out).mono ?_); (case side1 => repeat ((with_reducible (exact HI0.out)))); (case side2 => repeat ((with_reducible (exact HB.out)))); rintro e w5 ⟨rfl, hi, hb, hk⟩; refine ⟨_, rfl, ?_⟩; have n0_ := Aside0.mk (KeepBut.blk hk (g' := gb388) (o := .cells #[.int .i64 0, .bool false] 25 (0, 0)) (by (with_reducible repeat (fail)); exact BK388.out) NB388_0.out (by simp)); have n1_ := Aside0.mk (KeepBut.trans (by repeat ((with_reducible (exact HK.out)))) hk (.inl rfl)); have n2_ := Aside0.mk (hb); have n3_ := Aside0.mk (hi); clear BK388; clear HK; clear HB; clear HI0; have BK388 := n0_; have HK := n1_; have HB := n2_; have HI0 := n3_; clear n0_ n1_ n2_ n3_; (try clear hb); (try clear hb2); (try clear hk); (try clear hi)) | ((with_reducible refine gate_dst (N := 6) rfl ?_); refine box_event ?hg (N := 6) ?hd (cs := #[.int .i64 0, .bool false]) (t := 25) ?hr ?_; (case hd => rfl); (case hg => rfl); (case hr => (go_simp; done)); intro gb394 hg w6 hbox hb; have n0_ := Aside0.mk (IsS68.below (by repeat ((with_reducible (exact HI0.out)))) hb); have n1_ := Aside0.mk (blk_below (g := gb388) (o := .cells #[.int .i64 0, .bool false] 25 (0, 0)) (by (with_reducible repeat (fail)); exact BK388.out) hb); have n2_ := Aside0.mk (KeepBut.trans (by repeat ((with_reducible (exact HK.out)))) (KeepBut.of_below hb g none) (.inl rfl)); have n3_ := Aside0.mk (below_step (by repeat ((with_reducible (exact HB.out)))) hb); have n4_ := Aside0.mk (hbox); have n5_ := Aside0.mk ((by rw [hg]; exact (keep_size (w := w) (g := g) (row := none) (by repeat ((with_reducible (exact HK.out))))) : w.heap.size ≤ gb394)); have n6_ := Aside0.mk ((Nat.le_trans HW0.out (by rw [hg]; exact (keep_size (w := w) (g := g) (row := none) (by repeat ((with_reducible (exact HK.out))))) : w.heap.size ≤ gb394) : w.heap.size ≤ gb394)); have n7_ := Aside0.mk ((by rw [hg]; exact Nat.ne_of_lt (blk_lt (g := gb388) (o := .cells #[.int .i64 0, .bool false] 25 (0, 0)) (by (with_reducible repeat (fail)); exact BK388.out)) : gb388 ≠ gb394)); have n8_ := Aside0.mk ((by rw [hg]; exact Nat.ne_of_gt (blk_lt (g := gb388) (o := .cells #[.int .i64 0, .bool false] 25 (0, 0)) (by (with_reducible repeat (fail)); exact BK388.out)) : gb394 ≠ gb388)); have n9_ := Aside0.mk ((by rw [hg]; exact Nat.ne_of_lt (IsS68.lt (show IsS68 w _ g s0_0 t392 t393 from by repeat ((with_reducible (exact HI0.out))))) : g ≠ gb394)); have n10_ := Aside0.mk ((by rw [hg]; exact Nat.ne_of_gt (IsS68.lt (show IsS68 w _ g s0_0 t392 t393 from by repeat ((with_reducible (exact HI0.out))))) : gb394 ≠ g)); clear HI0; clear BK388; clear HK; clear HB; have HI0 := n0_; have BK388 := n1_; have HK := n2_; have HB := n3_; have BK394 := n4_; have GW394 := n5_; have GE394 := n6_; have NB388_394 := n7_; have NB394_388 := n8_; have NB0_394 := n9_; have NB394_0 := n10_; clear n0_ n1_ n2_ n3_ n4_ n5_ n6_ n7_ n8_ n9_ n10_; clear hb hbox hg; have hnb7 := NB394_388.out; have hnc7 := NB388_394.out; have hnb8 := NB394_0.out; have hnc8 := NB0_394.out; have hcz9_0 : w6.cell? ⟨gb394, 0, none⟩ = some (.int .i64 0) := (blk_cell BK394.out 0).trans rfl; have hcz9_1 : w6.cell? ⟨gb394, 1, none⟩ = some (.bool false) := (blk_cell BK394.out 1).trans rfl; have hfz9_0 := blk_frozen BK394.out 0; have hfz9_1 := blk_frozen BK394.out 1))
 have n0_ : Aside0 (((w6.setCell ⟨gb394, 0, none⟩ (.int .i64 t389)).setCell ⟨gb394, 1, none⟩ (.bool t390)).heap[gb388]? = some (.cells #[.int .i64 0, .bool false] 25 (0, 0))) := ⟨by (with_reducible repeat (fail)); refine blk_far ?_ NB388_394.out _; (with_reducible repeat (fail)); refine blk_far ?_ NB388_394.out _; (with_reducible repeat (fail)); exact BK388.out⟩
 have n1_ : Aside0 (((w6.setCell ⟨gb394, 0, none⟩ (.int .i64 t389)).setCell ⟨gb394, 1, none⟩ (.bool t390)).heap[gb394]? = some (.cells #[.int .i64 t389, .bool t390] 25 (0, 0))) := ⟨by (with_reducible repeat (fail)); refine blk_put (cs := #[.int .i64 t389, .bool false]) ?_ 1 _ rfl; (with_reducible repeat (fail)); refine blk_put (cs := #[.int .i64 0, .bool false]) ?_ 0 _ rfl; (with_reducible repeat (fail)); exact BK394.out⟩
 have n2_ : Aside0 (IsS68 w ((w6.setCell ⟨gb394, 0, none⟩ (.int .i64 t389)).setCell ⟨gb394, 1, none⟩ (.bool t390)) g s0_0 t392 t393) := ⟨by repeat ((with_reducible first | exact HI0.out | refine IsS68.far ?_ NB0_394.out _))⟩
 have n3_ : Aside0 (KeepBut w ((w6.setCell ⟨gb394, 0, none⟩ (.int .i64 t389)).setCell ⟨gb394, 1, none⟩ (.bool t390)) g none) := ⟨by repeat ((with_reducible first | exact HK.out | refine keep_far ?_ GW394.out _))⟩
 have n4_ : Aside0 (Below w.heap.size w ((w6.setCell ⟨gb394, 0, none⟩ (.int .i64 t389)).setCell ⟨gb394, 1, none⟩ (.bool t390))) := ⟨by repeat ((with_reducible first | exact HB.out | refine below_set ?_ GE394.out))⟩
 (try clear BK388)
 (try clear BK394)
 (try clear HI0)
 (try clear HK)
 (try clear HB)
 generalize ((w6.setCell ⟨gb394, 0, none⟩ (.int .i64 t389)).setCell ⟨gb394, 1, none⟩ (.bool t390)) = w10 at n0_ n1_ n2_ n3_ n4_ ⊢
 have BK388 := n0_
 have BK394 := n1_
 have HI0 := n2_
 have HK := n3_
 have HB := n4_
 clear n0_ n1_ n2_ n3_ n4_
 have n0_ := Aside0.mk (blk_drew BK388.out)
 have n1_ := Aside0.mk (blk_drew BK394.out)
 have n2_ := Aside0.mk (IsS68.drew HI0.out)
 have n3_ := Aside0.mk (keep_drew HK.out)
 have n4_ := Aside0.mk (below_drew1 HB.out)
 clear BK388
 clear BK394
 clear HI0
 clear HK
 clear HB
 have BK388 := n0_
 have BK394 := n1_
 have HI0 := n2_
 have HK := n3_
 have HB := n4_
 clear n0_ n1_ n2_ n3_ n4_
 refine start_ (n := 8) (S := fun w' => w'.cell? ⟨gb394, 0, none⟩ = some (.int .i64 t389) ∧ w'.cell? ⟨gb394, 1, none⟩ = some (.bool t390)) (ds := []) #[N_,N_,N_,N_,N_,N_,N_,N_] (by kernel_rfl) rfl rfl ⟨(blk_cell BK394.out 0).trans rfl, (blk_cell BK394.out 1).trans rfl⟩ (fun hHeld => ?_); refine with_tabW spec_DrawLeastLoad.tab3 spec_DrawLeastLoad.bits3 (fun HT_ HW_ => ?_)
 generalize w10.drew = w11 at BK388 BK394 HI0 HK HB hHeld ⊢
 refine pure_ (i := 1) (N := some 17) (v := ?_) (a' := ?_) #[N_,Y_,N_,N_,N_,N_,N_,N_] rfl rfl (any_of HT_.out (by kernel_rfl)) (fun _ _ _ h => h) (Or.inl ⟨by rfl, ?_⟩) ?_ ?_
 rotate_left
 ·intro w'
  go_simp
  rfl
 rotate_left
 ·simp only [Act.put, List.setIfInBounds_toArray, List.set_cons_zero, List.set_cons_succ, i64_w, i32_w]
  rfl
 refine pure_ (i := 2) (N := some 18) (v := ?_) (a' := ?_) #[N_,Y_,Y_,N_,N_,N_,N_,N_] rfl rfl (any_of HT_.out (by kernel_rfl)) (fun _ _ _ h => h) (Or.inl ⟨by rfl, ?_⟩) ?_ ?_
 rotate_left
 ·intro w'
  go_simp
  rfl
 rotate_left
 ·simp only [Act.put, List.setIfInBounds_toArray, List.set_cons_zero, List.set_cons_succ, i64_w, i32_w]
  rfl
 refine take_ (i := 0) (N := some 16) (v := ?_) (a' := ?_) #[Y_,Y_,Y_,N_,N_,N_,N_,N_] rfl rfl (take_ofW HT_.out HW_.out (by kernel_rfl)) (fun _ _ _ h => h) (Or.inl ⟨by rfl, ?_⟩) hHeld ?_ ?_
 rotate_left
 ·rintro w' ⟨s0, s1⟩
  go_simp
  rfl
 rotate_left
 ·simp only [Act.put, List.setIfInBounds_toArray, List.set_cons_zero, List.set_cons_succ, i64_w, i32_w]
  rfl
 refine take_ (i := 3) (N := some 19) (v := ?_) (a' := ?_) #[Y_,Y_,Y_,Y_,N_,N_,N_,N_] rfl rfl (take_ofW HT_.out HW_.out (by kernel_rfl)) (fun _ _ _ h => h) (Or.inl ⟨by rfl, ?_⟩) hHeld ?_ ?_
 rotate_left
 ·rintro w' ⟨s0, s1⟩
  go_simp
  rfl
 rotate_left
 ·simp only [Act.put, List.setIfInBounds_toArray, List.set_cons_zero, List.set_cons_succ, i64_w, i32_w]
  rfl
 refine one_ (i := 4) (N := some 20) #[Y_,Y_,Y_,Y_,Y_,N_,N_,N_] rfl rfl (one_of HT_.out (by kernel_rfl)) (by decide) (fun K hK => ?_)
 refine goes_ Try.func74 (by kernel_rfl) rfl #[.pointer (some ⟨g, 0, none⟩), .agg #[.int .i64 t389, .bool t390]] (by rfl) rfl rfl (by (try simp only [List.map_toArray, List.map_cons, List.map_nil]); (rfl)) ?_
 refine (spec_l1Cur_hefts3.calls k g s0_0 t392 t393 t389 t390 t395 t398 t399 w _ ?side1 ?side2 A3.out).mono ?_
 (case side1 => repeat ((with_reducible (exact HI0.out))))
 (case side2 => repeat ((with_reducible (exact HB.out))))
 rintro e w12 ⟨v396, rfl, ho0, hi, hb, hk⟩
 refine ⟨_, rfl, ?_⟩
 have n0_ := Aside0.mk (KeepBut.blk hk (g' := gb388) (o := .cells #[.int .i64 0, .bool false] 25 (0, 0)) (by (with_reducible repeat (fail)); exact BK388.out) NB388_0.out (by simp))
 have n1_ := Aside0.mk (KeepBut.blk hk (g' := gb394) (o := .cells #[.int .i64 t389, .bool t390] 25 (0, 0)) (by (with_reducible repeat (fail)); exact BK394.out) NB394_0.out (by simp))
 have n2_ := Aside0.mk (Kd.R_lower ho0 (keep_size (w := w) (g := g) (row := none) (by repeat ((with_reducible (exact HK.out))))))
 have n3_ := Aside0.mk (KeepBut.trans (by repeat ((with_reducible (exact HK.out)))) hk (.inl rfl))
 have n4_ := Aside0.mk (hb)
 have n5_ := Aside0.mk (hi)
 clear BK388
 clear BK394
 clear HK
 clear HB
 clear HI0
 have BK388 := n0_
 have BK394 := n1_
 have HO397 := n2_
 have HK := n3_
 have HB := n4_
 have HI0 := n5_
 clear n0_ n1_ n2_ n3_ n4_ n5_
 (try clear hb)
 (try clear hb2)
 (try clear hk)
 (try clear hi)
 (try clear ho0)
 refine hK.out _ _ ⟨(blk_cell BK394.out 0).trans rfl, (blk_cell BK394.out 1).trans rfl⟩ (fun hHeld => ?_)
 clear hK K
 refine norm_ (a' := ?_) ?_ ?_
 rotate_left
 ·show Act.put _ (some 20) _ = _
  simp only [Act.put, List.setIfInBounds_toArray, List.set_cons_zero, List.set_cons_succ, i64_w, i32_w]
  rfl
 refine one_ (i := 5) (N := none) #[Y_,Y_,Y_,Y_,Y_,Y_,N_,N_] rfl rfl (one_of HT_.out (by kernel_rfl)) (by decide) (fun K hK => ?_)
 have hs13 : w12.cell? ⟨gb388, 0, none⟩ = some (.int .i64 0) := (blk_cell BK388.out 0).trans rfl
 have hfs13 := blk_frozen BK388.out 0
 have hns13_1 := NB394_388.out
 have hms13_1 := NB388_394.out
 have hs14 : w12.cell? ⟨gb388, 1, none⟩ = some (.bool false) := (blk_cell BK388.out 1).trans rfl
 have hfs14 := blk_frozen BK388.out 1
 have hns14_1 := NB394_388.out
 have hms14_1 := NB388_394.out
 refine skip_ (w1 := ?_) (by rfl) rfl ?_ ?_
 rotate_left
 ·go_simp
  rfl
 refine hK.out _ _ ⟨((cell_far (p := ⟨gb388, _, none⟩) NB394_388.out _).trans (((cell_far (p := ⟨gb388, _, none⟩) NB394_388.out _).trans (hHeld.1)))), ((cell_far (p := ⟨gb388, _, none⟩) NB394_388.out _).trans (((cell_far (p := ⟨gb388, _, none⟩) NB394_388.out _).trans (hHeld.2))))⟩ (fun hHeld => ?_)
 clear hK K
 refine pure_ (i := 6) (N := some 3) (v := ?_) (a' := ?_) #[Y_,Y_,Y_,Y_,Y_,Y_,Y_,N_] rfl rfl (any_of HT_.out (by kernel_rfl)) (fun _ _ _ h => h) (Or.inl ⟨by rfl, ?_⟩) ?_ ?_
 rotate_left
 ·intro w'
  go_simp
  rfl
 rotate_left
 ·simp only [Act.put, List.setIfInBounds_toArray, List.set_cons_zero, List.set_cons_succ, i64_w, i32_w]
  rfl
 refine pure_ (i := 7) (N := some 4) (v := ?_) (a' := ?_) #[Y_,Y_,Y_,Y_,Y_,Y_,Y_,Y_] rfl rfl (any_of HT_.out (by kernel_rfl)) (fun _ _ _ h => h) (Or.inl ⟨by rfl, ?_⟩) ?_ ?_
 rotate_left
 ·intro w'
  go_simp
  rfl
 rotate_left
 ·simp only [Act.put, List.setIfInBounds_toArray, List.set_cons_zero, List.set_cons_succ, i64_w, i32_w]
  rfl
 refine done_ (done_of HT_.out (by kernel_rfl)) ?_
 try go_wp2
 refine bodyPost_ret (results_ctt rfl _ _ gb388 25 #[.int .i64 t389, .bool t390] (0, 0) _ rfl (by (with_reducible repeat (fail)); refine blk_put (cs := #[.int .i64 t389, .bool false]) ?_ 1 _ rfl; (with_reducible repeat (fail)); refine blk_put (cs := #[.int .i64 0, .bool false]) ?_ 0 _ rfl; (with_reducible repeat (fail)); exact BK388.out) Try.underlying25 rfl (by kernel_rfl)) rfl ?_
 exact ⟨_, by (rfl), by (with_reducible repeat (fail)); exact Kd.R_mono (Kd.R_far (p := ⟨gb388, 1, none⟩) (Kd.R_far (p := ⟨gb388, 0, none⟩) (Kd.R_types HO397.out BK388.out (by decide)) (fun _ hk => hk.2) (.int .i64 t389)) (fun _ hk => hk.2) (.bool t390)) (fun _ hk => trivial), by repeat ((with_reducible first | exact HI0.out | refine IsS68.far ?_ NB0_388.out _)), by repeat ((with_reducible first | exact HB.out | refine below_set ?_ GE388.out)), by repeat ((with_reducible first | exact HK.out | refine keep_far ?_ GW388.out _))⟩
/-- The draw itself: its cursor begins at the input's head. -/
def spec_DrawLeastLoad.f (k : Nat) (l0 : List Int) : Option (Int × Bool × Int × List Int) := (spec_DrawLeastLoad.inn k l0 0 0).bind fun b => some (b.1, b.2.1, b.2.2.1, b.2.2.2.1)
set_option maxRecDepth 100000 in
theorem spec_DrawLeastLoad.calls (k : Nat) (A0 : Option Addr) (c0 : Nat) (l0 : List Int) (r1 : Int) (r2 : Bool) (r3 : Int) (r4 : List Int) (w : World) (hr0 : Kd.C (Kd.int .u8) w A0 l0.length l0) (hc0 : l0.length ≤ c0) (h : spec_DrawLeastLoad.f k l0 = some (r1, r2, r3, r4)) :
  Calls Try.prog 25 #[.slice A0 l0.length c0] w fun e w' => ∃ v3_ : Value, e = .returned (.tuple #[.agg #[.int .i64 r1, .bool r2], .int .i64 r3, v3_]) ∧ Kd.R (Kd.int .i64) 3 w' w.heap.size (fun _ => True) v3_ r4 ∧ Below w.heap.size w w' := by
 obtain ⟨⟨q0, q1, q2, q3, q4, q5⟩, h1, h2⟩ := Option.bind_eq_some_iff.mp h
 simp only [Option.some.injEq, Prod.mk.injEq] at h2
 obtain ⟨rfl, rfl, rfl, rfl⟩ := h2
 have hb0 := blk_new (w.alloc (Obj.cells #[.int .i64 0, .bool false] 25)) (Obj.cells #[.slice A0 l0.length c0, .int .i64 0, .int .u64 0] 68)
 have hs0 : (w.alloc (Obj.cells #[.int .i64 0, .bool false] 25)).heap.size = w.heap.size + 1 := Array.size_push ..
 rw [hs0] at hb0
 refine (spec_DrawLeastLoad.strong k A0 c0 (w.heap.size + 1) w.heap.size l0 0 0 q0 q1 q2 q3 q4 q5 w w _ rfl rfl rfl rfl ⟨A0, c0, hb0, by omega, hr0⟩ (blk_below (blk_new w (Obj.cells #[.int .i64 0, .bool false] 25)) (below_alloc (Below.refl _ _) _)) (below_alloc (below_alloc (Below.refl _ _) _) _) h1).mono ?_
 rintro e w' ⟨v3_, rfl, ho0, -, hb, -⟩
 exact ⟨v3_, rfl, Kd.R_lower ho0 (Nat.le_refl _), hb⟩

/-! ### laws_vCut: function 26 -/
def laws_vCut.f (l0 : List Int) (a1 : Int) : Option (List Int) := if a1 > (l0.length : Int) then ((some (([] : List Int) : List Int)).bind fun y371 => (if 0 ≤ (l0.length : Int) then (if (l0.length : Int) ≤ (l0.length : Int) then (if y371.length + ([] : List Int).length < 140737488355328 then ((some (y371 ++ ([] : List Int) : List Int)).bind fun y375 => (if y375.length < 140737488355328 then (some (y375 ++ [((l0.length : Int)) % 256])) else (none))) else (none)) else (none)) else (none))) else ((some (([] : List Int) : List Int)).bind fun y381 => (if 0 ≤ a1 then (if a1 ≤ (l0.length : Int) then (if y381.length + (l0.drop (a1 : Int).toNat).length < 140737488355328 then ((some (y381 ++ (l0.drop (a1 : Int).toNat) : List Int)).bind fun y385 => (if y385.length < 140737488355328 then (some (y385 ++ [(a1) % 256])) else (none))) else (none)) else (none)) else (none)))
set_option maxHeartbeats 8000000 in
set_option maxRecDepth 100000 in
theorem laws_vCut.calls (A0 : Option Addr) (c0 : Nat) (l0 : List Int) (a1 : Int) (r : List Int) (w : World) (hr0 : Kd.C (Kd.int .u8) w A0 l0.length l0) (hc0 : l0.length ≤ c0) (h : laws_vCut.f l0 a1 = some r) :
  Calls Try.prog 26 #[.slice A0 l0.length c0, .int .i64 a1] w fun e w' => ∃ v0_ : Value, e = .returned (v0_) ∧ Kd.R (Kd.int .u8) 5 w' w.heap.size (fun _ => True) v0_ r ∧ Below w.heap.size w w' := by
 have HR0 := Aside0.mk hr0
 have HC0 := Aside0.mk hc0
 clear hr0 hc0
 have HB := Aside0.mk (Below.refl w.heap.size w)
 have H : (if a1 > (l0.length : Int) then ((some (([] : List Int) : List Int)).bind fun y371 => (if 0 ≤ (l0.length : Int) then (if (l0.length : Int) ≤ (l0.length : Int) then (if y371.length + ([] : List Int).length < 140737488355328 then ((some (y371 ++ ([] : List Int) : List Int)).bind fun y375 => (if y375.length < 140737488355328 then (some (y375 ++ [((l0.length : Int)) % 256])) else (none))) else (none)) else (none)) else (none))) else ((some (([] : List Int) : List Int)).bind fun y381 => (if 0 ≤ a1 then (if a1 ≤ (l0.length : Int) then (if y381.length + (l0.drop (a1 : Int).toNat).length < 140737488355328 then ((some (y381 ++ (l0.drop (a1 : Int).toNat) : List Int)).bind fun y385 => (if y385.length < 140737488355328 then (some (y385 ++ [(a1) % 256])) else (none))) else (none)) else (none)) else (none)))) = some r := h
 clear h
 by_cases c3 : a1 > (l0.length : Int)
 ·rw [if_pos c3] at H
  have c3b0 : decide ((l0.length : Int) < a1) = true := decide_eq_true c3
  clear c3
  obtain ⟨y371, hy371⟩ : ∃ y_ : List Int, y_ = (([] : List Int)) := ⟨_, rfl⟩
  replace H : (if 0 ≤ (l0.length : Int) then (if (l0.length : Int) ≤ (l0.length : Int) then (if y371.length + ([] : List Int).length < 140737488355328 then ((some (y371 ++ ([] : List Int) : List Int)).bind fun y375 => (if y375.length < 140737488355328 then (some (y375 ++ [((l0.length : Int)) % 256])) else (none))) else (none)) else (none)) else (none)) = some r := by (have H2_ := (Option.bind_some _ _).symm.trans H; rw [hy371]; exact H2_)
  have Ny371 := Aside0.mk hy371
  clear hy371
  by_cases c4 : 0 ≤ (l0.length : Int)
  rotate_left
  ·rw [if_neg c4] at H
   exact absurd H (by simp)
  rw [if_pos c4] at H
  have c4b0 := eq_true c4
  have c4b1 : decide (0 ≤ (l0.length : Int)) = true := decide_eq_true c4
  clear c4
  by_cases c5 : (l0.length : Int) ≤ (l0.length : Int)
  rotate_left
  ·rw [if_neg c5] at H
   exact absurd H (by simp)
  rw [if_pos c5] at H
  have c5b0 := eq_true c5
  have c5b1 : decide ((l0.length : Int) ≤ (l0.length : Int)) = true := decide_eq_true c5
  clear c5
  by_cases c6 : y371.length + ([] : List Int).length < 140737488355328
  rotate_left
  ·rw [if_neg c6] at H
   exact absurd H (by simp)
  rw [if_pos c6] at H
  have LMc6 := Aside0.mk c6
  clear c6
  obtain ⟨y375, hy375⟩ : ∃ y_ : List Int, y_ = (y371 ++ ([] : List Int)) := ⟨_, rfl⟩
  replace H : (if y375.length < 140737488355328 then (some (y375 ++ [((l0.length : Int)) % 256])) else (none)) = some r := by (have H2_ := (Option.bind_some _ _).symm.trans H; rw [hy375]; exact H2_)
  have Ny375 := Aside0.mk hy375
  clear hy375
  by_cases c7 : y375.length < 140737488355328
  rotate_left
  ·rw [if_neg c7] at H
   exact absurd H (by simp)
  rw [if_pos c7] at H
  have LMc7 := Aside0.mk c7
  clear c7
  obtain ⟨y378, hy378⟩ : ∃ y_ : List Int, y_ = (y375 ++ [((l0.length : Int)) % 256]) := ⟨_, rfl⟩
  replace H : (some y378) = some r := by (rw [hy378]; exact H)
  have Ny378 := Aside0.mk hy378
  clear hy378
  obtain rfl := Option.some.inj H
  go_enter Try.func26, Try.ntmps26
  go_wp2_with (first | ((with_reducible refine gate_dst (N := 11) rfl ?_); refine Kd.R_lit (Kd.int .u8) _ 5 ?hg (N := 11) ?hd (xs := ([] : List Int)) (inner := []) (ok := fun _ => True) (okp := fun _ => True) ?hr ?hp (fun _ hk => hk) trivial (Below.refl _ _) (Nat.le_refl _) (by simp) ?_; (case hd => rfl); (case hg => rfl); (case hr => (go_simp; done)); (case hp => exact (Reps.none _ _)); intro v372 w8 ho9 hb hg_ hnew_; clear hg_ hnew_; ((rw [← Ny371.out] at ho9)); have n0_ := Aside0.mk (Kd.R_lower ho9 (below_size (by repeat ((with_reducible (exact HB.out)))))); have n1_ := Aside0.mk (below_step (by repeat ((with_reducible (exact HB.out)))) hb); clear HB; have HO373 := n0_; have HB := n1_; clear n0_ n1_; clear hb ho9; obtain ⟨i010, hi010, _, hsz10, _⟩ := info_parts info5; obtain ⟨A10, hcut10, hA10, hC10⟩ := print_drop_of (P := Try.prog) (Value.int .u8) 0 22 5 .i64 Try.underlying22 hi010 hsz10 A0 c0 l0 (l0.length : Int) (of_decide_eq_true (by (with_reducible assumption))) (of_decide_eq_true (by (with_reducible assumption))) HC0.out; have HR374 := Aside0.mk (Kd.C_of_reads (h1 := fun _ => rfl) (hA10 _ (Kd.reads_of_C HR0.out))); have HC374 := Aside0.mk hC10; clear hA10 hC10 hi010 hsz10) | ((with_reducible refine gate_builtin (b := .append) (xs := #[.tmp 11, .tmp 14]) rfl ?_); at_builtin; refine Kd.R_append_rows (Kd.int .u8) (w0 := w) w.heap.size rfl (.tmp 11) (.tmp 14) 22 5 (.int .u8 0) 1 rfl Try.underlying22 info5 rfl (by decide) (by omega) v372 y371 ([] : List Int) _ _ _ (fun _ => True) (fun _ => False) rfl rfl ?aO ?aR (fun _ _ h => h) (fun _ h => h.elim) ?aF ?aB ?aS ?aL ?_; (case aR => exact ⟨rfl, by simp, fun hn_ => absurd hn_ (by simp)⟩); (case aB => exact (by repeat ((with_reducible (exact HB.out))))); (case aF => exact (fun _ _ => trivial)); (case aO => exact (by (with_reducible repeat (fail)); exact HO373.out)); (case aS => exact (below_size (by repeat ((with_reducible (exact HB.out)))))); (case aL => have := LMc6.out; (try simp only [List.length_nil] at this); omega); intro v376 w11 ho hb hg hat; rw [← Ny375.out] at ho; have n0_ := Aside0.mk (hb); have n1_ := Aside0.mk (ho); clear HB; clear HO373; have HB := n0_; have HO377 := n1_; clear n0_ n1_; clear ho hb hg hat) | ((with_reducible refine gate_builtin (b := .append) (xs := #[.tmp 15, .tmp 18]) rfl ?_); at_builtin; refine Kd.R_append (Kd.int .u8) (w0 := w) w.heap.size rfl (.tmp 15) (.tmp 18) 22 5 (.int .u8 0) 1 rfl Try.underlying22 info5 rfl (by decide) (by omega) v376 y375 (((l0.length : Int)) % 256) [.int .u8 (((l0.length : Int)) % 256)] (fun _ => True) (fun _ => False) rfl rfl ?aP (fun _ hk => hk.elim) ?aF ?aO ?aB ?aS ?aL ?_; (case aP => exact rfl); (case aB => exact (by repeat ((with_reducible (exact HB.out))))); (case aF => exact (fun _ _ => trivial)); (case aO => exact (by (with_reducible repeat (fail)); exact HO377.out)); (case aS => exact (below_size (by repeat ((with_reducible (exact HB.out)))))); (case aL => have := LMc7.out; omega); intro v379 w12 ho hb hg hat; rw [← Ny378.out] at ho; have n0_ := Aside0.mk (hb); have n1_ := Aside0.mk (ho); clear HB; clear HO377; have HB := n0_; have HO380 := n1_; clear n0_ n1_; clear ho hb hg hat))
  go_ret
  exact ⟨_, by (rfl), by (with_reducible repeat (fail)); exact HO380.out, by repeat ((with_reducible (exact HB.out)))⟩
 rw [if_neg c3] at H
 have c3b0 : decide ((l0.length : Int) < a1) = false := decide_eq_false c3
 clear c3
 obtain ⟨y381, hy381⟩ : ∃ y_ : List Int, y_ = (([] : List Int)) := ⟨_, rfl⟩
 replace H : (if 0 ≤ a1 then (if a1 ≤ (l0.length : Int) then (if y381.length + (l0.drop (a1 : Int).toNat).length < 140737488355328 then ((some (y381 ++ (l0.drop (a1 : Int).toNat) : List Int)).bind fun y385 => (if y385.length < 140737488355328 then (some (y385 ++ [(a1) % 256])) else (none))) else (none)) else (none)) else (none)) = some r := by (have H2_ := (Option.bind_some _ _).symm.trans H; rw [hy381]; exact H2_)
 have Ny381 := Aside0.mk hy381
 clear hy381
 by_cases c13 : 0 ≤ a1
 rotate_left
 ·rw [if_neg c13] at H
  exact absurd H (by simp)
 rw [if_pos c13] at H
 have c13b0 := eq_true c13
 have c13b1 : decide (0 ≤ a1) = true := decide_eq_true c13
 clear c13
 by_cases c14 : a1 ≤ (l0.length : Int)
 rotate_left
 ·rw [if_neg c14] at H
  exact absurd H (by simp)
 rw [if_pos c14] at H
 have c14b0 := eq_true c14
 have c14b1 : decide (a1 ≤ (l0.length : Int)) = true := decide_eq_true c14
 clear c14
 by_cases c15 : y381.length + (l0.drop (a1 : Int).toNat).length < 140737488355328
 rotate_left
 ·rw [if_neg c15] at H
  exact absurd H (by simp)
 rw [if_pos c15] at H
 have LMc15 := Aside0.mk c15
 clear c15
 obtain ⟨y385, hy385⟩ : ∃ y_ : List Int, y_ = (y381 ++ (l0.drop (a1 : Int).toNat)) := ⟨_, rfl⟩
 replace H : (if y385.length < 140737488355328 then (some (y385 ++ [(a1) % 256])) else (none)) = some r := by (have H2_ := (Option.bind_some _ _).symm.trans H; rw [hy385]; exact H2_)
 have Ny385 := Aside0.mk hy385
 clear hy385
 by_cases c16 : y385.length < 140737488355328
 rotate_left
 ·rw [if_neg c16] at H
  exact absurd H (by simp)
 rw [if_pos c16] at H
 have LMc16 := Aside0.mk c16
 clear c16
 obtain ⟨y388, hy388⟩ : ∃ y_ : List Int, y_ = (y385 ++ [(a1) % 256]) := ⟨_, rfl⟩
 replace H : (some y388) = some r := by (rw [hy388]; exact H)
 have Ny388 := Aside0.mk hy388
 clear hy388
 obtain rfl := Option.some.inj H
 go_enter Try.func26, Try.ntmps26
 go_wp2_with (first | ((with_reducible refine gate_dst (N := 11) rfl ?_); refine Kd.R_lit (Kd.int .u8) _ 5 ?hg (N := 11) ?hd (xs := ([] : List Int)) (inner := []) (ok := fun _ => True) (okp := fun _ => True) ?hr ?hp (fun _ hk => hk) trivial (Below.refl _ _) (Nat.le_refl _) (by simp) ?_; (case hd => rfl); (case hg => rfl); (case hr => (go_simp; done)); (case hp => exact (Reps.none _ _)); intro v382 w17 ho18 hb hg_ hnew_; clear hg_ hnew_; ((rw [← Ny381.out] at ho18)); have n0_ := Aside0.mk (Kd.R_lower ho18 (below_size (by repeat ((with_reducible (exact HB.out)))))); have n1_ := Aside0.mk (below_step (by repeat ((with_reducible (exact HB.out)))) hb); clear HB; have HO383 := n0_; have HB := n1_; clear n0_ n1_; clear hb ho18; obtain ⟨i019, hi019, _, hsz19, _⟩ := info_parts info5; obtain ⟨A19, hcut19, hA19, hC19⟩ := print_drop_of (P := Try.prog) (Value.int .u8) 0 22 5 .i64 Try.underlying22 hi019 hsz19 A0 c0 l0 a1 (of_decide_eq_true (by (with_reducible assumption))) (of_decide_eq_true (by (with_reducible assumption))) HC0.out; have HR384 := Aside0.mk (Kd.C_of_reads (h1 := fun _ => rfl) (hA19 _ (Kd.reads_of_C HR0.out))); have HC384 := Aside0.mk hC19; clear hA19 hC19 hi019 hsz19) | ((with_reducible refine gate_builtin (b := .append) (xs := #[.tmp 11, .tmp 14]) rfl ?_); at_builtin; refine Kd.R_append_rows (Kd.int .u8) (w0 := w) w.heap.size rfl (.tmp 11) (.tmp 14) 22 5 (.int .u8 0) 1 rfl Try.underlying22 info5 rfl (by decide) (by omega) v382 y381 (l0.drop (a1 : Int).toNat) _ _ _ (fun _ => True) (fun _ => False) rfl rfl ?aO ?aR (fun _ _ h => h) (fun _ h => h.elim) ?aF ?aB ?aS ?aL ?_; (case aR => (rw [← show (l0.drop (a1 : Int).toNat).length = (l0.length - a1.toNat) from List.length_drop]; repeat (exact (Kd.C_below HR384.out HB.out)))); (case aB => exact (by repeat ((with_reducible (exact HB.out))))); (case aF => exact (fun _ _ => trivial)); (case aO => exact (by (with_reducible repeat (fail)); exact HO383.out)); (case aS => exact (below_size (by repeat ((with_reducible (exact HB.out)))))); (case aL => have := LMc15.out; have hlx_ := (show (l0.drop (a1 : Int).toNat).length = (l0.length - a1.toNat) from List.length_drop); omega); intro v386 w20 ho hb hg hat; rw [← Ny385.out] at ho; have n0_ := Aside0.mk (hb); have n1_ := Aside0.mk (ho); clear HB; clear HO383; have HB := n0_; have HO387 := n1_; clear n0_ n1_; clear ho hb hg hat) | ((with_reducible refine gate_builtin (b := .append) (xs := #[.tmp 15, .tmp 18]) rfl ?_); at_builtin; refine Kd.R_append (Kd.int .u8) (w0 := w) w.heap.size rfl (.tmp 15) (.tmp 18) 22 5 (.int .u8 0) 1 rfl Try.underlying22 info5 rfl (by decide) (by omega) v386 y385 ((a1) % 256) [.int .u8 ((a1) % 256)] (fun _ => True) (fun _ => False) rfl rfl ?aP (fun _ hk => hk.elim) ?aF ?aO ?aB ?aS ?aL ?_; (case aP => exact rfl); (case aB => exact (by repeat ((with_reducible (exact HB.out))))); (case aF => exact (fun _ _ => trivial)); (case aO => exact (by (with_reducible repeat (fail)); exact HO387.out)); (case aS => exact (below_size (by repeat ((with_reducible (exact HB.out)))))); (case aL => have := LMc16.out; omega); intro v389 w21 ho hb hg hat; rw [← Ny388.out] at ho; have n0_ := Aside0.mk (hb); have n1_ := Aside0.mk (ho); clear HB; clear HO387; have HB := n0_; have HO390 := n1_; clear n0_ n1_; clear ho hb hg hat))
 go_ret
 exact ⟨_, by (rfl), by (with_reducible repeat (fail)); exact HO390.out, by repeat ((with_reducible (exact HB.out)))⟩

end Go.Proofs.Ytogflbocmiogpaa.PFnLoads
