-- Written for this claim by this session's turned copy of the printer.
import Derived.Test.YtogflbocmiogpaaPFnLoadsx0
import Derived.Test.YtogflbocmiogpaaPFnLoadsx1
import Derived.Test.YtogflbocmiogpaaPFnLoadsx2
namespace Go.Proofs.Ytogflbocmiogpaa.PFnLoads
open Go.RowKit Go.Proofs.YtogflbocmiogpaaW.PrintWords Go.Proofs.YtogflbocmiogpaaW.PrintLast Go.Proofs.YtogflbocmiogpaaW.PrintMore
open Bool renaming true → Y_, false → N_
attribute [local go_sem] max2_int min2_int max_two min_two max_three min_three max_four min_four   -- for this text's walks alone
set_option linter.unusedVariables false
set_option linter.unusedSimpArgs false

/-! ### spec_l1Cur_turns3: function 73 -/
mutual
def spec_l1Cur_turns3.l0 : Nat → Int → Int → Int → Bool → List Int → List Int → Int → Int → Int → Bool → Option (List Int × Int × Int)
 | 0, _, _, _, _, _, _, _, _, _, _ => none
 | k + 1, x2, x7, x8, x9, x10, x1000, x1001, x1002, x207000, x207001 => if x7 > 0 then (spec_l1Cur_turns3.j1 k x2 x7 x8 x9 x10 true x1000 x1001 x1002 x207000 x207001) else (spec_l1Cur_turns3.j1 k x2 x7 x8 x9 x10 (decide (x8 < (wrap64 (x207000 - 1)))) x1000 x1001 x1002 x207000 x207001)
def spec_l1Cur_turns3.j1 : Nat → Int → Int → Int → Bool → List Int → Bool → List Int → Int → Int → Int → Bool → Option (List Int × Int × Int)
 | 0, _, _, _, _, _, _, _, _, _, _, _ => none
 | k + 1, x2, x7, x8, x9, x10, x29, x1000, x1001, x1002, x207000, x207001 => if x29 = true then (if x9 = true then (spec_l1Cur_turns3.j2 k x2 x7 x8 x9 x10 (decide (x8 < (wrap64 (x207000 - 1)))) x1000 x1001 x1002 x207000 x207001) else (spec_l1Cur_turns3.j2 k x2 x7 x8 x9 x10 false x1000 x1001 x1002 x207000 x207001)) else ((spec_l1Cur_one.f x1000 x1001 x1002 24).bind fun bt231 => (if bt231.1 = true then ((spec_l1Cur_among.f x1000 bt231.2.1 bt231.2.2 (([(-1), x2, 0, 24] : List Int))).bind fun bt237 => (if x10.length < 17592186044416 then (some ((x10 ++ [bt237.1]), bt237.2.1, bt237.2.2)) else (none))) else ((spec_l3Straight.f k x2 x10).bind fun t243 => (some (t243, bt231.2.1, bt231.2.2)))))
def spec_l1Cur_turns3.j2 : Nat → Int → Int → Int → Bool → List Int → Bool → List Int → Int → Int → Int → Bool → Option (List Int × Int × Int)
 | 0, _, _, _, _, _, _, _, _, _, _, _ => none
 | k + 1, x2, x7, x8, x9, x10, x37, x1000, x1001, x1002, x207000, x207001 => if x37 = true then ((spec_l1Cur_pick.f x1000 x1001 x1002 5).bind fun bt217 => ((spec_l1Least.f (wrap64 (x207000 - 1)) (wrap64 ((wrap64 (x8 + 1)) + bt217.1))).bind fun t220 => (if x10.length < 17592186044416 then (spec_l1Cur_turns3.j3 k x2 x7 t220 x9 (x10 ++ [t220]) x1000 bt217.2.1 bt217.2.2 x207000 x207001) else (none)))) else (spec_l1Cur_turns3.j3 k x2 x7 x8 x9 x10 x1000 x1001 x1002 x207000 x207001)
def spec_l1Cur_turns3.j3 : Nat → Int → Int → Int → Bool → List Int → List Int → Int → Int → Int → Bool → Option (List Int × Int × Int)
 | 0, _, _, _, _, _, _, _, _, _, _ => none
 | k + 1, x2, x7, x8, x9, x10, x1000, x1001, x1002, x207000, x207001 => if x9 = true then (spec_l1Cur_turns3.j4 k x2 x7 x8 x9 x10 false x1000 x1001 x1002 x207000 x207001) else (spec_l1Cur_turns3.j4 k x2 x7 x8 x9 x10 (decide (x7 > 0)) x1000 x1001 x1002 x207000 x207001)
def spec_l1Cur_turns3.j4 : Nat → Int → Int → Int → Bool → List Int → Bool → List Int → Int → Int → Int → Bool → Option (List Int × Int × Int)
 | 0, _, _, _, _, _, _, _, _, _, _, _ => none
 | k + 1, x2, x7, x8, x9, x10, x56, x1000, x1001, x1002, x207000, x207001 => if x56 = true then ((spec_l1Cur_pick.f x1000 x1001 x1002 5).bind fun bt224 => ((spec_l1Most.f 0 (wrap64 ((wrap64 (x7 - 1)) - bt224.1))).bind fun t227 => (if x10.length < 17592186044416 then (spec_l1Cur_turns3.l0 k x2 t227 x8 (!x9) (x10 ++ [t227]) x1000 bt224.2.1 bt224.2.2 x207000 x207001) else (none)))) else (spec_l1Cur_turns3.l0 k x2 x7 x8 (!x9) x10 x1000 x1001 x1002 x207000 x207001)
end
def spec_l1Cur_turns3.f (k : Nat) (s0_0 : List Int) (s0_1 : Int) (s0_2 : Int) (a1_0 : Int) (a1_1 : Bool) (a2 : Int) : Option (List Int × Int × Int) := (spec_l3Line.f a1_0 a1_1 a2).bind fun t207 => (if t207 = true then ((spec_l1Cur_one.f s0_0 s0_1 s0_2 2).bind fun bt211 => (spec_l1Cur_turns3.l0 k a2 a2 a2 bt211.1 (([] : List Int)) s0_0 bt211.2.1 bt211.2.2 a1_0 a1_1)) else (some ((([0, 1] : List Int)), s0_1, s0_2)))
def spec_l1Cur_turns3.T7 : Bool × List (List Nat × List Nat) := (true, [([], []), ([0], [0]), ([1], [1]), ([], []), ([3], [3]), ([], []), ([5], [5]), ([4, 6], [4, 6]), ([2, 7, 6], [2, 7]), ([8, 8, 0, 1, 2, 3, 4, 5, 6, 7, 8], [3, 8])])
def spec_l1Cur_turns3.B7 : List Nat := [0, 1, 3, 0, 8, 0, 32, 120, 255, 511]
theorem spec_l1Cur_turns3.tab7 : rtab .any (opsOf Try.f73 7) = spec_l1Cur_turns3.T7 := by kernel_rfl
theorem spec_l1Cur_turns3.bits7 : waitsOk spec_l1Cur_turns3.T7.2 spec_l1Cur_turns3.B7 = true := by kernel_rfl
set_option maxHeartbeats 8000000 in
set_option maxRecDepth 100000 in
theorem spec_l1Cur_turns3.calls (k : Nat) (g : Nat) (s0_0 : List Int) (s0_1 : Int) (s0_2 : Int) (a1_0 : Int) (a1_1 : Bool) (a2 : Int) (r1 : List Int) (r2 : Int) (r3 : Int) (w0 w : World) (hI : IsS68 w0 w g s0_0 s0_1 s0_2) (hB : Below w0.heap.size w0 w) (h : spec_l1Cur_turns3.f k s0_0 s0_1 s0_2 a1_0 a1_1 a2 = some (r1, r2, r3)) :
  Calls Try.prog 73 #[.pointer (some ⟨g, 0, none⟩), .agg #[.int .i64 a1_0, .bool a1_1], .int .i64 a2] w fun e w' => ∃ v0_ : Value, e = .returned (v0_) ∧ Kd.R (Kd.int .i64) 3 w' w.heap.size (fun _ => True) v0_ r1 ∧ IsS68 w0 w' g s0_0 r2 r3 ∧ Below w0.heap.size w0 w' ∧ KeepBut w w' g none := by
 have hu25 := Try.underlying25
 have HI0 := Aside0.mk hI
 have HK := Aside0.mk (KeepBut.refl w g none)
 have HL := Aside0.mk hB.size
 clear hI
 have HW0 := Aside0.mk hB.size
 have HB := Aside0.mk hB
 clear hB
 have H : ((spec_l3Line.f a1_0 a1_1 a2).bind fun t207 => (if t207 = true then ((spec_l1Cur_one.f s0_0 s0_1 s0_2 2).bind fun bt211 => (spec_l1Cur_turns3.l0 k a2 a2 a2 bt211.1 (([] : List Int)) s0_0 bt211.2.1 bt211.2.2 a1_0 a1_1)) else (some ((([0, 1] : List Int)), s0_1, s0_2)))) = some (r1, r2, r3) := h
 clear h
 replace H := Option.bind_eq_some_iff.mp H
 obtain ⟨t207, A40, H⟩ := H
 try dsimp only at H
 have A4 := Aside0.mk A40
 clear A40
 by_cases c5 : t207 = true
 rotate_left
 ·replace c5 := Bool.eq_false_iff.mpr c5
  subst c5
  rw [if_neg (show ¬ (false = true) by decide)] at H
  obtain ⟨y208, hy208⟩ : ∃ y_ : List Int, y_ = (([0, 1] : List Int)) := ⟨_, rfl⟩
  replace H : (some (y208, s0_1, s0_2)) = some (r1, r2, r3) := by (rw [hy208]; exact H)
  have Ny208 := Aside0.mk hy208
  clear hy208
  simp only [Option.some.injEq, Prod.mk.injEq] at H
  obtain ⟨rfl, rfl, rfl⟩ := H
  go_enter Try.func73, Try.ntmps73
  go_wp2_with (first | ((with_reducible refine gate_dst (N := 4) rfl ?_); refine box_event ?hg (N := 4) ?hd (cs := #[.int .i64 a1_0, .bool a1_1]) (t := 25) ?hr ?_; (case hd => rfl); (case hg => rfl); (case hr => (go_simp; done)); intro gb206 hg w53 hbox hb; have n0_ := Aside0.mk (IsS68.below (by repeat ((with_reducible (exact HI0.out)))) hb); have n1_ := Aside0.mk (KeepBut.trans (by repeat ((with_reducible (exact HK.out)))) (KeepBut.of_below hb g none) (.inl rfl)); have n2_ := Aside0.mk (below_step (by repeat ((with_reducible (exact HB.out)))) hb); have n3_ := Aside0.mk (hbox); have n4_ := Aside0.mk ((by rw [hg]; exact (keep_size (w := w) (g := g) (row := none) (by repeat ((with_reducible (exact HK.out))))) : w.heap.size ≤ gb206)); have n5_ := Aside0.mk ((Nat.le_trans HW0.out (by rw [hg]; exact (keep_size (w := w) (g := g) (row := none) (by repeat ((with_reducible (exact HK.out))))) : w.heap.size ≤ gb206) : w0.heap.size ≤ gb206)); have n6_ := Aside0.mk ((by rw [hg]; exact Nat.ne_of_lt (IsS68.lt (show IsS68 w0 _ g s0_0 s0_1 s0_2 from by repeat ((with_reducible (exact HI0.out))))) : g ≠ gb206)); have n7_ := Aside0.mk ((by rw [hg]; exact Nat.ne_of_gt (IsS68.lt (show IsS68 w0 _ g s0_0 s0_1 s0_2 from by repeat ((with_reducible (exact HI0.out))))) : gb206 ≠ g)); clear HI0; clear HK; clear HB; have HI0 := n0_; have HK := n1_; have HB := n2_; have BK206 := n3_; have GW206 := n4_; have GE206 := n5_; have NB0_206 := n6_; have NB206_0 := n7_; clear n0_ n1_ n2_ n3_ n4_ n5_ n6_ n7_; clear hb hbox hg; have hnb54 := NB206_0.out; have hnc54 := NB0_206.out; have hcz55_0 : w53.cell? ⟨gb206, 0, none⟩ = some (.int .i64 a1_0) := (blk_cell BK206.out 0).trans rfl; have hcz55_1 : w53.cell? ⟨gb206, 1, none⟩ = some (.bool a1_1) := (blk_cell BK206.out 1).trans rfl; have hfz55_0 := blk_frozen BK206.out 0; have hfz55_1 := blk_frozen BK206.out 1) | ((with_reducible refine gate_callee (f := 84) rfl ?_); refine goesL_ (some 13) rfl rfl Try.func84 (by kernel_rfl) rfl #[.agg #[.int .i64 a1_0, .bool a1_1], .int .i64 a2] rfl (by (try simp only [List.map_toArray, List.map_cons, List.map_nil]); (rfl)) ?_; (with_reducible refine (spec_l3Line.calls a1_0 a1_1 a2 false _ A4.out).mono ?_); rintro e w56 ⟨rfl, hb⟩; refine ⟨_, rfl, ?_⟩; have n0_ := Aside0.mk (IsS68.below (by repeat ((with_reducible (exact HI0.out)))) hb); have n1_ := Aside0.mk (blk_below (g := gb206) (o := .cells #[.int .i64 a1_0, .bool a1_1] 25 (0, 0)) (by (with_reducible repeat (fail)); exact BK206.out) hb); have n2_ := Aside0.mk (KeepBut.trans (by repeat ((with_reducible (exact HK.out)))) (KeepBut.of_below hb g none) (.inl rfl)); have n3_ := Aside0.mk (below_step (by repeat ((with_reducible (exact HB.out)))) hb); clear HI0; clear BK206; clear HK; clear HB; have HI0 := n0_; have BK206 := n1_; have HK := n2_; have HB := n3_; clear n0_ n1_ n2_ n3_; (try clear hb); (try clear hb2); (try clear hk); (try clear hi)) | ((with_reducible refine gate_dst (N := 15) rfl ?_); refine Kd.R_lit (Kd.int .i64) _ 3 ?hg (N := 15) ?hd (xs := ([0, 1] : List Int)) (inner := [.int .i64 0, .int .i64 1]) (ok := fun _ => True) (okp := fun _ => True) ?hr ?hp (fun _ hk => hk) trivial (Below.refl _ _) (Nat.le_refl _) (by simp) ?_; (case hd => rfl); (case hg => rfl); (case hr => (go_simp; done)); (case hp => exact (Reps.one (show Kd.M (Kd.int .i64) _ _ _ 0 [.int .i64 0] from rfl) (Reps.one (show Kd.M (Kd.int .i64) _ _ _ 1 [.int .i64 1] from rfl) (Reps.none _ _)))); intro v209 w57 ho58 hb hg_ hnew_; clear hg_ hnew_; ((rw [← Ny208.out] at ho58)); have n0_ := Aside0.mk (Kd.R_lower ho58 (keep_size (w := w) (g := g) (row := none) (by repeat ((with_reducible (exact HK.out)))))); have n1_ := Aside0.mk (IsS68.below (by repeat ((with_reducible (exact HI0.out)))) hb); have n2_ := Aside0.mk (blk_below (g := gb206) (o := .cells #[.int .i64 a1_0, .bool a1_1] 25 (0, 0)) (by (with_reducible repeat (fail)); exact BK206.out) hb); have n3_ := Aside0.mk (KeepBut.trans (by repeat ((with_reducible (exact HK.out)))) (KeepBut.of_below hb g none) (.inl rfl)); have n4_ := Aside0.mk (below_step (by repeat ((with_reducible (exact HB.out)))) hb); clear HI0; clear BK206; clear HK; clear HB; have HO210 := n0_; have HI0 := n1_; have BK206 := n2_; have HK := n3_; have HB := n4_; clear n0_ n1_ n2_ n3_ n4_; clear hb ho58))
  go_ret
  exact ⟨_, by (rfl), by (with_reducible repeat (fail)); exact HO210.out, by repeat ((with_reducible (exact HI0.out))), by repeat ((with_reducible (exact HB.out))), by repeat ((with_reducible (exact HK.out)))⟩
 subst c5
 rw [if_pos rfl] at H
 replace H := Option.bind_eq_some_iff.mp H
 obtain ⟨⟨t211, t212, t213⟩, A60, H⟩ := H
 try dsimp only at H
 have A6 := Aside0.mk A60
 clear A60
 obtain ⟨y214, hy214⟩ : ∃ y_ : List Int, y_ = (([] : List Int)) := ⟨_, rfl⟩
 replace H : (spec_l1Cur_turns3.l0 k a2 a2 a2 t211 y214 s0_0 t212 t213 a1_0 a1_1) = some (r1, r2, r3) := by (rw [hy214]; exact H)
 have Ny214 := Aside0.mk hy214
 clear hy214
 have H' := Aside0.mk H
 clear H
 go_enter Try.func73, Try.ntmps73
 go_wp2_with (first | ((with_reducible refine gate_dst (N := 4) rfl ?_); refine box_event ?hg (N := 4) ?hd (cs := #[.int .i64 a1_0, .bool a1_1]) (t := 25) ?hr ?_; (case hd => rfl); (case hg => rfl); (case hr => (go_simp; done)); intro gb206 hg w7 hbox hb; have n0_ := Aside0.mk (IsS68.below (by repeat ((with_reducible (exact HI0.out)))) hb); have n1_ := Aside0.mk (KeepBut.trans (by repeat ((with_reducible (exact HK.out)))) (KeepBut.of_below hb g none) (.inl rfl)); have n2_ := Aside0.mk (below_step (by repeat ((with_reducible (exact HB.out)))) hb); have n3_ := Aside0.mk (hbox); have n4_ := Aside0.mk ((by rw [hg]; exact (keep_size (w := w) (g := g) (row := none) (by repeat ((with_reducible (exact HK.out))))) : w.heap.size ≤ gb206)); have n5_ := Aside0.mk ((Nat.le_trans HW0.out (by rw [hg]; exact (keep_size (w := w) (g := g) (row := none) (by repeat ((with_reducible (exact HK.out))))) : w.heap.size ≤ gb206) : w0.heap.size ≤ gb206)); have n6_ := Aside0.mk ((by rw [hg]; exact Nat.ne_of_lt (IsS68.lt (show IsS68 w0 _ g s0_0 s0_1 s0_2 from by repeat ((with_reducible (exact HI0.out))))) : g ≠ gb206)); have n7_ := Aside0.mk ((by rw [hg]; exact Nat.ne_of_gt (IsS68.lt (show IsS68 w0 _ g s0_0 s0_1 s0_2 from by repeat ((with_reducible (exact HI0.out))))) : gb206 ≠ g)); clear HI0; clear HK; clear HB; have HI0 := n0_; have HK := n1_; have HB := n2_; have BK206 := n3_; have GW206 := n4_; have GE206 := n5_; have NB0_206 := n6_; have NB206_0 := n7_; clear n0_ n1_ n2_ n3_ n4_ n5_ n6_ n7_; clear hb hbox hg; have hnb8 := NB206_0.out; have hnc8 := NB0_206.out; have hcz9_0 : w7.cell? ⟨gb206, 0, none⟩ = some (.int .i64 a1_0) := (blk_cell BK206.out 0).trans rfl; have hcz9_1 : w7.cell? ⟨gb206, 1, none⟩ = some (.bool a1_1) := (blk_cell BK206.out 1).trans rfl; have hfz9_0 := blk_frozen BK206.out 0; have hfz9_1 := blk_frozen BK206.out 1) | ((with_reducible refine gate_callee (f := 84) rfl ?_); refine goesL_ (some 13) rfl rfl Try.func84 (by kernel_rfl) rfl #[.agg #[.int .i64 a1_0, .bool a1_1], .int .i64 a2] rfl (by (try simp only [List.map_toArray, List.map_cons, List.map_nil]); (rfl)) ?_; (with_reducible refine (spec_l3Line.calls a1_0 a1_1 a2 true _ A4.out).mono ?_); rintro e w10 ⟨rfl, hb⟩; refine ⟨_, rfl, ?_⟩; have n0_ := Aside0.mk (IsS68.below (by repeat ((with_reducible (exact HI0.out)))) hb); have n1_ := Aside0.mk (blk_below (g := gb206) (o := .cells #[.int .i64 a1_0, .bool a1_1] 25 (0, 0)) (by (with_reducible repeat (fail)); exact BK206.out) hb); have n2_ := Aside0.mk (KeepBut.trans (by repeat ((with_reducible (exact HK.out)))) (KeepBut.of_below hb g none) (.inl rfl)); have n3_ := Aside0.mk (below_step (by repeat ((with_reducible (exact HB.out)))) hb); clear HI0; clear BK206; clear HK; clear HB; have HI0 := n0_; have BK206 := n1_; have HK := n2_; have HB := n3_; clear n0_ n1_ n2_ n3_; (try clear hb); (try clear hb2); (try clear hk); (try clear hi)) | ((with_reducible refine gate_callee (f := 110) rfl ?_); refine goesL_ (some 19) rfl rfl Try.func110 (by kernel_rfl) rfl #[.pointer (some ⟨g, 0, none⟩), .int .i64 2] rfl (by (try simp only [List.map_toArray, List.map_cons, List.map_nil]); (rfl)) ?_; (with_reducible refine (spec_l1Cur_one.calls g s0_0 s0_1 s0_2 2 t211 t212 t213 w0 _ ?side1 ?side2 A6.out).mono ?_); (case side1 => repeat ((with_reducible (exact HI0.out)))); (case side2 => repeat ((with_reducible (exact HB.out)))); rintro e w11 ⟨rfl, hi, hb, hk⟩; refine ⟨_, rfl, ?_⟩; have n0_ := Aside0.mk (KeepBut.blk hk (g' := gb206) (o := .cells #[.int .i64 a1_0, .bool a1_1] 25 (0, 0)) (by (with_reducible repeat (fail)); exact BK206.out) NB206_0.out (by simp)); have n1_ := Aside0.mk (KeepBut.trans (by repeat ((with_reducible (exact HK.out)))) hk (.inl rfl)); have n2_ := Aside0.mk (hb); have n3_ := Aside0.mk (hi); clear BK206; clear HK; clear HB; clear HI0; have BK206 := n0_; have HK := n1_; have HB := n2_; have HI0 := n3_; clear n0_ n1_ n2_ n3_; (try clear hb); (try clear hb2); (try clear hk); (try clear hi)) | ((with_reducible refine gate_dst (N := 20) rfl ?_); refine Kd.R_lit (Kd.int .i64) _ 3 ?hg (N := 20) ?hd (xs := ([] : List Int)) (inner := []) (ok := fun _ => True) (okp := fun _ => True) ?hr ?hp (fun _ hk => hk) trivial (Below.refl _ _) (Nat.le_refl _) (by simp) ?_; (case hd => rfl); (case hg => rfl); (case hr => (go_simp; done)); (case hp => exact (Reps.none _ _)); intro v215 w12 ho13 hb hg_ hnew_; clear hg_ hnew_; ((rw [← Ny214.out] at ho13)); have n0_ := Aside0.mk (Kd.R_lower ho13 (keep_size (w := w) (g := g) (row := none) (by repeat ((with_reducible (exact HK.out)))))); have n1_ := Aside0.mk (IsS68.below (by repeat ((with_reducible (exact HI0.out)))) hb); have n2_ := Aside0.mk (blk_below (g := gb206) (o := .cells #[.int .i64 a1_0, .bool a1_1] 25 (0, 0)) (by (with_reducible repeat (fail)); exact BK206.out) hb); have n3_ := Aside0.mk (KeepBut.trans (by repeat ((with_reducible (exact HK.out)))) (KeepBut.of_below hb g none) (.inl rfl)); have n4_ := Aside0.mk (below_step (by repeat ((with_reducible (exact HB.out)))) hb); clear HI0; clear BK206; clear HK; clear HB; have HO216 := n0_; have HI0 := n1_; have BK206 := n2_; have HK := n3_; have HB := n4_; clear n0_ n1_ n2_ n3_ n4_; clear hb ho13))
 go_loopg [7, 8, 9, 10] k (fun kq v7 v8 v9 v10 w' => ∃ (x7_1 : Int) (x8_1 : Int) (x9_1 : Bool) (x10_1 : List Int) (x1001_1 : Int) (x1002_1 : Int), v7 = .int .i64 x7_1 ∧ v8 = .int .i64 x8_1 ∧ v9 = .bool x9_1 ∧ Aside0 (spec_l1Cur_turns3.l0 kq a2 x7_1 x8_1 x9_1 x10_1 s0_0 x1001_1 x1002_1 a1_0 a1_1 = some (r1, r2, r3)) ∧ Aside0 (kq ≤ k) ∧ Aside0 (Kd.R (Kd.int .i64) 3 w' w.heap.size (fun _ => True) v10 x10_1) ∧ Aside0 (w'.heap[gb206]? = some (.cells #[.int .i64 a1_0, .bool a1_1] 25 (0, 0))) ∧ Aside0 (IsS68 w0 w' g s0_0 x1001_1 x1002_1) ∧ Aside0 (KeepBut w w' g none) ∧ Aside0 (Below w0.heap.size w0 w'))
 case atStart => exact ⟨(a2), (a2), (t211), (y214), (t212), (t213), (by (rfl)), (by (rfl)), (by (rfl)), H', ⟨Nat.le_refl _⟩, ⟨by (with_reducible repeat (fail)); exact HO216.out⟩, ⟨by (with_reducible repeat (fail)); exact BK206.out⟩, ⟨by repeat ((with_reducible (exact HI0.out)))⟩, ⟨by repeat ((with_reducible (exact HK.out)))⟩, ⟨by repeat ((with_reducible (exact HB.out)))⟩⟩
 case round =>
  clear H'
  (try clear c1); (try clear p2); (try clear c5); (try clear c7); (try clear c8); (try clear c11); (try clear hcz9_0); (try clear hcz9_1); (try clear hfz9_0); (try clear hfz9_1)
  obtain ⟨x7_1, x8_1, x9_1, x10_1, x1001_1, x1002_1, rfl, rfl, rfl, HA, HK1, HO_10, BK206, HI0, HK, HB⟩ := hrel
  cases gk with
  | zero => exact absurd HA.out (by simp [spec_l1Cur_turns3.l0])
  | succ k1 =>
   have H := HA.out
   clear HA
   simp only [spec_l1Cur_turns3.l0] at H
   have HC14 := Aside0.mk H
   clear H
   go_upto_region 5 with (fail)
   go_cut [29] (fun v29 wc => ∃ (kq : Nat) (x29_13 : Bool), v29 = .bool x29_13 ∧ Aside0 (spec_l1Cur_turns3.j1 kq a2 x7_1 x8_1 x9_1 x10_1 x29_13 s0_0 x1001_1 x1002_1 a1_0 a1_1 = some (r1, r2, r3)) ∧ Aside0 (kq ≤ k1) ∧ Aside0 (Kd.R (Kd.int .i64) 3 wc w.heap.size (fun _ => True) u10 x10_1) ∧ Aside0 (wc.heap[gb206]? = some (.cells #[.int .i64 a1_0, .bool a1_1] 25 (0, 0))) ∧ Aside0 (IsS68 w0 wc g s0_0 x1001_1 x1002_1) ∧ Aside0 (KeepBut w wc g none) ∧ Aside0 (Below w0.heap.size w0 wc))
   case first =>
    have H := HC14.out
    clear HC14
    by_cases c15 : x7_1 > 0
    ·rw [if_pos c15] at H
     have c15b0 : decide (0 < x7_1) = true := decide_eq_true c15
     clear c15
     ((skip))
     have H' := Aside0.mk H
     clear H
     go_wp2
     go_meet
     case rel => exact ⟨_, (true), (by (rfl)), H', ⟨by have := HK1.out; (omega)⟩, ⟨by (with_reducible repeat (fail)); exact HO_10.out⟩, ⟨by (with_reducible repeat (fail)); exact BK206.out⟩, ⟨by repeat ((with_reducible (exact HI0.out)))⟩, ⟨by repeat ((with_reducible (exact HK.out)))⟩, ⟨by repeat ((with_reducible (exact HB.out)))⟩⟩
    rw [if_neg c15] at H
    have c15b0 : decide (0 < x7_1) = false := decide_eq_false c15
    clear c15
    ((skip))
    have H' := Aside0.mk H
    clear H
    have hnb16 := NB206_0.out
    have hnc16 := NB0_206.out
    have hcz17_0 : wr.cell? ⟨gb206, 0, none⟩ = some (.int .i64 a1_0) := (blk_cell BK206.out 0).trans rfl
    have hcz17_1 : wr.cell? ⟨gb206, 1, none⟩ = some (.bool a1_1) := (blk_cell BK206.out 1).trans rfl
    have hfz17_0 := blk_frozen BK206.out 0
    have hfz17_1 := blk_frozen BK206.out 1
    go_wp2
    go_meet
    case rel => exact ⟨_, (decide (x8_1 < (wrap64 (a1_0 - 1)))), (by (rfl)), H', ⟨by have := HK1.out; (omega)⟩, ⟨by (with_reducible repeat (fail)); exact HO_10.out⟩, ⟨by (with_reducible repeat (fail)); exact BK206.out⟩, ⟨by repeat ((with_reducible (exact HI0.out)))⟩, ⟨by repeat ((with_reducible (exact HK.out)))⟩, ⟨by repeat ((with_reducible (exact HB.out)))⟩⟩
   case rest =>
    clear HC14
    (try clear c1); (try clear p2); (try clear c5); (try clear p6); (try clear c7); (try clear c8); (try clear c11); (try clear c15); (try clear c15b0); (try clear c16); (try clear hcz17_0); (try clear hcz17_1); (try clear hcz9_0); (try clear hcz9_1); (try clear hfz17_0); (try clear hfz17_1); (try clear hfz9_0)
    (try clear hfz9_1); (try clear p2)
    obtain ⟨kq, x29_13, rfl, HA, HJ13, HO_10, BK206, HI0, HK, HB⟩ := hcut
    cases kq with
    | zero => exact absurd HA.out (by simp [spec_l1Cur_turns3.j1])
    | succ kj13 =>
     have H := HA.out
     clear HA
     simp only [spec_l1Cur_turns3.j1] at H
     by_cases c18 : x29_13 = true
     rotate_left
     ·replace c18 := Bool.eq_false_iff.mpr c18
      subst c18
      rw [if_neg (show ¬ (false = true) by decide)] at H
      replace H := Option.bind_eq_some_iff.mp H
      obtain ⟨⟨t231, t232, t233⟩, A390, H⟩ := H
      try dsimp only at H
      have A39 := Aside0.mk A390
      clear A390
      by_cases c40 : t231 = true
      rotate_left
      ·replace c40 := Bool.eq_false_iff.mpr c40
       subst c40
       rw [if_neg (show ¬ (false = true) by decide)] at H
       replace H := Option.bind_eq_some_iff.mp H
       obtain ⟨t243, A490, H⟩ := H
       try dsimp only at H
       have A49 := Aside0.mk A490
       clear A490
       simp only [Option.some.injEq, Prod.mk.injEq] at H
       obtain ⟨rfl, rfl, rfl⟩ := H
       go_wp2_with (first | ((with_reducible refine gate_callee (f := 110) rfl ?_); refine goesL_ (some 70) rfl rfl Try.func110 (by kernel_rfl) rfl #[.pointer (some ⟨g, 0, none⟩), .int .i64 24] rfl (by (try simp only [List.map_toArray, List.map_cons, List.map_nil]); (rfl)) ?_; (with_reducible refine (spec_l1Cur_one.calls g s0_0 x1001_1 x1002_1 24 false t232 t233 w0 _ ?side1 ?side2 A39.out).mono ?_); (case side1 => repeat ((with_reducible (exact HI0.out)))); (case side2 => repeat ((with_reducible (exact HB.out)))); rintro e w50 ⟨rfl, hi, hb, hk⟩; refine ⟨_, rfl, ?_⟩; have n0_ := Aside0.mk (Kd.R_mono (Kd.R_keep (IsS68.apart (show IsS68 w0 _ g s0_0 x1001_1 x1002_1 from by repeat ((with_reducible (exact HI0.out)))) (by (with_reducible repeat (fail)); exact HO_10.out) (by decide)) hk (fun _ h => h.2)) (fun _ h => h.1)); have n1_ := Aside0.mk (KeepBut.blk hk (g' := gb206) (o := .cells #[.int .i64 a1_0, .bool a1_1] 25 (0, 0)) (by (with_reducible repeat (fail)); exact BK206.out) NB206_0.out (by simp)); have n2_ := Aside0.mk (KeepBut.trans (by repeat ((with_reducible (exact HK.out)))) hk (.inl rfl)); have n3_ := Aside0.mk (hb); have n4_ := Aside0.mk (hi); clear HO_10; clear BK206; clear HK; clear HB; clear HI0; have HO_10 := n0_; have BK206 := n1_; have HK := n2_; have HB := n3_; have HI0 := n4_; clear n0_ n1_ n2_ n3_ n4_; (try clear hb); (try clear hb2); (try clear hk); (try clear hi); obtain ⟨Ao51, co51, eo51⟩ := Kd.R_slice HO_10.out; subst eo51) | ((with_reducible refine gate_callee (f := 97) rfl ?_); refine goesL_ (some 80) rfl rfl Try.func97 (by kernel_rfl) rfl #[.int .i64 a2, .slice Ao51 x10_1.length co51] rfl (by (try simp only [List.map_toArray, List.map_cons, List.map_nil]); (rfl)) ?_; (with_reducible refine (spec_l3Straight.calls kj13 a2 _ _ x10_1 t243 _ ?side1 ?side2 A49.out).mono ?_); (case side1 => repeat (exact (Kd.R_reads' HO_10.out).2.2)); (case side2 => exact (Kd.R_reads' HO_10.out).2.1); rintro e w52 ⟨v244, rfl, ho0, hb⟩; refine ⟨_, rfl, ?_⟩; have n0_ := Aside0.mk (Kd.R_elder' (by (with_reducible repeat (fail)); exact HO_10.out) (Kd.R_base ho0) hb); have n1_ := Aside0.mk (Kd.R_lower (Kd.R_new' ho0 (Kd.R_lt (by (with_reducible repeat (fail)); exact HO_10.out))) (keep_size (w := w) (g := g) (row := none) (by repeat ((with_reducible (exact HK.out)))))); have n2_ := Aside0.mk (blk_below (g := gb206) (o := .cells #[.int .i64 a1_0, .bool a1_1] 25 (0, 0)) (by (with_reducible repeat (fail)); exact BK206.out) hb); have n3_ := Aside0.mk (IsS68.below (by repeat ((with_reducible (exact HI0.out)))) hb); have n4_ := Aside0.mk (KeepBut.trans (by repeat ((with_reducible (exact HK.out)))) (KeepBut.of_below hb g none) (.inl rfl)); have n5_ := Aside0.mk (below_step (by repeat ((with_reducible (exact HB.out)))) hb); clear HO_10; clear BK206; clear HI0; clear HK; clear HB; have HO_10 := n0_; have HO245 := n1_; have BK206 := n2_; have HI0 := n3_; have HK := n4_; have HB := n5_; clear n0_ n1_ n2_ n3_ n4_ n5_; (try clear hb); (try clear hb2); (try clear hk); (try clear hi); (try clear ho0)))
       go_ret
       exact ⟨_, by (rfl), by (with_reducible repeat (fail)); exact Kd.R_mono HO245.out (fun _ hk => trivial), by repeat ((with_reducible (exact HI0.out))), by repeat ((with_reducible (exact HB.out))), by repeat ((with_reducible (exact HK.out)))⟩
      subst c40
      rw [if_pos rfl] at H
      obtain ⟨y234, hy234⟩ : ∃ y_ : List Int, y_ = (([(-1), a2, 0, 24] : List Int)) := ⟨_, rfl⟩
      replace H : ((spec_l1Cur_among.f s0_0 t232 t233 y234).bind fun bt237 => (if x10_1.length < 17592186044416 then (some ((x10_1 ++ [bt237.1]), bt237.2.1, bt237.2.2)) else (none))) = some (r1, r2, r3) := by (rw [hy234]; exact H)
      have Ny234 := Aside0.mk hy234
      clear hy234
      replace H := Option.bind_eq_some_iff.mp H
      obtain ⟨⟨t237, t238, t239⟩, A410, H⟩ := H
      try dsimp only at H
      have A41 := Aside0.mk A410
      clear A410
      by_cases c42 : x10_1.length < 17592186044416
      rotate_left
      ·rw [if_neg c42] at H
       exact absurd H (by simp)
      rw [if_pos c42] at H
      have LMc42 := Aside0.mk c42
      clear c42
      obtain ⟨y240, hy240⟩ : ∃ y_ : List Int, y_ = (x10_1 ++ [t237]) := ⟨_, rfl⟩
      replace H : (some (y240, t238, t239)) = some (r1, r2, r3) := by (rw [hy240]; exact H)
      have Ny240 := Aside0.mk hy240
      clear hy240
      simp only [Option.some.injEq, Prod.mk.injEq] at H
      obtain ⟨rfl, rfl, rfl⟩ := H
      go_wp2_with (first | ((with_reducible refine gate_callee (f := 110) rfl ?_); refine goesL_ (some 70) rfl rfl Try.func110 (by kernel_rfl) rfl #[.pointer (some ⟨g, 0, none⟩), .int .i64 24] rfl (by (try simp only [List.map_toArray, List.map_cons, List.map_nil]); (rfl)) ?_; (with_reducible refine (spec_l1Cur_one.calls g s0_0 x1001_1 x1002_1 24 true t232 t233 w0 _ ?side1 ?side2 A39.out).mono ?_); (case side1 => repeat ((with_reducible (exact HI0.out)))); (case side2 => repeat ((with_reducible (exact HB.out)))); rintro e w43 ⟨rfl, hi, hb, hk⟩; refine ⟨_, rfl, ?_⟩; have n0_ := Aside0.mk (Kd.R_mono (Kd.R_keep (IsS68.apart (show IsS68 w0 _ g s0_0 x1001_1 x1002_1 from by repeat ((with_reducible (exact HI0.out)))) (by (with_reducible repeat (fail)); exact HO_10.out) (by decide)) hk (fun _ h => h.2)) (fun _ h => h.1)); have n1_ := Aside0.mk (KeepBut.blk hk (g' := gb206) (o := .cells #[.int .i64 a1_0, .bool a1_1] 25 (0, 0)) (by (with_reducible repeat (fail)); exact BK206.out) NB206_0.out (by simp)); have n2_ := Aside0.mk (KeepBut.trans (by repeat ((with_reducible (exact HK.out)))) hk (.inl rfl)); have n3_ := Aside0.mk (hb); have n4_ := Aside0.mk (hi); clear HO_10; clear BK206; clear HK; clear HB; clear HI0; have HO_10 := n0_; have BK206 := n1_; have HK := n2_; have HB := n3_; have HI0 := n4_; clear n0_ n1_ n2_ n3_ n4_; (try clear hb); (try clear hb2); (try clear hk); (try clear hi)) | ((with_reducible refine gate_dst (N := 74) rfl ?_); refine Kd.R_lit (Kd.int .i64) _ 3 ?hg (N := 74) ?hd (xs := ([(-1), a2, 0, 24] : List Int)) (inner := [.int .i64 (-1), .int .i64 a2, .int .i64 0, .int .i64 24]) (ok := fun _ => True) (okp := fun _ => True) ?hr ?hp (fun _ hk => hk) trivial (Below.refl _ _) (Nat.le_refl _) (by simp) ?_; (case hd => rfl); (case hg => rfl); (case hr => (go_simp; done)); (case hp => exact (Reps.one (show Kd.M (Kd.int .i64) _ _ _ (-1) [.int .i64 (-1)] from rfl) (Reps.one (show Kd.M (Kd.int .i64) _ _ _ a2 [.int .i64 a2] from rfl) (Reps.one (show Kd.M (Kd.int .i64) _ _ _ 0 [.int .i64 0] from rfl) (Reps.one (show Kd.M (Kd.int .i64) _ _ _ 24 [.int .i64 24] from rfl) (Reps.none _ _)))))); intro v235 w44 ho45 hb hg_ hnew_; clear hg_ hnew_; ((rw [← Ny234.out] at ho45)); have n0_ := Aside0.mk (Kd.R_elder' (by (with_reducible repeat (fail)); exact HO_10.out) (Kd.R_base ho45) hb); have n1_ := Aside0.mk (Kd.R_lower (Kd.R_new' ho45 (Kd.R_lt (by (with_reducible repeat (fail)); exact HO_10.out))) (keep_size (w := w) (g := g) (row := none) (by repeat ((with_reducible (exact HK.out)))))); have n2_ := Aside0.mk (blk_below (g := gb206) (o := .cells #[.int .i64 a1_0, .bool a1_1] 25 (0, 0)) (by (with_reducible repeat (fail)); exact BK206.out) hb); have n3_ := Aside0.mk (IsS68.below (by repeat ((with_reducible (exact HI0.out)))) hb); have n4_ := Aside0.mk (KeepBut.trans (by repeat ((with_reducible (exact HK.out)))) (KeepBut.of_below hb g none) (.inl rfl)); have n5_ := Aside0.mk (below_step (by repeat ((with_reducible (exact HB.out)))) hb); clear HO_10; clear BK206; clear HI0; clear HK; clear HB; have HO_10 := n0_; have HO236 := n1_; have BK206 := n2_; have HI0 := n3_; have HK := n4_; have HB := n5_; clear n0_ n1_ n2_ n3_ n4_ n5_; clear hb ho45; obtain ⟨Ao46, co46, eo46⟩ := Kd.R_slice HO236.out; subst eo46) | ((with_reducible refine gate_callee (f := 88) rfl ?_); refine goesL_ (some 75) rfl rfl Try.func88 (by kernel_rfl) rfl #[.pointer (some ⟨g, 0, none⟩), .slice Ao46 y234.length co46] rfl (by (try simp only [List.map_toArray, List.map_cons, List.map_nil]); (rfl)) ?_; (with_reducible refine (spec_l1Cur_among.calls g s0_0 t232 t233 _ _ y234 t237 t238 t239 w0 _ ?side1 ?side2 ?side3 ?side4 ?side5 A41.out).mono ?_); (case side1 => repeat ((with_reducible (exact HI0.out)))); (case side2 => repeat ((with_reducible (exact HB.out)))); (case side3 => repeat (exact (Kd.R_reads' HO236.out).2.2)); (case side4 => exact (Kd.R_reads' HO236.out).2.1); (case side5 => exact far_slice (IsS68.own_ne HI0.out HO236.out (by decide))); rintro e w47 ⟨rfl, hi, hb, hk⟩; refine ⟨_, rfl, ?_⟩; have n0_ := Aside0.mk (Kd.R_mono (Kd.R_keep (IsS68.apart (show IsS68 w0 _ g s0_0 t232 t233 from by repeat ((with_reducible (exact HI0.out)))) (by (with_reducible repeat (fail)); exact HO_10.out) (by decide)) hk (fun _ h => h.2)) (fun _ h => h.1)); have n1_ := Aside0.mk (KeepBut.blk hk (g' := gb206) (o := .cells #[.int .i64 a1_0, .bool a1_1] 25 (0, 0)) (by (with_reducible repeat (fail)); exact BK206.out) NB206_0.out (by simp)); have n2_ := Aside0.mk (Kd.R_mono (Kd.R_keep (IsS68.apart (show IsS68 w0 _ g s0_0 t232 t233 from by repeat ((with_reducible (exact HI0.out)))) (by (with_reducible repeat (fail)); exact HO236.out) (by decide)) hk (fun _ h => h.2)) (fun _ h => h.1)); have n3_ := Aside0.mk (KeepBut.trans (by repeat ((with_reducible (exact HK.out)))) hk (.inl rfl)); have n4_ := Aside0.mk (hb); have n5_ := Aside0.mk (hi); clear HO_10; clear BK206; clear HO236; clear HK; clear HB; clear HI0; have HO_10 := n0_; have BK206 := n1_; have HO236 := n2_; have HK := n3_; have HB := n4_; have HI0 := n5_; clear n0_ n1_ n2_ n3_ n4_ n5_; (try clear hb); (try clear hb2); (try clear hk); (try clear hi)) | ((with_reducible refine gate_builtin (b := .append) (xs := #[.tmp 71, .tmp 76]) rfl ?_); at_builtin; refine Kd.R_append (Kd.int .i64) w.heap.size rfl (.tmp 71) (.tmp 76) 30 3 (.int .i64 0) 8 rfl Try.underlying30 info3 rfl (by decide) (by omega) u10 x10_1 t237 [.int .i64 t237] (fun k_ => some k_ ≠ (.slice Ao46 y234.length co46 : Value).ownBlock) (fun _ => False) rfl rfl ?aP (fun _ hk => hk.elim) ?aF ?aO (Below.refl _ _) ?aS ?aL ?_; (case aP => exact rfl); (case aF => exact (fun k_ hk => Kd.fresh' (Kd.R_lt (by (with_reducible repeat (fail)); exact HO236.out)) k_ hk)); (case aO => exact (by (with_reducible repeat (fail)); exact Kd.R_mono HO_10.out (fun _ hk => hk.2))); (case aS => exact (keep_size (w := w) (g := g) (row := none) (by repeat ((with_reducible (exact HK.out)))))); (case aL => have := LMc42.out; omega); intro v241 w48 ho hb hg hat; rw [← Ny240.out] at ho; have n0_ := Aside0.mk (blk_grown (g := gb206) (o := .cells #[.int .i64 a1_0, .bool a1_1] 25 (0, 0)) (by (with_reducible repeat (fail)); exact BK206.out) hg (Kd.R_ne HO_10.out BK206.out (by decide))); have n1_ := Aside0.mk (IsS68.grown (by repeat ((with_reducible (exact HI0.out)))) hg (IsS68.own_ne HI0.out HO_10.out (by decide))); have n2_ := Aside0.mk (Kd.R_after (ok := (fun _ => True)) (by (with_reducible repeat (fail)); exact HO236.out) hg hat); have n3_ := Aside0.mk (below_weaken (by repeat ((with_reducible (exact HB.out)))) HL.out hb); have n4_ := Aside0.mk (KeepBut.trans (by repeat ((with_reducible (exact HK.out)))) (KeepBut.of_grown hg g) (Kd.R_base2 HO_10.out)); have n5_ := Aside0.mk (ho); clear BK206; clear HI0; clear HO236; clear HB; clear HK; clear HO_10; have BK206 := n0_; have HI0 := n1_; have HO236 := n2_; have HB := n3_; have HK := n4_; have HO242 := n5_; clear n0_ n1_ n2_ n3_ n4_ n5_; clear ho hb hg hat))
      go_ret
      exact ⟨_, by (rfl), by (with_reducible repeat (fail)); exact Kd.R_mono HO242.out (fun _ hk => trivial), by repeat ((with_reducible (exact HI0.out))), by repeat ((with_reducible (exact HB.out))), by repeat ((with_reducible (exact HK.out)))⟩
     subst c18
     rw [if_pos rfl] at H
     have HC19 := Aside0.mk H
     clear H
     go_upto_region 6 with (fail)
     go_cut [37] (fun v37 wc => ∃ (kq : Nat) (x37_18 : Bool), v37 = .bool x37_18 ∧ Aside0 (spec_l1Cur_turns3.j2 kq a2 x7_1 x8_1 x9_1 x10_1 x37_18 s0_0 x1001_1 x1002_1 a1_0 a1_1 = some (r1, r2, r3)) ∧ Aside0 (kq ≤ kj13) ∧ Aside0 (Kd.R (Kd.int .i64) 3 wc w.heap.size (fun _ => True) u10 x10_1) ∧ Aside0 (wc.heap[gb206]? = some (.cells #[.int .i64 a1_0, .bool a1_1] 25 (0, 0))) ∧ Aside0 (IsS68 w0 wc g s0_0 x1001_1 x1002_1) ∧ Aside0 (KeepBut w wc g none) ∧ Aside0 (Below w0.heap.size w0 wc))
     case first =>
      have H := HC19.out
      clear HC19
      by_cases c20 : x9_1 = true
      rotate_left
      ·replace c20 := Bool.eq_false_iff.mpr c20
       subst c20
       rw [if_neg (show ¬ (false = true) by decide)] at H
       have H' := Aside0.mk H
       clear H
       go_wp2
       go_meet
       case rel => exact ⟨_, (false), (by (rfl)), H', ⟨by have := HK1.out; have := HJ13.out; (omega)⟩, ⟨by (with_reducible repeat (fail)); exact HO_10.out⟩, ⟨by (with_reducible repeat (fail)); exact BK206.out⟩, ⟨by repeat ((with_reducible (exact HI0.out)))⟩, ⟨by repeat ((with_reducible (exact HK.out)))⟩, ⟨by repeat ((with_reducible (exact HB.out)))⟩⟩
      subst c20
      rw [if_pos rfl] at H
      have H' := Aside0.mk H
      clear H
      have hnb21 := NB206_0.out
      have hnc21 := NB0_206.out
      have hcz22_0 : wc.cell? ⟨gb206, 0, none⟩ = some (.int .i64 a1_0) := (blk_cell BK206.out 0).trans rfl
      have hcz22_1 : wc.cell? ⟨gb206, 1, none⟩ = some (.bool a1_1) := (blk_cell BK206.out 1).trans rfl
      have hfz22_0 := blk_frozen BK206.out 0
      have hfz22_1 := blk_frozen BK206.out 1
      go_wp2
      go_meet
      case rel => exact ⟨_, (decide (x8_1 < (wrap64 (a1_0 - 1)))), (by (rfl)), H', ⟨by have := HK1.out; have := HJ13.out; (omega)⟩, ⟨by (with_reducible repeat (fail)); exact HO_10.out⟩, ⟨by (with_reducible repeat (fail)); exact BK206.out⟩, ⟨by repeat ((with_reducible (exact HI0.out)))⟩, ⟨by repeat ((with_reducible (exact HK.out)))⟩, ⟨by repeat ((with_reducible (exact HB.out)))⟩⟩
     case rest =>
      clear HC19
      (try clear c1); (try clear c2); (try clear p2); (try clear c5); (try clear p6); (try clear c7); (try clear c8); (try clear c11); (try clear c15); (try clear c15b0); (try clear c16); (try clear c18); (try clear c20); (try clear c21); (try clear hcz17_0); (try clear hcz17_1); (try clear hcz22_0)
      (try clear hcz22_1); (try clear hcz9_0); (try clear hcz9_1); (try clear hfz17_0); (try clear hfz17_1); (try clear hfz22_0); (try clear hfz22_1); (try clear hfz9_0); (try clear hfz9_1); (try clear p2); (try clear p6)
      obtain ⟨kq, x37_18, rfl, HA, HJ18, HO_10, BK206, HI0, HK, HB⟩ := hcut
      cases kq with
      | zero => exact absurd HA.out (by simp [spec_l1Cur_turns3.j2])
      | succ kj18 =>
       have H := HA.out
       clear HA
       simp only [spec_l1Cur_turns3.j2] at H
       have HC23 := Aside0.mk H
       clear H
       go_upto_if 37 with (fail)
       go_cut [8, 10] (fun v8 v10 wc => ∃ (kq : Nat) (x8_22 : Int) (x10_22 : List Int) (x1001_22 : Int) (x1002_22 : Int), v8 = .int .i64 x8_22 ∧ Aside0 (spec_l1Cur_turns3.j3 kq a2 x7_1 x8_22 x9_1 x10_22 s0_0 x1001_22 x1002_22 a1_0 a1_1 = some (r1, r2, r3)) ∧ Aside0 (kq ≤ kj18) ∧ Aside0 (Kd.R (Kd.int .i64) 3 wc w.heap.size (fun _ => True) v10 x10_22) ∧ Aside0 (wc.heap[gb206]? = some (.cells #[.int .i64 a1_0, .bool a1_1] 25 (0, 0))) ∧ Aside0 (IsS68 w0 wc g s0_0 x1001_22 x1002_22) ∧ Aside0 (KeepBut w wc g none) ∧ Aside0 (Below w0.heap.size w0 wc))
       case first =>
        have H := HC23.out
        clear HC23
        by_cases c24 : x37_18 = true
        rotate_left
        ·replace c24 := Bool.eq_false_iff.mpr c24
         subst c24
         rw [if_neg (show ¬ (false = true) by decide)] at H
         have H' := Aside0.mk H
         clear H
         go_wp2
         go_meet
         case rel => exact ⟨_, (x8_1), (x10_1), (x1001_1), (x1002_1), (by (rfl)), H', ⟨by have := HK1.out; have := HJ13.out; have := HJ18.out; (omega)⟩, ⟨by (with_reducible repeat (fail)); exact HO_10.out⟩, ⟨by (with_reducible repeat (fail)); exact BK206.out⟩, ⟨by repeat ((with_reducible (exact HI0.out)))⟩, ⟨by repeat ((with_reducible (exact HK.out)))⟩, ⟨by repeat ((with_reducible (exact HB.out)))⟩⟩
        subst c24
        rw [if_pos rfl] at H
        replace H := Option.bind_eq_some_iff.mp H
        obtain ⟨⟨t217, t218, t219⟩, A250, H⟩ := H
        try dsimp only at H
        have A25 := Aside0.mk A250
        clear A250
        replace H := Option.bind_eq_some_iff.mp H
        obtain ⟨t220, A260, H⟩ := H
        try dsimp only at H
        have A26 := Aside0.mk A260
        clear A260
        by_cases c27 : x10_1.length < 17592186044416
        rotate_left
        ·rw [if_neg c27] at H
         exact absurd H (by simp)
        rw [if_pos c27] at H
        have LMc27 := Aside0.mk c27
        clear c27
        obtain ⟨y221, hy221⟩ : ∃ y_ : List Int, y_ = (x10_1 ++ [t220]) := ⟨_, rfl⟩
        replace H : (spec_l1Cur_turns3.j3 kj18 a2 x7_1 t220 x9_1 y221 s0_0 t218 t219 a1_0 a1_1) = some (r1, r2, r3) := by (rw [hy221]; exact H)
        have Ny221 := Aside0.mk hy221
        clear hy221
        have H' := Aside0.mk H
        clear H
        try go_wp2
        have n0_ := Aside0.mk (Kd.R_drew HO_10.out)
        have n1_ := Aside0.mk (blk_drew BK206.out)
        have n2_ := Aside0.mk (IsS68.drew HI0.out)
        have n3_ := Aside0.mk (keep_drew HK.out)
        have n4_ := Aside0.mk (below_drew1 HB.out)
        clear HO_10
        clear BK206
        clear HI0
        clear HK
        clear HB
        have HO_10 := n0_
        have BK206 := n1_
        have HI0 := n2_
        have HK := n3_
        have HB := n4_
        clear n0_ n1_ n2_ n3_ n4_
        refine start_ (n := 10) (S := fun w' => w'.cell? ⟨gb206, 0, none⟩ = some (.int .i64 a1_0) ∧ w'.cell? ⟨gb206, 1, none⟩ = some (.bool a1_1)) (ds := []) #[N_,N_,N_,N_,N_,N_,N_,N_,N_,N_] (by kernel_rfl) rfl rfl ⟨(blk_cell BK206.out 0).trans rfl, (blk_cell BK206.out 1).trans rfl⟩ (fun hHeld => ?_); refine with_tabW spec_l1Cur_turns3.tab7 spec_l1Cur_turns3.bits7 (fun HT_ HW_ => ?_)
        generalize wc.drew = w28 at HO_10 BK206 HI0 HK HB hHeld ⊢
        refine pure_ (i := 0) (N := some 38) (v := ?_) (a' := ?_) #[Y_,N_,N_,N_,N_,N_,N_,N_,N_,N_] rfl rfl (any_of HT_.out (by kernel_rfl)) (fun _ _ _ h => h) (Or.inl ⟨by rfl, ?_⟩) ?_ ?_
        rotate_left
        ·intro w'
         go_simp
         rfl
        rotate_left
        ·simp only [Act.put, List.setIfInBounds_toArray, List.set_cons_zero, List.set_cons_succ, i64_w, i32_w]
         rfl
        refine pure_ (i := 3) (N := some 41) (v := ?_) (a' := ?_) #[Y_,N_,N_,Y_,N_,N_,N_,N_,N_,N_] rfl rfl (any_of HT_.out (by kernel_rfl)) (fun _ _ _ h => h) (Or.inl ⟨by rfl, ?_⟩) ?_ ?_
        rotate_left
        ·intro w'
         go_simp
         rfl
        rotate_left
        ·simp only [Act.put, List.setIfInBounds_toArray, List.set_cons_zero, List.set_cons_succ, i64_w, i32_w]
         rfl
        refine pure_ (i := 4) (N := some 42) (v := ?_) (a' := ?_) #[Y_,N_,N_,Y_,Y_,N_,N_,N_,N_,N_] rfl rfl (any_of HT_.out (by kernel_rfl)) (fun _ _ _ h => h) (Or.inl ⟨by rfl, ?_⟩) ?_ ?_
        rotate_left
        ·intro w'
         go_simp
         rfl
        rotate_left
        ·simp only [Act.put, List.setIfInBounds_toArray, List.set_cons_zero, List.set_cons_succ, i64_w, i32_w]
         rfl
        refine pure_ (i := 5) (N := some 43) (v := ?_) (a' := ?_) #[Y_,N_,N_,Y_,Y_,Y_,N_,N_,N_,N_] rfl rfl (any_of HT_.out (by kernel_rfl)) (fun _ _ _ h => h) (Or.inl ⟨by rfl, ?_⟩) ?_ ?_
        rotate_left
        ·intro w'
         go_simp
         rfl
        rotate_left
        ·simp only [Act.put, List.setIfInBounds_toArray, List.set_cons_zero, List.set_cons_succ, i64_w, i32_w]
         rfl
        refine take_ (i := 1) (N := some 39) (v := ?_) (a' := ?_) #[Y_,Y_,N_,Y_,Y_,Y_,N_,N_,N_,N_] rfl rfl (take_ofW HT_.out HW_.out (by kernel_rfl)) (fun _ _ _ h => h) (Or.inl ⟨by rfl, ?_⟩) hHeld ?_ ?_
        rotate_left
        ·rintro w' ⟨s0, s1⟩
         go_simp
         rfl
        rotate_left
        ·simp only [Act.put, List.setIfInBounds_toArray, List.set_cons_zero, List.set_cons_succ, i64_w, i32_w]
         rfl
        refine pure_ (i := 2) (N := some 40) (v := ?_) (a' := ?_) #[Y_,Y_,Y_,Y_,Y_,Y_,N_,N_,N_,N_] rfl rfl (any_of HT_.out (by kernel_rfl)) (fun _ _ _ h => h) (Or.inl ⟨by rfl, ?_⟩) ?_ ?_
        rotate_left
        ·intro w'
         go_simp
         rfl
        rotate_left
        ·simp only [Act.put, List.setIfInBounds_toArray, List.set_cons_zero, List.set_cons_succ, i64_w, i32_w]
         rfl
        refine one_ (i := 6) (N := some 44) #[Y_,Y_,Y_,Y_,Y_,Y_,Y_,N_,N_,N_] rfl rfl (one_of HT_.out (by kernel_rfl)) (by decide) (fun K hK => ?_)
        refine goes_ Try.func89 (by kernel_rfl) rfl #[.pointer (some ⟨g, 0, none⟩), .int .i64 5] (by rfl) rfl rfl (by (try simp only [List.map_toArray, List.map_cons, List.map_nil]); (rfl)) ?_
        refine (spec_l1Cur_pick.calls g s0_0 x1001_1 x1002_1 5 t217 t218 t219 w0 _ ?side1 ?side2 A25.out).mono ?_
        (case side1 => repeat ((with_reducible (exact HI0.out))))
        (case side2 => repeat ((with_reducible (exact HB.out))))
        rintro e w29 ⟨rfl, hi, hb, hk⟩
        refine ⟨_, rfl, ?_⟩
        have n0_ := Aside0.mk (Kd.R_mono (Kd.R_keep (IsS68.apart (show IsS68 w0 _ g s0_0 x1001_1 x1002_1 from by repeat ((with_reducible (exact HI0.out)))) (by (with_reducible repeat (fail)); exact HO_10.out) (by decide)) hk (fun _ h => h.2)) (fun _ h => h.1))
        have n1_ := Aside0.mk (KeepBut.blk hk (g' := gb206) (o := .cells #[.int .i64 a1_0, .bool a1_1] 25 (0, 0)) (by (with_reducible repeat (fail)); exact BK206.out) NB206_0.out (by simp))
        have n2_ := Aside0.mk (KeepBut.trans (by repeat ((with_reducible (exact HK.out)))) hk (.inl rfl))
        have n3_ := Aside0.mk (hb)
        have n4_ := Aside0.mk (hi)
        clear HO_10
        clear BK206
        clear HK
        clear HB
        clear HI0
        have HO_10 := n0_
        have BK206 := n1_
        have HK := n2_
        have HB := n3_
        have HI0 := n4_
        clear n0_ n1_ n2_ n3_ n4_
        (try clear hb)
        (try clear hb2)
        (try clear hk)
        (try clear hi)
        refine hK.out _ _ ⟨(blk_cell BK206.out 0).trans rfl, (blk_cell BK206.out 1).trans rfl⟩ (fun hHeld => ?_)
        clear hK K
        refine norm_ (a' := ?_) ?_ ?_
        rotate_left
        ·show Act.put _ (some 44) _ = _
         simp only [Act.put, List.setIfInBounds_toArray, List.set_cons_zero, List.set_cons_succ, i64_w, i32_w]
         rfl
        refine pure_ (i := 7) (N := some 45) (v := ?_) (a' := ?_) #[Y_,Y_,Y_,Y_,Y_,Y_,Y_,Y_,N_,N_] rfl rfl (any_of HT_.out (by kernel_rfl)) (fun _ _ _ h => h) (Or.inl ⟨by rfl, ?_⟩) ?_ ?_
        rotate_left
        ·intro w'
         go_simp
         rfl
        rotate_left
        ·simp only [Act.put, List.setIfInBounds_toArray, List.set_cons_zero, List.set_cons_succ, i64_w, i32_w]
         rfl
        refine one_ (i := 8) (N := some 46) #[Y_,Y_,Y_,Y_,Y_,Y_,Y_,Y_,Y_,N_] rfl rfl (one_of HT_.out (by kernel_rfl)) (by decide) (fun K hK => ?_)
        refine goes_ Try.func96 (by kernel_rfl) rfl #[.int .i64 (wrap64 (a1_0 - 1)), .int .i64 (wrap64 ((wrap64 (x8_1 + 1)) + t217))] (by rfl) rfl rfl (by (try simp only [List.map_toArray, List.map_cons, List.map_nil]); (rfl)) ?_
        refine (spec_l1Least.calls (wrap64 (a1_0 - 1)) (wrap64 ((wrap64 (x8_1 + 1)) + t217)) t220 _ A26.out).mono ?_
        rintro e w' ⟨rfl, ⟨nd, rfl⟩⟩
        refine ⟨_, rfl, ?_⟩
        refine hK.out _ _ ⟨(blk_cell BK206.out 0).trans rfl, (blk_cell BK206.out 1).trans rfl⟩ (fun hHeld => ?_)
        clear hK K
        refine norm_ (a' := ?_) ?_ ?_
        rotate_left
        ·show Act.put _ (some 46) _ = _
         simp only [Act.put, List.setIfInBounds_toArray, List.set_cons_zero, List.set_cons_succ, i64_w, i32_w]
         rfl
        refine pure_ (i := 9) (N := some 8) (v := ?_) (a' := ?_) #[Y_,Y_,Y_,Y_,Y_,Y_,Y_,Y_,Y_,Y_] rfl rfl (any_of HT_.out (by kernel_rfl)) (fun _ _ _ h => h) (Or.inl ⟨by rfl, ?_⟩) ?_ ?_
        rotate_left
        ·intro w'
         go_simp
         rfl
        rotate_left
        ·simp only [Act.put, List.setIfInBounds_toArray, List.set_cons_zero, List.set_cons_succ, i64_w, i32_w]
         rfl
        refine done_ (done_of HT_.out (by kernel_rfl)) ?_
        try go_wp2_with (((with_reducible refine gate_builtin (b := .append) (xs := #[.tmp 47, .tmp 49]) rfl ?_); at_builtin; refine Kd.R_append (Kd.int .i64) w.heap.size rfl (.tmp 47) (.tmp 49) 30 3 (.int .i64 0) 8 rfl Try.underlying30 info3 rfl (by decide) (by omega) u10 x10_1 t220 [.int .i64 t220] (fun _ => True) (fun _ => False) rfl rfl ?aP (fun _ hk => hk.elim) ?aF ?aO (Below.refl _ _) ?aS ?aL ?_; (case aP => exact rfl); (case aF => exact (fun _ _ => trivial)); (case aO => exact (by (with_reducible repeat ((apply Kd.R_drewN))); exact HO_10.out)); (case aS => exact (keep_size (w := w) (g := g) (row := none) (by repeat ((with_reducible first | exact HK.out | apply keep_drewN))))); (case aL => have := LMc27.out; omega); intro v222 w30 ho hb hg hat; rw [← Ny221.out] at ho; have n0_ := Aside0.mk (blk_grown (g := gb206) (o := .cells #[.int .i64 a1_0, .bool a1_1] 25 (0, 0)) (by (with_reducible repeat ((refine blk_drewN ?_ _))); exact BK206.out) hg (Kd.R_ne HO_10.out BK206.out (by decide))); have n1_ := Aside0.mk (IsS68.grown (by repeat ((with_reducible first | exact HI0.out | apply IsS68.drewN))) hg (IsS68.own_ne HI0.out HO_10.out (by decide))); have n2_ := Aside0.mk (below_weaken (by repeat ((with_reducible first | exact HB.out | apply pw_below_drewN))) HL.out hb); have n3_ := Aside0.mk (KeepBut.trans (by repeat ((with_reducible first | exact HK.out | apply keep_drewN))) (KeepBut.of_grown hg g) (Kd.R_base2 HO_10.out)); have n4_ := Aside0.mk (ho); clear BK206; clear HI0; clear HB; clear HK; clear HO_10; have BK206 := n0_; have HI0 := n1_; have HB := n2_; have HK := n3_; have HO223 := n4_; clear n0_ n1_ n2_ n3_ n4_; clear ho hb hg hat))
        go_meet
        case rel => exact ⟨_, (t220), (y221), (t218), (t219), (by (rfl)), H', ⟨by have := HK1.out; have := HJ13.out; have := HJ18.out; (omega)⟩, ⟨by (with_reducible repeat (fail)); exact HO223.out⟩, ⟨by (with_reducible repeat (fail)); exact BK206.out⟩, ⟨by repeat ((with_reducible (exact HI0.out)))⟩, ⟨by repeat ((with_reducible (exact HK.out)))⟩, ⟨by repeat ((with_reducible (exact HB.out)))⟩⟩
       case rest =>
        clear HC23
        (try clear c1); (try clear c2); (try clear p2); (try clear c5); (try clear p6); (try clear c7); (try clear c8); (try clear c9); (try clear c11); (try clear c15); (try clear c15b0); (try clear c16); (try clear c18); (try clear c20); (try clear c21); (try clear c24); (try clear c27); (try clear hcz17_0)
        (try clear hcz17_1); (try clear hcz22_0); (try clear hcz22_1); (try clear hcz9_0); (try clear hcz9_1); (try clear hfz17_0); (try clear hfz17_1); (try clear hfz22_0); (try clear hfz22_1); (try clear hfz9_0); (try clear hfz9_1); (try clear p2); (try clear p6)
        obtain ⟨kq, x8_22, x10_22, x1001_22, x1002_22, rfl, HA, HJ22, HO_10, BK206, HI0, HK, HB⟩ := hcut
        cases kq with
        | zero => exact absurd HA.out (by simp [spec_l1Cur_turns3.j3])
        | succ kj22 =>
         have H := HA.out
         clear HA
         simp only [spec_l1Cur_turns3.j3] at H
         have HC31 := Aside0.mk H
         clear H
         go_upto_region 9 with (fail)
         go_cut [56] (fun v56 wc => ∃ (kq : Nat) (x56_30 : Bool), v56 = .bool x56_30 ∧ Aside0 (spec_l1Cur_turns3.j4 kq a2 x7_1 x8_22 x9_1 x10_22 x56_30 s0_0 x1001_22 x1002_22 a1_0 a1_1 = some (r1, r2, r3)) ∧ Aside0 (kq ≤ kj22) ∧ Aside0 (Kd.R (Kd.int .i64) 3 wc w.heap.size (fun _ => True) u10 x10_22) ∧ Aside0 (wc.heap[gb206]? = some (.cells #[.int .i64 a1_0, .bool a1_1] 25 (0, 0))) ∧ Aside0 (IsS68 w0 wc g s0_0 x1001_22 x1002_22) ∧ Aside0 (KeepBut w wc g none) ∧ Aside0 (Below w0.heap.size w0 wc))
         case first =>
          have H := HC31.out
          clear HC31
          by_cases c32 : x9_1 = true
          ·subst c32
           rw [if_pos rfl] at H
           have H' := Aside0.mk H
           clear H
           go_wp2
           go_meet
           case rel => exact ⟨_, (false), (by (rfl)), H', ⟨by have := HK1.out; have := HJ13.out; have := HJ18.out; have := HJ22.out; (omega)⟩, ⟨by (with_reducible repeat (fail)); exact HO_10.out⟩, ⟨by (with_reducible repeat (fail)); exact BK206.out⟩, ⟨by repeat ((with_reducible (exact HI0.out)))⟩, ⟨by repeat ((with_reducible (exact HK.out)))⟩, ⟨by repeat ((with_reducible (exact HB.out)))⟩⟩
          replace c32 := Bool.eq_false_iff.mpr c32
          subst c32
          rw [if_neg (show ¬ (false = true) by decide)] at H
          have H' := Aside0.mk H
          clear H
          go_wp2
          go_meet
          case rel => exact ⟨_, (decide (x7_1 > 0)), (by (rfl)), H', ⟨by have := HK1.out; have := HJ13.out; have := HJ18.out; have := HJ22.out; (omega)⟩, ⟨by (with_reducible repeat (fail)); exact HO_10.out⟩, ⟨by (with_reducible repeat (fail)); exact BK206.out⟩, ⟨by repeat ((with_reducible (exact HI0.out)))⟩, ⟨by repeat ((with_reducible (exact HK.out)))⟩, ⟨by repeat ((with_reducible (exact HB.out)))⟩⟩
         case rest =>
          clear HC31
          (try clear c1); (try clear c2); (try clear p2); (try clear c3); (try clear c5); (try clear p6); (try clear c7); (try clear c8); (try clear c9); (try clear c11); (try clear c15); (try clear c15b0); (try clear c16); (try clear c18); (try clear c20); (try clear c21); (try clear c24); (try clear c27)
          (try clear c32); (try clear hcz17_0); (try clear hcz17_1); (try clear hcz22_0); (try clear hcz22_1); (try clear hcz9_0); (try clear hcz9_1); (try clear hfz17_0); (try clear hfz17_1); (try clear hfz22_0); (try clear hfz22_1); (try clear hfz9_0); (try clear hfz9_1); (try clear p2); (try clear p6)
          obtain ⟨kq, x56_30, rfl, HA, HJ30, HO_10, BK206, HI0, HK, HB⟩ := hcut
          cases kq with
          | zero => exact absurd HA.out (by simp [spec_l1Cur_turns3.j4])
          | succ kj30 =>
           have H := HA.out
           clear HA
           simp only [spec_l1Cur_turns3.j4] at H
           by_cases c33 : x56_30 = true
           rotate_left
           ·replace c33 := Bool.eq_false_iff.mpr c33
            subst c33
            rw [if_neg (show ¬ (false = true) by decide)] at H
            have H' := Aside0.mk H
            clear H
            go_wp2
            go_roundg kj30
            case measure => have := HK1.out; have := HJ13.out; have := HJ18.out; have := HJ22.out; have := HJ30.out; omega
            case rel => exact ⟨(x7_1), (x8_22), (!x9_1), (x10_22), (x1001_22), (x1002_22), (by (rfl)), (by (rfl)), (by (rfl)), H', ⟨by have := HK1.out; have := HJ13.out; have := HJ18.out; have := HJ22.out; have := HJ30.out; omega⟩, ⟨by (with_reducible repeat (fail)); exact HO_10.out⟩, ⟨by (with_reducible repeat (fail)); exact BK206.out⟩, ⟨by repeat ((with_reducible (exact HI0.out)))⟩, ⟨by repeat ((with_reducible (exact HK.out)))⟩, ⟨by repeat ((with_reducible (exact HB.out)))⟩⟩
           subst c33
           rw [if_pos rfl] at H
           replace H := Option.bind_eq_some_iff.mp H
           obtain ⟨⟨t224, t225, t226⟩, A340, H⟩ := H
           try dsimp only at H
           have A34 := Aside0.mk A340
           clear A340
           replace H := Option.bind_eq_some_iff.mp H
           obtain ⟨t227, A350, H⟩ := H
           try dsimp only at H
           have A35 := Aside0.mk A350
           clear A350
           by_cases c36 : x10_22.length < 17592186044416
           rotate_left
           ·rw [if_neg c36] at H
            exact absurd H (by simp)
           rw [if_pos c36] at H
           have LMc36 := Aside0.mk c36
           clear c36
           obtain ⟨y228, hy228⟩ : ∃ y_ : List Int, y_ = (x10_22 ++ [t227]) := ⟨_, rfl⟩
           replace H : (spec_l1Cur_turns3.l0 kj30 a2 t227 x8_22 (!x9_1) y228 s0_0 t225 t226 a1_0 a1_1) = some (r1, r2, r3) := by (rw [hy228]; exact H)
           have Ny228 := Aside0.mk hy228
           clear hy228
           have H' := Aside0.mk H
           clear H
           go_wp2_with (first | ((with_reducible refine gate_callee (f := 89) rfl ?_); refine goesL_ (some 60) rfl rfl Try.func89 (by kernel_rfl) rfl #[.pointer (some ⟨g, 0, none⟩), .int .i64 5] rfl (by (try simp only [List.map_toArray, List.map_cons, List.map_nil]); (rfl)) ?_; (with_reducible refine (spec_l1Cur_pick.calls g s0_0 x1001_22 x1002_22 5 t224 t225 t226 w0 _ ?side1 ?side2 A34.out).mono ?_); (case side1 => repeat ((with_reducible (exact HI0.out)))); (case side2 => repeat ((with_reducible (exact HB.out)))); rintro e w37 ⟨rfl, hi, hb, hk⟩; refine ⟨_, rfl, ?_⟩; have n0_ := Aside0.mk (Kd.R_mono (Kd.R_keep (IsS68.apart (show IsS68 w0 _ g s0_0 x1001_22 x1002_22 from by repeat ((with_reducible (exact HI0.out)))) (by (with_reducible repeat (fail)); exact HO_10.out) (by decide)) hk (fun _ h => h.2)) (fun _ h => h.1)); have n1_ := Aside0.mk (KeepBut.blk hk (g' := gb206) (o := .cells #[.int .i64 a1_0, .bool a1_1] 25 (0, 0)) (by (with_reducible repeat (fail)); exact BK206.out) NB206_0.out (by simp)); have n2_ := Aside0.mk (KeepBut.trans (by repeat ((with_reducible (exact HK.out)))) hk (.inl rfl)); have n3_ := Aside0.mk (hb); have n4_ := Aside0.mk (hi); clear HO_10; clear BK206; clear HK; clear HB; clear HI0; have HO_10 := n0_; have BK206 := n1_; have HK := n2_; have HB := n3_; have HI0 := n4_; clear n0_ n1_ n2_ n3_ n4_; (try clear hb); (try clear hb2); (try clear hk); (try clear hi)) | ((with_reducible refine gate_callee (f := 86) rfl ?_); refine goesL_ (some 62) rfl rfl Try.func86 (by kernel_rfl) rfl #[.int .i64 0, .int .i64 (wrap64 ((wrap64 (x7_1 - 1)) - t224))] rfl (by (try simp only [List.map_toArray, List.map_cons, List.map_nil]); (rfl)) ?_; (with_reducible refine (spec_l1Most.calls 0 (wrap64 ((wrap64 (x7_1 - 1)) - t224)) t227 _ A35.out).mono ?_); rintro e w' ⟨rfl, ⟨nd, rfl⟩⟩; refine ⟨_, rfl, ?_⟩) | ((with_reducible refine gate_builtin (b := .append) (xs := #[.tmp 63, .tmp 65]) rfl ?_); at_builtin; refine Kd.R_append (Kd.int .i64) w.heap.size rfl (.tmp 63) (.tmp 65) 30 3 (.int .i64 0) 8 rfl Try.underlying30 info3 rfl (by decide) (by omega) u10 x10_22 t227 [.int .i64 t227] (fun _ => True) (fun _ => False) rfl rfl ?aP (fun _ hk => hk.elim) ?aF ?aO (Below.refl _ _) ?aS ?aL ?_; (case aP => exact rfl); (case aF => exact (fun _ _ => trivial)); (case aO => exact (by (with_reducible repeat ((apply Kd.R_drewN))); exact HO_10.out)); (case aS => exact (keep_size (w := w) (g := g) (row := none) (by repeat ((with_reducible first | exact HK.out | apply keep_drewN))))); (case aL => have := LMc36.out; omega); intro v229 w38 ho hb hg hat; rw [← Ny228.out] at ho; have n0_ := Aside0.mk (blk_grown (g := gb206) (o := .cells #[.int .i64 a1_0, .bool a1_1] 25 (0, 0)) (by (with_reducible repeat ((refine blk_drewN ?_ _))); exact BK206.out) hg (Kd.R_ne HO_10.out BK206.out (by decide))); have n1_ := Aside0.mk (IsS68.grown (by repeat ((with_reducible first | exact HI0.out | apply IsS68.drewN))) hg (IsS68.own_ne HI0.out HO_10.out (by decide))); have n2_ := Aside0.mk (below_weaken (by repeat ((with_reducible first | exact HB.out | apply pw_below_drewN))) HL.out hb); have n3_ := Aside0.mk (KeepBut.trans (by repeat ((with_reducible first | exact HK.out | apply keep_drewN))) (KeepBut.of_grown hg g) (Kd.R_base2 HO_10.out)); have n4_ := Aside0.mk (ho); clear BK206; clear HI0; clear HB; clear HK; clear HO_10; have BK206 := n0_; have HI0 := n1_; have HB := n2_; have HK := n3_; have HO230 := n4_; clear n0_ n1_ n2_ n3_ n4_; clear ho hb hg hat))
           go_roundg kj30
           case measure => have := HK1.out; have := HJ13.out; have := HJ18.out; have := HJ22.out; have := HJ30.out; omega
           case rel => exact ⟨(t227), (x8_22), (!x9_1), (y228), (t225), (t226), (by (rfl)), (by (rfl)), (by (rfl)), H', ⟨by have := HK1.out; have := HJ13.out; have := HJ18.out; have := HJ22.out; have := HJ30.out; omega⟩, ⟨by (with_reducible repeat (fail)); exact HO230.out⟩, ⟨by (with_reducible repeat (fail)); exact BK206.out⟩, ⟨by repeat ((with_reducible (exact HI0.out)))⟩, ⟨by repeat ((with_reducible (exact HK.out)))⟩, ⟨by repeat ((with_reducible (exact HB.out)))⟩⟩

end Go.Proofs.Ytogflbocmiogpaa.PFnLoads
