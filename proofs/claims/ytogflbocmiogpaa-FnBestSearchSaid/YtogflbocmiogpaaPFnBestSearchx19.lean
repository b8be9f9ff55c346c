-- Written for this claim by this session's turned copy of the printer.
import Derived.Test.YtogflbocmiogpaaPFnBestSearchx0
import Derived.Test.YtogflbocmiogpaaPFnBestSearchx1
import Derived.Test.YtogflbocmiogpaaPFnBestSearchx10
import Derived.Test.YtogflbocmiogpaaPFnBestSearchx16
import Derived.Test.YtogflbocmiogpaaPFnBestSearchx18
namespace Go.Proofs.Ytogflbocmiogpaa.PFnBestSearch
open Go.RowKit Go.Proofs.YtogflbocmiogpaaW.PrintWords Go.Proofs.YtogflbocmiogpaaW.PrintLast Go.Proofs.YtogflbocmiogpaaW.PrintMore
open List renaming setIfInBounds_toArray → sT_, set_cons_zero → sZ_, set_cons_succ → sS_, map_toArray → mT_, map_cons → mC_, map_nil → mN_
open Bool renaming true → Y_, false → N_
attribute [local go_sem] max2_int min2_int max_two min_two Fj Fh max_four min_four   -- for this text's walks alone
set_option linter.unusedVariables false
set_option linter.unusedSimpArgs false

/-! ### spec_DrawIsSearch: function 98 -/
def Db.inn (k : Nat) (s0_0 : List Int) (s0_1 : Int) (s0_2 : Int) : Option (Int × Bool × Int × List Int × Int × Int) := (Eb.f s0_0 s0_1 s0_2).bind fun bt457 => ((Ap.f k s0_0 bt457.2.2.2.1 bt457.2.2.2.2 bt457.1 bt457.2.1 bt457.2.2.1).bind fun bt463 => (some (bt457.1, bt457.2.1, bt457.2.2.1, bt463.1, bt463.2.1, bt463.2.2)))
def Db.T3 : Bool × List (List Nat × List Nat) := (true, [([], []), ([], []), ([], []), ([], []), ([], []), ([2, 3, 4], [2, 3, 4]), ([0, 5, 0], [0]), ([1, 6, 0, 1, 6], [1]), ([5, 7, 0, 1, 2, 3, 4, 5, 6, 7], [5])])
def Db.B3 : List Nat := [0, 0, 0, 0, 0, 28, 61, 127, 255]
theorem Db.tab3 : rtab .any (opsOf Try.f98 3) = Db.T3 := by kernel_rfl
theorem Db.bits3 : waitsOk Db.T3.2 Db.B3 = true := by kernel_rfl
set_option maxHeartbeats 8000000 in
set_option maxRecDepth 100000 in
theorem Db.strong (k : Nat) (A0 : Option Addr) (c0 : Nat) (g gb456 : Nat) (s0_0 : List Int) (s0_1 : Int) (s0_2 : Int) (r1 : Int) (r2 : Bool) (r3 : Int) (r4 : List Int) (r5 : Int) (r6 : Int) (w0 w W1 : World) (hww : w = w0) (hgb : w.heap.size = gb456) (hgq : gb456 + 1 = g) (hwq : (w.alloc (Obj.cells #[.int .i64 0, .bool false] 25)).alloc (Obj.cells #[.slice A0 s0_0.length c0, .int .i64 0, .int .u64 0] 68) = W1) (hI : Bc w W1 g s0_0 s0_1 s0_2) (hBK : W1.heap[gb456]? = some (.cells #[.int .i64 0, .bool false] 25 (0, 0))) (hB : Below w.heap.size w W1) (h : Db.inn k s0_0 s0_1 s0_2 = some (r1, r2, r3, r4, r5, r6)) :
  Calls Try.prog 98 #[.slice A0 s0_0.length c0] w fun e w' => ∃ v3_ : Value, e = .returned (.tuple #[.agg #[.int .i64 r1, .bool r2], .int .i64 r3, v3_]) ∧ Kd.R (Kd.int .i64) 3 w' w.heap.size (fun _ => True) v3_ r4 ∧ Bc w w' g s0_0 r5 r6 ∧ Below w.heap.size w w' ∧ Am w w' g none := by
 have HWQ := Aa.k hwq
 have HGQ := Aa.k hgq
 clear hwq
 have hu25 := Try.underlying25
 subst hww
 have HI0 := Aa.k hI
 have HK := Aa.k (Am.of_below hB g none)
 have HL := Aa.k (Nat.le_refl w.heap.size)
 have HW0 := Aa.k (Nat.le_refl w.heap.size)
 have HB := Aa.k hB
 have BK456 := Aa.k hBK
 have GW456 := Aa.k (Nat.le_of_eq hgb)
 have GE456 := Aa.k (Nat.le_of_eq hgb)
 have NB0_456 := Aa.k (show g ≠ gb456 by omega)
 have NB456_0 := Aa.k (show gb456 ≠ g by omega)
 have HGB := Aa.k hgb
 clear hI hB hBK hgb
 have H : ((Eb.f s0_0 s0_1 s0_2).bind fun bt457 => ((Ap.f k s0_0 bt457.2.2.2.1 bt457.2.2.2.2 bt457.1 bt457.2.1 bt457.2.2.1).bind fun bt463 => (some (bt457.1, bt457.2.1, bt457.2.2.1, bt463.1, bt463.2.1, bt463.2.2)))) = some (r1, r2, r3, r4, r5, r6) := h
 clear h
 obtain ⟨⟨t457, t458, t459, t460, t461⟩, A20, H⟩ := bindS_ H
 try dsimp only at H
 have A2 := Aa.k A20
 clear A20
 obtain ⟨⟨t463, t466, t467⟩, A30, H⟩ := bindS_ H
 try dsimp only at H
 have A3 := Aa.k A30
 clear A30
 simp only [Option.some.injEq, Prod.mk.injEq] at H
 obtain ⟨rfl, rfl, rfl, rfl, rfl, rfl⟩ := H
 go_enter Try.func98, Try.ntmps98
 go_upto_region 2 with (fail)
 rw [HWQ.o]
 simp only [HGB.o, HGQ.o]
 try go_wp2_with (first | ((with_reducible refine Aj (f := 72) rfl ?_); refine Bf (some 13) rfl rfl Try.func72 (by kernel_rfl) rfl #[.pointer (some ⟨g, 0, none⟩)] rfl (by (try simp only [mT_, mC_, mN_]); rfl) ?_; (with_reducible refine (Eb.calls g s0_0 s0_1 s0_2 t457 t458 t459 t460 t461 w _ ?side1 ?side2 A2.o).mono ?_); (case side1 => exact HI0.o); (case side2 => exact HB.o); rintro e w5 ⟨rfl, hi, hb, hk⟩; refine ⟨_, rfl, ?_⟩; have n0_ := Aa.k (Am.blk hk (g' := gb456) (o := .cells #[.int .i64 0, .bool false] 25 (0, 0)) (by exact BK456.o) NB456_0.o (by simp)); have n1_ := Aa.k (Am.trans HK.o hk (.inl rfl)); have n2_ := Aa.k (hb); have n3_ := Aa.k (hi); clear BK456; clear HK; clear HB; clear HI0; have BK456 := n0_; have HK := n1_; have HB := n2_; have HI0 := n3_; clear n0_ n1_ n2_ n3_; clear hb hk hi) | ((with_reducible refine Be (N := 6) rfl ?_); refine Bo ?hg (N := 6) ?hd (cs := #[.int .i64 0, .bool false]) (t := 25) ?hr ?_; (case hd => rfl); (case hg => rfl); (case hr => (go_simp; done)); intro gb462 hg w6 hbox hb; have n0_ := Aa.k (Bc.below HI0.o hb); have n1_ := Aa.k (Ae (g := gb456) (o := .cells #[.int .i64 0, .bool false] 25 (0, 0)) (by exact BK456.o) hb); have n2_ := Aa.k (Am.trans HK.o (Am.of_below hb g none) (.inl rfl)); have n3_ := Aa.k (Ad HB.o hb); have n4_ := Aa.k (hbox); have n5_ := Aa.k ((by rw [hg]; exact (Cj (w := w) (g := g) (row := none) HK.o) : w.heap.size ≤ gb462)); have n6_ := Aa.k ((Nat.le_trans HW0.o (by rw [hg]; exact (Cj (w := w) (g := g) (row := none) HK.o) : w.heap.size ≤ gb462) : w.heap.size ≤ gb462)); have n7_ := Aa.k ((by rw [hg]; exact Nat.ne_of_lt (Ca (g := gb456) (o := .cells #[.int .i64 0, .bool false] 25 (0, 0)) (by exact BK456.o)) : gb456 ≠ gb462)); have n8_ := Aa.k ((by rw [hg]; exact Nat.ne_of_gt (Ca (g := gb456) (o := .cells #[.int .i64 0, .bool false] 25 (0, 0)) (by exact BK456.o)) : gb462 ≠ gb456)); have n9_ := Aa.k ((by rw [hg]; exact Nat.ne_of_lt (Bc.lt (show Bc w _ g s0_0 t460 t461 from by exact HI0.o)) : g ≠ gb462)); have n10_ := Aa.k ((by rw [hg]; exact Nat.ne_of_gt (Bc.lt (show Bc w _ g s0_0 t460 t461 from by exact HI0.o)) : gb462 ≠ g)); clear HI0; clear BK456; clear HK; clear HB; have HI0 := n0_; have BK456 := n1_; have HK := n2_; have HB := n3_; have BK462 := n4_; have GW462 := n5_; have GE462 := n6_; have NB456_462 := n7_; have NB462_456 := n8_; have NB0_462 := n9_; have NB462_0 := n10_; clear n0_ n1_ n2_ n3_ n4_ n5_ n6_ n7_ n8_ n9_ n10_; clear hb hbox hg; have hnb7 := NB462_456.o; have hnc7 := NB456_462.o; have hnb8 := NB462_0.o; have hnc8 := NB0_462.o; have hcz9_0 := Bj BK462.o; have hcz9_1 := Bn BK462.o; have hfz9_0 := Ac BK462.o 0; have hfz9_1 := Ac BK462.o 1))
 have n0_ : Aa (((w6.setCell ⟨gb462, 0, none⟩ (.int .i64 t457)).setCell ⟨gb462, 1, none⟩ (.bool t458)).heap[gb456]? = some (.cells #[.int .i64 0, .bool false] 25 (0, 0))) := ⟨by refine Cb ?_ NB456_462.o _; refine Cb ?_ NB456_462.o _; exact BK456.o⟩
 have n1_ : Aa (((w6.setCell ⟨gb462, 0, none⟩ (.int .i64 t457)).setCell ⟨gb462, 1, none⟩ (.bool t458)).heap[gb462]? = some (.cells #[.int .i64 t457, .bool t458] 25 (0, 0))) := ⟨by refine Cr (cs := #[.int .i64 t457, .bool false]) ?_ 1 _ rfl; refine Cr (cs := #[.int .i64 0, .bool false]) ?_ 0 _ rfl; exact BK462.o⟩
 have n2_ : Aa (Bc w ((w6.setCell ⟨gb462, 0, none⟩ (.int .i64 t457)).setCell ⟨gb462, 1, none⟩ (.bool t458)) g s0_0 t460 t461) := ⟨by repeat ((with_reducible first | exact HI0.o | refine Bc.far ?_ NB0_462.o _))⟩
 have n3_ : Aa (Am w ((w6.setCell ⟨gb462, 0, none⟩ (.int .i64 t457)).setCell ⟨gb462, 1, none⟩ (.bool t458)) g none) := ⟨by repeat ((with_reducible first | exact HK.o | refine keep_far ?_ GW462.o _))⟩
 have n4_ : Aa (Below w.heap.size w ((w6.setCell ⟨gb462, 0, none⟩ (.int .i64 t457)).setCell ⟨gb462, 1, none⟩ (.bool t458))) := ⟨by repeat ((with_reducible first | exact HB.o | refine Bz ?_ GE462.o))⟩
 clear BK456
 clear BK462
 clear HI0
 clear HK
 clear HB
 generalize ((w6.setCell ⟨gb462, 0, none⟩ (.int .i64 t457)).setCell ⟨gb462, 1, none⟩ (.bool t458)) = w10 at n0_ n1_ n2_ n3_ n4_ ⊢
 have BK456 := n0_
 have BK462 := n1_
 have HI0 := n2_
 have HK := n3_
 have HB := n4_
 clear n0_ n1_ n2_ n3_ n4_
 have n0_ := Aa.k (Dt BK456.o)
 have n1_ := Aa.k (Dt BK462.o)
 have n2_ := Aa.k (Bc.drew HI0.o)
 have n3_ := Aa.k (keep_drew HK.o)
 have n4_ := Aa.k (Cf HB.o)
 clear BK456
 clear BK462
 clear HI0
 clear HK
 clear HB
 have BK456 := n0_
 have BK462 := n1_
 have HI0 := n2_
 have HK := n3_
 have HB := n4_
 clear n0_ n1_ n2_ n3_ n4_
 refine Fp (n := 9) (S := fun w' => w'.cell? ⟨gb462, 0, none⟩ = some (.int .i64 t457) ∧ w'.cell? ⟨gb462, 1, none⟩ = some (.bool t458)) (ds := []) #[N_,N_,N_,N_,N_,N_,N_,N_,N_] (by kernel_rfl) rfl rfl ⟨(Aw BK462.o 0).trans rfl, (Aw BK462.o 1).trans rfl⟩ (fun hHeld => ?_); refine Dv Db.tab3 Db.bits3 (fun HT_ HW_ => ?_)
 generalize w10.drew = w11 at BK456 BK462 HI0 HK HB hHeld ⊢
 apply pq_ 1 17 #[N_,Y_,N_,N_,N_,N_,N_,N_,N_] HT_ rfl rfl (by kernel_rfl) (fun _ _ _ h => h) (by rfl)
 ·intro w'; go_simp; rfl
 ·simp only [Act.put, sT_, sZ_, sS_, Ah, Ai]; rfl
 apply pq_ 2 18 #[N_,Y_,Y_,N_,N_,N_,N_,N_,N_] HT_ rfl rfl (by kernel_rfl) (fun _ _ _ h => h) (by rfl)
 ·intro w'; go_simp; rfl
 ·simp only [Act.put, sT_, sZ_, sS_, Ah, Ai]; rfl
 apply pq_ 4 20 #[N_,Y_,Y_,N_,Y_,N_,N_,N_,N_] HT_ rfl rfl (by kernel_rfl) (fun _ _ _ h => h) (by rfl)
 ·intro w'; go_simp; rfl
 ·simp only [Act.put, sT_, sZ_, sS_, Ah, Ai]; rfl
 refine En (i := 0) (N := some 16) (v := ?_) (a' := ?_) #[Y_,Y_,Y_,N_,Y_,N_,N_,N_,N_] rfl rfl (Cm HT_.o HW_.o (by kernel_rfl)) (fun _ _ _ h => h) (Or.inl ⟨by rfl, ?_⟩) hHeld ?_ ?_
 rotate_left
 ·rintro w' ⟨s0, s1⟩
  go_simp
  rfl
 rotate_left
 ·simp only [Act.put, sT_, sZ_, sS_, Ah, Ai]
  rfl
 refine En (i := 3) (N := some 19) (v := ?_) (a' := ?_) #[Y_,Y_,Y_,Y_,Y_,N_,N_,N_,N_] rfl rfl (Cm HT_.o HW_.o (by kernel_rfl)) (fun _ _ _ h => h) (Or.inl ⟨by rfl, ?_⟩) hHeld ?_ ?_
 rotate_left
 ·rintro w' ⟨s0, s1⟩
  go_simp
  rfl
 rotate_left
 ·simp only [Act.put, sT_, sZ_, sS_, Ah, Ai]
  rfl
 refine one_ (i := 5) (N := some 21) #[Y_,Y_,Y_,Y_,Y_,Y_,N_,N_,N_] rfl rfl (Ej HT_.o (by kernel_rfl)) (by decide) (fun K hK => ?_)
 refine goes_ Try.func73 (by kernel_rfl) rfl #[.pointer (some ⟨g, 0, none⟩), .agg #[.int .i64 t457, .bool t458], .int .i64 t459] (by rfl) rfl rfl (by (try simp only [mT_, mC_, mN_]); rfl) ?_
 refine (Ap.calls k g s0_0 t460 t461 t457 t458 t459 t463 t466 t467 w _ ?side1 ?side2 A3.o).mono ?_
 (case side1 => exact HI0.o)
 (case side2 => exact HB.o)
 rintro e w12 ⟨v464, rfl, ho0, hi, hb, hk⟩
 refine ⟨_, rfl, ?_⟩
 have n0_ := Aa.k (Am.blk hk (g' := gb456) (o := .cells #[.int .i64 0, .bool false] 25 (0, 0)) (by exact BK456.o) NB456_0.o (by simp))
 have n1_ := Aa.k (Am.blk hk (g' := gb462) (o := .cells #[.int .i64 t457, .bool t458] 25 (0, 0)) (by exact BK462.o) NB462_0.o (by simp))
 have n2_ := Aa.k (Kd.Ct ho0 (Cj (w := w) (g := g) (row := none) HK.o))
 have n3_ := Aa.k (Am.trans HK.o hk (.inl rfl))
 have n4_ := Aa.k (hb)
 have n5_ := Aa.k (hi)
 clear BK456
 clear BK462
 clear HK
 clear HB
 clear HI0
 have BK456 := n0_
 have BK462 := n1_
 have HO465 := n2_
 have HK := n3_
 have HB := n4_
 have HI0 := n5_
 clear n0_ n1_ n2_ n3_ n4_ n5_
 clear hb
 clear hk
 clear hi
 clear ho0
 refine hK.out _ _ ⟨(Aw BK462.o 0).trans rfl, (Aw BK462.o 1).trans rfl⟩ (fun hHeld => ?_)
 clear hK K
 refine Es (a' := ?_) ?_ ?_
 rotate_left
 ·show Act.put _ (some 21) _ = _
  simp only [Act.put, sT_, sZ_, sS_, Ah, Ai]
  rfl
 refine one_ (i := 6) (N := none) #[Y_,Y_,Y_,Y_,Y_,Y_,Y_,N_,N_] rfl rfl (Ej HT_.o (by kernel_rfl)) (by decide) (fun K hK => ?_)
 have hs13 : w12.cell? ⟨gb456, 0, none⟩ = some (.int .i64 0) := (Aw BK456.o 0).trans rfl
 have hfs13 := Ac BK456.o 0
 have hns13_1 := NB462_456.o
 have hms13_1 := NB456_462.o
 have hs14 : w12.cell? ⟨gb456, 1, none⟩ = some (.bool false) := (Aw BK456.o 1).trans rfl
 have hfs14 := Ac BK456.o 1
 have hns14_1 := NB462_456.o
 have hms14_1 := NB456_462.o
 refine skip_ (w1 := ?_) (by rfl) rfl ?_ ?_
 rotate_left
 ·go_simp
  rfl
 refine hK.out _ _ ⟨((cell_far (p := ⟨gb456, _, none⟩) NB462_456.o _).trans (((cell_far (p := ⟨gb456, _, none⟩) NB462_456.o _).trans (hHeld.1)))), ((cell_far (p := ⟨gb456, _, none⟩) NB462_456.o _).trans (((cell_far (p := ⟨gb456, _, none⟩) NB462_456.o _).trans (hHeld.2))))⟩ (fun hHeld => ?_)
 clear hK K
 apply pq_ 7 3 #[Y_,Y_,Y_,Y_,Y_,Y_,Y_,Y_,N_] HT_ rfl rfl (by kernel_rfl) (fun _ _ _ h => h) (by rfl)
 ·intro w'; go_simp; rfl
 ·simp only [Act.put, sT_, sZ_, sS_, Ah, Ai]; rfl
 apply pq_ 8 4 #[Y_,Y_,Y_,Y_,Y_,Y_,Y_,Y_,Y_] HT_ rfl rfl (by kernel_rfl) (fun _ _ _ h => h) (by rfl)
 ·intro w'; go_simp; rfl
 ·simp only [Act.put, sT_, sZ_, sS_, Ah, Ai]; rfl
 refine done_ (Fa HT_.o (by kernel_rfl)) ?_
 try go_wp2
 refine bodyPost_ret (results_ctt rfl _ _ gb456 25 #[.int .i64 t457, .bool t458] (0, 0) _ rfl (by refine Cr (cs := #[.int .i64 t457, .bool false]) ?_ 1 _ rfl; refine Cr (cs := #[.int .i64 0, .bool false]) ?_ 0 _ rfl; exact BK456.o) Try.underlying25 rfl (by kernel_rfl)) rfl ?_
 exact ⟨_, by (rfl), by exact Kd.Bv (Kd.Dc (p := ⟨gb456, 1, none⟩) (Kd.Dc (p := ⟨gb456, 0, none⟩) (Kd.Dh HO465.o BK456.o (by decide)) (fun _ hk => hk.2) (.int .i64 t457)) (fun _ hk => hk.2) (.bool t458)) (fun _ hk => trivial), by repeat ((with_reducible first | exact HI0.o | refine Bc.far ?_ NB0_456.o _)), by repeat ((with_reducible first | exact HB.o | refine Bz ?_ GE456.o)), by repeat ((with_reducible first | exact HK.o | refine keep_far ?_ GW456.o _))⟩
/-- The draw itself: its cursor begins at the input's head. -/
def Db.f (k : Nat) (l0 : List Int) : Option (Int × Bool × Int × List Int) := (Db.inn k l0 0 0).bind fun b => some (b.1, b.2.1, b.2.2.1, b.2.2.2.1)
set_option maxRecDepth 100000 in
theorem Db.calls (k : Nat) (A0 : Option Addr) (c0 : Nat) (l0 : List Int) (r1 : Int) (r2 : Bool) (r3 : Int) (r4 : List Int) (w : World) (hr0 : Kd.C (Kd.int .u8) w A0 l0.length l0) (hc0 : l0.length ≤ c0) (h : Db.f k l0 = some (r1, r2, r3, r4)) :
  Calls Try.prog 98 #[.slice A0 l0.length c0] w fun e w' => ∃ v3_ : Value, e = .returned (.tuple #[.agg #[.int .i64 r1, .bool r2], .int .i64 r3, v3_]) ∧ Kd.R (Kd.int .i64) 3 w' w.heap.size (fun _ => True) v3_ r4 ∧ Below w.heap.size w w' := by
 obtain ⟨⟨q0, q1, q2, q3, q4, q5⟩, h1, h2⟩ := Option.bind_eq_some_iff.mp h
 simp only [Option.some.injEq, Prod.mk.injEq] at h2
 obtain ⟨rfl, rfl, rfl, rfl⟩ := h2
 have hb0 := blk_new (w.alloc (Obj.cells #[.int .i64 0, .bool false] 25)) (Obj.cells #[.slice A0 l0.length c0, .int .i64 0, .int .u64 0] 68)
 have hs0 : (w.alloc (Obj.cells #[.int .i64 0, .bool false] 25)).heap.size = w.heap.size + 1 := Array.size_push ..
 rw [hs0] at hb0
 refine (Db.strong k A0 c0 (w.heap.size + 1) w.heap.size l0 0 0 q0 q1 q2 q3 q4 q5 w w _ rfl rfl rfl rfl ⟨A0, c0, hb0, by omega, hr0⟩ (Ae (blk_new w (Obj.cells #[.int .i64 0, .bool false] 25)) (Dq (Below.refl _ _) _)) (Dq (Dq (Below.refl _ _) _) _) h1).mono ?_
 rintro e w' ⟨v3_, rfl, ho0, -, hb, -⟩
 exact ⟨v3_, rfl, Kd.Ct ho0 (Nat.le_refl _), hb⟩

/-! ### spec_DrawMirrorSearch: function 37 -/
def Ff.f (k : Nat) (l0 : List Int) : Option (Int × Bool × List Int) := (Db.f k l0).bind fun bt437 => (some (bt437.1, bt437.2.1, bt437.2.2.2))
set_option maxHeartbeats 8000000 in
set_option maxRecDepth 100000 in
theorem Ff.calls (k : Nat) (A0 : Option Addr) (c0 : Nat) (l0 : List Int) (r1 : Int) (r2 : Bool) (r3 : List Int) (w : World) (hr0 : Kd.C (Kd.int .u8) w A0 l0.length l0) (hc0 : l0.length ≤ c0) (h : Ff.f k l0 = some (r1, r2, r3)) :
  Calls Try.prog 37 #[.slice A0 l0.length c0] w fun e w' => ∃ v2_ : Value, e = .returned (.tuple #[.agg #[.int .i64 r1, .bool r2], v2_]) ∧ Kd.R (Kd.int .i64) 3 w' w.heap.size (fun _ => True) v2_ r3 ∧ Below w.heap.size w w' := by
 have hu25 := Try.underlying25
 have HR0 := Aa.k hr0
 have HC0 := Aa.k hc0
 clear hr0 hc0
 have HB := Aa.k (Below.refl w.heap.size w)
 have H : ((Db.f k l0).bind fun bt437 => (some (bt437.1, bt437.2.1, bt437.2.2.2))) = some (r1, r2, r3) := h
 clear h
 obtain ⟨⟨t437, t438, t439, t440⟩, A20, H⟩ := bindS_ H
 try dsimp only at H
 have A2 := Aa.k A20
 clear A20
 simp only [Option.some.injEq, Prod.mk.injEq] at H
 obtain ⟨rfl, rfl, rfl⟩ := H
 go_enter Try.func37, Try.ntmps37
 go_wp2_with (first | ((with_reducible refine Be (N := 2) rfl ?_); refine Bo ?hg (N := 2) ?hd (cs := #[.int .i64 0, .bool false]) (t := 25) ?hr ?_; (case hd => rfl); (case hg => rfl); (case hr => (go_simp; done)); intro gb436 hg w3 hbox hb; have n0_ := Aa.k (Ad HB.o hb); have n1_ := Aa.k (hbox); have n2_ := Aa.k ((by rw [hg]; exact (Af HB.o) : w.heap.size ≤ gb436)); have n3_ := Aa.k ((by rw [hg]; exact (Af HB.o) : w.heap.size ≤ gb436)); clear HB; have HB := n0_; have BK436 := n1_; have GW436 := n2_; have GE436 := n3_; clear n0_ n1_ n2_ n3_; clear hb hbox hg) | ((with_reducible refine Aj (f := 98) rfl ?_); refine Bf (some 9) rfl rfl Try.func98 (by kernel_rfl) rfl #[.slice A0 l0.length c0] rfl (by (try simp only [mT_, mC_, mN_]); rfl) ?_; (with_reducible refine (Db.calls k _ _ l0 t437 t438 t439 t440 _ ?side1 ?side2 A2.o).mono ?_); (case side1 => repeat (exact (Kd.Dx HR0.o HB.o))); (case side2 => exact HC0.o); rintro e w4 ⟨v441, rfl, ho0, hb⟩; refine ⟨_, rfl, ?_⟩; have n0_ := Aa.k (Kd.Ct ho0 (Af HB.o)); have n1_ := Aa.k (Ae (g := gb436) (o := .cells #[.int .i64 0, .bool false] 25 (0, 0)) (by exact BK436.o) hb); have n2_ := Aa.k (Ad HB.o hb); clear BK436; clear HB; have HO442 := n0_; have BK436 := n1_; have HB := n2_; clear n0_ n1_ n2_; clear hb ho0) | ((with_reducible refine Be (N := 4) rfl ?_); refine Bo ?hg (N := 4) ?hd (cs := #[.int .i64 0, .bool false]) (t := 25) ?hr ?_; (case hd => rfl); (case hg => rfl); (case hr => (go_simp; done)); intro gb443 hg w5 hbox hb; have n0_ := Aa.k (Kd.Ba (by exact HO442.o) hb); have n1_ := Aa.k (Ae (g := gb436) (o := .cells #[.int .i64 0, .bool false] 25 (0, 0)) (by exact BK436.o) hb); have n2_ := Aa.k (Ad HB.o hb); have n3_ := Aa.k (hbox); have n4_ := Aa.k ((by rw [hg]; exact (Af HB.o) : w.heap.size ≤ gb443)); have n5_ := Aa.k ((by rw [hg]; exact (Af HB.o) : w.heap.size ≤ gb443)); have n6_ := Aa.k ((by rw [hg]; exact Nat.ne_of_lt (Ca (g := gb436) (o := .cells #[.int .i64 0, .bool false] 25 (0, 0)) (by exact BK436.o)) : gb436 ≠ gb443)); have n7_ := Aa.k ((by rw [hg]; exact Nat.ne_of_gt (Ca (g := gb436) (o := .cells #[.int .i64 0, .bool false] 25 (0, 0)) (by exact BK436.o)) : gb443 ≠ gb436)); clear HO442; clear BK436; clear HB; have HO442 := n0_; have BK436 := n1_; have HB := n2_; have BK443 := n3_; have GW443 := n4_; have GE443 := n5_; have NB436_443 := n6_; have NB443_436 := n7_; clear n0_ n1_ n2_ n3_ n4_ n5_ n6_ n7_; clear hb hbox hg; have hnb6 := NB443_436.o; have hnc6 := NB436_443.o; have hcz7_0 := Bj BK443.o; have hcz7_1 := Bn BK443.o; have hfz7_0 := Ac BK443.o 0; have hfz7_1 := Ac BK443.o 1; have hcz8_0 := Bj BK436.o; have hcz8_1 := Bn BK436.o; have hfz8_0 := Ac BK436.o 0; have hfz8_1 := Ac BK436.o 1))
 refine bodyPost_ret (results_ct rfl _ _ gb436 25 #[.int .i64 t437, .bool t438] (0, 0) _ rfl (by refine Cr (cs := #[.int .i64 t437, .bool false]) ?_ 1 _ rfl; refine Cr (cs := #[.int .i64 0, .bool false]) ?_ 0 _ rfl; refine Cb ?_ NB436_443.o _; refine Cb ?_ NB436_443.o _; exact BK436.o) Try.underlying25 rfl (by kernel_rfl)) rfl ?_
 exact ⟨_, by (rfl), by exact Kd.Bv (Kd.Dc (p := ⟨gb436, 1, none⟩) (Kd.Dc (p := ⟨gb436, 0, none⟩) (Kd.Dc (p := ⟨gb443, 1, none⟩) (Kd.Dc (p := ⟨gb443, 0, none⟩) (Kd.Dh (Kd.Dh HO442.o BK443.o (by decide)) BK436.o (by decide)) (fun _ hk => hk.1.2) (.int .i64 t437)) (fun _ hk => hk.1.2) (.bool t438)) (fun _ hk => hk.2) (.int .i64 t437)) (fun _ hk => hk.2) (.bool t438)) (fun _ hk => trivial), by repeat ((with_reducible first | exact HB.o | refine Bz ?_ GE436.o | refine Bz ?_ GE443.o))⟩

/-! ### impl_mapped: function 99 -/
theorem impl_mapped.info : (Try.prog.info? 3).map (fun i => (i.zero, i.size, i.bytes)) = some (some (.int .i64 0), 1, 8) := by kernel_rfl
set_option maxHeartbeats 1600000 in
set_option maxRecDepth 100000 in
theorem impl_mapped.calls_bound95 (b : Value) (φ : Int → Int) (A0 : Option Addr) (c0 : Nat) (l0 : List Int) (w : World) (hr0 : Kd.C (Kd.int .i64) w A0 l0.length l0) (hc0 : l0.length ≤ c0) (hl : l0.length < 17592186044416)
  (hφ : ∀ W : World, Below w.heap.size w W → ∀ x : Int, x ∈ l0 → Calls Try.prog 95 #[b, .int .i64 x] W fun e W' => e = .returned (.int .i64 (φ x)) ∧ Below W.heap.size W W') :
  Calls Try.prog 99 #[.slice A0 l0.length c0, .func (.func 95) #[b] #[]] w fun e w' => ∃ v0_ : Value, e = .returned v0_ ∧ Kd.R (Kd.int .i64) 3 w' w.heap.size (fun _ => True) v0_ (l0.map φ) ∧ Below w.heap.size w w' := by
 have HR := Aa.k hr0
 have HC := Aa.k hc0
 have HL := Aa.k hl
 have HF := Aa.k hφ
 clear hr0 hc0 hl hφ
 have HB := Aa.k (Below.refl w.heap.size w)
 go_enter Try.func99, Try.ntmps99
 go_wp2_with ((refine Be (N := 8) rfl ?_); refine Kd.R_lit (Kd.int .i64) _ 3 ?hg (N := 8) ?hd (xs := ([] : List Int)) (inner := []) (ok := fun _ => True) (okp := fun _ => True) ?hr ?hp (fun _ hk => hk) trivial (Below.refl _ _) (Nat.le_refl _) (by simp) ?_; (case hd => rfl); (case hg => rfl); (case hr => (go_simp; done)); (case hp => exact (Reps.none _ _)); intro v1 w1 ho hb hg_ hnew_; clear hg_ hnew_; have n0_ := Aa.k (Kd.Ct ho (Af HB.o)); have n1_ := Aa.k (Ad HB.o hb); clear HB; have HO := n0_; have HB := n1_; clear n0_ n1_; clear hb ho)
 go_loopg [5, 11] l0.length (fun d v5 v11 w' => ∃ (x5 : List Int) (i : Int), v11 = .int .i64 i ∧ Aa (0 ≤ i) ∧ Aa (i + d = l0.length) ∧ Aa (x5 ++ (l0.drop i.toNat).map φ = l0.map φ) ∧ Aa (x5.length ≤ i) ∧ Aa (Kd.R (Kd.int .i64) 3 w' w.heap.size (fun _ => True) v5 x5) ∧ Aa (Below w.heap.size w w'))
 case atStart => exact ⟨[], 0, rfl, ⟨by omega⟩, ⟨by omega⟩, ⟨by simp⟩, ⟨by simp⟩, HO, HB⟩
 case round =>
  clear HO HB
  obtain ⟨x5, i, rfl, HI, HD, HX, HN, HO, HB⟩ := hrel
  by_cases hlt : i < (l0.length : Int)
  rotate_left
  ·have h0 := HI.o
   have h1 := HD.o
   have h3 := HX.o
   rw [List.drop_eq_nil_of_le (by omega), List.map_nil, List.append_nil] at h3
   have d0 : decide (i < (l0.length : Int)) = false := decide_eq_false hlt
   have H3 := Aa.k h3
   clear hlt h0 h1 h3
   go_wp2
   go_ret
   exact ⟨_, rfl, by rw [← H3.o]; exact HO.o, HB.o⟩
  have hi0 := HI.o
  have hL := HL.o
  have hD := HD.o
  obtain ⟨ad, e, hx⟩ := Kd.Eo HR.o i hi0 hlt
  cases e
  have hx' := (HB.o.cell (World.block_lt_of_cell? w _ hx)).trans hx
  have hmem : rd l0 i ∈ l0 := by
   unfold rd
   rw [List.getD_eq_getElem?_getD, List.getElem?_eq_getElem (by omega)]
   exact List.getElem_mem _
  have HM := Aa.k hmem
  have hdrop : l0.drop i.toNat = rd l0 i :: l0.drop (i.toNat + 1) := by
   rw [List.drop_eq_getElem_cons (by omega)]
   unfold rd
   rw [List.getD_eq_getElem?_getD, List.getElem?_eq_getElem (by omega)]
   rfl
  have HDR := Aa.k hdrop
  have hn : x5.length < 17592186044416 := by have := HN.o; omega
  have HNN := Aa.k hn
  have GD : ∀ gk : Nat, i + gk = l0.length → 0 < gk := fun gk h => by omega
  have HGD := Aa.k GD
  have w1 : wrap64 (i + 1) = i + 1 := by unfold wrap64; omega
  have W1 := Aa.k w1
  have d0 : decide (i < (l0.length : Int)) = true := decide_eq_true hlt
  have p0 := eq_true hi0
  have q0 := eq_true hlt
  clear hx hmem hdrop hn GD w1 hi0 hL hD hlt
  go_wp2_with (first | (go_at_call 95; refine (HF.o _ HB.o (rd l0 i) HM.o).mono ?_; rintro e w' ⟨rfl, hb⟩; have n0_ := Aa.k (Kd.Ba HO.o hb); have n1_ := Aa.k (Ad HB.o hb); clear HB HO; have HO := n0_; have HB := n1_; clear n0_ n1_; clear hb) | ((with_reducible refine Ef (b := .append) (xs := #[.tmp 15, .tmp 19]) rfl ?_); at_builtin; refine Kd.R_append (Kd.int .i64) (w0 := w) w.heap.size rfl (.tmp 15) (.tmp 19) 30 3 (.int .i64 0) 8 rfl Try.underlying30 impl_mapped.info rfl (by decide) (by omega) u5 x5 (φ (rd l0 i)) [.int .i64 (φ (rd l0 i))] (fun _ => True) (fun _ => False) rfl rfl ?aP (fun _ hk => hk.elim) ?aF ?aO ?aB ?aS ?aL ?_; (case aP => exact rfl); (case aB => exact HB.o); (case aF => exact (fun _ _ => trivial)); (case aO => exact (by exact HO.o)); (case aS => exact (Af HB.o)); (case aL => have := HNN.o; omega); intro v2 w2 ho hb hg hat; have n1_ := Aa.k (hb); have n2_ := Aa.k (ho); clear HB; clear HO; have HB := n1_; have HO := n2_; clear n1_ n2_; clear ho hb hg hat))
  go_roundg (gk - 1)
  case measure => have := HGD.o gk HD.o; omega
  case rel =>
   have h0 := HI.o
   have h1 := HD.o
   have h2 := HGD.o gk HD.o
   have h3 := HN.o
   refine ⟨x5 ++ [φ (rd l0 i)], i + 1, by rw [W1.o], ⟨by omega⟩, ⟨by omega⟩, ⟨?_⟩, ⟨by simp; omega⟩, HO, HB⟩
   have h4 := HX.o
   rw [HDR.o, List.map_cons] at h4
   rw [show (i + 1).toNat = i.toNat + 1 from by omega, List.append_assoc]
   exact h4

/-! ### impl_MirrorSearch: function 38 -/
def Cn.f (k : Nat) (a0_0 : Int) (a0_1 : Bool) (l1 : List Int) : Option (List Int × Bool) := (Ew.f a0_0 a0_1).bind fun t => if t = true then (if a0_1 = true then some ([], false) else (Dm.f k a0_0 a0_1 l1).bind fun b => if b = true then (if l1.length < 17592186044416 then some (l1.map fun p => wrap64 (wrap64 (a0_0 - 1) - p), true) else none) else some ([], false)) else some ([], false)
set_option maxHeartbeats 1600000 in
set_option maxRecDepth 100000 in
theorem Cn.calls (k : Nat) (a0_0 : Int) (a0_1 : Bool) (A1 : Option Addr) (c1 : Nat) (l1 : List Int) (r1 : List Int) (r2 : Bool) (w : World) (hr1 : Kd.C (Kd.int .i64) w A1 l1.length l1) (hc1 : l1.length ≤ c1) (h : Cn.f k a0_0 a0_1 l1 = some (r1, r2)) :
  Calls Try.prog 38 #[.agg #[.int .i64 a0_0, .bool a0_1], .slice A1 l1.length c1] w fun e w' => ∃ v0_ : Value, e = .returned (.tuple #[v0_, .bool r2]) ∧ Kd.R (Kd.int .i64) 3 w' w.heap.size (fun _ => True) v0_ r1 ∧ Below w.heap.size w w' := by
 have hu := Try.underlying25
 have HR := Aa.k hr1
 have HC := Aa.k hc1
 unfold Cn.f at h
 obtain ⟨t, h1, h2⟩ := Option.bind_eq_some_iff.mp h
 have H1 := Aa.k h1
 clear hr1 hc1 h h1
 cases t with
 | false =>
  rw [if_neg (by simp)] at h2
  simp only [Option.some.injEq, Prod.mk.injEq] at h2
  obtain ⟨rfl, rfl⟩ := h2
  go_enter Try.func38, Try.ntmps38
  go_wp2_with (go_at_call 17; refine (Ew.calls a0_0 a0_1 false _ H1.o).mono ?_; rintro e w1 ⟨rfl, hb⟩; have HB := Aa.k (Ad (Dq (Below.refl _ _) _) hb); clear hb)
  go_ret2
  exact ⟨_, rfl, Kd.R_nil _ _ _ _ _, HB.o⟩
 | true =>
  rw [if_pos rfl] at h2
  cases a0_1 with
  | true =>
   rw [if_pos rfl] at h2
   simp only [Option.some.injEq, Prod.mk.injEq] at h2
   obtain ⟨rfl, rfl⟩ := h2
   go_enter Try.func38, Try.ntmps38
   go_wp2_with (go_at_call 17; refine (Ew.calls a0_0 true true _ H1.o).mono ?_; rintro e w1 ⟨rfl, hb⟩; have HB := Aa.k (Ad (Dq (Below.refl _ _) _) hb); have hk := Ae (blk_new _ _) hb; have hz1 := (Aw hk 1).trans rfl; have hf1 := Ac hk 1; clear hb hk)
   go_ret2
   exact ⟨_, rfl, Kd.R_nil _ _ _ _ _, HB.o⟩
  | false =>
   rw [if_neg (by simp)] at h2
   obtain ⟨b, h3, h4⟩ := Option.bind_eq_some_iff.mp h2
   have H3 := Aa.k h3
   clear h2 h3
   cases b with
   | false =>
    rw [if_neg (by simp)] at h4
    simp only [Option.some.injEq, Prod.mk.injEq] at h4
    obtain ⟨rfl, rfl⟩ := h4
    go_enter Try.func38, Try.ntmps38
    go_wp2_with (first | (go_at_call 17; refine (Ew.calls a0_0 false true _ H1.o).mono ?_; rintro e w1 ⟨rfl, hb⟩; have HB := Aa.k (Ad (Dq (Below.refl _ _) _) hb); have hk := Ae (blk_new _ _) hb; have HK := Aa.k hk; have hz0 := (Aw hk 0).trans rfl; have hz1 := (Aw hk 1).trans rfl; have hf0 := Ac hk 0; have hf1 := Ac hk 1; clear hb hk) | (go_at_call 61; refine (Dm.calls k a0_0 false _ _ l1 false _ (Kd.Dx HR.o HB.o) HC.o H3.o).mono ?_; rintro e w2 ⟨rfl, hb⟩; clear hz0 hz1 hf0 hf1; have hk := Ae HK.o hb; have n1_ := Aa.k (Ad HB.o hb); have hz0 := (Aw hk 0).trans rfl; have hz1 := (Aw hk 1).trans rfl; have hf0 := Ac hk 0; have hf1 := Ac hk 1; clear HB hb hk; have HB := n1_; clear n1_))
    go_ret2
    exact ⟨_, rfl, Kd.R_nil _ _ _ _ _, HB.o⟩
   | true =>
    rw [if_pos rfl] at h4
    by_cases hl : l1.length < 17592186044416
    rotate_left
    ·rw [if_neg hl] at h4
     cases h4
    rw [if_pos hl] at h4
    simp only [Option.some.injEq, Prod.mk.injEq] at h4
    obtain ⟨rfl, rfl⟩ := h4
    have HL := Aa.k hl
    clear hl
    go_enter Try.func38, Try.ntmps38
    go_wp2_with (first | (go_at_call 17; refine (Ew.calls a0_0 false true _ H1.o).mono ?_; rintro e w1 ⟨rfl, hb⟩; have HB := Aa.k (Ad (Dq (Below.refl _ _) _) hb); have hk := Ae (blk_new _ _) hb; have HK := Aa.k hk; have hz0 := (Aw hk 0).trans rfl; have hz1 := (Aw hk 1).trans rfl; have hf0 := Ac hk 0; have hf1 := Ac hk 1; clear hb hk) | (go_at_call 61; refine (Dm.calls k a0_0 false _ _ l1 true _ (Kd.Dx HR.o HB.o) HC.o H3.o).mono ?_; rintro e w2 ⟨rfl, hb⟩; clear hz0 hz1 hf0 hf1; have hk := Ae HK.o hb; have n1_ := Aa.k (Ad HB.o hb); have hz0 := (Aw hk 0).trans rfl; have hz1 := (Aw hk 1).trans rfl; have hf0 := Ac hk 0; have hf1 := Ac hk 1; clear HB hb hk; have HB := n1_; clear n1_) | (go_at_call 99; refine (impl_mapped.calls_bound95 (.agg #[.int .i64 a0_0, .bool false]) (fun p => wrap64 (wrap64 (a0_0 - 1) - p)) _ _ l1 _ (Kd.Dx HR.o HB.o) HC.o HL.o (fun W _ x _ => impl_Road_mirror.calls a0_0 false x _ W rfl)).mono ?_; rintro e w3 ⟨v0, rfl, ho, hb⟩; have HO := Aa.k (Kd.Ct ho (Af HB.o)); have n1_ := Aa.k (Ad HB.o hb); clear HB ho hb; have HB := n1_; clear n1_))
    go_ret2
    exact ⟨_, rfl, HO.o, HB.o⟩

end Go.Proofs.Ytogflbocmiogpaa.PFnBestSearch
