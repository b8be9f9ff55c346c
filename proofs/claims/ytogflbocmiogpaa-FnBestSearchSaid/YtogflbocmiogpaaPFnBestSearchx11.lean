-- Written for this claim by this session's turned copy of the printer.
import Derived.Test.YtogflbocmiogpaaPFnBestSearchx0
import Derived.Test.YtogflbocmiogpaaPFnBestSearchx1
import Derived.Test.YtogflbocmiogpaaPFnBestSearchx10
namespace Go.Proofs.Ytogflbocmiogpaa.PFnBestSearch
open Go.RowKit Go.Proofs.YtogflbocmiogpaaW.PrintWords Go.Proofs.YtogflbocmiogpaaW.PrintLast Go.Proofs.YtogflbocmiogpaaW.PrintMore
open List renaming setIfInBounds_toArray → sT_, set_cons_zero → sZ_, set_cons_succ → sS_, map_toArray → mT_, map_cons → mC_, map_nil → mN_
open Bool renaming true → Y_, false → N_
attribute [local go_sem] max2_int min2_int max_two min_two Fj Fh max_four min_four   -- for this text's walks alone
set_option linter.unusedVariables false
set_option linter.unusedSimpArgs false

/-! ### spec_l1Cur_shortLine: function 81 -/
def Fy.f (s0_0 : List Int) (s0_1 : Int) (s0_2 : Int) : Option (Int × Bool × Int × Int × Int) := (Ch.f s0_0 s0_1 s0_2 12).bind fun bt252 => (if bt252.1 = true then ((Eb.f s0_0 bt252.2.1 bt252.2.2).bind fun bt255 => (some (bt255.1, bt255.2.1, bt255.2.2.1, bt255.2.2.2.1, bt255.2.2.2.2))) else ((Ce.f s0_0 bt252.2.1 bt252.2.2 (([5, 4, 6, 3, 7, 2, 8, 10] : List Int))).bind fun bt263 => ((Eg.f s0_0 bt263.2.1 bt263.2.2 bt263.1 false).bind fun bt267 => (some (bt263.1, false, bt267.1, bt267.2.1, bt267.2.2)))))
set_option maxHeartbeats 8000000 in
set_option maxRecDepth 100000 in
theorem Fy.calls (g : Nat) (s0_0 : List Int) (s0_1 : Int) (s0_2 : Int) (r1 : Int) (r2 : Bool) (r3 : Int) (r4 : Int) (r5 : Int) (w0 w : World) (hI : Bc w0 w g s0_0 s0_1 s0_2) (hB : Below w0.heap.size w0 w) (h : Fy.f s0_0 s0_1 s0_2 = some (r1, r2, r3, r4, r5)) :
  Calls Try.prog 81 #[.pointer (some ⟨g, 0, none⟩)] w fun e w' => e = .returned (.tuple #[.agg #[.int .i64 r1, .bool r2], .int .i64 r3]) ∧ Bc w0 w' g s0_0 r4 r5 ∧ Below w0.heap.size w0 w' ∧ Am w w' g none := by
 have hu25 := Try.underlying25
 have HI0 := Aa.k hI
 have HK := Aa.k (Am.refl w g none)
 have HL := Aa.k hB.size
 clear hI
 have HW0 := Aa.k hB.size
 have HB := Aa.k hB
 clear hB
 have H : ((Ch.f s0_0 s0_1 s0_2 12).bind fun bt252 => (if bt252.1 = true then ((Eb.f s0_0 bt252.2.1 bt252.2.2).bind fun bt255 => (some (bt255.1, bt255.2.1, bt255.2.2.1, bt255.2.2.2.1, bt255.2.2.2.2))) else ((Ce.f s0_0 bt252.2.1 bt252.2.2 (([5, 4, 6, 3, 7, 2, 8, 10] : List Int))).bind fun bt263 => ((Eg.f s0_0 bt263.2.1 bt263.2.2 bt263.1 false).bind fun bt267 => (some (bt263.1, false, bt267.1, bt267.2.1, bt267.2.2)))))) = some (r1, r2, r3, r4, r5) := h
 clear h
 obtain ⟨⟨t252, t253, t254⟩, A20, H⟩ := bindS_ H
 try dsimp only at H
 have A2 := Aa.k A20
 clear A20
 by_cases c3 : t252 = true
 ·subst c3
  rw [if_pos rfl] at H
  obtain ⟨⟨t255, t256, t257, t258, t259⟩, A40, H⟩ := bindS_ H
  try dsimp only at H
  have A4 := Aa.k A40
  clear A40
  simp only [Option.some.injEq, Prod.mk.injEq] at H
  obtain ⟨rfl, rfl, rfl, rfl, rfl⟩ := H
  go_enter Try.func81, Try.ntmps81
  go_wp2_with (first | ((with_reducible refine Be (N := 2) rfl ?_); refine Bo ?hg (N := 2) ?hd (cs := #[.int .i64 0, .bool false]) (t := 25) ?hr ?_; (case hd => rfl); (case hg => rfl); (case hr => (go_simp; done)); intro gb251 hg w5 hbox hb; replace HB := Aa.k (Ad HB.o hb); have BK251 := Aa.k (hbox); have GW251 := Aa.k ((by rw [hg]; exact (Cj (w := w) (g := g) (row := none) HK.o) : w.heap.size ≤ gb251)); have GE251 := Aa.k ((Nat.le_trans HW0.o (by rw [hg]; exact (Cj (w := w) (g := g) (row := none) HK.o) : w.heap.size ≤ gb251) : w0.heap.size ≤ gb251)); replace HK := Aa.k (Am.trans HK.o (Am.of_below hb g none) (.inl rfl)); have NB0_251 := Aa.k ((by rw [hg]; exact Nat.ne_of_lt (Bc.lt (show Bc w0 _ g s0_0 s0_1 s0_2 from by exact HI0.o)) : g ≠ gb251)); have NB251_0 := Aa.k ((by rw [hg]; exact Nat.ne_of_gt (Bc.lt (show Bc w0 _ g s0_0 s0_1 s0_2 from by exact HI0.o)) : gb251 ≠ g)); replace HI0 := Aa.k (Bc.below HI0.o hb); clear hb hbox hg) | ((with_reducible refine Aj (f := 110) rfl ?_); refine Bf (some 6) rfl rfl Try.func110 (by kernel_rfl) rfl #[.pointer (some ⟨g, 0, none⟩), .int .i64 12] rfl (by (try simp only [mT_, mC_, mN_]); rfl) ?_; (with_reducible refine (Ch.calls g s0_0 s0_1 s0_2 12 true t253 t254 w0 _ ?side1 ?side2 A2.o).mono ?_); (case side1 => exact HI0.o); (case side2 => exact HB.o); rintro e w6 ⟨rfl, hi, hb, hk⟩; refine ⟨_, rfl, ?_⟩; replace BK251 := Aa.k (Am.blk hk (g' := gb251) (o := .cells #[.int .i64 0, .bool false] 25 (0, 0)) (by exact BK251.o) NB251_0.o (by simp)); replace HK := Aa.k (Am.trans HK.o hk (.inl rfl)); replace HB := Aa.k (hb); replace HI0 := Aa.k (hi); clear hb hk hi) | ((with_reducible refine Aj (f := 72) rfl ?_); refine Bf (some 8) rfl rfl Try.func72 (by kernel_rfl) rfl #[.pointer (some ⟨g, 0, none⟩)] rfl (by (try simp only [mT_, mC_, mN_]); rfl) ?_; (with_reducible refine (Eb.calls g s0_0 t253 t254 t255 t256 t257 t258 t259 w0 _ ?side1 ?side2 A4.o).mono ?_); (case side1 => exact HI0.o); (case side2 => exact HB.o); rintro e w7 ⟨rfl, hi, hb, hk⟩; refine ⟨_, rfl, ?_⟩; replace BK251 := Aa.k (Am.blk hk (g' := gb251) (o := .cells #[.int .i64 0, .bool false] 25 (0, 0)) (by exact BK251.o) NB251_0.o (by simp)); replace HK := Aa.k (Am.trans HK.o hk (.inl rfl)); replace HB := Aa.k (hb); replace HI0 := Aa.k (hi); clear hb hk hi; have hnb8 := NB251_0.o; have hnc8 := NB0_251.o; have hcz9_0 := Bj BK251.o; have hcz9_1 := Bn BK251.o; have hfz9_0 := Ac BK251.o 0; have hfz9_1 := Ac BK251.o 1))
  refine bodyPost_ret (results_ct rfl _ _ gb251 25 #[.int .i64 t255, .bool t256] (0, 0) _ rfl (by refine Cr (cs := #[.int .i64 t255, .bool false]) ?_ 1 _ rfl; refine Cr (cs := #[.int .i64 0, .bool false]) ?_ 0 _ rfl; exact BK251.o) Try.underlying25 rfl (by kernel_rfl)) rfl ?_
  exact ⟨by (rfl), by repeat ((with_reducible first | exact HI0.o | refine Bc.far ?_ NB0_251.o _)), by repeat ((with_reducible first | exact HB.o | refine Bz ?_ GE251.o)), by repeat ((with_reducible first | exact HK.o | refine keep_far ?_ GW251.o _))⟩
 replace c3 := Bool.eq_false_iff.mpr c3
 subst c3
 rw [if_neg (show ¬ (false = true) by decide)] at H
 obtain ⟨y260, hy260⟩ : ∃ y_ : List Int, y_ = (([5, 4, 6, 3, 7, 2, 8, 10] : List Int)) := ⟨_, rfl⟩
 replace H : ((Ce.f s0_0 t253 t254 y260).bind fun bt263 => ((Eg.f s0_0 bt263.2.1 bt263.2.2 bt263.1 false).bind fun bt267 => (some (bt263.1, false, bt267.1, bt267.2.1, bt267.2.2)))) = some (r1, r2, r3, r4, r5) := by (rw [hy260]; exact H)
 have Ny260 := Aa.k hy260
 clear hy260
 obtain ⟨⟨t263, t264, t265⟩, A100, H⟩ := bindS_ H
 try dsimp only at H
 have A10 := Aa.k A100
 clear A100
 obtain ⟨⟨t267, t268, t269⟩, A110, H⟩ := bindS_ H
 try dsimp only at H
 have A11 := Aa.k A110
 clear A110
 simp only [Option.some.injEq, Prod.mk.injEq] at H
 obtain ⟨rfl, rfl, rfl, rfl, rfl⟩ := H
 go_enter Try.func81, Try.ntmps81
 try go_wp2_with (first | ((with_reducible refine Be (N := 2) rfl ?_); refine Bo ?hg (N := 2) ?hd (cs := #[.int .i64 0, .bool false]) (t := 25) ?hr ?_; (case hd => rfl); (case hg => rfl); (case hr => (go_simp; done)); intro gb251 hg w12 hbox hb; replace HB := Aa.k (Ad HB.o hb); have BK251 := Aa.k (hbox); have GW251 := Aa.k ((by rw [hg]; exact (Cj (w := w) (g := g) (row := none) HK.o) : w.heap.size ≤ gb251)); have GE251 := Aa.k ((Nat.le_trans HW0.o (by rw [hg]; exact (Cj (w := w) (g := g) (row := none) HK.o) : w.heap.size ≤ gb251) : w0.heap.size ≤ gb251)); replace HK := Aa.k (Am.trans HK.o (Am.of_below hb g none) (.inl rfl)); have NB0_251 := Aa.k ((by rw [hg]; exact Nat.ne_of_lt (Bc.lt (show Bc w0 _ g s0_0 s0_1 s0_2 from by exact HI0.o)) : g ≠ gb251)); have NB251_0 := Aa.k ((by rw [hg]; exact Nat.ne_of_gt (Bc.lt (show Bc w0 _ g s0_0 s0_1 s0_2 from by exact HI0.o)) : gb251 ≠ g)); replace HI0 := Aa.k (Bc.below HI0.o hb); clear hb hbox hg) | ((with_reducible refine Aj (f := 110) rfl ?_); refine Bf (some 6) rfl rfl Try.func110 (by kernel_rfl) rfl #[.pointer (some ⟨g, 0, none⟩), .int .i64 12] rfl (by (try simp only [mT_, mC_, mN_]); rfl) ?_; (with_reducible refine (Ch.calls g s0_0 s0_1 s0_2 12 false t253 t254 w0 _ ?side1 ?side2 A2.o).mono ?_); (case side1 => exact HI0.o); (case side2 => exact HB.o); rintro e w13 ⟨rfl, hi, hb, hk⟩; refine ⟨_, rfl, ?_⟩; replace BK251 := Aa.k (Am.blk hk (g' := gb251) (o := .cells #[.int .i64 0, .bool false] 25 (0, 0)) (by exact BK251.o) NB251_0.o (by simp)); replace HK := Aa.k (Am.trans HK.o hk (.inl rfl)); replace HB := Aa.k (hb); replace HI0 := Aa.k (hi); clear hb hk hi) | ((with_reducible refine Be (N := 12) rfl ?_); refine Kd.R_lit (Kd.int .i64) _ 3 ?hg (N := 12) ?hd (xs := ([5, 4, 6, 3, 7, 2, 8, 10] : List Int)) (inner := [.int .i64 5, .int .i64 4, .int .i64 6, .int .i64 3, .int .i64 7, .int .i64 2, .int .i64 8, .int .i64 10]) (ok := fun _ => True) (okp := fun _ => True) ?hr ?hp (fun _ hk => hk) trivial (Below.refl _ _) (Nat.le_refl _) (by simp) ?_; (case hd => rfl); (case hg => rfl); (case hr => (go_simp; done)); (case hp => exact (Reps.one (show Kd.M (Kd.int .i64) _ _ _ 5 [.int .i64 5] from rfl) (Reps.one (show Kd.M (Kd.int .i64) _ _ _ 4 [.int .i64 4] from rfl) (Reps.one (show Kd.M (Kd.int .i64) _ _ _ 6 [.int .i64 6] from rfl) (Reps.one (show Kd.M (Kd.int .i64) _ _ _ 3 [.int .i64 3] from rfl) (Reps.one (show Kd.M (Kd.int .i64) _ _ _ 7 [.int .i64 7] from rfl) (Reps.one (show Kd.M (Kd.int .i64) _ _ _ 2 [.int .i64 2] from rfl) (Reps.one (show Kd.M (Kd.int .i64) _ _ _ 8 [.int .i64 8] from rfl) (Reps.one (show Kd.M (Kd.int .i64) _ _ _ 10 [.int .i64 10] from rfl) (Reps.none _ _)))))))))); intro v261 w14 ho15 hb hg_ hnew_; clear hg_ hnew_; ((rw [← Ny260.o] at ho15)); have HO262 := Aa.k (Kd.Ct ho15 (Cj (w := w) (g := g) (row := none) HK.o)); replace HI0 := Aa.k (Bc.below HI0.o hb); replace BK251 := Aa.k (Ae (g := gb251) (o := .cells #[.int .i64 0, .bool false] 25 (0, 0)) (by exact BK251.o) hb); replace HK := Aa.k (Am.trans HK.o (Am.of_below hb g none) (.inl rfl)); replace HB := Aa.k (Ad HB.o hb); clear hb ho15; obtain ⟨Ao16, co16, eo16⟩ := Kd.Cx HO262.o; subst eo16) | ((with_reducible refine Aj (f := 88) rfl ?_); refine Bf (some 13) rfl rfl Try.func88 (by kernel_rfl) rfl #[.pointer (some ⟨g, 0, none⟩), .slice Ao16 y260.length co16] rfl (by (try simp only [mT_, mC_, mN_]); rfl) ?_; (with_reducible refine (Ce.calls g s0_0 t253 t254 _ _ y260 t263 t264 t265 w0 _ ?side1 ?side2 ?side3 ?side4 ?side5 A10.o).mono ?_); (case side1 => exact HI0.o); (case side2 => exact HB.o); (case side3 => repeat (exact (Kd.Bb HO262.o).2.2)); (case side4 => exact (Kd.Bb HO262.o).2.1); (case side5 => exact far_slice (Bc.own_ne HI0.o HO262.o (by decide))); rintro e w17 ⟨rfl, hi, hb, hk⟩; refine ⟨_, rfl, ?_⟩; replace BK251 := Aa.k (Am.blk hk (g' := gb251) (o := .cells #[.int .i64 0, .bool false] 25 (0, 0)) (by exact BK251.o) NB251_0.o (by simp)); replace HO262 := Aa.k (Kd.Bv (Kd.R_keep (Bc.apart (show Bc w0 _ g s0_0 t253 t254 from by exact HI0.o) (by exact HO262.o) (by decide)) hk (fun _ h => h.2)) (fun _ h => h.1)); replace HK := Aa.k (Am.trans HK.o hk (.inl rfl)); replace HB := Aa.k (hb); replace HI0 := Aa.k (hi); clear hb hk hi) | ((with_reducible refine Be (N := 4) rfl ?_); refine Bo ?hg (N := 4) ?hd (cs := #[.int .i64 0, .bool false]) (t := 25) ?hr ?_; (case hd => rfl); (case hg => rfl); (case hr => (go_simp; done)); intro gb266 hg w18 hbox hb; replace HO262 := Aa.k (Kd.Ba (by exact HO262.o) hb); replace HB := Aa.k (Ad HB.o hb); have BK266 := Aa.k (hbox); have GW266 := Aa.k ((by rw [hg]; exact (Cj (w := w) (g := g) (row := none) HK.o) : w.heap.size ≤ gb266)); have GE266 := Aa.k ((Nat.le_trans HW0.o (by rw [hg]; exact (Cj (w := w) (g := g) (row := none) HK.o) : w.heap.size ≤ gb266) : w0.heap.size ≤ gb266)); replace HK := Aa.k (Am.trans HK.o (Am.of_below hb g none) (.inl rfl)); have NB251_266 := Aa.k ((by rw [hg]; exact Nat.ne_of_lt (Ca (g := gb251) (o := .cells #[.int .i64 0, .bool false] 25 (0, 0)) (by exact BK251.o)) : gb251 ≠ gb266)); have NB266_251 := Aa.k ((by rw [hg]; exact Nat.ne_of_gt (Ca (g := gb251) (o := .cells #[.int .i64 0, .bool false] 25 (0, 0)) (by exact BK251.o)) : gb266 ≠ gb251)); replace BK251 := Aa.k (Ae (g := gb251) (o := .cells #[.int .i64 0, .bool false] 25 (0, 0)) (by exact BK251.o) hb); have NB0_266 := Aa.k ((by rw [hg]; exact Nat.ne_of_lt (Bc.lt (show Bc w0 _ g s0_0 t264 t265 from by exact HI0.o)) : g ≠ gb266)); have NB266_0 := Aa.k ((by rw [hg]; exact Nat.ne_of_gt (Bc.lt (show Bc w0 _ g s0_0 t264 t265 from by exact HI0.o)) : gb266 ≠ g)); replace HI0 := Aa.k (Bc.below HI0.o hb); clear hb hbox hg; have hnb19 := NB266_251.o; have hnc19 := NB251_266.o; have hnb20 := NB266_0.o; have hnc20 := NB0_266.o; have hcz21_0 := Bj BK266.o; have hcz21_1 := Bn BK266.o; have hfz21_0 := Ac BK266.o 0; have hfz21_1 := Ac BK266.o 1))
 have n0_ : Aa (Kd.R (Kd.int .i64) 3 ((w18.setCell ⟨gb266, 0, none⟩ (.int .i64 t263)).setCell ⟨gb266, 1, none⟩ (.bool false)) w.heap.size (fun _ => True) (.slice Ao16 y260.length co16) y260) := ⟨by exact Kd.Bv (Kd.Dc (p := ⟨gb266, 1, none⟩) (Kd.Dc (p := ⟨gb266, 0, none⟩) (Kd.Dh HO262.o BK266.o (by decide)) (fun _ hk => hk.2) (.int .i64 t263)) (fun _ hk => hk.2) (.bool false)) (fun _ hk => trivial)⟩
 have n1_ : Aa (((w18.setCell ⟨gb266, 0, none⟩ (.int .i64 t263)).setCell ⟨gb266, 1, none⟩ (.bool false)).heap[gb251]? = some (.cells #[.int .i64 0, .bool false] 25 (0, 0))) := ⟨by refine Cb ?_ NB251_266.o _; refine Cb ?_ NB251_266.o _; exact BK251.o⟩
 have n2_ : Aa (((w18.setCell ⟨gb266, 0, none⟩ (.int .i64 t263)).setCell ⟨gb266, 1, none⟩ (.bool false)).heap[gb266]? = some (.cells #[.int .i64 t263, .bool false] 25 (0, 0))) := ⟨by refine Cr (cs := #[.int .i64 t263, .bool false]) ?_ 1 _ rfl; refine Cr (cs := #[.int .i64 0, .bool false]) ?_ 0 _ rfl; exact BK266.o⟩
 have n3_ : Aa (Bc w0 ((w18.setCell ⟨gb266, 0, none⟩ (.int .i64 t263)).setCell ⟨gb266, 1, none⟩ (.bool false)) g s0_0 t264 t265) := ⟨by repeat ((with_reducible first | exact HI0.o | refine Bc.far ?_ NB0_266.o _))⟩
 have n4_ : Aa (Am w ((w18.setCell ⟨gb266, 0, none⟩ (.int .i64 t263)).setCell ⟨gb266, 1, none⟩ (.bool false)) g none) := ⟨by repeat ((with_reducible first | exact HK.o | refine keep_far ?_ GW266.o _))⟩
 have n5_ : Aa (Below w0.heap.size w0 ((w18.setCell ⟨gb266, 0, none⟩ (.int .i64 t263)).setCell ⟨gb266, 1, none⟩ (.bool false))) := ⟨by repeat ((with_reducible first | exact HB.o | refine Bz ?_ GE266.o))⟩
 clear HO262
 clear BK251
 clear BK266
 clear HI0
 clear HK
 clear HB
 generalize ((w18.setCell ⟨gb266, 0, none⟩ (.int .i64 t263)).setCell ⟨gb266, 1, none⟩ (.bool false)) = w22 at n0_ n1_ n2_ n3_ n4_ n5_ ⊢
 have HO262 := n0_
 have BK251 := n1_
 have BK266 := n2_
 have HI0 := n3_
 have HK := n4_
 have HB := n5_
 clear n0_ n1_ n2_ n3_ n4_ n5_
 replace HO262 := Aa.k (Kd.R_drew HO262.o)
 replace BK251 := Aa.k (Dt BK251.o)
 replace BK266 := Aa.k (Dt BK266.o)
 replace HI0 := Aa.k (Bc.drew HI0.o)
 replace HK := Aa.k (keep_drew HK.o)
 replace HB := Aa.k (Cf HB.o)
 refine Fp (n := 6) (S := fun w' => w'.cell? ⟨gb266, 0, none⟩ = some (.int .i64 t263) ∧ w'.cell? ⟨gb266, 1, none⟩ = some (.bool false)) (ds := []) #[N_,N_,N_,N_,N_,N_] (by kernel_rfl) rfl rfl ⟨(Aw BK266.o 0).trans rfl, (Aw BK266.o 1).trans rfl⟩ (fun hHeld => ?_)
 generalize w22.drew = w23 at HO262 BK251 BK266 HI0 HK HB hHeld ⊢
 refine Ei (i := 1) (N := some 16) (v := ?_) (a' := ?_) #[N_,Y_,N_,N_,N_,N_] rfl rfl (by kernel_rfl) (fun _ _ _ h => h) (Or.inl ⟨by rfl, ?_⟩) ?_ ?_
 rotate_left
 ·intro w'
  go_simp
  rfl
 rotate_left
 ·simp only [Act.put, sT_, sZ_, sS_, Ah, Ai]
  rfl
 refine En (i := 0) (N := some 15) (v := ?_) (a' := ?_) #[Y_,Y_,N_,N_,N_,N_] rfl rfl (by kernel_rfl) (fun _ _ _ h => h) (Or.inl ⟨by rfl, ?_⟩) hHeld ?_ ?_
 rotate_left
 ·rintro w' ⟨s0, s1⟩
  go_simp
  rfl
 rotate_left
 ·simp only [Act.put, sT_, sZ_, sS_, Ah, Ai]
  rfl
 refine En (i := 2) (N := some 17) (v := ?_) (a' := ?_) #[Y_,Y_,Y_,N_,N_,N_] rfl rfl (by kernel_rfl) (fun _ _ _ h => h) (Or.inl ⟨by rfl, ?_⟩) hHeld ?_ ?_
 rotate_left
 ·rintro w' ⟨s0, s1⟩
  go_simp
  rfl
 rotate_left
 ·simp only [Act.put, sT_, sZ_, sS_, Ah, Ai]
  rfl
 refine one_ (i := 3) (N := some 18) #[Y_,Y_,Y_,Y_,N_,N_] rfl rfl (by kernel_rfl) (by decide) (fun K hK => ?_)
 refine goes_ Try.func60 (by kernel_rfl) rfl #[.pointer (some ⟨g, 0, none⟩), .agg #[.int .i64 t263, .bool false]] (by rfl) rfl rfl (by (try simp only [mT_, mC_, mN_]); rfl) ?_
 refine (Eg.calls g s0_0 t264 t265 t263 false t267 t268 t269 w0 _ ?side1 ?side2 A11.o).mono ?_
 (case side1 => exact HI0.o)
 (case side2 => exact HB.o)
 rintro e w24 ⟨rfl, hi, hb, hk⟩
 refine ⟨_, rfl, ?_⟩
 replace BK251 := Aa.k (Am.blk hk (g' := gb251) (o := .cells #[.int .i64 0, .bool false] 25 (0, 0)) (by exact BK251.o) NB251_0.o (by simp))
 replace HO262 := Aa.k (Kd.Bv (Kd.R_keep (Bc.apart (show Bc w0 _ g s0_0 t264 t265 from by exact HI0.o) (by exact HO262.o) (by decide)) hk (fun _ h => h.2)) (fun _ h => h.1))
 replace BK266 := Aa.k (Am.blk hk (g' := gb266) (o := .cells #[.int .i64 t263, .bool false] 25 (0, 0)) (by exact BK266.o) NB266_0.o (by simp))
 replace HK := Aa.k (Am.trans HK.o hk (.inl rfl))
 replace HB := Aa.k (hb)
 replace HI0 := Aa.k (hi)
 clear hb
 clear hk
 clear hi
 refine hK.out _ _ ⟨(Aw BK266.o 0).trans rfl, (Aw BK266.o 1).trans rfl⟩ (fun hHeld => ?_)
 clear hK K
 refine Es (a' := ?_) ?_ ?_
 rotate_left
 ·show Act.put _ (some 18) _ = _
  simp only [Act.put, sT_, sZ_, sS_, Ah, Ai]
  rfl
 refine one_ (i := 4) (N := none) #[Y_,Y_,Y_,Y_,Y_,N_] rfl rfl (by kernel_rfl) (by decide) (fun K hK => ?_)
 have hs25 : w24.cell? ⟨gb251, 0, none⟩ = some (.int .i64 0) := (Aw BK251.o 0).trans rfl
 have hfs25 := Ac BK251.o 0
 have hns25_1 := NB266_251.o
 have hms25_1 := NB251_266.o
 have hs26 : w24.cell? ⟨gb251, 1, none⟩ = some (.bool false) := (Aw BK251.o 1).trans rfl
 have hfs26 := Ac BK251.o 1
 have hns26_1 := NB266_251.o
 have hms26_1 := NB251_266.o
 refine skip_ (w1 := ?_) (by rfl) rfl ?_ ?_
 rotate_left
 ·go_simp
  rfl
 refine hK.out _ _ ⟨((cell_far (p := ⟨gb251, _, none⟩) NB266_251.o _).trans (((cell_far (p := ⟨gb251, _, none⟩) NB266_251.o _).trans (hHeld.1)))), ((cell_far (p := ⟨gb251, _, none⟩) NB266_251.o _).trans (((cell_far (p := ⟨gb251, _, none⟩) NB266_251.o _).trans (hHeld.2))))⟩ (fun hHeld => ?_)
 clear hK K
 refine Ei (i := 5) (N := some 3) (v := ?_) (a' := ?_) #[Y_,Y_,Y_,Y_,Y_,Y_] rfl rfl (by kernel_rfl) (fun _ _ _ h => h) (Or.inl ⟨by rfl, ?_⟩) ?_ ?_
 rotate_left
 ·intro w'
  go_simp
  rfl
 rotate_left
 ·simp only [Act.put, sT_, sZ_, sS_, Ah, Ai]
  rfl
 refine done_ (by kernel_rfl) ?_
 try go_wp2
 refine bodyPost_ret (results_ct rfl _ _ gb251 25 #[.int .i64 t263, .bool false] (0, 0) _ rfl (by refine Cr (cs := #[.int .i64 t263, .bool false]) ?_ 1 _ rfl; refine Cr (cs := #[.int .i64 0, .bool false]) ?_ 0 _ rfl; exact BK251.o) Try.underlying25 rfl (by kernel_rfl)) rfl ?_
 exact ⟨by (rfl), by repeat ((with_reducible first | exact HI0.o | refine Bc.far ?_ NB0_251.o _)), by repeat ((with_reducible first | exact HB.o | refine Bz ?_ GE251.o)), by repeat ((with_reducible first | exact HK.o | refine keep_far ?_ GW251.o _))⟩

/-! ### spec_DrawBestSearch: function 30 -/
def Ck.inn (s0_0 : List Int) (s0_1 : Int) (s0_2 : Int) : Option (Int × Bool × Int × Int × Int × Int) := (Fy.f s0_0 s0_1 s0_2).bind fun bt271 => ((some (([0, 0, 1, 2, 9, 10, (-1)] : List Int) : List Int)).bind fun y277 => ((Dg.f s0_0 bt271.2.2.2.1 bt271.2.2.2.2 24).bind fun bt280 => (if 0 ≤ (wrap64 (5 + (wrap64 (Int.tdiv bt280.1 11)))) then (if (wrap64 (5 + (wrap64 (Int.tdiv bt280.1 11)))) ≤ (y277.length : Int) then ((Ce.f s0_0 bt280.2.1 bt280.2.2 (y277.take ((wrap64 (5 + (wrap64 (Int.tdiv bt280.1 11)))) : Int).toNat)).bind fun bt287 => (some (bt271.1, bt271.2.1, bt271.2.2.1, bt287.1, bt287.2.1, bt287.2.2))) else (none)) else (none))))
def Ck.T3 : Bool × List (List Nat × List Nat) := (true, [([], []), ([], []), ([], []), ([], []), ([], []), ([4], [4]), ([5], [5]), ([6], [6]), ([3, 7], [3, 7]), ([2, 8, 5], [2, 8]), ([0, 9, 0], [0]), ([1, 10, 0, 1, 10], [1]), ([9, 11, 0, 1, 2, 3, 4, 5, 6, 7, 8, 9, 10, 11], [9])])
def Ck.B3 : List Nat := [0, 0, 0, 0, 0, 16, 48, 112, 248, 508, 1021, 2047, 4095]
theorem Ck.tab3 : rtab .any (opsOf Try.f30 3) = Ck.T3 := by kernel_rfl
theorem Ck.bits3 : waitsOk Ck.T3.2 Ck.B3 = true := by kernel_rfl
set_option maxHeartbeats 8000000 in
set_option maxRecDepth 100000 in
theorem Ck.strong (A0 : Option Addr) (c0 : Nat) (g gb270 : Nat) (s0_0 : List Int) (s0_1 : Int) (s0_2 : Int) (r1 : Int) (r2 : Bool) (r3 : Int) (r4 : Int) (r5 : Int) (r6 : Int) (w0 w W1 : World) (hww : w = w0) (hgb : w.heap.size = gb270) (hgq : gb270 + 1 = g) (hwq : (w.alloc (Obj.cells #[.int .i64 0, .bool false] 25)).alloc (Obj.cells #[.slice A0 s0_0.length c0, .int .i64 0, .int .u64 0] 68) = W1) (hI : Bc w W1 g s0_0 s0_1 s0_2) (hBK : W1.heap[gb270]? = some (.cells #[.int .i64 0, .bool false] 25 (0, 0))) (hB : Below w.heap.size w W1) (h : Ck.inn s0_0 s0_1 s0_2 = some (r1, r2, r3, r4, r5, r6)) :
  Calls Try.prog 30 #[.slice A0 s0_0.length c0] w fun e w' => e = .returned (.tuple #[.agg #[.int .i64 r1, .bool r2], .int .i64 r3, .int .i64 r4]) ∧ Bc w w' g s0_0 r5 r6 ∧ Below w.heap.size w w' ∧ Am w w' g none := by
 have HWQ := Aa.k hwq
 have HGQ := Aa.k hgq
 clear hwq
 have hu25 := Try.underlying25
 subst hww
 have HI0 := Aa.k hI
 have HK := Aa.k (Am.of_below hB g none)
 have HL := Aa.k (Nat.le_refl w.heap.size)
 have HW0 := Aa.k (Nat.le_refl w.heap.size)
 have HB := Aa.k hB
 have BK270 := Aa.k hBK
 have GW270 := Aa.k (Nat.le_of_eq hgb)
 have GE270 := Aa.k (Nat.le_of_eq hgb)
 have NB0_270 := Aa.k (show g ≠ gb270 by omega)
 have NB270_0 := Aa.k (show gb270 ≠ g by omega)
 have HGB := Aa.k hgb
 clear hI hB hBK hgb
 have H : ((Fy.f s0_0 s0_1 s0_2).bind fun bt271 => ((some (([0, 0, 1, 2, 9, 10, (-1)] : List Int) : List Int)).bind fun y277 => ((Dg.f s0_0 bt271.2.2.2.1 bt271.2.2.2.2 24).bind fun bt280 => (if 0 ≤ (wrap64 (5 + (wrap64 (Int.tdiv bt280.1 11)))) then (if (wrap64 (5 + (wrap64 (Int.tdiv bt280.1 11)))) ≤ (y277.length : Int) then ((Ce.f s0_0 bt280.2.1 bt280.2.2 (y277.take ((wrap64 (5 + (wrap64 (Int.tdiv bt280.1 11)))) : Int).toNat)).bind fun bt287 => (some (bt271.1, bt271.2.1, bt271.2.2.1, bt287.1, bt287.2.1, bt287.2.2))) else (none)) else (none))))) = some (r1, r2, r3, r4, r5, r6) := h
 clear h
 obtain ⟨⟨t271, t272, t273, t274, t275⟩, A20, H⟩ := bindS_ H
 try dsimp only at H
 have A2 := Aa.k A20
 clear A20
 obtain ⟨y277, hy277⟩ : ∃ y_ : List Int, y_ = (([0, 0, 1, 2, 9, 10, (-1)] : List Int)) := ⟨_, rfl⟩
 replace H : ((Dg.f s0_0 t274 t275 24).bind fun bt280 => (if 0 ≤ (wrap64 (5 + (wrap64 (Int.tdiv bt280.1 11)))) then (if (wrap64 (5 + (wrap64 (Int.tdiv bt280.1 11)))) ≤ (y277.length : Int) then ((Ce.f s0_0 bt280.2.1 bt280.2.2 (y277.take ((wrap64 (5 + (wrap64 (Int.tdiv bt280.1 11)))) : Int).toNat)).bind fun bt287 => (some (t271, t272, t273, bt287.1, bt287.2.1, bt287.2.2))) else (none)) else (none))) = some (r1, r2, r3, r4, r5, r6) := by (have H2_ := (Option.bind_some _ _).symm.trans H; rw [hy277]; exact H2_)
 have Ny277 := Aa.k hy277
 clear hy277
 obtain ⟨⟨t280, t281, t282⟩, A30, H⟩ := bindS_ H
 try dsimp only at H
 have A3 := Aa.k A30
 clear A30
 obtain ⟨ji4, hji4⟩ : ∃ j_ : Int, (wrap64 (5 + (wrap64 (Int.tdiv t280 11)))) = j_ := ⟨_, rfl⟩
 replace H : (if 0 ≤ (ji4) then (if (ji4) ≤ (y277.length : Int) then ((Ce.f s0_0 t281 t282 (y277.take ((ji4) : Int).toNat)).bind fun bt287 => (some (t271, t272, t273, bt287.1, bt287.2.1, bt287.2.2))) else (none)) else (none)) = some (r1, r2, r3, r4, r5, r6) := by (rw [hji4] at H; exact H)
 (try rw [hji4] at A2)
 (try rw [hji4] at A3)
 have hji4w : (IntKind.i64.wrap (5 + (wrap64 (Int.tdiv t280 11)))) = ji4 := (Ah _).trans hji4
 by_cases c5 : 0 ≤ (ji4)
 rotate_left
 ·rw [if_neg c5] at H
  exact absurd H (by simp)
 rw [if_pos c5] at H
 have c5b0 := eq_true c5
 have c5b1 : decide (0 ≤ (ji4)) = true := decide_eq_true c5
 clear c5
 by_cases c6 : (ji4) ≤ (y277.length : Int)
 rotate_left
 ·rw [if_neg c6] at H
  exact absurd H (by simp)
 rw [if_pos c6] at H
 have c6b0 := eq_true c6
 have c6b1 : decide ((ji4) ≤ (y277.length : Int)) = true := decide_eq_true c6
 clear c6
 obtain ⟨y283, hy283⟩ : ∃ y_ : List Int, y_ = (y277.take ((ji4) : Int).toNat) := ⟨_, rfl⟩
 replace H : ((Ce.f s0_0 t281 t282 y283).bind fun bt287 => (some (t271, t272, t273, bt287.1, bt287.2.1, bt287.2.2))) = some (r1, r2, r3, r4, r5, r6) := by (rw [hy283]; exact H)
 have Ny283 := Aa.k hy283
 clear hy283
 obtain ⟨⟨t287, t288, t289⟩, A70, H⟩ := bindS_ H
 try dsimp only at H
 have A7 := Aa.k A70
 clear A70
 simp only [Option.some.injEq, Prod.mk.injEq] at H
 obtain ⟨rfl, rfl, rfl, rfl, rfl, rfl⟩ := H
 go_enter Try.func30, Try.ntmps30
 go_upto_region 2 with (fail)
 rw [HWQ.o]
 simp only [HGB.o, HGQ.o]
 try go_wp2_with (first | ((with_reducible refine Aj (f := 81) rfl ?_); refine Bf (some 13) rfl rfl Try.func81 (by kernel_rfl) rfl #[.pointer (some ⟨g, 0, none⟩)] rfl (by (try simp only [mT_, mC_, mN_]); rfl) ?_; (with_reducible refine (Fy.calls g s0_0 s0_1 s0_2 t271 t272 t273 t274 t275 w _ ?side1 ?side2 A2.o).mono ?_); (case side1 => exact HI0.o); (case side2 => exact HB.o); rintro e w9 ⟨rfl, hi, hb, hk⟩; refine ⟨_, rfl, ?_⟩; replace BK270 := Aa.k (Am.blk hk (g' := gb270) (o := .cells #[.int .i64 0, .bool false] 25 (0, 0)) (by exact BK270.o) NB270_0.o (by simp)); replace HK := Aa.k (Am.trans HK.o hk (.inl rfl)); replace HB := Aa.k (hb); replace HI0 := Aa.k (hi); clear hb hk hi) | ((with_reducible refine Be (N := 6) rfl ?_); refine Bo ?hg (N := 6) ?hd (cs := #[.int .i64 0, .bool false]) (t := 25) ?hr ?_; (case hd => rfl); (case hg => rfl); (case hr => (go_simp; done)); intro gb276 hg w10 hbox hb; replace HB := Aa.k (Ad HB.o hb); have BK276 := Aa.k (hbox); have GW276 := Aa.k ((by rw [hg]; exact (Cj (w := w) (g := g) (row := none) HK.o) : w.heap.size ≤ gb276)); have GE276 := Aa.k ((Nat.le_trans HW0.o (by rw [hg]; exact (Cj (w := w) (g := g) (row := none) HK.o) : w.heap.size ≤ gb276) : w.heap.size ≤ gb276)); replace HK := Aa.k (Am.trans HK.o (Am.of_below hb g none) (.inl rfl)); have NB270_276 := Aa.k ((by rw [hg]; exact Nat.ne_of_lt (Ca (g := gb270) (o := .cells #[.int .i64 0, .bool false] 25 (0, 0)) (by exact BK270.o)) : gb270 ≠ gb276)); have NB276_270 := Aa.k ((by rw [hg]; exact Nat.ne_of_gt (Ca (g := gb270) (o := .cells #[.int .i64 0, .bool false] 25 (0, 0)) (by exact BK270.o)) : gb276 ≠ gb270)); replace BK270 := Aa.k (Ae (g := gb270) (o := .cells #[.int .i64 0, .bool false] 25 (0, 0)) (by exact BK270.o) hb); have NB0_276 := Aa.k ((by rw [hg]; exact Nat.ne_of_lt (Bc.lt (show Bc w _ g s0_0 t274 t275 from by exact HI0.o)) : g ≠ gb276)); have NB276_0 := Aa.k ((by rw [hg]; exact Nat.ne_of_gt (Bc.lt (show Bc w _ g s0_0 t274 t275 from by exact HI0.o)) : gb276 ≠ g)); replace HI0 := Aa.k (Bc.below HI0.o hb); clear hb hbox hg; have hnb11 := NB276_270.o; have hnc11 := NB270_276.o; have hnb12 := NB276_0.o; have hnc12 := NB0_276.o; have hcz13_0 := Bj BK276.o; have hcz13_1 := Bn BK276.o; have hfz13_0 := Ac BK276.o 0; have hfz13_1 := Ac BK276.o 1))
 have n0_ : Aa (((w10.setCell ⟨gb276, 0, none⟩ (.int .i64 t271)).setCell ⟨gb276, 1, none⟩ (.bool t272)).heap[gb270]? = some (.cells #[.int .i64 0, .bool false] 25 (0, 0))) := ⟨by refine Cb ?_ NB270_276.o _; refine Cb ?_ NB270_276.o _; exact BK270.o⟩
 have n1_ : Aa (((w10.setCell ⟨gb276, 0, none⟩ (.int .i64 t271)).setCell ⟨gb276, 1, none⟩ (.bool t272)).heap[gb276]? = some (.cells #[.int .i64 t271, .bool t272] 25 (0, 0))) := ⟨by refine Cr (cs := #[.int .i64 t271, .bool false]) ?_ 1 _ rfl; refine Cr (cs := #[.int .i64 0, .bool false]) ?_ 0 _ rfl; exact BK276.o⟩
 have n2_ : Aa (Bc w ((w10.setCell ⟨gb276, 0, none⟩ (.int .i64 t271)).setCell ⟨gb276, 1, none⟩ (.bool t272)) g s0_0 t274 t275) := ⟨by repeat ((with_reducible first | exact HI0.o | refine Bc.far ?_ NB0_276.o _))⟩
 have n3_ : Aa (Am w ((w10.setCell ⟨gb276, 0, none⟩ (.int .i64 t271)).setCell ⟨gb276, 1, none⟩ (.bool t272)) g none) := ⟨by repeat ((with_reducible first | exact HK.o | refine keep_far ?_ GW276.o _))⟩
 have n4_ : Aa (Below w.heap.size w ((w10.setCell ⟨gb276, 0, none⟩ (.int .i64 t271)).setCell ⟨gb276, 1, none⟩ (.bool t272))) := ⟨by repeat ((with_reducible first | exact HB.o | refine Bz ?_ GE276.o))⟩
 clear BK270
 clear BK276
 clear HI0
 clear HK
 clear HB
 generalize ((w10.setCell ⟨gb276, 0, none⟩ (.int .i64 t271)).setCell ⟨gb276, 1, none⟩ (.bool t272)) = w14 at n0_ n1_ n2_ n3_ n4_ ⊢
 have BK270 := n0_
 have BK276 := n1_
 have HI0 := n2_
 have HK := n3_
 have HB := n4_
 clear n0_ n1_ n2_ n3_ n4_
 replace BK270 := Aa.k (Dt BK270.o)
 replace BK276 := Aa.k (Dt BK276.o)
 replace HI0 := Aa.k (Bc.drew HI0.o)
 replace HK := Aa.k (keep_drew HK.o)
 replace HB := Aa.k (Cf HB.o)
 refine Fp (n := 13) (S := fun w' => w'.cell? ⟨gb276, 0, none⟩ = some (.int .i64 t271) ∧ w'.cell? ⟨gb276, 1, none⟩ = some (.bool t272)) (ds := []) #[N_,N_,N_,N_,N_,N_,N_,N_,N_,N_,N_,N_,N_] (by kernel_rfl) rfl rfl ⟨(Aw BK276.o 0).trans rfl, (Aw BK276.o 1).trans rfl⟩ (fun hHeld => ?_); refine Dv Ck.tab3 Ck.bits3 (fun HT_ HW_ => ?_)
 generalize w14.drew = w15 at BK270 BK276 HI0 HK HB hHeld ⊢
 apply pq_ 1 17 #[N_,Y_,N_,N_,N_,N_,N_,N_,N_,N_,N_,N_,N_] HT_ rfl rfl (by kernel_rfl) (fun _ _ _ h => h) (by rfl)
 ·intro w'; go_simp; rfl
 ·simp only [Act.put, sT_, sZ_, sS_, Ah, Ai]; rfl
 apply pq_ 2 18 #[N_,Y_,Y_,N_,N_,N_,N_,N_,N_,N_,N_,N_,N_] HT_ rfl rfl (by kernel_rfl) (fun _ _ _ h => h) (by rfl)
 ·intro w'; go_simp; rfl
 ·simp only [Act.put, sT_, sZ_, sS_, Ah, Ai]; rfl
 apply pq_ 4 20 #[N_,Y_,Y_,N_,Y_,N_,N_,N_,N_,N_,N_,N_,N_] HT_ rfl rfl (by kernel_rfl) (fun _ _ _ h => h) (by rfl)
 ·intro w'; go_simp; rfl
 ·simp only [Act.put, sT_, sZ_, sS_, Ah, Ai]; rfl
 refine En (i := 0) (N := some 16) (v := ?_) (a' := ?_) #[Y_,Y_,Y_,N_,Y_,N_,N_,N_,N_,N_,N_,N_,N_] rfl rfl (Cm HT_.o HW_.o (by kernel_rfl)) (fun _ _ _ h => h) (Or.inl ⟨by rfl, ?_⟩) hHeld ?_ ?_
 rotate_left
 ·rintro w' ⟨s0, s1⟩
  go_simp
  rfl
 rotate_left
 ·simp only [Act.put, sT_, sZ_, sS_, Ah, Ai]
  rfl
 refine join_ (σ := Value) 5 #[Y_,Y_,Y_,Y_,Y_,Y_,Y_,Y_,N_,N_,N_,N_,N_] (fun s_ => [(19, s_), (21, .int .i64 t280), (22, .int .i64 (wrap64 (Int.tdiv t280 11))), (23, .int .i64 ji4)]) (fun s_ w' => (w'.cell? ⟨gb276, 0, none⟩ = some (.int .i64 t271) ∧ w'.cell? ⟨gb276, 1, none⟩ = some (.bool t272)) ∧ (Kd.R (Kd.int .i64) 3 w' w.heap.size (fun _ => True) s_ y277) ∧ (w'.heap[gb270]? = some (.cells #[.int .i64 0, .bool false] 25 (0, 0))) ∧ (w'.heap[gb276]? = some (.cells #[.int .i64 t271, .bool t272] 25 (0, 0))) ∧ (Bc w w' g s0_0 t281 t282) ∧ (Am w w' g none) ∧ (Below w.heap.size w w')) ?_ ?_
 rotate_left
 ·intro hCont
  refine two_ (i := 3) (j := 5) (Ni := some 19) (Nj := some 21) #[Y_,Y_,Y_,Y_,Y_,N_,N_,N_,N_,N_,N_,N_,N_] #[Y_,Y_,Y_,N_,Y_,Y_,N_,N_,N_,N_,N_,N_,N_] rfl rfl rfl rfl (two_of HT_.o (by kernel_rfl)) (by decide) (by decide) (fun K hK => ?_) (fun K hK => ?_)
  ·skip
   refine Kd.R_lit_step (Kd.int .i64) _ 3 ?hg (N := 19) ?hd (xs := ([0, 0, 1, 2, 9, 10, (-1)] : List Int)) (inner := [.int .i64 0, .int .i64 0, .int .i64 1, .int .i64 2, .int .i64 9, .int .i64 10, .int .i64 (-1)]) (ok := fun _ => True) (okp := fun _ => True) ?hr ?hp (fun _ hk => hk) trivial (Below.refl _ _) (Nat.le_refl _) (by simp) ?_; (case hd => rfl); (case hg => rfl); (case hr => (go_simp; done)); (case hp => exact (Reps.one (show Kd.M (Kd.int .i64) _ _ _ 0 [.int .i64 0] from rfl) (Reps.one (show Kd.M (Kd.int .i64) _ _ _ 0 [.int .i64 0] from rfl) (Reps.one (show Kd.M (Kd.int .i64) _ _ _ 1 [.int .i64 1] from rfl) (Reps.one (show Kd.M (Kd.int .i64) _ _ _ 2 [.int .i64 2] from rfl) (Reps.one (show Kd.M (Kd.int .i64) _ _ _ 9 [.int .i64 9] from rfl) (Reps.one (show Kd.M (Kd.int .i64) _ _ _ 10 [.int .i64 10] from rfl) (Reps.one (show Kd.M (Kd.int .i64) _ _ _ (-1) [.int .i64 (-1)] from rfl) (Reps.none _ _)))))))))
   intro v278 w16 ho17 hb hg_ hnew_
   clear hg_ hnew_
   ((rw [← Ny277.o] at ho17))
   have HO279 := Aa.k (Kd.Ct ho17 (Cj (w := w) (g := g) (row := none) HK.o))
   replace HI0 := Aa.k (Bc.below HI0.o hb)
   replace BK270 := Aa.k (Ae (g := gb270) (o := .cells #[.int .i64 0, .bool false] 25 (0, 0)) (by exact BK270.o) hb)
   replace BK276 := Aa.k (Ae (g := gb276) (o := .cells #[.int .i64 t271, .bool t272] 25 (0, 0)) (by exact BK276.o) hb)
   replace HK := Aa.k (Am.trans HK.o (Am.of_below hb g none) (.inl rfl))
   replace HB := Aa.k (Ad HB.o hb)
   clear hb ho17
   refine hK.out _ _ ⟨(Aw BK276.o 0).trans rfl, (Aw BK276.o 1).trans rfl⟩ (fun hHeld => ?_)
   clear hK K
   refine Es (a' := ?_) ?_ ?_
   rotate_left
   ·show Act.put _ (some 19) _ = _
    simp only [Act.put, sT_, sZ_, sS_, Ah, Ai]
    rfl
   refine one_ (i := 5) (N := some 21) #[Y_,Y_,Y_,Y_,Y_,Y_,N_,N_,N_,N_,N_,N_,N_] rfl rfl (Ej HT_.o (by kernel_rfl)) (by decide) (fun K hK => ?_)
   refine goes_ Try.func89 (by kernel_rfl) rfl #[.pointer (some ⟨g, 0, none⟩), .int .i64 24] (by rfl) rfl rfl (by (try simp only [mT_, mC_, mN_]); rfl) ?_
   refine (Dg.calls g s0_0 t274 t275 24 t280 t281 t282 w _ ?side1 ?side2 A3.o).mono ?_
   (case side1 => exact HI0.o)
   (case side2 => exact HB.o)
   rintro e w18 ⟨rfl, hi, hb, hk⟩
   refine ⟨_, rfl, ?_⟩
   replace BK270 := Aa.k (Am.blk hk (g' := gb270) (o := .cells #[.int .i64 0, .bool false] 25 (0, 0)) (by exact BK270.o) NB270_0.o (by simp))
   replace BK276 := Aa.k (Am.blk hk (g' := gb276) (o := .cells #[.int .i64 t271, .bool t272] 25 (0, 0)) (by exact BK276.o) NB276_0.o (by simp))
   replace HO279 := Aa.k (Kd.Bv (Kd.R_keep (Bc.apart (show Bc w _ g s0_0 t274 t275 from by exact HI0.o) (by exact HO279.o) (by decide)) hk (fun _ h => h.2)) (fun _ h => h.1))
   replace HK := Aa.k (Am.trans HK.o hk (.inl rfl))
   replace HB := Aa.k (hb)
   replace HI0 := Aa.k (hi)
   clear hb
   clear hk
   clear hi
   refine hK.out _ _ ⟨(Aw BK276.o 0).trans rfl, (Aw BK276.o 1).trans rfl⟩ (fun hHeld => ?_)
   clear hK K
   refine Es (a' := ?_) ?_ ?_
   rotate_left
   ·show Act.put _ (some 21) _ = _
    simp only [Act.put, sT_, sZ_, sS_, Ah, Ai]
    rfl
   apply pq_ 6 22 #[Y_,Y_,Y_,Y_,Y_,Y_,Y_,N_,N_,N_,N_,N_,N_] HT_ rfl rfl (by kernel_rfl) (fun _ _ _ h => h) (by rfl)
   ·intro w'; go_simp; rfl
   ·simp only [Act.put, sT_, sZ_, sS_, Ah, Ai]; rfl
   apply pq_ 7 23 #[Y_,Y_,Y_,Y_,Y_,Y_,Y_,Y_,N_,N_,N_,N_,N_] HT_ rfl rfl (by kernel_rfl) (fun _ _ _ h => h) (by rfl)
   ·intro w'; go_simp; rfl
   ·simp only [Act.put, sT_, sZ_, sS_, Ah, Ai]; rfl
   exact Es (by simp only [putAll, Act.put, sT_, sZ_, sS_]) (hCont (v278) _ ⟨hHeld, (by exact HO279.o), (by exact BK270.o), (by exact BK276.o), HI0.o, HK.o, HB.o⟩)
  ·skip
   refine goes_ Try.func89 (by kernel_rfl) rfl #[.pointer (some ⟨g, 0, none⟩), .int .i64 24] (by rfl) rfl rfl (by (try simp only [mT_, mC_, mN_]); rfl) ?_
   refine (Dg.calls g s0_0 t274 t275 24 t280 t281 t282 w _ ?side1 ?side2 A3.o).mono ?_
   (case side1 => exact HI0.o)
   (case side2 => exact HB.o)
   rintro e w16 ⟨rfl, hi, hb, hk⟩
   refine ⟨_, rfl, ?_⟩
   replace BK270 := Aa.k (Am.blk hk (g' := gb270) (o := .cells #[.int .i64 0, .bool false] 25 (0, 0)) (by exact BK270.o) NB270_0.o (by simp))
   replace BK276 := Aa.k (Am.blk hk (g' := gb276) (o := .cells #[.int .i64 t271, .bool t272] 25 (0, 0)) (by exact BK276.o) NB276_0.o (by simp))
   replace HK := Aa.k (Am.trans HK.o hk (.inl rfl))
   replace HB := Aa.k (hb)
   replace HI0 := Aa.k (hi)
   clear hb
   clear hk
   clear hi
   refine hK.out _ _ ⟨(Aw BK276.o 0).trans rfl, (Aw BK276.o 1).trans rfl⟩ (fun hHeld => ?_)
   clear hK K
   refine Es (a' := ?_) ?_ ?_
   rotate_left
   ·show Act.put _ (some 21) _ = _
    simp only [Act.put, sT_, sZ_, sS_, Ah, Ai]
    rfl
   apply pq_ 6 22 #[Y_,Y_,Y_,N_,Y_,Y_,Y_,N_,N_,N_,N_,N_,N_] HT_ rfl rfl (by kernel_rfl) (fun _ _ _ h => h) (by rfl)
   ·intro w'; go_simp; rfl
   ·simp only [Act.put, sT_, sZ_, sS_, Ah, Ai]; rfl
   apply pq_ 7 23 #[Y_,Y_,Y_,N_,Y_,Y_,Y_,Y_,N_,N_,N_,N_,N_] HT_ rfl rfl (by kernel_rfl) (fun _ _ _ h => h) (by rfl)
   ·intro w'; go_simp; rfl
   ·simp only [Act.put, sT_, sZ_, sS_, Ah, Ai]; rfl
   refine one_ (i := 3) (N := some 19) #[Y_,Y_,Y_,Y_,Y_,Y_,Y_,Y_,N_,N_,N_,N_,N_] rfl rfl (Ej HT_.o (by kernel_rfl)) (by decide) (fun K hK => ?_)
   refine Kd.R_lit_step (Kd.int .i64) _ 3 ?hg (N := 19) ?hd (xs := ([0, 0, 1, 2, 9, 10, (-1)] : List Int)) (inner := [.int .i64 0, .int .i64 0, .int .i64 1, .int .i64 2, .int .i64 9, .int .i64 10, .int .i64 (-1)]) (ok := fun _ => True) (okp := fun _ => True) ?hr ?hp (fun _ hk => hk) trivial (Below.refl _ _) (Nat.le_refl _) (by simp) ?_; (case hd => rfl); (case hg => rfl); (case hr => (go_simp; done)); (case hp => exact (Reps.one (show Kd.M (Kd.int .i64) _ _ _ 0 [.int .i64 0] from rfl) (Reps.one (show Kd.M (Kd.int .i64) _ _ _ 0 [.int .i64 0] from rfl) (Reps.one (show Kd.M (Kd.int .i64) _ _ _ 1 [.int .i64 1] from rfl) (Reps.one (show Kd.M (Kd.int .i64) _ _ _ 2 [.int .i64 2] from rfl) (Reps.one (show Kd.M (Kd.int .i64) _ _ _ 9 [.int .i64 9] from rfl) (Reps.one (show Kd.M (Kd.int .i64) _ _ _ 10 [.int .i64 10] from rfl) (Reps.one (show Kd.M (Kd.int .i64) _ _ _ (-1) [.int .i64 (-1)] from rfl) (Reps.none _ _)))))))))
   intro v278 w17 ho18 hb hg_ hnew_
   clear hg_ hnew_
   ((rw [← Ny277.o] at ho18))
   have HO279 := Aa.k (Kd.Ct ho18 (Cj (w := w) (g := g) (row := none) HK.o))
   replace HI0 := Aa.k (Bc.below HI0.o hb)
   replace BK270 := Aa.k (Ae (g := gb270) (o := .cells #[.int .i64 0, .bool false] 25 (0, 0)) (by exact BK270.o) hb)
   replace BK276 := Aa.k (Ae (g := gb276) (o := .cells #[.int .i64 t271, .bool t272] 25 (0, 0)) (by exact BK276.o) hb)
   replace HK := Aa.k (Am.trans HK.o (Am.of_below hb g none) (.inl rfl))
   replace HB := Aa.k (Ad HB.o hb)
   clear hb ho18
   refine hK.out _ _ ⟨(Aw BK276.o 0).trans rfl, (Aw BK276.o 1).trans rfl⟩ (fun hHeld => ?_)
   clear hK K
   refine Es (a' := ?_) ?_ ?_
   rotate_left
   ·show Act.put _ (some 19) _ = _
    simp only [Act.put, sT_, sZ_, sS_, Ah, Ai]
    rfl
   exact Es (by simp only [putAll, Act.put, sT_, sZ_, sS_]) (hCont (v278) _ ⟨hHeld, (by exact HO279.o), (by exact BK270.o), (by exact BK276.o), HI0.o, HK.o, HB.o⟩)
 rintro v278 w19 ⟨hS_, h0_, h1_, h2_, h3_, h4_, h5_⟩
 have n0_ : Aa (Kd.R (Kd.int .i64) 3 w19 w.heap.size (fun _ => True) v278 y277) := ⟨h0_⟩
 have n1_ : Aa (w19.heap[gb270]? = some (.cells #[.int .i64 0, .bool false] 25 (0, 0))) := ⟨h1_⟩
 have n2_ : Aa (w19.heap[gb276]? = some (.cells #[.int .i64 t271, .bool t272] 25 (0, 0))) := ⟨h2_⟩
 have n3_ : Aa (Bc w w19 g s0_0 t281 t282) := ⟨h3_⟩
 have n4_ : Aa (Am w w19 g none) := ⟨h4_⟩
 have n5_ : Aa (Below w.heap.size w w19) := ⟨h5_⟩
 clear BK270
 clear BK276
 clear HI0
 clear HK
 clear HB
 clear h0_ h1_ h2_ h3_ h4_ h5_
 have HO279 := n0_
 have BK270 := n1_
 have BK276 := n2_
 have HI0 := n3_
 have HK := n4_
 have HB := n5_
 clear n0_ n1_ n2_ n3_ n4_ n5_
 have hHeld : w19.cell? ⟨gb276, 0, none⟩ = some (.int .i64 t271) ∧ w19.cell? ⟨gb276, 1, none⟩ = some (.bool t272) := hS_
 obtain ⟨Ao21, co21, eo21⟩ := Kd.Cx HO279.o
 ((subst eo21))
 have q20 : ((ji4) : Int) ≤ ((y277.length : Int) : Int) := of_decide_eq_true (by (assumption))
 obtain ⟨i020, hi020, _, hsz20, _⟩ := info_parts (by kernel_rfl : (Try.prog.info? 3).map (fun i => (i.zero, i.size, i.bytes)) = some (some (.int .i64 0), 1, 8))
 have hroom20 : y277.length ≤ co21 := (Kd.Bb HO279.o).2.1
 have hC20 : Kd.C (Kd.int .i64) _ Ao21 y277.length y277 := (Kd.Bb HO279.o).2.2
 have hcut20 := cut_to (P := Try.prog) 30 3 .i64 Try.underlying30 hi020 Ao21 y277.length co21 (ji4) (of_decide_eq_true (by (assumption))) q20 hroom20
 have hr20 := Kd.C_take (m := ((ji4) : Int).toNat) hC20 (by omega)
 have hy20 : y283.length = ((ji4) : Int).toNat := (by rw [Ny283.o, List.length_take]; omega)
 rw [← Ny283.o] at hr20
 rw [← hy20] at hcut20
 have HR286 := Aa.k hr20
 have HC286 := Aa.k (show y283.length ≤ co21 from by omega)
 clear hr20 hC20 hroom20 hi020 hsz20
 have KY20 := Aa.k hy20
 clear hy20
 have KL20 := Aa.k (show ((ji4) : Int).toNat ≤ y277.length from by omega)
 replace q20 := eq_true q20
 refine Es (a' := ?_) ?_ ?_
 rotate_left
 ·simp only [putAll, Act.put, sT_, sZ_, sS_]
  rfl
 apply pq_ 8 24 #[Y_,Y_,Y_,Y_,Y_,Y_,Y_,Y_,Y_,N_,N_,N_,N_] HT_ rfl rfl (by kernel_rfl) (fun _ _ _ h => h) (by rfl)
 ·intro w'; go_simp; rfl
 ·simp only [Act.put, sT_, sZ_, sS_, Ah, Ai]; rfl
 refine one_ (i := 9) (N := some 25) #[Y_,Y_,Y_,Y_,Y_,Y_,Y_,Y_,Y_,Y_,N_,N_,N_] rfl rfl (Ej HT_.o (by kernel_rfl)) (by decide) (fun K hK => ?_)
 refine goes_ Try.func88 (by kernel_rfl) rfl #[.pointer (some ⟨g, 0, none⟩), .slice Ao21 y283.length co21] (by rfl) rfl rfl (by (try simp only [mT_, mC_, mN_]); rfl) ?_
 refine (Ce.calls g s0_0 t281 t282 _ _ y283 t287 t288 t289 w _ ?side1 ?side2 ?side3 ?side4 ?side5 A7.o).mono ?_
 (case side1 => exact HI0.o)
 (case side2 => exact HB.o)
 (case side3 => repeat ((exact (by exact HR286.o))))
 (case side4 => exact HC286.o)
 (case side5 => exact fun ad he h_ he_ => (Bc.own_ne HI0.o HO279.o (by decide)) (by cases he; simp [Value.ownBlock, he_]))
 rintro e w22 ⟨rfl, hi, hb, hk⟩
 refine ⟨_, rfl, ?_⟩
 replace BK270 := Aa.k (Am.blk hk (g' := gb270) (o := .cells #[.int .i64 0, .bool false] 25 (0, 0)) (by exact BK270.o) NB270_0.o (by simp))
 replace BK276 := Aa.k (Am.blk hk (g' := gb276) (o := .cells #[.int .i64 t271, .bool t272] 25 (0, 0)) (by exact BK276.o) NB276_0.o (by simp))
 replace HO279 := Aa.k (Kd.Bv (Kd.R_keep (Bc.apart (show Bc w _ g s0_0 t281 t282 from by exact HI0.o) (by exact HO279.o) (by decide)) hk (fun _ h => h.2)) (fun _ h => h.1))
 replace HK := Aa.k (Am.trans HK.o hk (.inl rfl))
 replace HB := Aa.k (hb)
 replace HI0 := Aa.k (hi)
 clear hb
 clear hk
 clear hi
 refine hK.out _ _ ⟨(Aw BK276.o 0).trans rfl, (Aw BK276.o 1).trans rfl⟩ (fun hHeld => ?_)
 clear hK K
 refine Es (a' := ?_) ?_ ?_
 rotate_left
 ·show Act.put _ (some 25) _ = _
  simp only [Act.put, sT_, sZ_, sS_, Ah, Ai]
  rfl
 refine one_ (i := 10) (N := none) #[Y_,Y_,Y_,Y_,Y_,Y_,Y_,Y_,Y_,Y_,Y_,N_,N_] rfl rfl (Ej HT_.o (by kernel_rfl)) (by decide) (fun K hK => ?_)
 have hs23 : w22.cell? ⟨gb270, 0, none⟩ = some (.int .i64 0) := (Aw BK270.o 0).trans rfl
 have hfs23 := Ac BK270.o 0
 have hns23_1 := NB276_270.o
 have hms23_1 := NB270_276.o
 have hs24 : w22.cell? ⟨gb270, 1, none⟩ = some (.bool false) := (Aw BK270.o 1).trans rfl
 have hfs24 := Ac BK270.o 1
 have hns24_1 := NB276_270.o
 have hms24_1 := NB270_276.o
 refine skip_ (w1 := ?_) (by rfl) rfl ?_ ?_
 rotate_left
 ·go_simp
  rfl
 refine hK.out _ _ ⟨((cell_far (p := ⟨gb270, _, none⟩) NB276_270.o _).trans (((cell_far (p := ⟨gb270, _, none⟩) NB276_270.o _).trans (hHeld.1)))), ((cell_far (p := ⟨gb270, _, none⟩) NB276_270.o _).trans (((cell_far (p := ⟨gb270, _, none⟩) NB276_270.o _).trans (hHeld.2))))⟩ (fun hHeld => ?_)
 clear hK K
 apply pq_ 11 3 #[Y_,Y_,Y_,Y_,Y_,Y_,Y_,Y_,Y_,Y_,Y_,Y_,N_] HT_ rfl rfl (by kernel_rfl) (fun _ _ _ h => h) (by rfl)
 ·intro w'; go_simp; rfl
 ·simp only [Act.put, sT_, sZ_, sS_, Ah, Ai]; rfl
 apply pq_ 12 4 #[Y_,Y_,Y_,Y_,Y_,Y_,Y_,Y_,Y_,Y_,Y_,Y_,Y_] HT_ rfl rfl (by kernel_rfl) (fun _ _ _ h => h) (by rfl)
 ·intro w'; go_simp; rfl
 ·simp only [Act.put, sT_, sZ_, sS_, Ah, Ai]; rfl
 refine done_ (Fa HT_.o (by kernel_rfl)) ?_
 try go_wp2
 refine bodyPost_ret (results_ctt rfl _ _ gb270 25 #[.int .i64 t271, .bool t272] (0, 0) _ rfl (by refine Cr (cs := #[.int .i64 t271, .bool false]) ?_ 1 _ rfl; refine Cr (cs := #[.int .i64 0, .bool false]) ?_ 0 _ rfl; exact BK270.o) Try.underlying25 rfl (by kernel_rfl)) rfl ?_
 exact ⟨by (rfl), by repeat ((with_reducible first | exact HI0.o | refine Bc.far ?_ NB0_270.o _)), by repeat ((with_reducible first | exact HB.o | refine Bz ?_ GE270.o)), by repeat ((with_reducible first | exact HK.o | refine keep_far ?_ GW270.o _))⟩
/-- The draw itself: its cursor begins at the input's head. -/
def Ck.f (l0 : List Int) : Option (Int × Bool × Int × Int) := (Ck.inn l0 0 0).bind fun b => some (b.1, b.2.1, b.2.2.1, b.2.2.2.1)
set_option maxRecDepth 100000 in
theorem Ck.calls (A0 : Option Addr) (c0 : Nat) (l0 : List Int) (r1 : Int) (r2 : Bool) (r3 : Int) (r4 : Int) (w : World) (hr0 : Kd.C (Kd.int .u8) w A0 l0.length l0) (hc0 : l0.length ≤ c0) (h : Ck.f l0 = some (r1, r2, r3, r4)) :
  Calls Try.prog 30 #[.slice A0 l0.length c0] w fun e w' => e = .returned (.tuple #[.agg #[.int .i64 r1, .bool r2], .int .i64 r3, .int .i64 r4]) ∧ Below w.heap.size w w' := by
 obtain ⟨⟨q0, q1, q2, q3, q4, q5⟩, h1, h2⟩ := Option.bind_eq_some_iff.mp h
 simp only [Option.some.injEq, Prod.mk.injEq] at h2
 obtain ⟨rfl, rfl, rfl, rfl⟩ := h2
 have hb0 := blk_new (w.alloc (Obj.cells #[.int .i64 0, .bool false] 25)) (Obj.cells #[.slice A0 l0.length c0, .int .i64 0, .int .u64 0] 68)
 have hs0 : (w.alloc (Obj.cells #[.int .i64 0, .bool false] 25)).heap.size = w.heap.size + 1 := Array.size_push ..
 rw [hs0] at hb0
 refine (Ck.strong A0 c0 (w.heap.size + 1) w.heap.size l0 0 0 q0 q1 q2 q3 q4 q5 w w _ rfl rfl rfl rfl ⟨A0, c0, hb0, by omega, hr0⟩ (Ae (blk_new w (Obj.cells #[.int .i64 0, .bool false] 25)) (Dq (Below.refl _ _) _)) (Dq (Dq (Below.refl _ _) _) _) h1).mono ?_
 rintro e w' ⟨rfl, -, hb, -⟩
 exact ⟨rfl, hb⟩

/-! ### impl_isExtra: function 90 -/
def Fx.f (a0 : Int) : Option (Bool) := (Fe.f a0 0 9).bind fun t270 => (some t270)
set_option maxHeartbeats 8000000 in
set_option maxRecDepth 100000 in
theorem Fx.calls (a0 : Int) (r : Bool) (w : World) (h : Fx.f a0 = some r) :
  Calls Try.prog 90 #[.int .i64 a0] w fun e w' => e = .returned (.bool r) ∧ Cu w w' := by
 have H : ((Fe.f a0 0 9).bind fun t270 => (some t270)) = some r := h
 clear h
 obtain ⟨t270, A20, H⟩ := bindS_ H
 try dsimp only at H
 have A2 := Aa.k A20
 clear A20
 obtain rfl := Option.some.inj H
 go_enter Try.func90, Try.ntmps90
 go_wp2_with (((refine Aj (f := 69) rfl ?_); refine Bf (some 4) rfl rfl Try.func69 (by kernel_rfl) rfl #[.int .i64 a0, .int .i64 0, .int .i64 9] rfl (by (try simp only [mT_, mC_, mN_]); rfl) ?_; (refine (Fe.calls a0 0 9 t270 _ A2.o).mono ?_); rintro e w' ⟨rfl, ⟨nd, rfl⟩⟩; refine ⟨_, rfl, ?_⟩))
 go_ret
 exact ⟨by (rfl), by repeat (first | exact Cu.refl _ | apply Cu.step)⟩

/-! ### impl_Road_gap: function 62 -/
def impl_Road_gap.f (a0_0 : Int) (a0_1 : Bool) (a1 : Int) (a2 : Int) : Option (Int) := if a0_1 = true then (some (mn (mx (wrap64 (a1 - a2)) (wrap64 (a2 - a1))) (wrap64 (a0_0 - (mx (wrap64 (a1 - a2)) (wrap64 (a2 - a1))))))) else (some (mx (wrap64 (a1 - a2)) (wrap64 (a2 - a1))))
set_option maxHeartbeats 8000000 in
set_option maxRecDepth 100000 in
theorem impl_Road_gap.calls (a0_0 : Int) (a0_1 : Bool) (a1 : Int) (a2 : Int) (r : Int) (w : World) (h : impl_Road_gap.f a0_0 a0_1 a1 a2 = some r) :
  Calls Try.prog 62 #[.agg #[.int .i64 a0_0, .bool a0_1], .int .i64 a1, .int .i64 a2] w fun e w' => e = .returned (.int .i64 r) ∧ Below w.heap.size w w' := by
 have hu25 := Try.underlying25
 have HB := Aa.k (Below.refl w.heap.size w)
 have H : (if a0_1 = true then (some (mn (mx (wrap64 (a1 - a2)) (wrap64 (a2 - a1))) (wrap64 (a0_0 - (mx (wrap64 (a1 - a2)) (wrap64 (a2 - a1))))))) else (some (mx (wrap64 (a1 - a2)) (wrap64 (a2 - a1))))) = some r := h
 clear h
 obtain ⟨ji4, hji4⟩ : ∃ j_ : Int, (mx (wrap64 (a1 - a2)) (wrap64 (a2 - a1))) = j_ := ⟨_, rfl⟩
 replace H : (if a0_1 = true then (some (mn (ji4) (wrap64 (a0_0 - (ji4))))) else (some ji4)) = some r := by (rw [hji4] at H; exact H)
 have hji4_ : (if (wrap64 (a1 - a2)) < (wrap64 (a2 - a1)) then (wrap64 (a2 - a1)) else (wrap64 (a1 - a2))) = ji4 := hji4
 by_cases c5 : a0_1 = true
 rotate_left
 ·replace c5 := Bool.eq_false_iff.mpr c5
  subst c5
  rw [if_neg (show ¬ (false = true) by decide)] at H
  obtain rfl := Option.some.inj H
  go_enter Try.func62, Try.ntmps62
  go_wp2_with (((refine Be (N := 3) rfl ?_); refine Bo ?hg (N := 3) ?hd (cs := #[.int .i64 a0_0, .bool false]) (t := 25) ?hr ?_; (case hd => rfl); (case hg => rfl); (case hr => (go_simp; done)); intro gb271 hg w9 hbox hb; have BK271 := Aa.k (hbox); have GW271 := Aa.k ((by rw [hg]; exact (Af HB.o) : w.heap.size ≤ gb271)); have GE271 := Aa.k ((by rw [hg]; exact (Af HB.o) : w.heap.size ≤ gb271)); replace HB := Aa.k (Ad HB.o hb); clear hb hbox hg; have hcz10_0 := Bj BK271.o; have hcz10_1 := Bn BK271.o; have hfz10_0 := Ac BK271.o 0; have hfz10_1 := Ac BK271.o 1))
  go_ret
  exact ⟨by (rfl), by exact HB.o⟩
 subst c5
 rw [if_pos rfl] at H
 obtain ⟨ji6, hji6⟩ : ∃ j_ : Int, (mn (ji4) (wrap64 (a0_0 - (ji4)))) = j_ := ⟨_, rfl⟩
 replace H : (some ji6) = some r := by (rw [hji6] at H; exact H)
 have hji6_ : (if (wrap64 (a0_0 - (ji4))) < (ji4) then (wrap64 (a0_0 - (ji4))) else (ji4)) = ji6 := hji6
 obtain rfl := Option.some.inj H
 go_enter Try.func62, Try.ntmps62
 go_wp2_with (((refine Be (N := 3) rfl ?_); refine Bo ?hg (N := 3) ?hd (cs := #[.int .i64 a0_0, .bool true]) (t := 25) ?hr ?_; (case hd => rfl); (case hg => rfl); (case hr => (go_simp; done)); intro gb271 hg w7 hbox hb; have BK271 := Aa.k (hbox); have GW271 := Aa.k ((by rw [hg]; exact (Af HB.o) : w.heap.size ≤ gb271)); have GE271 := Aa.k ((by rw [hg]; exact (Af HB.o) : w.heap.size ≤ gb271)); replace HB := Aa.k (Ad HB.o hb); clear hb hbox hg; have hcz8_0 := Bj BK271.o; have hcz8_1 := Bn BK271.o; have hfz8_0 := Ac BK271.o 0; have hfz8_1 := Ac BK271.o 1))
 go_ret
 exact ⟨by (rfl), by exact HB.o⟩

end Go.Proofs.Ytogflbocmiogpaa.PFnBestSearch
