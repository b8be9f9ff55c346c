-- Written for this claim by this session's turned copy of the printer.
import Derived.Test.YtogflbocmiogpaaPFnBestSearchx0
import Derived.Test.YtogflbocmiogpaaPFnBestSearchx2
import Derived.Test.YtogflbocmiogpaaPFnBestSearchx10
import Derived.Test.YtogflbocmiogpaaPFnBestSearchx14
import Derived.Test.YtogflbocmiogpaaPFnBestSearchx17
namespace Go.Proofs.Ytogflbocmiogpaa.PFnBestSearch
open Go.RowKit Go.Proofs.YtogflbocmiogpaaW.PrintWords Go.Proofs.YtogflbocmiogpaaW.PrintLast Go.Proofs.YtogflbocmiogpaaW.PrintMore
open List renaming setIfInBounds_toArray → sT_, set_cons_zero → sZ_, set_cons_succ → sS_, map_toArray → mT_, map_cons → mC_, map_nil → mN_
open Bool renaming true → Y_, false → N_
attribute [local go_sem] max2_int min2_int max_two min_two Fj Fh max_four min_four   -- for this text's walks alone
set_option linter.unusedVariables false
set_option linter.unusedSimpArgs false

/-! ### spec_l1Cur_turns3: function 73 -/
mutual
def Ap.l0 : Nat → Int → Int → Int → Bool → List Int → List Int → Int → Int → Int → Bool → Option (List Int × Int × Int)
 | 0, _, _, _, _, _, _, _, _, _, _ => none
 | k + 1, x2, x7, x8, x9, x10, x1000, x1001, x1002, x397000, x397001 => if x7 > 0 then (Ap.j1 k x2 x7 x8 x9 x10 true x1000 x1001 x1002 x397000 x397001) else (Ap.j1 k x2 x7 x8 x9 x10 (decide (x8 < (wrap64 (x397000 - 1)))) x1000 x1001 x1002 x397000 x397001)
def Ap.j1 : Nat → Int → Int → Int → Bool → List Int → Bool → List Int → Int → Int → Int → Bool → Option (List Int × Int × Int)
 | 0, _, _, _, _, _, _, _, _, _, _, _ => none
 | k + 1, x2, x7, x8, x9, x10, x29, x1000, x1001, x1002, x397000, x397001 => if x29 = true then (if x9 = true then (Ap.j2 k x2 x7 x8 x9 x10 (decide (x8 < (wrap64 (x397000 - 1)))) x1000 x1001 x1002 x397000 x397001) else (Ap.j2 k x2 x7 x8 x9 x10 false x1000 x1001 x1002 x397000 x397001)) else ((Ch.f x1000 x1001 x1002 24).bind fun bt421 => (if bt421.1 = true then ((Ce.f x1000 bt421.2.1 bt421.2.2 (([(-1), x2, 0, 24] : List Int))).bind fun bt427 => (if x10.length < 17592186044416 then (some ((x10 ++ [bt427.1]), bt427.2.1, bt427.2.2)) else (none))) else ((Bt.f k x2 x10).bind fun t433 => (some (t433, bt421.2.1, bt421.2.2)))))
def Ap.j2 : Nat → Int → Int → Int → Bool → List Int → Bool → List Int → Int → Int → Int → Bool → Option (List Int × Int × Int)
 | 0, _, _, _, _, _, _, _, _, _, _, _ => none
 | k + 1, x2, x7, x8, x9, x10, x37, x1000, x1001, x1002, x397000, x397001 => if x37 = true then ((Dg.f x1000 x1001 x1002 5).bind fun bt407 => ((Et.f (wrap64 (x397000 - 1)) (wrap64 ((wrap64 (x8 + 1)) + bt407.1))).bind fun t410 => (if x10.length < 17592186044416 then (Ap.j3 k x2 x7 t410 x9 (x10 ++ [t410]) x1000 bt407.2.1 bt407.2.2 x397000 x397001) else (none)))) else (Ap.j3 k x2 x7 x8 x9 x10 x1000 x1001 x1002 x397000 x397001)
def Ap.j3 : Nat → Int → Int → Int → Bool → List Int → List Int → Int → Int → Int → Bool → Option (List Int × Int × Int)
 | 0, _, _, _, _, _, _, _, _, _, _ => none
 | k + 1, x2, x7, x8, x9, x10, x1000, x1001, x1002, x397000, x397001 => if x9 = true then (Ap.j4 k x2 x7 x8 x9 x10 false x1000 x1001 x1002 x397000 x397001) else (Ap.j4 k x2 x7 x8 x9 x10 (decide (x7 > 0)) x1000 x1001 x1002 x397000 x397001)
def Ap.j4 : Nat → Int → Int → Int → Bool → List Int → Bool → List Int → Int → Int → Int → Bool → Option (List Int × Int × Int)
 | 0, _, _, _, _, _, _, _, _, _, _, _ => none
 | k + 1, x2, x7, x8, x9, x10, x56, x1000, x1001, x1002, x397000, x397001 => if x56 = true then ((Dg.f x1000 x1001 x1002 5).bind fun bt414 => ((Ec.f 0 (wrap64 ((wrap64 (x7 - 1)) - bt414.1))).bind fun t417 => (if x10.length < 17592186044416 then (Ap.l0 k x2 t417 x8 (!x9) (x10 ++ [t417]) x1000 bt414.2.1 bt414.2.2 x397000 x397001) else (none)))) else (Ap.l0 k x2 x7 x8 (!x9) x10 x1000 x1001 x1002 x397000 x397001)
end
def Ap.f (k : Nat) (s0_0 : List Int) (s0_1 : Int) (s0_2 : Int) (a1_0 : Int) (a1_1 : Bool) (a2 : Int) : Option (List Int × Int × Int) := (Ea.f a1_0 a1_1 a2).bind fun t397 => (if t397 = true then ((Ch.f s0_0 s0_1 s0_2 2).bind fun bt401 => (Ap.l0 k a2 a2 a2 bt401.1 (([] : List Int)) s0_0 bt401.2.1 bt401.2.2 a1_0 a1_1)) else (some ((([0, 1] : List Int)), s0_1, s0_2)))
def Ap.T7 : Bool × List (List Nat × List Nat) := (true, [([], []), ([0], [0]), ([1], [1]), ([], []), ([3], [3]), ([], []), ([5], [5]), ([4, 6], [4, 6]), ([2, 7, 6], [2, 7]), ([8, 8, 0, 1, 2, 3, 4, 5, 6, 7, 8], [3, 8])])
def Ap.B7 : List Nat := [0, 1, 3, 0, 8, 0, 32, 120, 255, 511]
theorem Ap.tab7 : rtab .any (opsOf Try.f73 7) = Ap.T7 := by kernel_rfl
theorem Ap.bits7 : waitsOk Ap.T7.2 Ap.B7 = true := by kernel_rfl
set_option maxHeartbeats 8000000 in
set_option maxRecDepth 100000 in
theorem Ap.calls (k : Nat) (g : Nat) (s0_0 : List Int) (s0_1 : Int) (s0_2 : Int) (a1_0 : Int) (a1_1 : Bool) (a2 : Int) (r1 : List Int) (r2 : Int) (r3 : Int) (w0 w : World) (hI : Bc w0 w g s0_0 s0_1 s0_2) (hB : Below w0.heap.size w0 w) (h : Ap.f k s0_0 s0_1 s0_2 a1_0 a1_1 a2 = some (r1, r2, r3)) :
  Calls Try.prog 73 #[.pointer (some ⟨g, 0, none⟩), .agg #[.int .i64 a1_0, .bool a1_1], .int .i64 a2] w fun e w' => ∃ v0_ : Value, e = .returned (v0_) ∧ Kd.R (Kd.int .i64) 3 w' w.heap.size (fun _ => True) v0_ r1 ∧ Bc w0 w' g s0_0 r2 r3 ∧ Below w0.heap.size w0 w' ∧ Am w w' g none := by
 have hu25 := Try.underlying25
 have HI0 := Aa.k hI
 have HK := Aa.k (Am.refl w g none)
 have HL := Aa.k hB.size
 clear hI
 have HW0 := Aa.k hB.size
 have HB := Aa.k hB
 clear hB
 have H : ((Ea.f a1_0 a1_1 a2).bind fun t397 => (if t397 = true then ((Ch.f s0_0 s0_1 s0_2 2).bind fun bt401 => (Ap.l0 k a2 a2 a2 bt401.1 (([] : List Int)) s0_0 bt401.2.1 bt401.2.2 a1_0 a1_1)) else (some ((([0, 1] : List Int)), s0_1, s0_2)))) = some (r1, r2, r3) := h
 clear h
 obtain ⟨t397, A40, H⟩ := bindS_ H
 try dsimp only at H
 have A4 := Aa.k A40
 clear A40
 by_cases c5 : t397 = true
 rotate_left
 ·replace c5 := Bool.eq_false_iff.mpr c5
  subst c5
  rw [if_neg (show ¬ (false = true) by decide)] at H
  obtain ⟨y398, hy398⟩ : ∃ y_ : List Int, y_ = (([0, 1] : List Int)) := ⟨_, rfl⟩
  replace H : (some (y398, s0_1, s0_2)) = some (r1, r2, r3) := by (rw [hy398]; exact H)
  have Ny398 := Aa.k hy398
  clear hy398
  simp only [Option.some.injEq, Prod.mk.injEq] at H
  obtain ⟨rfl, rfl, rfl⟩ := H
  go_enter Try.func73, Try.ntmps73
  go_wp2_with (first | ((with_reducible refine Be (N := 4) rfl ?_); refine Bo ?hg (N := 4) ?hd (cs := #[.int .i64 a1_0, .bool a1_1]) (t := 25) ?hr ?_; (case hd => rfl); (case hg => rfl); (case hr => (go_simp; done)); intro gb396 hg w53 hbox hb; replace HB := Aa.k (Ad HB.o hb); have BK396 := Aa.k (hbox); have GW396 := Aa.k ((by rw [hg]; exact (Cj (w := w) (g := g) (row := none) HK.o) : w.heap.size ≤ gb396)); have GE396 := Aa.k ((Nat.le_trans HW0.o (by rw [hg]; exact (Cj (w := w) (g := g) (row := none) HK.o) : w.heap.size ≤ gb396) : w0.heap.size ≤ gb396)); replace HK := Aa.k (Am.trans HK.o (Am.of_below hb g none) (.inl rfl)); have NB0_396 := Aa.k ((by rw [hg]; exact Nat.ne_of_lt (Bc.lt (show Bc w0 _ g s0_0 s0_1 s0_2 from by exact HI0.o)) : g ≠ gb396)); have NB396_0 := Aa.k ((by rw [hg]; exact Nat.ne_of_gt (Bc.lt (show Bc w0 _ g s0_0 s0_1 s0_2 from by exact HI0.o)) : gb396 ≠ g)); replace HI0 := Aa.k (Bc.below HI0.o hb); clear hb hbox hg; have hnb54 := NB396_0.o; have hnc54 := NB0_396.o; have hcz55_0 := Bj BK396.o; have hcz55_1 := Bn BK396.o; have hfz55_0 := Ac BK396.o 0; have hfz55_1 := Ac BK396.o 1) | ((with_reducible refine Aj (f := 84) rfl ?_); refine Bf (some 13) rfl rfl Try.func84 (by kernel_rfl) rfl #[.agg #[.int .i64 a1_0, .bool a1_1], .int .i64 a2] rfl (by (try simp only [mT_, mC_, mN_]); rfl) ?_; (with_reducible refine (Ea.calls a1_0 a1_1 a2 false _ A4.o).mono ?_); rintro e w56 ⟨rfl, hb⟩; refine ⟨_, rfl, ?_⟩; replace HI0 := Aa.k (Bc.below HI0.o hb); replace BK396 := Aa.k (Ae (g := gb396) (o := .cells #[.int .i64 a1_0, .bool a1_1] 25 (0, 0)) (by exact BK396.o) hb); replace HK := Aa.k (Am.trans HK.o (Am.of_below hb g none) (.inl rfl)); replace HB := Aa.k (Ad HB.o hb); clear hb) | ((with_reducible refine Be (N := 15) rfl ?_); refine Kd.R_lit (Kd.int .i64) _ 3 ?hg (N := 15) ?hd (xs := ([0, 1] : List Int)) (inner := [.int .i64 0, .int .i64 1]) (ok := fun _ => True) (okp := fun _ => True) ?hr ?hp (fun _ hk => hk) trivial (Below.refl _ _) (Nat.le_refl _) (by simp) ?_; (case hd => rfl); (case hg => rfl); (case hr => (go_simp; done)); (case hp => exact (Reps.one (show Kd.M (Kd.int .i64) _ _ _ 0 [.int .i64 0] from rfl) (Reps.one (show Kd.M (Kd.int .i64) _ _ _ 1 [.int .i64 1] from rfl) (Reps.none _ _)))); intro v399 w57 ho58 hb hg_ hnew_; clear hg_ hnew_; ((rw [← Ny398.o] at ho58)); have HO400 := Aa.k (Kd.Ct ho58 (Cj (w := w) (g := g) (row := none) HK.o)); replace HI0 := Aa.k (Bc.below HI0.o hb); replace BK396 := Aa.k (Ae (g := gb396) (o := .cells #[.int .i64 a1_0, .bool a1_1] 25 (0, 0)) (by exact BK396.o) hb); replace HK := Aa.k (Am.trans HK.o (Am.of_below hb g none) (.inl rfl)); replace HB := Aa.k (Ad HB.o hb); clear hb ho58))
  go_ret
  exact ⟨_, by (rfl), by exact HO400.o, by exact HI0.o, by exact HB.o, by exact HK.o⟩
 subst c5
 rw [if_pos rfl] at H
 obtain ⟨⟨t401, t402, t403⟩, A60, H⟩ := bindS_ H
 try dsimp only at H
 have A6 := Aa.k A60
 clear A60
 obtain ⟨y404, hy404⟩ : ∃ y_ : List Int, y_ = (([] : List Int)) := ⟨_, rfl⟩
 replace H : (Ap.l0 k a2 a2 a2 t401 y404 s0_0 t402 t403 a1_0 a1_1) = some (r1, r2, r3) := by (rw [hy404]; exact H)
 have Ny404 := Aa.k hy404
 clear hy404
 have H' := Aa.k H
 clear H
 go_enter Try.func73, Try.ntmps73
 go_wp2_with (first | ((with_reducible refine Be (N := 4) rfl ?_); refine Bo ?hg (N := 4) ?hd (cs := #[.int .i64 a1_0, .bool a1_1]) (t := 25) ?hr ?_; (case hd => rfl); (case hg => rfl); (case hr => (go_simp; done)); intro gb396 hg w7 hbox hb; replace HB := Aa.k (Ad HB.o hb); have BK396 := Aa.k (hbox); have GW396 := Aa.k ((by rw [hg]; exact (Cj (w := w) (g := g) (row := none) HK.o) : w.heap.size ≤ gb396)); have GE396 := Aa.k ((Nat.le_trans HW0.o (by rw [hg]; exact (Cj (w := w) (g := g) (row := none) HK.o) : w.heap.size ≤ gb396) : w0.heap.size ≤ gb396)); replace HK := Aa.k (Am.trans HK.o (Am.of_below hb g none) (.inl rfl)); have NB0_396 := Aa.k ((by rw [hg]; exact Nat.ne_of_lt (Bc.lt (show Bc w0 _ g s0_0 s0_1 s0_2 from by exact HI0.o)) : g ≠ gb396)); have NB396_0 := Aa.k ((by rw [hg]; exact Nat.ne_of_gt (Bc.lt (show Bc w0 _ g s0_0 s0_1 s0_2 from by exact HI0.o)) : gb396 ≠ g)); replace HI0 := Aa.k (Bc.below HI0.o hb); clear hb hbox hg; have hnb8 := NB396_0.o; have hnc8 := NB0_396.o; have hcz9_0 := Bj BK396.o; have hcz9_1 := Bn BK396.o; have hfz9_0 := Ac BK396.o 0; have hfz9_1 := Ac BK396.o 1) | ((with_reducible refine Aj (f := 84) rfl ?_); refine Bf (some 13) rfl rfl Try.func84 (by kernel_rfl) rfl #[.agg #[.int .i64 a1_0, .bool a1_1], .int .i64 a2] rfl (by (try simp only [mT_, mC_, mN_]); rfl) ?_; (with_reducible refine (Ea.calls a1_0 a1_1 a2 true _ A4.o).mono ?_); rintro e w10 ⟨rfl, hb⟩; refine ⟨_, rfl, ?_⟩; replace HI0 := Aa.k (Bc.below HI0.o hb); replace BK396 := Aa.k (Ae (g := gb396) (o := .cells #[.int .i64 a1_0, .bool a1_1] 25 (0, 0)) (by exact BK396.o) hb); replace HK := Aa.k (Am.trans HK.o (Am.of_below hb g none) (.inl rfl)); replace HB := Aa.k (Ad HB.o hb); clear hb) | ((with_reducible refine Aj (f := 110) rfl ?_); refine Bf (some 19) rfl rfl Try.func110 (by kernel_rfl) rfl #[.pointer (some ⟨g, 0, none⟩), .int .i64 2] rfl (by (try simp only [mT_, mC_, mN_]); rfl) ?_; (with_reducible refine (Ch.calls g s0_0 s0_1 s0_2 2 t401 t402 t403 w0 _ ?side1 ?side2 A6.o).mono ?_); (case side1 => exact HI0.o); (case side2 => exact HB.o); rintro e w11 ⟨rfl, hi, hb, hk⟩; refine ⟨_, rfl, ?_⟩; replace BK396 := Aa.k (Am.blk hk (g' := gb396) (o := .cells #[.int .i64 a1_0, .bool a1_1] 25 (0, 0)) (by exact BK396.o) NB396_0.o (by simp)); replace HK := Aa.k (Am.trans HK.o hk (.inl rfl)); replace HB := Aa.k (hb); replace HI0 := Aa.k (hi); clear hb hk hi) | ((with_reducible refine Be (N := 20) rfl ?_); refine Kd.R_lit (Kd.int .i64) _ 3 ?hg (N := 20) ?hd (xs := ([] : List Int)) (inner := []) (ok := fun _ => True) (okp := fun _ => True) ?hr ?hp (fun _ hk => hk) trivial (Below.refl _ _) (Nat.le_refl _) (by simp) ?_; (case hd => rfl); (case hg => rfl); (case hr => (go_simp; done)); (case hp => exact (Reps.none _ _)); intro v405 w12 ho13 hb hg_ hnew_; clear hg_ hnew_; ((rw [← Ny404.o] at ho13)); have HO406 := Aa.k (Kd.Ct ho13 (Cj (w := w) (g := g) (row := none) HK.o)); replace HI0 := Aa.k (Bc.below HI0.o hb); replace BK396 := Aa.k (Ae (g := gb396) (o := .cells #[.int .i64 a1_0, .bool a1_1] 25 (0, 0)) (by exact BK396.o) hb); replace HK := Aa.k (Am.trans HK.o (Am.of_below hb g none) (.inl rfl)); replace HB := Aa.k (Ad HB.o hb); clear hb ho13))
 go_loopg [7, 8, 9, 10] k (fun kq v7 v8 v9 v10 w' => ∃ (x7_1 : Int) (x8_1 : Int) (x9_1 : Bool) (x10_1 : List Int) (x1001_1 : Int) (x1002_1 : Int), v7 = .int .i64 x7_1 ∧ v8 = .int .i64 x8_1 ∧ v9 = .bool x9_1 ∧ Aa (Ap.l0 kq a2 x7_1 x8_1 x9_1 x10_1 s0_0 x1001_1 x1002_1 a1_0 a1_1 = some (r1, r2, r3)) ∧ Aa (kq ≤ k) ∧ Aa (Kd.R (Kd.int .i64) 3 w' w.heap.size (fun _ => True) v10 x10_1) ∧ Aa (w'.heap[gb396]? = some (.cells #[.int .i64 a1_0, .bool a1_1] 25 (0, 0))) ∧ Aa (Bc w0 w' g s0_0 x1001_1 x1002_1) ∧ Aa (Am w w' g none) ∧ Aa (Below w0.heap.size w0 w'))
 case atStart => exact ⟨(a2), (a2), (t401), (y404), (t402), (t403), (by (rfl)), (by (rfl)), (by (rfl)), H', ⟨Nat.le_refl _⟩, ⟨by exact HO406.o⟩, ⟨by exact BK396.o⟩, ⟨by exact HI0.o⟩, ⟨by exact HK.o⟩, ⟨by exact HB.o⟩⟩
 case round =>
  clear H'
  clear hcz9_0 hcz9_1 hfz9_0 hfz9_1
  obtain ⟨x7_1, x8_1, x9_1, x10_1, x1001_1, x1002_1, rfl, rfl, rfl, HA, HK1, HO_10, BK396, HI0, HK, HB⟩ := hrel
  cases gk with
  | zero => exact absurd HA.o (by simp [Ap.l0])
  | succ k1 =>
   have H := HA.o
   clear HA
   simp only [Ap.l0] at H
   have HC14 := Aa.k H
   clear H
   go_upto_region 5 with (fail)
   go_cut [29] (fun v29 wc => ∃ (kq : Nat) (x29_13 : Bool), v29 = .bool x29_13 ∧ Aa (Ap.j1 kq a2 x7_1 x8_1 x9_1 x10_1 x29_13 s0_0 x1001_1 x1002_1 a1_0 a1_1 = some (r1, r2, r3)) ∧ Aa (kq ≤ k1) ∧ Aa (Kd.R (Kd.int .i64) 3 wc w.heap.size (fun _ => True) u10 x10_1) ∧ Aa (wc.heap[gb396]? = some (.cells #[.int .i64 a1_0, .bool a1_1] 25 (0, 0))) ∧ Aa (Bc w0 wc g s0_0 x1001_1 x1002_1) ∧ Aa (Am w wc g none) ∧ Aa (Below w0.heap.size w0 wc))
   case first =>
    have H := HC14.o
    clear HC14
    by_cases c15 : x7_1 > 0
    ·rw [if_pos c15] at H
     have c15b0 : decide (0 < x7_1) = true := decide_eq_true c15
     clear c15
     ((skip))
     have H' := Aa.k H
     clear H
     go_wp2
     go_meet
     case rel => exact ⟨_, (true), (by (rfl)), H', ⟨by have := HK1.o; (omega)⟩, ⟨by exact HO_10.o⟩, ⟨by exact BK396.o⟩, ⟨by exact HI0.o⟩, ⟨by exact HK.o⟩, ⟨by exact HB.o⟩⟩
    rw [if_neg c15] at H
    have c15b0 : decide (0 < x7_1) = false := decide_eq_false c15
    clear c15
    ((skip))
    have H' := Aa.k H
    clear H
    have hnb16 := NB396_0.o
    have hnc16 := NB0_396.o
    have hcz17_0 := Bj BK396.o
    have hcz17_1 := Bn BK396.o
    have hfz17_0 := Ac BK396.o 0
    have hfz17_1 := Ac BK396.o 1
    go_wp2
    go_meet
    case rel => exact ⟨_, (decide (x8_1 < (wrap64 (a1_0 - 1)))), (by (rfl)), H', ⟨by have := HK1.o; (omega)⟩, ⟨by exact HO_10.o⟩, ⟨by exact BK396.o⟩, ⟨by exact HI0.o⟩, ⟨by exact HK.o⟩, ⟨by exact HB.o⟩⟩
   case rest =>
    clear HC14
    obtain ⟨kq, x29_13, rfl, HA, HJ13, HO_10, BK396, HI0, HK, HB⟩ := hcut
    cases kq with
    | zero => exact absurd HA.o (by simp [Ap.j1])
    | succ kj13 =>
     have H := HA.o
     clear HA
     simp only [Ap.j1] at H
     by_cases c18 : x29_13 = true
     rotate_left
     ·replace c18 := Bool.eq_false_iff.mpr c18
      subst c18
      rw [if_neg (show ¬ (false = true) by decide)] at H
      obtain ⟨⟨t421, t422, t423⟩, A390, H⟩ := bindS_ H
      try dsimp only at H
      have A39 := Aa.k A390
      clear A390
      by_cases c40 : t421 = true
      rotate_left
      ·replace c40 := Bool.eq_false_iff.mpr c40
       subst c40
       rw [if_neg (show ¬ (false = true) by decide)] at H
       obtain ⟨t433, A490, H⟩ := bindS_ H
       try dsimp only at H
       have A49 := Aa.k A490
       clear A490
       simp only [Option.some.injEq, Prod.mk.injEq] at H
       obtain ⟨rfl, rfl, rfl⟩ := H
       go_wp2_with (first | ((with_reducible refine Aj (f := 110) rfl ?_); refine Bf (some 70) rfl rfl Try.func110 (by kernel_rfl) rfl #[.pointer (some ⟨g, 0, none⟩), .int .i64 24] rfl (by (try simp only [mT_, mC_, mN_]); rfl) ?_; (with_reducible refine (Ch.calls g s0_0 x1001_1 x1002_1 24 false t422 t423 w0 _ ?side1 ?side2 A39.o).mono ?_); (case side1 => exact HI0.o); (case side2 => exact HB.o); rintro e w50 ⟨rfl, hi, hb, hk⟩; refine ⟨_, rfl, ?_⟩; replace HO_10 := Aa.k (Kd.Bv (Kd.R_keep (Bc.apart (show Bc w0 _ g s0_0 x1001_1 x1002_1 from by exact HI0.o) (by exact HO_10.o) (by decide)) hk (fun _ h => h.2)) (fun _ h => h.1)); replace BK396 := Aa.k (Am.blk hk (g' := gb396) (o := .cells #[.int .i64 a1_0, .bool a1_1] 25 (0, 0)) (by exact BK396.o) NB396_0.o (by simp)); replace HK := Aa.k (Am.trans HK.o hk (.inl rfl)); replace HB := Aa.k (hb); replace HI0 := Aa.k (hi); clear hb hk hi; obtain ⟨Ao51, co51, eo51⟩ := Kd.Cx HO_10.o; subst eo51) | ((with_reducible refine Aj (f := 97) rfl ?_); refine Bf (some 80) rfl rfl Try.func97 (by kernel_rfl) rfl #[.int .i64 a2, .slice Ao51 x10_1.length co51] rfl (by (try simp only [mT_, mC_, mN_]); rfl) ?_; (with_reducible refine (Bt.calls kj13 a2 _ _ x10_1 t433 _ ?side1 ?side2 A49.o).mono ?_); (case side1 => repeat (exact (Kd.Bb HO_10.o).2.2)); (case side2 => exact (Kd.Bb HO_10.o).2.1); rintro e w52 ⟨v434, rfl, ho0, hb⟩; refine ⟨_, rfl, ?_⟩; have HO435 := Aa.k (Kd.Ct (Kd.Dz ho0 (Kd.R_lt (by exact HO_10.o))) (Cj (w := w) (g := g) (row := none) HK.o)); replace HO_10 := Aa.k (Kd.Cw (by exact HO_10.o) (Kd.Cy ho0) hb); replace BK396 := Aa.k (Ae (g := gb396) (o := .cells #[.int .i64 a1_0, .bool a1_1] 25 (0, 0)) (by exact BK396.o) hb); replace HI0 := Aa.k (Bc.below HI0.o hb); replace HK := Aa.k (Am.trans HK.o (Am.of_below hb g none) (.inl rfl)); replace HB := Aa.k (Ad HB.o hb); clear hb ho0))
       go_ret
       exact ⟨_, by (rfl), by exact Kd.Bv HO435.o (fun _ hk => trivial), by exact HI0.o, by exact HB.o, by exact HK.o⟩
      subst c40
      rw [if_pos rfl] at H
      obtain ⟨y424, hy424⟩ : ∃ y_ : List Int, y_ = (([(-1), a2, 0, 24] : List Int)) := ⟨_, rfl⟩
      replace H : ((Ce.f s0_0 t422 t423 y424).bind fun bt427 => (if x10_1.length < 17592186044416 then (some ((x10_1 ++ [bt427.1]), bt427.2.1, bt427.2.2)) else (none))) = some (r1, r2, r3) := by (rw [hy424]; exact H)
      have Ny424 := Aa.k hy424
      clear hy424
      obtain ⟨⟨t427, t428, t429⟩, A410, H⟩ := bindS_ H
      try dsimp only at H
      have A41 := Aa.k A410
      clear A410
      by_cases c42 : x10_1.length < 17592186044416
      rotate_left
      ·rw [if_neg c42] at H
       exact absurd H (by simp)
      rw [if_pos c42] at H
      have LMc42 := Aa.k c42
      clear c42
      obtain ⟨y430, hy430⟩ : ∃ y_ : List Int, y_ = (x10_1 ++ [t427]) := ⟨_, rfl⟩
      replace H : (some (y430, t428, t429)) = some (r1, r2, r3) := by (rw [hy430]; exact H)
      have Ny430 := Aa.k hy430
      clear hy430
      simp only [Option.some.injEq, Prod.mk.injEq] at H
      obtain ⟨rfl, rfl, rfl⟩ := H
      go_wp2_with (first | ((with_reducible refine Aj (f := 110) rfl ?_); refine Bf (some 70) rfl rfl Try.func110 (by kernel_rfl) rfl #[.pointer (some ⟨g, 0, none⟩), .int .i64 24] rfl (by (try simp only [mT_, mC_, mN_]); rfl) ?_; (with_reducible refine (Ch.calls g s0_0 x1001_1 x1002_1 24 true t422 t423 w0 _ ?side1 ?side2 A39.o).mono ?_); (case side1 => exact HI0.o); (case side2 => exact HB.o); rintro e w43 ⟨rfl, hi, hb, hk⟩; refine ⟨_, rfl, ?_⟩; replace HO_10 := Aa.k (Kd.Bv (Kd.R_keep (Bc.apart (show Bc w0 _ g s0_0 x1001_1 x1002_1 from by exact HI0.o) (by exact HO_10.o) (by decide)) hk (fun _ h => h.2)) (fun _ h => h.1)); replace BK396 := Aa.k (Am.blk hk (g' := gb396) (o := .cells #[.int .i64 a1_0, .bool a1_1] 25 (0, 0)) (by exact BK396.o) NB396_0.o (by simp)); replace HK := Aa.k (Am.trans HK.o hk (.inl rfl)); replace HB := Aa.k (hb); replace HI0 := Aa.k (hi); clear hb hk hi) | ((with_reducible refine Be (N := 74) rfl ?_); refine Kd.R_lit (Kd.int .i64) _ 3 ?hg (N := 74) ?hd (xs := ([(-1), a2, 0, 24] : List Int)) (inner := [.int .i64 (-1), .int .i64 a2, .int .i64 0, .int .i64 24]) (ok := fun _ => True) (okp := fun _ => True) ?hr ?hp (fun _ hk => hk) trivial (Below.refl _ _) (Nat.le_refl _) (by simp) ?_; (case hd => rfl); (case hg => rfl); (case hr => (go_simp; done)); (case hp => exact (Reps.one (show Kd.M (Kd.int .i64) _ _ _ (-1) [.int .i64 (-1)] from rfl) (Reps.one (show Kd.M (Kd.int .i64) _ _ _ a2 [.int .i64 a2] from rfl) (Reps.one (show Kd.M (Kd.int .i64) _ _ _ 0 [.int .i64 0] from rfl) (Reps.one (show Kd.M (Kd.int .i64) _ _ _ 24 [.int .i64 24] from rfl) (Reps.none _ _)))))); intro v425 w44 ho45 hb hg_ hnew_; clear hg_ hnew_; ((rw [← Ny424.o] at ho45)); have HO426 := Aa.k (Kd.Ct (Kd.Dz ho45 (Kd.R_lt (by exact HO_10.o))) (Cj (w := w) (g := g) (row := none) HK.o)); replace HO_10 := Aa.k (Kd.Cw (by exact HO_10.o) (Kd.Cy ho45) hb); replace BK396 := Aa.k (Ae (g := gb396) (o := .cells #[.int .i64 a1_0, .bool a1_1] 25 (0, 0)) (by exact BK396.o) hb); replace HI0 := Aa.k (Bc.below HI0.o hb); replace HK := Aa.k (Am.trans HK.o (Am.of_below hb g none) (.inl rfl)); replace HB := Aa.k (Ad HB.o hb); clear hb ho45; obtain ⟨Ao46, co46, eo46⟩ := Kd.Cx HO426.o; subst eo46) | ((with_reducible refine Aj (f := 88) rfl ?_); refine Bf (some 75) rfl rfl Try.func88 (by kernel_rfl) rfl #[.pointer (some ⟨g, 0, none⟩), .slice Ao46 y424.length co46] rfl (by (try simp only [mT_, mC_, mN_]); rfl) ?_; (with_reducible refine (Ce.calls g s0_0 t422 t423 _ _ y424 t427 t428 t429 w0 _ ?side1 ?side2 ?side3 ?side4 ?side5 A41.o).mono ?_); (case side1 => exact HI0.o); (case side2 => exact HB.o); (case side3 => repeat (exact (Kd.Bb HO426.o).2.2)); (case side4 => exact (Kd.Bb HO426.o).2.1); (case side5 => exact far_slice (Bc.own_ne HI0.o HO426.o (by decide))); rintro e w47 ⟨rfl, hi, hb, hk⟩; refine ⟨_, rfl, ?_⟩; replace HO_10 := Aa.k (Kd.Bv (Kd.R_keep (Bc.apart (show Bc w0 _ g s0_0 t422 t423 from by exact HI0.o) (by exact HO_10.o) (by decide)) hk (fun _ h => h.2)) (fun _ h => h.1)); replace BK396 := Aa.k (Am.blk hk (g' := gb396) (o := .cells #[.int .i64 a1_0, .bool a1_1] 25 (0, 0)) (by exact BK396.o) NB396_0.o (by simp)); replace HO426 := Aa.k (Kd.Bv (Kd.R_keep (Bc.apart (show Bc w0 _ g s0_0 t422 t423 from by exact HI0.o) (by exact HO426.o) (by decide)) hk (fun _ h => h.2)) (fun _ h => h.1)); replace HK := Aa.k (Am.trans HK.o hk (.inl rfl)); replace HB := Aa.k (hb); replace HI0 := Aa.k (hi); clear hb hk hi) | ((with_reducible refine Ef (b := .append) (xs := #[.tmp 71, .tmp 76]) rfl ?_); at_builtin; refine Kd.R_append (Kd.int .i64) w.heap.size rfl (.tmp 71) (.tmp 76) 30 3 (.int .i64 0) 8 rfl Try.underlying30 info3 rfl (by decide) (by omega) u10 x10_1 t427 [.int .i64 t427] (fun k_ => some k_ ≠ (.slice Ao46 y424.length co46 : Value).ownBlock) (fun _ => False) rfl rfl ?aP (fun _ hk => hk.elim) ?aF ?aO (Below.refl _ _) ?aS ?aL ?_; (case aP => exact rfl); (case aF => exact (fun k_ hk => Kd.fresh' (Kd.R_lt (by exact HO426.o)) k_ hk)); (case aO => exact (by exact Kd.Bv HO_10.o (fun _ hk => hk.2))); (case aS => exact (Cj (w := w) (g := g) (row := none) HK.o)); (case aL => have := LMc42.o; omega); intro v431 w48 ho hb hg hat; rw [← Ny430.o] at ho; replace BK396 := Aa.k (Fb (g := gb396) (o := .cells #[.int .i64 a1_0, .bool a1_1] 25 (0, 0)) (by exact BK396.o) hg (Kd.R_ne HO_10.o BK396.o (by decide))); replace HI0 := Aa.k (Bc.grown HI0.o hg (Bc.own_ne HI0.o HO_10.o (by decide))); replace HO426 := Aa.k (Kd.R_after (ok := (fun _ => True)) (by exact HO426.o) hg hat); replace HB := Aa.k (below_weaken HB.o HL.o hb); replace HK := Aa.k (Am.trans HK.o (Am.of_grown hg g) (Kd.R_base2 HO_10.o)); have HO432 := Aa.k (ho); clear ho hb hg hat))
      go_ret
      exact ⟨_, by (rfl), by exact Kd.Bv HO432.o (fun _ hk => trivial), by exact HI0.o, by exact HB.o, by exact HK.o⟩
     subst c18
     rw [if_pos rfl] at H
     have HC19 := Aa.k H
     clear H
     go_upto_region 6 with (fail)
     go_cut [37] (fun v37 wc => ∃ (kq : Nat) (x37_18 : Bool), v37 = .bool x37_18 ∧ Aa (Ap.j2 kq a2 x7_1 x8_1 x9_1 x10_1 x37_18 s0_0 x1001_1 x1002_1 a1_0 a1_1 = some (r1, r2, r3)) ∧ Aa (kq ≤ kj13) ∧ Aa (Kd.R (Kd.int .i64) 3 wc w.heap.size (fun _ => True) u10 x10_1) ∧ Aa (wc.heap[gb396]? = some (.cells #[.int .i64 a1_0, .bool a1_1] 25 (0, 0))) ∧ Aa (Bc w0 wc g s0_0 x1001_1 x1002_1) ∧ Aa (Am w wc g none) ∧ Aa (Below w0.heap.size w0 wc))
     case first =>
      have H := HC19.o
      clear HC19
      by_cases c20 : x9_1 = true
      rotate_left
      ·replace c20 := Bool.eq_false_iff.mpr c20
       subst c20
       rw [if_neg (show ¬ (false = true) by decide)] at H
       have H' := Aa.k H
       clear H
       go_wp2
       go_meet
       case rel => exact ⟨_, (false), (by (rfl)), H', ⟨by have := HK1.o; have := HJ13.o; (omega)⟩, ⟨by exact HO_10.o⟩, ⟨by exact BK396.o⟩, ⟨by exact HI0.o⟩, ⟨by exact HK.o⟩, ⟨by exact HB.o⟩⟩
      subst c20
      rw [if_pos rfl] at H
      have H' := Aa.k H
      clear H
      have hnb21 := NB396_0.o
      have hnc21 := NB0_396.o
      have hcz22_0 := Bj BK396.o
      have hcz22_1 := Bn BK396.o
      have hfz22_0 := Ac BK396.o 0
      have hfz22_1 := Ac BK396.o 1
      go_wp2
      go_meet
      case rel => exact ⟨_, (decide (x8_1 < (wrap64 (a1_0 - 1)))), (by (rfl)), H', ⟨by have := HK1.o; have := HJ13.o; (omega)⟩, ⟨by exact HO_10.o⟩, ⟨by exact BK396.o⟩, ⟨by exact HI0.o⟩, ⟨by exact HK.o⟩, ⟨by exact HB.o⟩⟩
     case rest =>
      clear HC19
      obtain ⟨kq, x37_18, rfl, HA, HJ18, HO_10, BK396, HI0, HK, HB⟩ := hcut
      cases kq with
      | zero => exact absurd HA.o (by simp [Ap.j2])
      | succ kj18 =>
       have H := HA.o
       clear HA
       simp only [Ap.j2] at H
       have HC23 := Aa.k H
       clear H
       go_upto_if 37 with (fail)
       go_cut [8, 10] (fun v8 v10 wc => ∃ (kq : Nat) (x8_22 : Int) (x10_22 : List Int) (x1001_22 : Int) (x1002_22 : Int), v8 = .int .i64 x8_22 ∧ Aa (Ap.j3 kq a2 x7_1 x8_22 x9_1 x10_22 s0_0 x1001_22 x1002_22 a1_0 a1_1 = some (r1, r2, r3)) ∧ Aa (kq ≤ kj18) ∧ Aa (Kd.R (Kd.int .i64) 3 wc w.heap.size (fun _ => True) v10 x10_22) ∧ Aa (wc.heap[gb396]? = some (.cells #[.int .i64 a1_0, .bool a1_1] 25 (0, 0))) ∧ Aa (Bc w0 wc g s0_0 x1001_22 x1002_22) ∧ Aa (Am w wc g none) ∧ Aa (Below w0.heap.size w0 wc))
       case first =>
        have H := HC23.o
        clear HC23
        by_cases c24 : x37_18 = true
        rotate_left
        ·replace c24 := Bool.eq_false_iff.mpr c24
         subst c24
         rw [if_neg (show ¬ (false = true) by decide)] at H
         have H' := Aa.k H
         clear H
         go_wp2
         go_meet
         case rel => exact ⟨_, (x8_1), (x10_1), (x1001_1), (x1002_1), (by (rfl)), H', ⟨by have := HK1.o; have := HJ13.o; have := HJ18.o; (omega)⟩, ⟨by exact HO_10.o⟩, ⟨by exact BK396.o⟩, ⟨by exact HI0.o⟩, ⟨by exact HK.o⟩, ⟨by exact HB.o⟩⟩
        subst c24
        rw [if_pos rfl] at H
        obtain ⟨⟨t407, t408, t409⟩, A250, H⟩ := bindS_ H
        try dsimp only at H
        have A25 := Aa.k A250
        clear A250
        obtain ⟨t410, A260, H⟩ := bindS_ H
        try dsimp only at H
        have A26 := Aa.k A260
        clear A260
        by_cases c27 : x10_1.length < 17592186044416
        rotate_left
        ·rw [if_neg c27] at H
         exact absurd H (by simp)
        rw [if_pos c27] at H
        have LMc27 := Aa.k c27
        clear c27
        obtain ⟨y411, hy411⟩ : ∃ y_ : List Int, y_ = (x10_1 ++ [t410]) := ⟨_, rfl⟩
        replace H : (Ap.j3 kj18 a2 x7_1 t410 x9_1 y411 s0_0 t408 t409 a1_0 a1_1) = some (r1, r2, r3) := by (rw [hy411]; exact H)
        have Ny411 := Aa.k hy411
        clear hy411
        have H' := Aa.k H
        clear H
        try go_wp2
        replace HO_10 := Aa.k (Kd.R_drew HO_10.o)
        replace BK396 := Aa.k (Dt BK396.o)
        replace HI0 := Aa.k (Bc.drew HI0.o)
        replace HK := Aa.k (keep_drew HK.o)
        replace HB := Aa.k (Cf HB.o)
        refine Fp (n := 10) (S := fun w' => w'.cell? ⟨gb396, 0, none⟩ = some (.int .i64 a1_0) ∧ w'.cell? ⟨gb396, 1, none⟩ = some (.bool a1_1)) (ds := []) #[N_,N_,N_,N_,N_,N_,N_,N_,N_,N_] (by kernel_rfl) rfl rfl ⟨(Aw BK396.o 0).trans rfl, (Aw BK396.o 1).trans rfl⟩ (fun hHeld => ?_); refine Dv Ap.tab7 Ap.bits7 (fun HT_ HW_ => ?_)
        generalize wc.drew = w28 at HO_10 BK396 HI0 HK HB hHeld ⊢
        apply pq_ 0 38 #[Y_,N_,N_,N_,N_,N_,N_,N_,N_,N_] HT_ rfl rfl (by kernel_rfl) (fun _ _ _ h => h) (by rfl)
        ·intro w'; go_simp; rfl
        ·simp only [Act.put, sT_, sZ_, sS_, Ah, Ai]; rfl
        apply pq_ 3 41 #[Y_,N_,N_,Y_,N_,N_,N_,N_,N_,N_] HT_ rfl rfl (by kernel_rfl) (fun _ _ _ h => h) (by rfl)
        ·intro w'; go_simp; rfl
        ·simp only [Act.put, sT_, sZ_, sS_, Ah, Ai]; rfl
        apply pq_ 4 42 #[Y_,N_,N_,Y_,Y_,N_,N_,N_,N_,N_] HT_ rfl rfl (by kernel_rfl) (fun _ _ _ h => h) (by rfl)
        ·intro w'; go_simp; rfl
        ·simp only [Act.put, sT_, sZ_, sS_, Ah, Ai]; rfl
        apply pq_ 5 43 #[Y_,N_,N_,Y_,Y_,Y_,N_,N_,N_,N_] HT_ rfl rfl (by kernel_rfl) (fun _ _ _ h => h) (by rfl)
        ·intro w'; go_simp; rfl
        ·simp only [Act.put, sT_, sZ_, sS_, Ah, Ai]; rfl
        refine En (i := 1) (N := some 39) (v := ?_) (a' := ?_) #[Y_,Y_,N_,Y_,Y_,Y_,N_,N_,N_,N_] rfl rfl (Cm HT_.o HW_.o (by kernel_rfl)) (fun _ _ _ h => h) (Or.inl ⟨by rfl, ?_⟩) hHeld ?_ ?_
        rotate_left
        ·rintro w' ⟨s0, s1⟩
         go_simp
         rfl
        rotate_left
        ·simp only [Act.put, sT_, sZ_, sS_, Ah, Ai]
         rfl
        apply pq_ 2 40 #[Y_,Y_,Y_,Y_,Y_,Y_,N_,N_,N_,N_] HT_ rfl rfl (by kernel_rfl) (fun _ _ _ h => h) (by rfl)
        ·intro w'; go_simp; rfl
        ·simp only [Act.put, sT_, sZ_, sS_, Ah, Ai]; rfl
        refine one_ (i := 6) (N := some 44) #[Y_,Y_,Y_,Y_,Y_,Y_,Y_,N_,N_,N_] rfl rfl (Ej HT_.o (by kernel_rfl)) (by decide) (fun K hK => ?_)
        refine goes_ Try.func89 (by kernel_rfl) rfl #[.pointer (some ⟨g, 0, none⟩), .int .i64 5] (by rfl) rfl rfl (by (try simp only [mT_, mC_, mN_]); rfl) ?_
        refine (Dg.calls g s0_0 x1001_1 x1002_1 5 t407 t408 t409 w0 _ ?side1 ?side2 A25.o).mono ?_
        (case side1 => exact HI0.o)
        (case side2 => exact HB.o)
        rintro e w29 ⟨rfl, hi, hb, hk⟩
        refine ⟨_, rfl, ?_⟩
        replace HO_10 := Aa.k (Kd.Bv (Kd.R_keep (Bc.apart (show Bc w0 _ g s0_0 x1001_1 x1002_1 from by exact HI0.o) (by exact HO_10.o) (by decide)) hk (fun _ h => h.2)) (fun _ h => h.1))
        replace BK396 := Aa.k (Am.blk hk (g' := gb396) (o := .cells #[.int .i64 a1_0, .bool a1_1] 25 (0, 0)) (by exact BK396.o) NB396_0.o (by simp))
        replace HK := Aa.k (Am.trans HK.o hk (.inl rfl))
        replace HB := Aa.k (hb)
        replace HI0 := Aa.k (hi)
        clear hb
        clear hk
        clear hi
        refine hK.out _ _ ⟨(Aw BK396.o 0).trans rfl, (Aw BK396.o 1).trans rfl⟩ (fun hHeld => ?_)
        clear hK K
        refine Es (a' := ?_) ?_ ?_
        rotate_left
        ·show Act.put _ (some 44) _ = _
         simp only [Act.put, sT_, sZ_, sS_, Ah, Ai]
         rfl
        apply pq_ 7 45 #[Y_,Y_,Y_,Y_,Y_,Y_,Y_,Y_,N_,N_] HT_ rfl rfl (by kernel_rfl) (fun _ _ _ h => h) (by rfl)
        ·intro w'; go_simp; rfl
        ·simp only [Act.put, sT_, sZ_, sS_, Ah, Ai]; rfl
        refine one_ (i := 8) (N := some 46) #[Y_,Y_,Y_,Y_,Y_,Y_,Y_,Y_,Y_,N_] rfl rfl (Ej HT_.o (by kernel_rfl)) (by decide) (fun K hK => ?_)
        refine goes_ Try.func96 (by kernel_rfl) rfl #[.int .i64 (wrap64 (a1_0 - 1)), .int .i64 (wrap64 ((wrap64 (x8_1 + 1)) + t407))] (by rfl) rfl rfl (by (try simp only [mT_, mC_, mN_]); rfl) ?_
        refine (Et.calls (wrap64 (a1_0 - 1)) (wrap64 ((wrap64 (x8_1 + 1)) + t407)) t410 _ A26.o).mono ?_
        rintro e w' ⟨rfl, ⟨nd, rfl⟩⟩
        refine ⟨_, rfl, ?_⟩
        refine hK.out _ _ ⟨(Aw BK396.o 0).trans rfl, (Aw BK396.o 1).trans rfl⟩ (fun hHeld => ?_)
        clear hK K
        refine Es (a' := ?_) ?_ ?_
        rotate_left
        ·show Act.put _ (some 46) _ = _
         simp only [Act.put, sT_, sZ_, sS_, Ah, Ai]
         rfl
        apply pq_ 9 8 #[Y_,Y_,Y_,Y_,Y_,Y_,Y_,Y_,Y_,Y_] HT_ rfl rfl (by kernel_rfl) (fun _ _ _ h => h) (by rfl)
        ·intro w'; go_simp; rfl
        ·simp only [Act.put, sT_, sZ_, sS_, Ah, Ai]; rfl
        refine done_ (Fa HT_.o (by kernel_rfl)) ?_
        try go_wp2_with (((with_reducible refine Ef (b := .append) (xs := #[.tmp 47, .tmp 49]) rfl ?_); at_builtin; refine Kd.R_append (Kd.int .i64) w.heap.size rfl (.tmp 47) (.tmp 49) 30 3 (.int .i64 0) 8 rfl Try.underlying30 info3 rfl (by decide) (by omega) u10 x10_1 t410 [.int .i64 t410] (fun _ => True) (fun _ => False) rfl rfl ?aP (fun _ hk => hk.elim) ?aF ?aO (Below.refl _ _) ?aS ?aL ?_; (case aP => exact rfl); (case aF => exact (fun _ _ => trivial)); (case aO => exact (by (with_reducible repeat ((apply Kd.Ee))); exact HO_10.o)); (case aS => exact (Cj (w := w) (g := g) (row := none) (by repeat ((with_reducible first | exact HK.o | apply keep_drewN))))); (case aL => have := LMc27.o; omega); intro v412 w30 ho hb hg hat; rw [← Ny411.o] at ho; replace BK396 := Aa.k (Fb (g := gb396) (o := .cells #[.int .i64 a1_0, .bool a1_1] 25 (0, 0)) (by (with_reducible repeat ((refine Dk ?_ _))); exact BK396.o) hg (Kd.R_ne HO_10.o BK396.o (by decide))); replace HI0 := Aa.k (Bc.grown (by repeat ((with_reducible first | exact HI0.o | apply Bc.drewN))) hg (Bc.own_ne HI0.o HO_10.o (by decide))); replace HB := Aa.k (below_weaken (by repeat ((with_reducible first | exact HB.o | apply Bh))) HL.o hb); replace HK := Aa.k (Am.trans (by repeat ((with_reducible first | exact HK.o | apply keep_drewN))) (Am.of_grown hg g) (Kd.R_base2 HO_10.o)); have HO413 := Aa.k (ho); clear ho hb hg hat))
        go_meet
        case rel => exact ⟨_, (t410), (y411), (t408), (t409), (by (rfl)), H', ⟨by have := HK1.o; have := HJ13.o; have := HJ18.o; (omega)⟩, ⟨by exact HO413.o⟩, ⟨by exact BK396.o⟩, ⟨by exact HI0.o⟩, ⟨by exact HK.o⟩, ⟨by exact HB.o⟩⟩
       case rest =>
        clear HC23
        obtain ⟨kq, x8_22, x10_22, x1001_22, x1002_22, rfl, HA, HJ22, HO_10, BK396, HI0, HK, HB⟩ := hcut
        cases kq with
        | zero => exact absurd HA.o (by simp [Ap.j3])
        | succ kj22 =>
         have H := HA.o
         clear HA
         simp only [Ap.j3] at H
         have HC31 := Aa.k H
         clear H
         go_upto_region 9 with (fail)
         go_cut [56] (fun v56 wc => ∃ (kq : Nat) (x56_30 : Bool), v56 = .bool x56_30 ∧ Aa (Ap.j4 kq a2 x7_1 x8_22 x9_1 x10_22 x56_30 s0_0 x1001_22 x1002_22 a1_0 a1_1 = some (r1, r2, r3)) ∧ Aa (kq ≤ kj22) ∧ Aa (Kd.R (Kd.int .i64) 3 wc w.heap.size (fun _ => True) u10 x10_22) ∧ Aa (wc.heap[gb396]? = some (.cells #[.int .i64 a1_0, .bool a1_1] 25 (0, 0))) ∧ Aa (Bc w0 wc g s0_0 x1001_22 x1002_22) ∧ Aa (Am w wc g none) ∧ Aa (Below w0.heap.size w0 wc))
         case first =>
          have H := HC31.o
          clear HC31
          by_cases c32 : x9_1 = true
          ·subst c32
           rw [if_pos rfl] at H
           have H' := Aa.k H
           clear H
           go_wp2
           go_meet
           case rel => exact ⟨_, (false), (by (rfl)), H', ⟨by have := HK1.o; have := HJ13.o; have := HJ18.o; have := HJ22.o; (omega)⟩, ⟨by exact HO_10.o⟩, ⟨by exact BK396.o⟩, ⟨by exact HI0.o⟩, ⟨by exact HK.o⟩, ⟨by exact HB.o⟩⟩
          replace c32 := Bool.eq_false_iff.mpr c32
          subst c32
          rw [if_neg (show ¬ (false = true) by decide)] at H
          have H' := Aa.k H
          clear H
          go_wp2
          go_meet
          case rel => exact ⟨_, (decide (x7_1 > 0)), (by (rfl)), H', ⟨by have := HK1.o; have := HJ13.o; have := HJ18.o; have := HJ22.o; (omega)⟩, ⟨by exact HO_10.o⟩, ⟨by exact BK396.o⟩, ⟨by exact HI0.o⟩, ⟨by exact HK.o⟩, ⟨by exact HB.o⟩⟩
         case rest =>
          clear HC31
          obtain ⟨kq, x56_30, rfl, HA, HJ30, HO_10, BK396, HI0, HK, HB⟩ := hcut
          cases kq with
          | zero => exact absurd HA.o (by simp [Ap.j4])
          | succ kj30 =>
           have H := HA.o
           clear HA
           simp only [Ap.j4] at H
           by_cases c33 : x56_30 = true
           rotate_left
           ·replace c33 := Bool.eq_false_iff.mpr c33
            subst c33
            rw [if_neg (show ¬ (false = true) by decide)] at H
            have H' := Aa.k H
            clear H
            go_wp2
            go_roundg kj30
            case measure => have := HK1.o; have := HJ13.o; have := HJ18.o; have := HJ22.o; have := HJ30.o; omega
            case rel => exact ⟨(x7_1), (x8_22), (!x9_1), (x10_22), (x1001_22), (x1002_22), (by (rfl)), (by (rfl)), (by (rfl)), H', ⟨by have := HK1.o; have := HJ13.o; have := HJ18.o; have := HJ22.o; have := HJ30.o; omega⟩, ⟨by exact HO_10.o⟩, ⟨by exact BK396.o⟩, ⟨by exact HI0.o⟩, ⟨by exact HK.o⟩, ⟨by exact HB.o⟩⟩
           subst c33
           rw [if_pos rfl] at H
           obtain ⟨⟨t414, t415, t416⟩, A340, H⟩ := bindS_ H
           try dsimp only at H
           have A34 := Aa.k A340
           clear A340
           obtain ⟨t417, A350, H⟩ := bindS_ H
           try dsimp only at H
           have A35 := Aa.k A350
           clear A350
           by_cases c36 : x10_22.length < 17592186044416
           rotate_left
           ·rw [if_neg c36] at H
            exact absurd H (by simp)
           rw [if_pos c36] at H
           have LMc36 := Aa.k c36
           clear c36
           obtain ⟨y418, hy418⟩ : ∃ y_ : List Int, y_ = (x10_22 ++ [t417]) := ⟨_, rfl⟩
           replace H : (Ap.l0 kj30 a2 t417 x8_22 (!x9_1) y418 s0_0 t415 t416 a1_0 a1_1) = some (r1, r2, r3) := by (rw [hy418]; exact H)
           have Ny418 := Aa.k hy418
           clear hy418
           have H' := Aa.k H
           clear H
           go_wp2_with (first | ((with_reducible refine Aj (f := 89) rfl ?_); refine Bf (some 60) rfl rfl Try.func89 (by kernel_rfl) rfl #[.pointer (some ⟨g, 0, none⟩), .int .i64 5] rfl (by (try simp only [mT_, mC_, mN_]); rfl) ?_; (with_reducible refine (Dg.calls g s0_0 x1001_22 x1002_22 5 t414 t415 t416 w0 _ ?side1 ?side2 A34.o).mono ?_); (case side1 => exact HI0.o); (case side2 => exact HB.o); rintro e w37 ⟨rfl, hi, hb, hk⟩; refine ⟨_, rfl, ?_⟩; replace HO_10 := Aa.k (Kd.Bv (Kd.R_keep (Bc.apart (show Bc w0 _ g s0_0 x1001_22 x1002_22 from by exact HI0.o) (by exact HO_10.o) (by decide)) hk (fun _ h => h.2)) (fun _ h => h.1)); replace BK396 := Aa.k (Am.blk hk (g' := gb396) (o := .cells #[.int .i64 a1_0, .bool a1_1] 25 (0, 0)) (by exact BK396.o) NB396_0.o (by simp)); replace HK := Aa.k (Am.trans HK.o hk (.inl rfl)); replace HB := Aa.k (hb); replace HI0 := Aa.k (hi); clear hb hk hi) | ((with_reducible refine Aj (f := 86) rfl ?_); refine Bf (some 62) rfl rfl Try.func86 (by kernel_rfl) rfl #[.int .i64 0, .int .i64 (wrap64 ((wrap64 (x7_1 - 1)) - t414))] rfl (by (try simp only [mT_, mC_, mN_]); rfl) ?_; (with_reducible refine (Ec.calls 0 (wrap64 ((wrap64 (x7_1 - 1)) - t414)) t417 _ A35.o).mono ?_); rintro e w' ⟨rfl, ⟨nd, rfl⟩⟩; refine ⟨_, rfl, ?_⟩) | ((with_reducible refine Ef (b := .append) (xs := #[.tmp 63, .tmp 65]) rfl ?_); at_builtin; refine Kd.R_append (Kd.int .i64) w.heap.size rfl (.tmp 63) (.tmp 65) 30 3 (.int .i64 0) 8 rfl Try.underlying30 info3 rfl (by decide) (by omega) u10 x10_22 t417 [.int .i64 t417] (fun _ => True) (fun _ => False) rfl rfl ?aP (fun _ hk => hk.elim) ?aF ?aO (Below.refl _ _) ?aS ?aL ?_; (case aP => exact rfl); (case aF => exact (fun _ _ => trivial)); (case aO => exact (by (with_reducible repeat ((apply Kd.Ee))); exact HO_10.o)); (case aS => exact (Cj (w := w) (g := g) (row := none) (by repeat ((with_reducible first | exact HK.o | apply keep_drewN))))); (case aL => have := LMc36.o; omega); intro v419 w38 ho hb hg hat; rw [← Ny418.o] at ho; replace BK396 := Aa.k (Fb (g := gb396) (o := .cells #[.int .i64 a1_0, .bool a1_1] 25 (0, 0)) (by (with_reducible repeat ((refine Dk ?_ _))); exact BK396.o) hg (Kd.R_ne HO_10.o BK396.o (by decide))); replace HI0 := Aa.k (Bc.grown (by repeat ((with_reducible first | exact HI0.o | apply Bc.drewN))) hg (Bc.own_ne HI0.o HO_10.o (by decide))); replace HB := Aa.k (below_weaken (by repeat ((with_reducible first | exact HB.o | apply Bh))) HL.o hb); replace HK := Aa.k (Am.trans (by repeat ((with_reducible first | exact HK.o | apply keep_drewN))) (Am.of_grown hg g) (Kd.R_base2 HO_10.o)); have HO420 := Aa.k (ho); clear ho hb hg hat))
           go_roundg kj30
           case measure => have := HK1.o; have := HJ13.o; have := HJ18.o; have := HJ22.o; have := HJ30.o; omega
           case rel => exact ⟨(t417), (x8_22), (!x9_1), (y418), (t415), (t416), (by (rfl)), (by (rfl)), (by (rfl)), H', ⟨by have := HK1.o; have := HJ13.o; have := HJ18.o; have := HJ22.o; have := HJ30.o; omega⟩, ⟨by exact HO420.o⟩, ⟨by exact BK396.o⟩, ⟨by exact HI0.o⟩, ⟨by exact HK.o⟩, ⟨by exact HB.o⟩⟩

end Go.Proofs.Ytogflbocmiogpaa.PFnBestSearch
