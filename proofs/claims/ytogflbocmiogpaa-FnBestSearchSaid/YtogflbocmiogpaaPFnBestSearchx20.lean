-- Written for this claim by this session's turned copy of the printer.
import Derived.Test.YtogflbocmiogpaaPFnBestSearchx0
import Derived.Test.YtogflbocmiogpaaPFnBestSearchx1
import Derived.Test.YtogflbocmiogpaaPFnBestSearchx14
namespace Go.Proofs.Ytogflbocmiogpaa.PFnBestSearch
open Go.RowKit Go.Proofs.YtogflbocmiogpaaW.PrintWords Go.Proofs.YtogflbocmiogpaaW.PrintLast Go.Proofs.YtogflbocmiogpaaW.PrintMore
open List renaming setIfInBounds_toArray → sT_, set_cons_zero → sZ_, set_cons_succ → sS_, map_toArray → mT_, map_cons → mC_, map_nil → mN_
open Bool renaming true → Y_, false → N_
attribute [local go_sem] max2_int min2_int max_two min_two Fj Fh max_four min_four   -- for this text's walks alone
set_option linter.unusedVariables false
set_option linter.unusedSimpArgs false

/-! ### spec_MirrorSearch: function 39 -/
mutual
def Az.j0 : Nat → List Int → List Int → Bool → Int → Bool → Option (List Int × Bool)
 | 0, _, _, _, _, _ => none
 | k + 1, x1, x6, x15, x445000, x445001 => if x15 = true then (some (x6, false)) else (Az.l0 k x1 x6 0 x445000 x445001)
def Az.l0 : Nat → List Int → List Int → Int → Int → Bool → Option (List Int × Bool)
 | 0, _, _, _, _, _ => none
 | k + 1, x1, x6, x7, x445000, x445001 => if x7 < (x1.length : Int) then (if 0 ≤ x7 then ((Eu.f (rd x1 x7) 0 (wrap64 (x445000 - 1))).bind fun t450 => (if t450 = true then (if x6.length < 17592186044416 then (Az.l0 k x1 (x6 ++ [wrap64 ((wrap64 (x445000 - 1)) - (rd x1 x7))]) (wrap64 (x7 + 1)) x445000 x445001) else (none)) else (some ((([] : List Int)), false)))) else (none)) else (some (x6, true))
end
def Az.f (k : Nat) (a0_0 : Int) (a0_1 : Bool) (l1 : List Int) : Option (List Int × Bool) := (some (([] : List Int) : List Int)).bind fun y445 => ((Fq.f a0_0 a0_1).bind fun t448 => (if t448 = true then (Az.j0 k l1 y445 a0_1 a0_0 a0_1) else (Az.j0 k l1 y445 true a0_0 a0_1)))
theorem Az.mono_l : ∀ k, (∀ y0 y1 y2 y3 y4, LeO (Az.j0 k y0 y1 y2 y3 y4) (Az.j0 (k + 1) y0 y1 y2 y3 y4)) ∧ (∀ y0 y1 y2 y3 y4, LeO (Az.l0 k y0 y1 y2 y3 y4) (Az.l0 (k + 1) y0 y1 y2 y3 y4))
 | 0 => ⟨fun _ _ _ _ _ r h => by simp [Az.j0] at h, fun _ _ _ _ _ r h => by simp [Az.l0] at h⟩
 | k + 1 => by
  obtain ⟨ih0, ih1⟩ := Az.mono_l k
  refine ⟨?_, ?_⟩
  ·intro y0 y1 y2 y3 y4
   unfold Az.j0
   repeat' first
   | (with_reducible exact ih1 _ _ _ _ _)
   | (with_reducible exact LeO.refl _)
   | (with_reducible refine LeO.ite ?_ ?_)
  ·intro y0 y1 y2 y3 y4
   unfold Az.l0
   repeat' first
   | (with_reducible exact ih1 _ _ _ _ _)
   | (with_reducible exact LeO.refl _)
   | (with_reducible refine LeO.ite ?_ ?_)
   | (with_reducible refine LeO.bind ?_ (fun _ => ?_))
def Az.T7 : Bool × List (List Nat × List Nat) := (true, [([], []), ([], []), ([0, 1], [0, 1]), ([2], [2]), ([], []), ([4], [4]), ([5], [5]), ([3, 6], [3, 6]), ([7], [7])])
def Az.B7 : List Nat := [0, 0, 3, 7, 0, 16, 48, 127, 255]
theorem Az.tab7 : rtab .any (opsOf Try.f39 7) = Az.T7 := by kernel_rfl
theorem Az.bits7 : waitsOk Az.T7.2 Az.B7 = true := by kernel_rfl
def Az.T9 : Bool × List (List Nat × List Nat) := (true, [([], []), ([], []), ([1], [1]), ([2], [2]), ([], []), ([], []), ([4, 5], [4, 5]), ([6], [6]), ([3, 7], [3, 7]), ([8], [8]), ([0, 9], [0, 9]), ([10, 10, 0, 1, 2, 3, 4, 5, 6, 7, 8, 9, 10], [0, 10])])
def Az.B9 : List Nat := [0, 0, 2, 6, 0, 0, 48, 112, 254, 510, 1023, 2047]
theorem Az.tab9 : rtab .any (opsOf Try.f39 9) = Az.T9 := by kernel_rfl
theorem Az.bits9 : waitsOk Az.T9.2 Az.B9 = true := by kernel_rfl
set_option maxHeartbeats 8000000 in
set_option maxRecDepth 100000 in
theorem Az.calls (k : Nat) (a0_0 : Int) (a0_1 : Bool) (A1 : Option Addr) (c1 : Nat) (l1 : List Int) (r1 : List Int) (r2 : Bool) (w : World) (hr1 : Kd.C (Kd.int .i64) w A1 l1.length l1) (hc1 : l1.length ≤ c1) (h : Az.f k a0_0 a0_1 l1 = some (r1, r2)) :
  Calls Try.prog 39 #[.agg #[.int .i64 a0_0, .bool a0_1], .slice A1 l1.length c1] w fun e w' => ∃ v0_ : Value, e = .returned (.tuple #[v0_, .bool r2]) ∧ Kd.R (Kd.int .i64) 3 w' w.heap.size (fun _ => True) v0_ r1 ∧ Below w.heap.size w w' := by
 have hu25 := Try.underlying25
 have HR1 := Aa.k hr1
 have HC1 := Aa.k hc1
 clear hr1 hc1
 have HB := Aa.k (Below.refl w.heap.size w)
 have H : ((some (([] : List Int) : List Int)).bind fun y445 => ((Fq.f a0_0 a0_1).bind fun t448 => (if t448 = true then (Az.j0 k l1 y445 a0_1 a0_0 a0_1) else (Az.j0 k l1 y445 true a0_0 a0_1)))) = some (r1, r2) := h
 clear h
 obtain ⟨y445, hy445⟩ : ∃ y_ : List Int, y_ = (([] : List Int)) := ⟨_, rfl⟩
 replace H : ((Fq.f a0_0 a0_1).bind fun t448 => (if t448 = true then (Az.j0 k l1 y445 a0_1 a0_0 a0_1) else (Az.j0 k l1 y445 true a0_0 a0_1))) = some (r1, r2) := by (have H2_ := (Option.bind_some _ _).symm.trans H; rw [hy445]; exact H2_)
 have Ny445 := Aa.k hy445
 clear hy445
 have HC3 := Aa.k H
 clear H
 go_enter Try.func39, Try.ntmps39
 go_upto_region 2 with (first | ((with_reducible refine Be (N := 2) rfl ?_); refine Bo ?hg (N := 2) ?hd (cs := #[.int .i64 a0_0, .bool a0_1]) (t := 25) ?hr ?_; (case hd => rfl); (case hg => rfl); (case hr => (go_simp; done)); intro gb444 hg w4 hbox hb; have BK444 := Aa.k (hbox); have GW444 := Aa.k ((by rw [hg]; exact (Af HB.o) : w.heap.size ≤ gb444)); have GE444 := Aa.k ((by rw [hg]; exact (Af HB.o) : w.heap.size ≤ gb444)); replace HB := Aa.k (Ad HB.o hb); clear hb hbox hg) | ((with_reducible refine Be (N := 8) rfl ?_); refine Kd.R_lit (Kd.int .i64) _ 3 ?hg (N := 8) ?hd (xs := ([] : List Int)) (inner := []) (ok := fun _ => True) (okp := fun _ => True) ?hr ?hp (fun _ hk => hk) trivial (Below.refl _ _) (Nat.le_refl _) (by simp) ?_; (case hd => rfl); (case hg => rfl); (case hr => (go_simp; done)); (case hp => exact (Reps.none _ _)); intro v446 w5 ho6 hb hg_ hnew_; clear hg_ hnew_; ((rw [← Ny445.o] at ho6)); have HO447 := Aa.k (Kd.Ct ho6 (Af HB.o)); replace BK444 := Aa.k (Ae (g := gb444) (o := .cells #[.int .i64 a0_0, .bool a0_1] 25 (0, 0)) (by exact BK444.o) hb); replace HB := Aa.k (Ad HB.o hb); clear hb ho6))
 (try simp only [Act.put, sT_, sZ_, sS_])
 go_cut [15] (fun v15 wc => ∃ (kq : Nat) (x15_2 : Bool), v15 = .bool x15_2 ∧ Aa (Az.j0 kq l1 y445 x15_2 a0_0 a0_1 = some (r1, r2)) ∧ Aa (kq ≤ k) ∧ Aa (Kd.R (Kd.int .i64) 3 wc w.heap.size (fun _ => True) v446 y445) ∧ Aa (wc.heap[gb444]? = some (.cells #[.int .i64 a0_0, .bool a0_1] 25 (0, 0))) ∧ Aa (Below w.heap.size w wc))
 case first =>
  have H := HC3.o
  clear HC3
  obtain ⟨t448, A70, H⟩ := bindS_ H
  try dsimp only at H
  have A7 := Aa.k A70
  clear A70
  by_cases c8 : t448 = true
  rotate_left
  ·replace c8 := Bool.eq_false_iff.mpr c8
   subst c8
   rw [if_neg (show ¬ (false = true) by decide)] at H
   have H' := Aa.k H
   clear H
   have hcz12_0 := Bj BK444.o
   have hcz12_1 := Bn BK444.o
   have hfz12_0 := Ac BK444.o 0
   have hfz12_1 := Ac BK444.o 1
   go_wp2_with (((refine Aj (f := 70) rfl ?_); refine Bf (some 10) rfl rfl Try.func70 (by kernel_rfl) rfl #[.agg #[.int .i64 a0_0, .bool a0_1]] rfl (by (try simp only [mT_, mC_, mN_]); rfl) ?_; (refine (Fq.calls a0_0 a0_1 false _ A7.o).mono ?_); rintro e w13 ⟨rfl, hb⟩; refine ⟨_, rfl, ?_⟩; replace HO447 := Aa.k (Kd.Ba (by exact HO447.o) hb); replace BK444 := Aa.k (Ae (g := gb444) (o := .cells #[.int .i64 a0_0, .bool a0_1] 25 (0, 0)) (by exact BK444.o) hb); replace HB := Aa.k (Ad HB.o hb); clear hb))
   go_meet
   case rel => exact ⟨_, (true), (by (rfl)), H', ⟨by (omega)⟩, ⟨by exact HO447.o⟩, ⟨by exact BK444.o⟩, ⟨by exact HB.o⟩⟩
  subst c8
  rw [if_pos rfl] at H
  have H' := Aa.k H
  clear H
  have hcz9_0 := Bj BK444.o
  have hcz9_1 := Bn BK444.o
  have hfz9_0 := Ac BK444.o 0
  have hfz9_1 := Ac BK444.o 1
  go_wp2_with (((refine Aj (f := 70) rfl ?_); refine Bf (some 10) rfl rfl Try.func70 (by kernel_rfl) rfl #[.agg #[.int .i64 a0_0, .bool a0_1]] rfl (by (try simp only [mT_, mC_, mN_]); rfl) ?_; (refine (Fq.calls a0_0 a0_1 true _ A7.o).mono ?_); rintro e w10 ⟨rfl, hb⟩; refine ⟨_, rfl, ?_⟩; replace HO447 := Aa.k (Kd.Ba (by exact HO447.o) hb); replace BK444 := Aa.k (Ae (g := gb444) (o := .cells #[.int .i64 a0_0, .bool a0_1] 25 (0, 0)) (by exact BK444.o) hb); replace HB := Aa.k (Ad HB.o hb); clear hb; have hcz11_0 := Bj BK444.o; have hcz11_1 := Bn BK444.o; have hfz11_0 := Ac BK444.o 0; have hfz11_1 := Ac BK444.o 1))
  go_meet
  case rel => exact ⟨_, (a0_1), (by (rfl)), H', ⟨by (omega)⟩, ⟨by exact HO447.o⟩, ⟨by exact BK444.o⟩, ⟨by exact HB.o⟩⟩
 case rest =>
  clear HC3
  obtain ⟨kq, x15_2, rfl, HA, HJ2, HO_6, BK444, HB⟩ := hcut
  cases kq with
  | zero => exact absurd HA.o (by simp [Az.j0])
  | succ kj2 =>
   have H := HA.o
   clear HA
   simp only [Az.j0] at H
   by_cases c14 : x15_2 = true
   ·subst c14
    rw [if_pos rfl] at H
    simp only [Option.some.injEq, Prod.mk.injEq] at H
    obtain ⟨rfl, rfl⟩ := H
    go_wp2
    go_ret2
    exact ⟨_, by (rfl), by exact HO_6.o, by exact HB.o⟩
   replace c14 := Bool.eq_false_iff.mpr c14
   subst c14
   rw [if_neg (show ¬ (false = true) by decide)] at H
   have H' := Aa.k H
   clear H
   go_wp2
   go_loopg [6, 7] kj2 (fun kq v6 v7 w' => ∃ (x6_2 : List Int) (x7_2 : Int), v7 = .int .i64 x7_2 ∧ Aa (Az.l0 kq l1 x6_2 x7_2 a0_0 a0_1 = some (r1, r2)) ∧ Aa (kq ≤ kj2) ∧ Aa (Kd.R (Kd.int .i64) 3 w' w.heap.size (fun _ => True) v6 x6_2) ∧ Aa (w'.heap[gb444]? = some (.cells #[.int .i64 a0_0, .bool a0_1] 25 (0, 0))) ∧ Aa (Below w.heap.size w w'))
   case atStart => exact ⟨(y445), (0), (by (rfl)), H', ⟨Nat.le_refl _⟩, ⟨by exact HO_6.o⟩, ⟨by exact BK444.o⟩, ⟨by exact HB.o⟩⟩
   case round =>
    clear H'
    obtain ⟨x6_2, x7_2, rfl, HA, HK2, HO_6, BK444, HB⟩ := hrel
    cases gk with
    | zero => exact absurd HA.o (by simp [Az.l0])
    | succ k2 =>
     have H := HA.o
     clear HA
     simp only [Az.l0] at H
     by_cases c15 : x7_2 < (l1.length : Int)
     rotate_left
     ·rw [if_neg c15] at H
      have c15b0 : decide (x7_2 < (l1.length : Int)) = false := decide_eq_false c15
      clear c15
      simp only [Option.some.injEq, Prod.mk.injEq] at H
      obtain ⟨rfl, rfl⟩ := H
      go_wp2
      go_ret2
      exact ⟨_, by (rfl), by exact HO_6.o, by exact HB.o⟩
     rw [if_pos c15] at H
     have c15b0 : decide (x7_2 < (l1.length : Int)) = true := decide_eq_true c15
     clear c15
     by_cases c16 : 0 ≤ x7_2
     rotate_left
     ·rw [if_neg c16] at H
      exact absurd H (by simp)
     rw [if_pos c16] at H
     have c16b0 : decide (0 ≤ x7_2) = true := decide_eq_true c16
     clear c16
     obtain ⟨t450, A170, H⟩ := bindS_ H
     try dsimp only at H
     have A17 := Aa.k A170
     clear A170
     by_cases c18 : t450 = true
     rotate_left
     ·replace c18 := Bool.eq_false_iff.mpr c18
      subst c18
      rw [if_neg (show ¬ (false = true) by decide)] at H
      obtain ⟨y455, hy455⟩ : ∃ y_ : List Int, y_ = (([] : List Int)) := ⟨_, rfl⟩
      replace H : (some (y455, false)) = some (r1, r2) := by (rw [hy455]; exact H)
      have Ny455 := Aa.k hy455
      clear hy455
      simp only [Option.some.injEq, Prod.mk.injEq] at H
      obtain ⟨rfl, rfl⟩ := H
      try go_wp2
      replace HO_6 := Aa.k (Kd.R_drew HO_6.o)
      replace BK444 := Aa.k (Dt BK444.o)
      replace HB := Aa.k (Cf HB.o)
      have p449 : 0 ≤ (x7_2 : Int) := of_decide_eq_true (by (assumption))
      have q449 : x7_2 < (l1.length : Int) := of_decide_eq_true (by (assumption))
      obtain ⟨ad449, e449, hx449_0⟩ := Kd.Eo HR1.o x7_2 p449 q449
      have hw449_0 := hx449_0
      cases e449
      replace hx449_0 := (HB.o.cell (World.block_lt_of_cell? w _ hx449_0)).trans hx449_0
      replace p449 := eq_true p449
      replace q449 := eq_true q449
      refine Fp (n := 9) (S := fun w' => w'.cell? ⟨gb444, 0, none⟩ = some (.int .i64 a0_0) ∧ w'.cell? ⟨gb444, 1, none⟩ = some (.bool a0_1) ∧ w'.cell? (ad449.add (x7_2).toNat) = some (.int .i64 (rd l1 x7_2))) (ds := []) #[N_,N_,N_,N_,N_,N_,N_,N_,N_] (by kernel_rfl) rfl rfl ⟨(Aw BK444.o 0).trans rfl, (Aw BK444.o 1).trans rfl, ((HB.o.cell (World.block_lt_of_cell? w _ hw449_0)).trans hw449_0)⟩ (fun hHeld => ?_); refine Dv Az.tab7 Az.bits7 (fun HT_ HW_ => ?_)
      generalize wr.drew = w23 at HO_6 BK444 HB hx449_0 hHeld ⊢
      apply pq_ 0 23 #[Y_,N_,N_,N_,N_,N_,N_,N_,N_] HT_ rfl rfl (by kernel_rfl) (fun _ _ _ h => h) (by rfl)
      ·intro w'; go_simp; rfl
      ·simp only [Act.put, sT_, sZ_, sS_, Ah, Ai]; rfl
      apply pq_ 1 24 #[Y_,Y_,N_,N_,N_,N_,N_,N_,N_] HT_ rfl rfl (by kernel_rfl) (fun _ _ _ h => h) (by rfl)
      ·intro w'; go_simp; rfl
      ·simp only [Act.put, sT_, sZ_, sS_, Ah, Ai]; rfl
      apply pq_ 2 25 #[Y_,Y_,Y_,N_,N_,N_,N_,N_,N_] HT_ rfl rfl (by kernel_rfl) (fun _ _ _ h => h) (by rfl)
      ·intro w'; go_simp; rfl
      ·simp only [Act.put, sT_, sZ_, sS_, Ah, Ai]; rfl
      apply pq_ 4 27 #[Y_,Y_,Y_,N_,Y_,N_,N_,N_,N_] HT_ rfl rfl (by kernel_rfl) (fun _ _ _ h => h) (by rfl)
      ·intro w'; go_simp; rfl
      ·simp only [Act.put, sT_, sZ_, sS_, Ah, Ai]; rfl
      refine En (i := 3) (N := some 26) (v := ?_) (a' := ?_) #[Y_,Y_,Y_,Y_,Y_,N_,N_,N_,N_] rfl rfl (Cm HT_.o HW_.o (by kernel_rfl)) (fun _ _ _ h => h) (Or.inl ⟨by rfl, ?_⟩) hHeld ?_ ?_
      rotate_left
      ·rintro w' ⟨s0, s1, s2⟩
       go_simp
       rfl
      rotate_left
      ·simp only [Act.put, sT_, sZ_, sS_, Ah, Ai]
       rfl
      refine En (i := 5) (N := some 28) (v := ?_) (a' := ?_) #[Y_,Y_,Y_,Y_,Y_,Y_,N_,N_,N_] rfl rfl (Cm HT_.o HW_.o (by kernel_rfl)) (fun _ _ _ h => h) (Or.inl ⟨by rfl, ?_⟩) hHeld ?_ ?_
      rotate_left
      ·rintro w' ⟨s0, s1, s2⟩
       go_simp
       rfl
      rotate_left
      ·simp only [Act.put, sT_, sZ_, sS_, Ah, Ai]
       rfl
      apply pq_ 6 29 #[Y_,Y_,Y_,Y_,Y_,Y_,Y_,N_,N_] HT_ rfl rfl (by kernel_rfl) (fun _ _ _ h => h) (by rfl)
      ·intro w'; go_simp; rfl
      ·simp only [Act.put, sT_, sZ_, sS_, Ah, Ai]; rfl
      refine one_ (i := 7) (N := some 30) #[Y_,Y_,Y_,Y_,Y_,Y_,Y_,Y_,N_] rfl rfl (Ej HT_.o (by kernel_rfl)) (by decide) (fun K hK => ?_)
      refine goes_ Try.func100 (by kernel_rfl) rfl #[.int .i64 (rd l1 x7_2), .int .i64 0, .int .i64 (wrap64 (a0_0 - 1))] (by rfl) rfl rfl (by (try simp only [mT_, mC_, mN_]); rfl) ?_
      refine (Eu.calls (rd l1 x7_2) 0 (wrap64 (a0_0 - 1)) false _ A17.o).mono ?_
      rintro e w' ⟨rfl, ⟨nd, rfl⟩⟩
      refine ⟨_, rfl, ?_⟩
      refine hK.out _ _ ⟨(Aw BK444.o 0).trans rfl, (Aw BK444.o 1).trans rfl, ((HB.o.cell (World.block_lt_of_cell? w _ hw449_0)).trans hw449_0)⟩ (fun hHeld => ?_)
      clear hK K
      refine Es (a' := ?_) ?_ ?_
      rotate_left
      ·show Act.put _ (some 30) _ = _
       simp only [Act.put, sT_, sZ_, sS_, Ah, Ai]
       rfl
      apply pq_ 8 31 #[Y_,Y_,Y_,Y_,Y_,Y_,Y_,Y_,Y_] HT_ rfl rfl (by kernel_rfl) (fun _ _ _ h => h) (by rfl)
      ·intro w'; go_simp; rfl
      ·simp only [Act.put, sT_, sZ_, sS_, Ah, Ai]; rfl
      refine done_ (Fa HT_.o (by kernel_rfl)) ?_
      try go_wp2_with (((with_reducible refine Be (N := 32) rfl ?_); refine Kd.R_lit (Kd.int .i64) _ 3 ?hg (N := 32) ?hd (xs := ([] : List Int)) (inner := []) (ok := fun _ => True) (okp := fun _ => True) ?hr ?hp (fun _ hk => hk) trivial (Below.refl _ _) (Nat.le_refl _) (by simp) ?_; (case hd => rfl); (case hg => rfl); (case hr => (go_simp; done)); (case hp => exact (Reps.none _ _)); intro v456 w24 ho25 hb hg_ hnew_; clear hg_ hnew_; ((rw [← Ny455.o] at ho25)); have HO457 := Aa.k (Kd.Ct (Kd.Dz ho25 (Kd.R_lt (by (with_reducible repeat ((apply Kd.Ee))); exact HO_6.o))) (Af (by repeat ((with_reducible first | exact HB.o | apply Bh))))); replace HO_6 := Aa.k (Kd.Cw (by (with_reducible repeat ((apply Kd.Ee))); exact HO_6.o) (Kd.Cy ho25) hb); replace BK444 := Aa.k (Ae (g := gb444) (o := .cells #[.int .i64 a0_0, .bool a0_1] 25 (0, 0)) (by (with_reducible repeat ((refine Dk ?_ _))); exact BK444.o) hb); replace HB := Aa.k (Ad (by repeat ((with_reducible first | exact HB.o | apply Bh))) hb); clear hb ho25))
      go_ret2
      exact ⟨_, by (rfl), by exact Kd.Bv HO457.o (fun _ hk => trivial), by exact HB.o⟩
     subst c18
     rw [if_pos rfl] at H
     by_cases c19 : x6_2.length < 17592186044416
     rotate_left
     ·rw [if_neg c19] at H
      exact absurd H (by simp)
     rw [if_pos c19] at H
     have LMc19 := Aa.k c19
     clear c19
     obtain ⟨y452, hy452⟩ : ∃ y_ : List Int, y_ = (x6_2 ++ [wrap64 ((wrap64 (a0_0 - 1)) - (rd l1 x7_2))]) := ⟨_, rfl⟩
     replace H : (Az.l0 k2 l1 y452 (wrap64 (x7_2 + 1)) a0_0 a0_1) = some (r1, r2) := by (rw [hy452]; exact H)
     have Ny452 := Aa.k hy452
     clear hy452
     have H' := Aa.k H
     clear H
     try go_wp2
     replace HO_6 := Aa.k (Kd.R_drew HO_6.o)
     replace BK444 := Aa.k (Dt BK444.o)
     replace HB := Aa.k (Cf HB.o)
     have p449 : 0 ≤ (x7_2 : Int) := of_decide_eq_true (by (assumption))
     have q449 : x7_2 < (l1.length : Int) := of_decide_eq_true (by (assumption))
     obtain ⟨ad449, e449, hx449_0⟩ := Kd.Eo HR1.o x7_2 p449 q449
     have hw449_0 := hx449_0
     cases e449
     replace hx449_0 := (HB.o.cell (World.block_lt_of_cell? w _ hx449_0)).trans hx449_0
     replace p449 := eq_true p449
     replace q449 := eq_true q449
     refine Fp (n := 9) (S := fun w' => w'.cell? ⟨gb444, 0, none⟩ = some (.int .i64 a0_0) ∧ w'.cell? ⟨gb444, 1, none⟩ = some (.bool a0_1) ∧ w'.cell? (ad449.add (x7_2).toNat) = some (.int .i64 (rd l1 x7_2))) (ds := []) #[N_,N_,N_,N_,N_,N_,N_,N_,N_] (by kernel_rfl) rfl rfl ⟨(Aw BK444.o 0).trans rfl, (Aw BK444.o 1).trans rfl, ((HB.o.cell (World.block_lt_of_cell? w _ hw449_0)).trans hw449_0)⟩ (fun hHeld => ?_); refine Dv Az.tab7 Az.bits7 (fun HT_ HW_ => ?_)
     generalize wr.drew = w20 at HO_6 BK444 HB hx449_0 hHeld ⊢
     apply pq_ 0 23 #[Y_,N_,N_,N_,N_,N_,N_,N_,N_] HT_ rfl rfl (by kernel_rfl) (fun _ _ _ h => h) (by rfl)
     ·intro w'; go_simp; rfl
     ·simp only [Act.put, sT_, sZ_, sS_, Ah, Ai]; rfl
     apply pq_ 1 24 #[Y_,Y_,N_,N_,N_,N_,N_,N_,N_] HT_ rfl rfl (by kernel_rfl) (fun _ _ _ h => h) (by rfl)
     ·intro w'; go_simp; rfl
     ·simp only [Act.put, sT_, sZ_, sS_, Ah, Ai]; rfl
     apply pq_ 2 25 #[Y_,Y_,Y_,N_,N_,N_,N_,N_,N_] HT_ rfl rfl (by kernel_rfl) (fun _ _ _ h => h) (by rfl)
     ·intro w'; go_simp; rfl
     ·simp only [Act.put, sT_, sZ_, sS_, Ah, Ai]; rfl
     apply pq_ 4 27 #[Y_,Y_,Y_,N_,Y_,N_,N_,N_,N_] HT_ rfl rfl (by kernel_rfl) (fun _ _ _ h => h) (by rfl)
     ·intro w'; go_simp; rfl
     ·simp only [Act.put, sT_, sZ_, sS_, Ah, Ai]; rfl
     refine En (i := 3) (N := some 26) (v := ?_) (a' := ?_) #[Y_,Y_,Y_,Y_,Y_,N_,N_,N_,N_] rfl rfl (Cm HT_.o HW_.o (by kernel_rfl)) (fun _ _ _ h => h) (Or.inl ⟨by rfl, ?_⟩) hHeld ?_ ?_
     rotate_left
     ·rintro w' ⟨s0, s1, s2⟩
      go_simp
      rfl
     rotate_left
     ·simp only [Act.put, sT_, sZ_, sS_, Ah, Ai]
      rfl
     refine En (i := 5) (N := some 28) (v := ?_) (a' := ?_) #[Y_,Y_,Y_,Y_,Y_,Y_,N_,N_,N_] rfl rfl (Cm HT_.o HW_.o (by kernel_rfl)) (fun _ _ _ h => h) (Or.inl ⟨by rfl, ?_⟩) hHeld ?_ ?_
     rotate_left
     ·rintro w' ⟨s0, s1, s2⟩
      go_simp
      rfl
     rotate_left
     ·simp only [Act.put, sT_, sZ_, sS_, Ah, Ai]
      rfl
     apply pq_ 6 29 #[Y_,Y_,Y_,Y_,Y_,Y_,Y_,N_,N_] HT_ rfl rfl (by kernel_rfl) (fun _ _ _ h => h) (by rfl)
     ·intro w'; go_simp; rfl
     ·simp only [Act.put, sT_, sZ_, sS_, Ah, Ai]; rfl
     refine one_ (i := 7) (N := some 30) #[Y_,Y_,Y_,Y_,Y_,Y_,Y_,Y_,N_] rfl rfl (Ej HT_.o (by kernel_rfl)) (by decide) (fun K hK => ?_)
     refine goes_ Try.func100 (by kernel_rfl) rfl #[.int .i64 (rd l1 x7_2), .int .i64 0, .int .i64 (wrap64 (a0_0 - 1))] (by rfl) rfl rfl (by (try simp only [mT_, mC_, mN_]); rfl) ?_
     refine (Eu.calls (rd l1 x7_2) 0 (wrap64 (a0_0 - 1)) true _ A17.o).mono ?_
     rintro e w' ⟨rfl, ⟨nd, rfl⟩⟩
     refine ⟨_, rfl, ?_⟩
     refine hK.out _ _ ⟨(Aw BK444.o 0).trans rfl, (Aw BK444.o 1).trans rfl, ((HB.o.cell (World.block_lt_of_cell? w _ hw449_0)).trans hw449_0)⟩ (fun hHeld => ?_)
     clear hK K
     refine Es (a' := ?_) ?_ ?_
     rotate_left
     ·show Act.put _ (some 30) _ = _
      simp only [Act.put, sT_, sZ_, sS_, Ah, Ai]
      rfl
     apply pq_ 8 31 #[Y_,Y_,Y_,Y_,Y_,Y_,Y_,Y_,Y_] HT_ rfl rfl (by kernel_rfl) (fun _ _ _ h => h) (by rfl)
     ·intro w'; go_simp; rfl
     ·simp only [Act.put, sT_, sZ_, sS_, Ah, Ai]; rfl
     refine done_ (Fa HT_.o (by kernel_rfl)) ?_
     try go_wp2
     (try (rw [drewN_self w20]; generalize hq_ : World.drewN w20 _ = w20; have n0_ : Aa (Kd.R (Kd.int .i64) 3 w20 w.heap.size (fun _ => True) u6 x6_2) := ⟨by rw [← hq_]; exact (by (with_reducible repeat ((apply Kd.Ee))); exact HO_6.o)⟩; have n1_ : Aa (w20.heap[gb444]? = some (.cells #[.int .i64 a0_0, .bool a0_1] 25 (0, 0))) := ⟨by rw [← hq_]; exact (by (with_reducible repeat ((refine Dk ?_ _))); exact BK444.o)⟩; have n2_ : Aa (Below w.heap.size w w20) := ⟨by rw [← hq_]; exact (by repeat ((with_reducible first | exact HB.o | apply Bh)))⟩; clear HO_6 BK444 HB hq_; have HO_6 := n0_; have BK444 := n1_; have HB := n2_; clear n0_ n1_ n2_))
     replace HO_6 := Aa.k (Kd.R_drew HO_6.o)
     replace BK444 := Aa.k (Dt BK444.o)
     replace HB := Aa.k (Cf HB.o)
     have p451 : 0 ≤ (x7_2 : Int) := of_decide_eq_true (by (assumption))
     have q451 : x7_2 < (l1.length : Int) := of_decide_eq_true (by (assumption))
     obtain ⟨ad451, e451, hx451_0⟩ := Kd.Eo HR1.o x7_2 p451 q451
     have hw451_0 := hx451_0
     obtain rfl : ad449 = ad451 := (by injection e451)
     replace hx451_0 := (HB.o.cell (World.block_lt_of_cell? w _ hx451_0)).trans hx451_0
     replace p451 := eq_true p451
     replace q451 := eq_true q451
     refine Fp (n := 12) (S := fun w' => w'.cell? ⟨gb444, 0, none⟩ = some (.int .i64 a0_0) ∧ w'.cell? ⟨gb444, 1, none⟩ = some (.bool a0_1) ∧ w'.cell? (ad449.add (x7_2).toNat) = some (.int .i64 (rd l1 x7_2))) (ds := []) #[N_,N_,N_,N_,N_,N_,N_,N_,N_,N_,N_,N_] (by kernel_rfl) rfl rfl ⟨(Aw BK444.o 0).trans rfl, (Aw BK444.o 1).trans rfl, ((HB.o.cell (World.block_lt_of_cell? w _ hw451_0)).trans hw451_0)⟩ (fun hHeld => ?_); refine Dv Az.tab9 Az.bits9 (fun HT_ HW_ => ?_)
     generalize w20.drew = w21 at HO_6 BK444 HB hx451_0 hHeld ⊢
     apply pq_ 0 33 #[Y_,N_,N_,N_,N_,N_,N_,N_,N_,N_,N_,N_] HT_ rfl rfl (by kernel_rfl) (fun _ _ _ h => h) (by rfl)
     ·intro w'; go_simp; rfl
     ·simp only [Act.put, sT_, sZ_, sS_, Ah, Ai]; rfl
     apply pq_ 1 34 #[Y_,Y_,N_,N_,N_,N_,N_,N_,N_,N_,N_,N_] HT_ rfl rfl (by kernel_rfl) (fun _ _ _ h => h) (by rfl)
     ·intro w'; go_simp; rfl
     ·simp only [Act.put, sT_, sZ_, sS_, Ah, Ai]; rfl
     apply pq_ 4 37 #[Y_,Y_,N_,N_,Y_,N_,N_,N_,N_,N_,N_,N_] HT_ rfl rfl (by kernel_rfl) (fun _ _ _ h => h) (by rfl)
     ·intro w'; go_simp; rfl
     ·simp only [Act.put, sT_, sZ_, sS_, Ah, Ai]; rfl
     apply pq_ 5 38 #[Y_,Y_,N_,N_,Y_,Y_,N_,N_,N_,N_,N_,N_] HT_ rfl rfl (by kernel_rfl) (fun _ _ _ h => h) (by rfl)
     ·intro w'; go_simp; rfl
     ·simp only [Act.put, sT_, sZ_, sS_, Ah, Ai]; rfl
     apply pq_ 6 39 #[Y_,Y_,N_,N_,Y_,Y_,Y_,N_,N_,N_,N_,N_] HT_ rfl rfl (by kernel_rfl) (fun _ _ _ h => h) (by rfl)
     ·intro w'; go_simp; rfl
     ·simp only [Act.put, sT_, sZ_, sS_, Ah, Ai]; rfl
     refine En (i := 2) (N := some 35) (v := ?_) (a' := ?_) #[Y_,Y_,Y_,N_,Y_,Y_,Y_,N_,N_,N_,N_,N_] rfl rfl (Cm HT_.o HW_.o (by kernel_rfl)) (fun _ _ _ h => h) (Or.inl ⟨by rfl, ?_⟩) hHeld ?_ ?_
     rotate_left
     ·rintro w' ⟨s0, s1, s2⟩
      go_simp
      rfl
     rotate_left
     ·simp only [Act.put, sT_, sZ_, sS_, Ah, Ai]
      rfl
     apply pq_ 3 36 #[Y_,Y_,Y_,Y_,Y_,Y_,Y_,N_,N_,N_,N_,N_] HT_ rfl rfl (by kernel_rfl) (fun _ _ _ h => h) (by rfl)
     ·intro w'; go_simp; rfl
     ·simp only [Act.put, sT_, sZ_, sS_, Ah, Ai]; rfl
     refine En (i := 7) (N := some 40) (v := ?_) (a' := ?_) #[Y_,Y_,Y_,Y_,Y_,Y_,Y_,Y_,N_,N_,N_,N_] rfl rfl (Cm HT_.o HW_.o (by kernel_rfl)) (fun _ _ _ h => h) (Or.inl ⟨by rfl, ?_⟩) hHeld ?_ ?_
     rotate_left
     ·rintro w' ⟨s0, s1, s2⟩
      go_simp
      rfl
     rotate_left
     ·simp only [Act.put, sT_, sZ_, sS_, Ah, Ai]
      rfl
     apply pq_ 8 41 #[Y_,Y_,Y_,Y_,Y_,Y_,Y_,Y_,Y_,N_,N_,N_] HT_ rfl rfl (by kernel_rfl) (fun _ _ _ h => h) (by rfl)
     ·intro w'; go_simp; rfl
     ·simp only [Act.put, sT_, sZ_, sS_, Ah, Ai]; rfl
     refine one_ (i := 9) (N := some 42) #[Y_,Y_,Y_,Y_,Y_,Y_,Y_,Y_,Y_,Y_,N_,N_] rfl rfl (Ej HT_.o (by kernel_rfl)) (by decide) (fun K hK => ?_)
     refine value_ (w1 := ?_) (v := ?_) (by rfl) rfl ?_ ?_
     rotate_left 2
     ·go_simp
      constructor
      ·rfl
      ·rfl
     refine hK.out _ _ ⟨(Aw (blk_alloc BK444.o _) 0).trans rfl, (Aw (blk_alloc BK444.o _) 1).trans rfl, (World.cell?_alloc_lt _ _ _ (World.block_lt_of_cell? _ _ (((HB.o.cell (World.block_lt_of_cell? w _ hw451_0)).trans hw451_0)))).trans (((HB.o.cell (World.block_lt_of_cell? w _ hw451_0)).trans hw451_0))⟩ (fun hHeld => ?_)
     clear hK K
     refine Es (a' := ?_) ?_ ?_
     rotate_left
     ·show Act.put _ (some 42) _ = _
      simp only [Act.put, sT_, sZ_, sS_, Ah, Ai]
      rfl
     refine one_ (i := 10) (N := some 43) #[Y_,Y_,Y_,Y_,Y_,Y_,Y_,Y_,Y_,Y_,Y_,N_] rfl rfl (Ej HT_.o (by kernel_rfl)) (by decide) (fun K hK => ?_)
     refine Kd.R_append_step (Kd.int .i64) (w0 := w) w.heap.size (by rfl) (.tmp 33) (.tmp 42) 30 3 (.int .i64 0) 8 rfl Try.underlying30 info3 rfl (by decide) (by omega) u6 x6_2 (wrap64 ((wrap64 (a0_0 - 1)) - (rd l1 x7_2))) [.int .i64 (wrap64 ((wrap64 (a0_0 - 1)) - (rd l1 x7_2)))] (fun _ => True) (fun _ => False) rfl rfl ?aP (fun _ hk => hk.elim) ?aF ?aO ?aB ?aS ?aL ?_
     (case aP => exact rfl)
     (case aB => exact HB.o)
     (case aF => exact (fun _ _ => trivial))
     (case aO => exact (by exact HO_6.o))
     (case aS => exact (Af HB.o))
     (case aL => have := LMc19.o; omega)
     intro v453 w22 ho hb hg hat
     rw [← Ny452.o] at ho
     replace BK444 := Aa.k (Fb (g := gb444) (o := .cells #[.int .i64 a0_0, .bool a0_1] 25 (0, 0)) (by exact BK444.o) hg (Kd.R_ne HO_6.o BK444.o (by decide)))
     replace HB := Aa.k (hb)
     have HO454 := Aa.k (ho)
     clear ho hb hg hat
     refine hK.out _ _ ⟨(Aw BK444.o 0).trans rfl, (Aw BK444.o 1).trans rfl, ((HB.o.cell (World.block_lt_of_cell? w _ hw451_0)).trans hw451_0)⟩ (fun hHeld => ?_)
     clear hK K
     refine Es (a' := ?_) ?_ ?_
     rotate_left
     ·show Act.put _ (some 43) _ = _
      simp only [Act.put, sT_, sZ_, sS_, Ah, Ai]
      rfl
     apply pq_ 11 6 #[Y_,Y_,Y_,Y_,Y_,Y_,Y_,Y_,Y_,Y_,Y_,Y_] HT_ rfl rfl (by kernel_rfl) (fun _ _ _ h => h) (by rfl)
     ·intro w'; go_simp; rfl
     ·simp only [Act.put, sT_, sZ_, sS_, Ah, Ai]; rfl
     refine done_ (Fa HT_.o (by kernel_rfl)) ?_
     try go_wp2
     go_roundg k2
     case measure => have := HJ2.o; have := HK2.o; omega
     case rel => exact ⟨(y452), (wrap64 (x7_2 + 1)), (by (rfl)), H', ⟨by have := HJ2.o; have := HK2.o; omega⟩, ⟨by exact HO454.o⟩, ⟨by exact BK444.o⟩, ⟨by exact HB.o⟩⟩

/-! ### laws_vInts: function 40 -/
def Cg.l0 : Nat → List Int → List Int → Int → Option (Bool)
 | 0, _, _, _ => none
 | k + 1, x0, x1, x5 => if x5 < (x0.length : Int) then (if 0 ≤ x5 then (if x5 < (x1.length : Int) then (if (rd x0 x5) = (rd x1 x5) then (Cg.l0 k x0 x1 (wrap64 (x5 + 1))) else (some false)) else (none)) else (none)) else (some true)
def Cg.f (k : Nat) (l0 : List Int) (l1 : List Int) : Option (Bool) := if (l0.length : Int) = (l1.length : Int) then (Cg.l0 k l0 l1 0) else (some false)
theorem Cg.mono_l : ∀ k, (∀ y0 y1 y2, LeO (Cg.l0 k y0 y1 y2) (Cg.l0 (k + 1) y0 y1 y2))
 | 0 => fun _ _ _ r h => by simp [Cg.l0] at h
 | k + 1 => by
  have ih0 := Cg.mono_l k
  ·intro y0 y1 y2
   unfold Cg.l0
   repeat' first
   | (with_reducible exact ih0 _ _ _)
   | (with_reducible exact LeO.refl _)
   | (with_reducible refine LeO.ite ?_ ?_)
theorem Cg.mono : ∀ a0 a1 k, LeO (Cg.f k a0 a1) (Cg.f (k + 1) a0 a1) := by
 intro a0 a1 k
 have ih0 := Cg.mono_l k
 unfold Cg.f
 repeat' first
   | (with_reducible exact ih0 _ _ _)
   | (with_reducible exact LeO.refl _)
   | (with_reducible refine LeO.ite ?_ ?_)
set_option maxHeartbeats 8000000 in
set_option maxRecDepth 100000 in
theorem Cg.calls (k : Nat) (A0 : Option Addr) (c0 : Nat) (l0 : List Int) (A1 : Option Addr) (c1 : Nat) (l1 : List Int) (r : Bool) (w : World) (hr0 : Kd.C (Kd.int .i64) w A0 l0.length l0) (hc0 : l0.length ≤ c0) (hr1 : Kd.C (Kd.int .i64) w A1 l1.length l1) (hc1 : l1.length ≤ c1) (h : Cg.f k l0 l1 = some r) :
  Calls Try.prog 40 #[.slice A0 l0.length c0, .slice A1 l1.length c1] w fun e w' => e = .returned (.bool r) ∧ Cu w w' := by
 have HR0 := Aa.k hr0
 have HC0 := Aa.k hc0
 clear hr0 hc0
 have HR1 := Aa.k hr1
 have HC1 := Aa.k hc1
 clear hr1 hc1
 have H : (if (l0.length : Int) = (l1.length : Int) then (Cg.l0 k l0 l1 0) else (some false)) = some r := h
 clear h
 by_cases c3 : (l0.length : Int) = (l1.length : Int)
 rotate_left
 ·rw [if_neg c3] at H
  have c3b0 : ((l0.length : Int) == (l1.length : Int)) = false := beq_eq_false_iff_ne.mpr c3
  have c3b1 : ((l0.length : Int) != (l1.length : Int)) = true := bne_iff_ne.mpr c3
  have c3b2 : (l0.length == l1.length) = false := by (simp at c3 ⊢; omega)
  obtain rfl := Option.some.inj H
  go_enter Try.func40, Try.ntmps40
  go_wp2
  repeat (go_quiet (fail); try go_wp2)
  go_ret
  exact ⟨by (rfl), by repeat (exact Cu.refl _)⟩
 rw [if_pos c3] at H
 have c3b0 : ((l0.length : Int) == (l1.length : Int)) = true := beq_iff_eq.mpr c3
 have c3b1 : ((l0.length : Int) != (l1.length : Int)) = false := bne_eq_false_iff_eq.mpr c3
 have c3b2 : (l0.length == l1.length) = true := by (simp at c3 ⊢; omega)
 clear c3
 have H' := Aa.k H
 clear H
 go_enter Try.func40, Try.ntmps40
 go_wp2
 repeat (go_quiet (fail); try go_wp2)
 go_loopg [5] k (fun kq v5 w' => ∃ (x5_1 : Int), v5 = .int .i64 x5_1 ∧ Aa (Cg.l0 kq l0 l1 x5_1 = some r) ∧ Aa (kq ≤ k) ∧ Cu w w')
 case atStart => exact ⟨(0), (by (rfl)), H', ⟨Nat.le_refl _⟩, by repeat (exact Cu.refl _)⟩
 case round =>
  clear H'
  clear c3b0 c3b1 c3b2
  obtain ⟨x5_1, rfl, HA, HK1, ⟨m1, rfl⟩⟩ := hrel
  cases gk with
  | zero => exact absurd HA.o (by simp [Cg.l0])
  | succ k1 =>
   have H := HA.o
   clear HA
   simp only [Cg.l0] at H
   by_cases c4 : x5_1 < (l0.length : Int)
   rotate_left
   ·rw [if_neg c4] at H
    have c4b0 : decide (x5_1 < (l0.length : Int)) = false := decide_eq_false c4
    clear c4
    obtain rfl := Option.some.inj H
    go_wp2
    repeat (go_quiet (fail); try go_wp2)
    go_ret
    exact ⟨by (rfl), by repeat (first | exact Cu.refl _ | apply Cu.step)⟩
   rw [if_pos c4] at H
   have c4b0 : decide (x5_1 < (l0.length : Int)) = true := decide_eq_true c4
   clear c4
   by_cases c5 : 0 ≤ x5_1
   rotate_left
   ·rw [if_neg c5] at H
    exact absurd H (by simp)
   rw [if_pos c5] at H
   have c5b0 : decide (0 ≤ x5_1) = true := decide_eq_true c5
   clear c5
   by_cases c6 : x5_1 < (l1.length : Int)
   rotate_left
   ·rw [if_neg c6] at H
    exact absurd H (by simp)
   rw [if_pos c6] at H
   have c6b0 : decide (x5_1 < (l1.length : Int)) = true := decide_eq_true c6
   clear c6
   by_cases c7 : (rd l0 x5_1) = (rd l1 x5_1)
   rotate_left
   ·rw [if_neg c7] at H
    have c7b0 : ((rd l0 x5_1) == (rd l1 x5_1)) = false := beq_eq_false_iff_ne.mpr c7
    have c7b1 : ((rd l0 x5_1) != (rd l1 x5_1)) = true := bne_iff_ne.mpr c7
    obtain rfl := Option.some.inj H
    have p458 : 0 ≤ (x5_1 : Int) := of_decide_eq_true (by (assumption))
    have q458 : x5_1 < (l0.length : Int) := of_decide_eq_true (by (assumption))
    obtain ⟨ad458, e458, hx458_0⟩ := Kd.Eo HR0.o x5_1 p458 q458
    cases e458
    replace p458 := eq_true p458
    replace q458 := eq_true q458
    have p459 : 0 ≤ (x5_1 : Int) := of_decide_eq_true (by (assumption))
    have q459 : x5_1 < (l1.length : Int) := of_decide_eq_true (by (assumption))
    obtain ⟨ad459, e459, hx459_0⟩ := Kd.Eo HR1.o x5_1 p459 q459
    cases e459
    replace p459 := eq_true p459
    replace q459 := eq_true q459
    go_wp2
    repeat (go_quiet (fail); try go_wp2)
    go_ret
    exact ⟨by (rfl), by repeat (first | exact Cu.refl _ | apply Cu.step)⟩
   rw [if_pos c7] at H
   have c7b0 : ((rd l0 x5_1) == (rd l1 x5_1)) = true := beq_iff_eq.mpr c7
   have c7b1 : ((rd l0 x5_1) != (rd l1 x5_1)) = false := bne_eq_false_iff_eq.mpr c7
   clear c7
   have H' := Aa.k H
   clear H
   have p458 : 0 ≤ (x5_1 : Int) := of_decide_eq_true (by (assumption))
   have q458 : x5_1 < (l0.length : Int) := of_decide_eq_true (by (assumption))
   obtain ⟨ad458, e458, hx458_0⟩ := Kd.Eo HR0.o x5_1 p458 q458
   cases e458
   replace p458 := eq_true p458
   replace q458 := eq_true q458
   have p459 : 0 ≤ (x5_1 : Int) := of_decide_eq_true (by (assumption))
   have q459 : x5_1 < (l1.length : Int) := of_decide_eq_true (by (assumption))
   obtain ⟨ad459, e459, hx459_0⟩ := Kd.Eo HR1.o x5_1 p459 q459
   cases e459
   replace p459 := eq_true p459
   replace q459 := eq_true q459
   go_wp2
   repeat (go_quiet (fail); try go_wp2)
   go_roundg k1
   case measure => have := HK1.o; omega
   case rel => exact ⟨(wrap64 (x5_1 + 1)), (by (rfl)), H', ⟨by have := HK1.o; omega⟩, by repeat (first | exact Cu.refl _ | apply Cu.step)⟩

end Go.Proofs.Ytogflbocmiogpaa.PFnBestSearch
