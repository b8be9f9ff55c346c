-- Written for this claim by this session's turned copy of the printer.
import Derived.Test.YtogflbocmiogpaaPFnBestSearchx0
import Derived.Test.YtogflbocmiogpaaPFnBestSearchx2
namespace Go.Proofs.Ytogflbocmiogpaa.PFnBestSearch
open Go.RowKit Go.Proofs.YtogflbocmiogpaaW.PrintWords Go.Proofs.YtogflbocmiogpaaW.PrintLast Go.Proofs.YtogflbocmiogpaaW.PrintMore
open List renaming setIfInBounds_toArray → sT_, set_cons_zero → sZ_, set_cons_succ → sS_, map_toArray → mT_, map_cons → mC_, map_nil → mN_
open Bool renaming true → Y_, false → N_
attribute [local go_sem] max2_int min2_int max_two min_two Fj Fh max_four min_four   -- for this text's walks alone
set_option linter.unusedVariables false
set_option linter.unusedSimpArgs false

/-! ### spec_l3Next: function 133 -/
mutual
def De.j0 : Nat → Int → List Int → Int → Bool → Int → Bool → Option (Bool)
 | 0, _, _, _, _, _, _ => none
 | k + 1, x1, x2, x3, x31, x137000, x137001 => if x31 = true then (some false) else (De.l0 k x1 x2 x3 0 x137000 x137001)
def De.l0 : Nat → Int → List Int → Int → Int → Int → Bool → Option (Bool)
 | 0, _, _, _, _, _, _ => none
 | k + 1, x1, x2, x3, x9, x137000, x137001 => if x9 < (x2.length : Int) then (if 0 ≤ x9 then (if ((decide ((rd x2 x9) > x1)) == (decide (x3 > x1))) = true then ((Fz.f x137000 x137001 x1 x3).bind fun t139 => ((Fz.f x137000 x137001 x1 (rd x2 x9)).bind fun t141 => (if t139 ≤ t141 then (some false) else (De.l0 k x1 x2 x3 (wrap64 (x9 + 1)) x137000 x137001)))) else (De.l0 k x1 x2 x3 (wrap64 (x9 + 1)) x137000 x137001)) else (none)) else (some true)
end
def De.f (k : Nat) (a0_0 : Int) (a0_1 : Bool) (a1 : Int) (l2 : List Int) (a3 : Int) : Option (Bool) := if a3 = a1 then (De.j0 k a1 l2 a3 true a0_0 a0_1) else (if (l2.length : Int) > 0 then (if 0 ≤ (wrap64 ((l2.length : Int) - 1)) then (if (wrap64 ((l2.length : Int) - 1)) < (l2.length : Int) then (De.j0 k a1 l2 a3 ((decide (a3 > a1)) == (decide ((rd l2 (wrap64 ((l2.length : Int) - 1))) > a1))) a0_0 a0_1) else (none)) else (none)) else (De.j0 k a1 l2 a3 false a0_0 a0_1))
def De.T6 : Bool × List (List Nat × List Nat) := (true, [([], []), ([], []), ([0, 1], [0, 1]), ([2], [2]), ([], []), ([3, 4], [3, 4]), ([], []), ([], []), ([6, 7], [6, 7]), ([5, 8], [5, 8]), ([9], [9]), ([10], [10]), ([10], [10]), ([10], [10]), ([11, 12, 13, 10, 10], [10, 11, 12, 13]), ([10], [10]), ([10], [10]), ([10], [10]), ([10], [10]), ([17, 18, 10], [10, 17, 18]), ([19, 10], [10, 19]), ([15, 16, 20, 14, 10], [10, 15, 16, 20]), ([14, 21, 10], [10, 14, 21]), ([10, 22], [10, 22])])
def De.B6 : List Nat := [0, 0, 3, 7, 0, 31, 0, 0, 192, 511, 1023, 2047, 2047, 2047, 16383, 2047, 2047, 2047, 2047, 395263, 919551, 2097151, 4194303, 8388607]
theorem De.tab6 : rtab .any (opsOf Try.f133 6) = De.T6 := by kernel_rfl
theorem De.bits6 : waitsOk De.T6.2 De.B6 = true := by kernel_rfl
set_option maxHeartbeats 8000000 in
set_option maxRecDepth 100000 in
theorem De.calls (k : Nat) (a0_0 : Int) (a0_1 : Bool) (a1 : Int) (A2 : Option Addr) (c2 : Nat) (l2 : List Int) (a3 : Int) (r : Bool) (w : World) (hr2 : Kd.C (Kd.int .i64) w A2 l2.length l2) (hc2 : l2.length ≤ c2) (h : De.f k a0_0 a0_1 a1 l2 a3 = some r) :
  Calls Try.prog 133 #[.agg #[.int .i64 a0_0, .bool a0_1], .int .i64 a1, .slice A2 l2.length c2, .int .i64 a3] w fun e w' => e = .returned (.bool r) ∧ Below w.heap.size w w' := by
 have hu25 := Try.underlying25
 have HR2 := Aa.k hr2
 have HC2 := Aa.k hc2
 clear hr2 hc2
 have HB := Aa.k (Below.refl w.heap.size w)
 have H : (if a3 = a1 then (De.j0 k a1 l2 a3 true a0_0 a0_1) else (if (l2.length : Int) > 0 then (if 0 ≤ (wrap64 ((l2.length : Int) - 1)) then (if (wrap64 ((l2.length : Int) - 1)) < (l2.length : Int) then (De.j0 k a1 l2 a3 ((decide (a3 > a1)) == (decide ((rd l2 (wrap64 ((l2.length : Int) - 1))) > a1))) a0_0 a0_1) else (none)) else (none)) else (De.j0 k a1 l2 a3 false a0_0 a0_1))) = some r := h
 clear h
 have HC5 := Aa.k H
 clear H
 go_enter Try.func133, Try.ntmps133
 go_upto_region 1 with (((refine Be (N := 4) rfl ?_); (try (refine gate_guard (by rfl) ?_; dsimp only)); refine Bo ?hg (N := 4) ?hd (cs := #[.int .i64 a0_0, .bool a0_1]) (t := 25) ?hr ?_; (case hd => rfl); (case hg => rfl); (case hr => (go_simp; done)); intro gb136 hg w6 hbox hb; have BK136 := Aa.k (hbox); have GW136 := Aa.k ((by rw [hg]; exact (Af HB.o) : w.heap.size ≤ gb136)); have GE136 := Aa.k ((by rw [hg]; exact (Af HB.o) : w.heap.size ≤ gb136)); replace HB := Aa.k (Ad HB.o hb); clear hb hbox hg))
 (try simp only [Act.put, sT_, sZ_, sS_])
 go_cut [31] (fun v31 wc => ∃ (kq : Nat) (x31_4 : Bool), v31 = .bool x31_4 ∧ Aa (De.j0 kq a1 l2 a3 x31_4 a0_0 a0_1 = some r) ∧ Aa (kq ≤ k) ∧ Aa (wc.heap[gb136]? = some (.cells #[.int .i64 a0_0, .bool a0_1] 25 (0, 0))) ∧ Aa (Below w.heap.size w wc))
 case first =>
  have H := HC5.o
  clear HC5
  by_cases c7 : a3 = a1
  ·rw [if_pos c7] at H
   have c7b0 : (a3 == a1) = true := beq_iff_eq.mpr c7
   have c7b1 : (a3 != a1) = false := bne_eq_false_iff_eq.mpr c7
   clear c7
   ((skip))
   have H' := Aa.k H
   clear H
   go_wp2
   go_meet
   case rel => exact ⟨_, (true), (by (rfl)), H', ⟨by (omega)⟩, ⟨by exact BK136.o⟩, ⟨by exact HB.o⟩⟩
  rw [if_neg c7] at H
  have c7b0 : (a3 == a1) = false := beq_eq_false_iff_ne.mpr c7
  have c7b1 : (a3 != a1) = true := bne_iff_ne.mpr c7
  ((skip))
  by_cases c8 : (l2.length : Int) > 0
  rotate_left
  ·rw [if_neg c8] at H
   have c8b0 : decide (0 < (l2.length : Int)) = false := decide_eq_false c8
   have c8b1 : decide (0 < l2.length) = false := decide_eq_false (by omega)
   clear c8
   have H' := Aa.k H
   clear H
   go_wp2
   go_meet
   case rel => exact ⟨_, (false), (by (rfl)), H', ⟨by (omega)⟩, ⟨by exact BK136.o⟩, ⟨by exact HB.o⟩⟩
  rw [if_pos c8] at H
  have c8b0 : decide (0 < (l2.length : Int)) = true := decide_eq_true c8
  have c8b1 : decide (0 < l2.length) = true := decide_eq_true (by omega)
  clear c8
  obtain ⟨ji9, hji9⟩ : ∃ j_ : Int, (wrap64 ((l2.length : Int) - 1)) = j_ := ⟨_, rfl⟩
  replace H : (if 0 ≤ (ji9) then (if (ji9) < (l2.length : Int) then (De.j0 k a1 l2 a3 ((decide (a3 > a1)) == (decide ((rd l2 (ji9)) > a1))) a0_0 a0_1) else (none)) else (none)) = some r := by (rw [hji9] at H; exact H)
  have hji9w : (IntKind.i64.wrap ((l2.length : Int) - 1)) = ji9 := (Ah _).trans hji9
  by_cases c10 : 0 ≤ (ji9)
  rotate_left
  ·rw [if_neg c10] at H
   exact absurd H (by simp)
  rw [if_pos c10] at H
  have c10b0 : decide (0 ≤ (ji9)) = true := decide_eq_true c10
  clear c10
  by_cases c11 : (ji9) < (l2.length : Int)
  rotate_left
  ·rw [if_neg c11] at H
   exact absurd H (by simp)
  rw [if_pos c11] at H
  have c11b0 : decide ((ji9) < (l2.length : Int)) = true := decide_eq_true c11
  clear c11
  have H' := Aa.k H
  clear H
  have p137 : 0 ≤ ((ji9) : Int) := of_decide_eq_true (by (assumption))
  have q137 : (ji9) < (l2.length : Int) := of_decide_eq_true (by (assumption))
  obtain ⟨ad137, e137, hx137_0⟩ := Kd.Eo HR2.o (ji9) p137 q137
  cases e137
  replace hx137_0 := (HB.o.cell (World.block_lt_of_cell? w _ hx137_0)).trans hx137_0
  replace p137 := eq_true p137
  replace q137 := eq_true q137
  go_wp2
  go_meet
  case rel => exact ⟨_, (((decide (a3 > a1)) == (decide ((rd l2 (ji9)) > a1)))), (by (rfl)), H', ⟨by (omega)⟩, ⟨by exact BK136.o⟩, ⟨by exact HB.o⟩⟩
 case rest =>
  clear HC5
  obtain ⟨kq, x31_4, rfl, HA, HJ4, BK136, HB⟩ := hcut
  cases kq with
  | zero => exact absurd HA.o (by simp [De.j0])
  | succ kj4 =>
   have H := HA.o
   clear HA
   simp only [De.j0] at H
   by_cases c12 : x31_4 = true
   ·subst c12
    rw [if_pos rfl] at H
    obtain rfl := Option.some.inj H
    go_wp2
    go_ret
    exact ⟨by (rfl), by exact HB.o⟩
   replace c12 := Bool.eq_false_iff.mpr c12
   subst c12
   rw [if_neg (show ¬ (false = true) by decide)] at H
   have H' := Aa.k H
   clear H
   go_wp2
   go_loopg [9] kj4 (fun kq v9 w' => ∃ (x9_2 : Int), v9 = .int .i64 x9_2 ∧ Aa (De.l0 kq a1 l2 a3 x9_2 a0_0 a0_1 = some r) ∧ Aa (kq ≤ kj4) ∧ Aa (w'.heap[gb136]? = some (.cells #[.int .i64 a0_0, .bool a0_1] 25 (0, 0))) ∧ Aa (Below w.heap.size w w'))
   case atStart => exact ⟨(0), (by (rfl)), H', ⟨Nat.le_refl _⟩, ⟨by exact BK136.o⟩, ⟨by exact HB.o⟩⟩
   case round =>
    clear H'
    obtain ⟨x9_2, rfl, HA, HK2, BK136, HB⟩ := hrel
    cases gk with
    | zero => exact absurd HA.o (by simp [De.l0])
    | succ k2 =>
     have H := HA.o
     clear HA
     simp only [De.l0] at H
     by_cases c13 : x9_2 < (l2.length : Int)
     rotate_left
     ·rw [if_neg c13] at H
      have c13b0 : decide (x9_2 < (l2.length : Int)) = false := decide_eq_false c13
      clear c13
      obtain rfl := Option.some.inj H
      go_wp2
      go_ret
      exact ⟨by (rfl), by exact HB.o⟩
     rw [if_pos c13] at H
     have c13b0 : decide (x9_2 < (l2.length : Int)) = true := decide_eq_true c13
     clear c13
     by_cases c14 : 0 ≤ x9_2
     rotate_left
     ·rw [if_neg c14] at H
      exact absurd H (by simp)
     rw [if_pos c14] at H
     have c14b0 : decide (0 ≤ x9_2) = true := decide_eq_true c14
     clear c14
     by_cases c15 : ((decide ((rd l2 x9_2) > a1)) == (decide (a3 > a1))) = true
     rotate_left
     ·rw [if_neg c15] at H
      have c15b0 : ((decide ((rd l2 x9_2) > a1)) == (decide (a3 > a1))) = false := by simpa using c15
      (try (have c15b1 : decide ((decide ((rd l2 x9_2) > a1)) = (decide (a3 > a1))) = false := by simpa using c15))
      (try (have c15b2 : ((decide ((rd l2 x9_2) > a1)) == (decide (a3 > a1))) = false := by simpa using c15))
      (try (have c15b3 : ¬ ((decide ((rd l2 x9_2) > a1)) = (decide (a3 > a1))) := by simpa using c15))
      clear c15
      have H' := Aa.k H
      clear H
      try go_wp2
      replace BK136 := Aa.k (Dt BK136.o)
      replace HB := Aa.k (Cf HB.o)
      have p138 : 0 ≤ (x9_2 : Int) := of_decide_eq_true (by (assumption))
      have q138 : x9_2 < (l2.length : Int) := of_decide_eq_true (by (assumption))
      obtain ⟨ad138, e138, hx138_0⟩ := Kd.Eo HR2.o x9_2 p138 q138
      have hw138_0 := hx138_0
      cases e138
      replace hx138_0 := (HB.o.cell (World.block_lt_of_cell? w _ hx138_0)).trans hx138_0
      replace p138 := eq_true p138
      replace q138 := eq_true q138
      refine Fp (n := 24) (S := fun w' => w'.cell? (ad138.add (x9_2).toNat) = some (.int .i64 (rd l2 x9_2))) (ds := []) #[N_,N_,N_,N_,N_,N_,N_,N_,N_,N_,N_,N_,N_,N_,N_,N_,N_,N_,N_,N_,N_,N_,N_,N_] (by kernel_rfl) rfl rfl (((HB.o.cell (World.block_lt_of_cell? w _ hw138_0)).trans hw138_0)) (fun hHeld => ?_); refine Dv De.tab6 De.bits6 (fun HT_ HW_ => ?_)
      generalize wr.drew = w25 at BK136 HB hx138_0 hHeld ⊢
      apply pq_ 0 38 #[Y_,N_,N_,N_,N_,N_,N_,N_,N_,N_,N_,N_,N_,N_,N_,N_,N_,N_,N_,N_,N_,N_,N_,N_] HT_ rfl rfl (by kernel_rfl) (fun _ _ _ h => h) (by rfl)
      ·intro w'; go_simp; rfl
      ·simp only [Act.put, sT_, sZ_, sS_, Ah, Ai]; rfl
      apply pq_ 1 39 #[Y_,Y_,N_,N_,N_,N_,N_,N_,N_,N_,N_,N_,N_,N_,N_,N_,N_,N_,N_,N_,N_,N_,N_,N_] HT_ rfl rfl (by kernel_rfl) (fun _ _ _ h => h) (by rfl)
      ·intro w'; go_simp; rfl
      ·simp only [Act.put, sT_, sZ_, sS_, Ah, Ai]; rfl
      apply pq_ 2 40 #[Y_,Y_,Y_,N_,N_,N_,N_,N_,N_,N_,N_,N_,N_,N_,N_,N_,N_,N_,N_,N_,N_,N_,N_,N_] HT_ rfl rfl (by kernel_rfl) (fun _ _ _ h => h) (by rfl)
      ·intro w'; go_simp; rfl
      ·simp only [Act.put, sT_, sZ_, sS_, Ah, Ai]; rfl
      apply pq_ 4 42 #[Y_,Y_,Y_,N_,Y_,N_,N_,N_,N_,N_,N_,N_,N_,N_,N_,N_,N_,N_,N_,N_,N_,N_,N_,N_] HT_ rfl rfl (by kernel_rfl) (fun _ _ _ h => h) (by rfl)
      ·intro w'; go_simp; rfl
      ·simp only [Act.put, sT_, sZ_, sS_, Ah, Ai]; rfl
      apply pq_ 6 44 #[Y_,Y_,Y_,N_,Y_,N_,Y_,N_,N_,N_,N_,N_,N_,N_,N_,N_,N_,N_,N_,N_,N_,N_,N_,N_] HT_ rfl rfl (by kernel_rfl) (fun _ _ _ h => h) (by rfl)
      ·intro w'; go_simp; rfl
      ·simp only [Act.put, sT_, sZ_, sS_, Ah, Ai]; rfl
      apply pq_ 7 45 #[Y_,Y_,Y_,N_,Y_,N_,Y_,Y_,N_,N_,N_,N_,N_,N_,N_,N_,N_,N_,N_,N_,N_,N_,N_,N_] HT_ rfl rfl (by kernel_rfl) (fun _ _ _ h => h) (by rfl)
      ·intro w'; go_simp; rfl
      ·simp only [Act.put, sT_, sZ_, sS_, Ah, Ai]; rfl
      apply pq_ 8 46 #[Y_,Y_,Y_,N_,Y_,N_,Y_,Y_,Y_,N_,N_,N_,N_,N_,N_,N_,N_,N_,N_,N_,N_,N_,N_,N_] HT_ rfl rfl (by kernel_rfl) (fun _ _ _ h => h) (by rfl)
      ·intro w'; go_simp; rfl
      ·simp only [Act.put, sT_, sZ_, sS_, Ah, Ai]; rfl
      refine En (i := 3) (N := some 41) (v := ?_) (a' := ?_) #[Y_,Y_,Y_,Y_,Y_,N_,Y_,Y_,Y_,N_,N_,N_,N_,N_,N_,N_,N_,N_,N_,N_,N_,N_,N_,N_] rfl rfl (Cm HT_.o HW_.o (by kernel_rfl)) (fun _ _ _ h => h) (Or.inl ⟨by rfl, ?_⟩) hHeld ?_ ?_
      rotate_left
      ·intro w' s0
       go_simp
       rfl
      rotate_left
      ·simp only [Act.put, sT_, sZ_, sS_, Ah, Ai]
       rfl
      apply pq_ 5 43 #[Y_,Y_,Y_,Y_,Y_,Y_,Y_,Y_,Y_,N_,N_,N_,N_,N_,N_,N_,N_,N_,N_,N_,N_,N_,N_,N_] HT_ rfl rfl (by kernel_rfl) (fun _ _ _ h => h) (by rfl)
      ·intro w'; go_simp; rfl
      ·simp only [Act.put, sT_, sZ_, sS_, Ah, Ai]; rfl
      apply pq_ 9 47 #[Y_,Y_,Y_,Y_,Y_,Y_,Y_,Y_,Y_,Y_,N_,N_,N_,N_,N_,N_,N_,N_,N_,N_,N_,N_,N_,N_] HT_ rfl rfl (by kernel_rfl) (fun _ _ _ h => h) (by rfl)
      ·intro w'; go_simp; rfl
      ·simp only [Act.put, sT_, sZ_, sS_, Ah, Ai]; rfl
      apply pq_ 10 48 #[Y_,Y_,Y_,Y_,Y_,Y_,Y_,Y_,Y_,Y_,Y_,N_,N_,N_,N_,N_,N_,N_,N_,N_,N_,N_,N_,N_] HT_ rfl rfl (by kernel_rfl) (fun _ _ _ h => h) (by rfl)
      ·intro w'; go_simp; rfl
      ·simp only [Act.put, sT_, sZ_, sS_, Ah, Ai]; rfl
      refine Ei (i := 11) (N := some 49) (v := undef) (a' := ?_) #[Y_,Y_,Y_,Y_,Y_,Y_,Y_,Y_,Y_,Y_,Y_,Y_,N_,N_,N_,N_,N_,N_,N_,N_,N_,N_,N_,N_] rfl rfl (Di HT_.o (by kernel_rfl)) (fun _ _ _ h => h) (Or.inr ⟨by rfl, rfl⟩) ?_ ?_
      rotate_left
      ·simp only [Act.put, sT_, sZ_, sS_, Ah, Ai]
       rfl
      refine Ei (i := 12) (N := some 50) (v := undef) (a' := ?_) #[Y_,Y_,Y_,Y_,Y_,Y_,Y_,Y_,Y_,Y_,Y_,Y_,Y_,N_,N_,N_,N_,N_,N_,N_,N_,N_,N_,N_] rfl rfl (Di HT_.o (by kernel_rfl)) (fun _ _ _ h => h) (Or.inr ⟨by rfl, rfl⟩) ?_ ?_
      rotate_left
      ·simp only [Act.put, sT_, sZ_, sS_, Ah, Ai]
       rfl
      refine Ei (i := 13) (N := some 51) (v := undef) (a' := ?_) #[Y_,Y_,Y_,Y_,Y_,Y_,Y_,Y_,Y_,Y_,Y_,Y_,Y_,Y_,N_,N_,N_,N_,N_,N_,N_,N_,N_,N_] rfl rfl (Di HT_.o (by kernel_rfl)) (fun _ _ _ h => h) (Or.inr ⟨by rfl, rfl⟩) ?_ ?_
      rotate_left
      ·simp only [Act.put, sT_, sZ_, sS_, Ah, Ai]
       rfl
      refine Ei (i := 14) (N := some 52) (v := undef) (a' := ?_) #[Y_,Y_,Y_,Y_,Y_,Y_,Y_,Y_,Y_,Y_,Y_,Y_,Y_,Y_,Y_,N_,N_,N_,N_,N_,N_,N_,N_,N_] rfl rfl (Di HT_.o (by kernel_rfl)) (fun _ _ _ h => h) (Or.inr ⟨by rfl, rfl⟩) ?_ ?_
      rotate_left
      ·simp only [Act.put, sT_, sZ_, sS_, Ah, Ai]
       rfl
      refine Ei (i := 15) (N := some 53) (v := undef) (a' := ?_) #[Y_,Y_,Y_,Y_,Y_,Y_,Y_,Y_,Y_,Y_,Y_,Y_,Y_,Y_,Y_,Y_,N_,N_,N_,N_,N_,N_,N_,N_] rfl rfl (Di HT_.o (by kernel_rfl)) (fun _ _ _ h => h) (Or.inr ⟨by rfl, rfl⟩) ?_ ?_
      rotate_left
      ·simp only [Act.put, sT_, sZ_, sS_, Ah, Ai]
       rfl
      refine Ei (i := 16) (N := some 54) (v := undef) (a' := ?_) #[Y_,Y_,Y_,Y_,Y_,Y_,Y_,Y_,Y_,Y_,Y_,Y_,Y_,Y_,Y_,Y_,Y_,N_,N_,N_,N_,N_,N_,N_] rfl rfl (Di HT_.o (by kernel_rfl)) (fun _ _ _ h => h) (Or.inr ⟨by rfl, rfl⟩) ?_ ?_
      rotate_left
      ·simp only [Act.put, sT_, sZ_, sS_, Ah, Ai]
       rfl
      refine Ei (i := 17) (N := some 55) (v := undef) (a' := ?_) #[Y_,Y_,Y_,Y_,Y_,Y_,Y_,Y_,Y_,Y_,Y_,Y_,Y_,Y_,Y_,Y_,Y_,Y_,N_,N_,N_,N_,N_,N_] rfl rfl (Di HT_.o (by kernel_rfl)) (fun _ _ _ h => h) (Or.inr ⟨by rfl, rfl⟩) ?_ ?_
      rotate_left
      ·simp only [Act.put, sT_, sZ_, sS_, Ah, Ai]
       rfl
      refine Ei (i := 18) (N := some 56) (v := undef) (a' := ?_) #[Y_,Y_,Y_,Y_,Y_,Y_,Y_,Y_,Y_,Y_,Y_,Y_,Y_,Y_,Y_,Y_,Y_,Y_,Y_,N_,N_,N_,N_,N_] rfl rfl (Di HT_.o (by kernel_rfl)) (fun _ _ _ h => h) (Or.inr ⟨by rfl, rfl⟩) ?_ ?_
      rotate_left
      ·simp only [Act.put, sT_, sZ_, sS_, Ah, Ai]
       rfl
      refine Ei (i := 19) (N := some 57) (v := undef) (a' := ?_) #[Y_,Y_,Y_,Y_,Y_,Y_,Y_,Y_,Y_,Y_,Y_,Y_,Y_,Y_,Y_,Y_,Y_,Y_,Y_,Y_,N_,N_,N_,N_] rfl rfl (Di HT_.o (by kernel_rfl)) (fun _ _ _ h => h) (Or.inr ⟨by rfl, rfl⟩) ?_ ?_
      rotate_left
      ·simp only [Act.put, sT_, sZ_, sS_, Ah, Ai]
       rfl
      refine Ei (i := 20) (N := some 58) (v := undef) (a' := ?_) #[Y_,Y_,Y_,Y_,Y_,Y_,Y_,Y_,Y_,Y_,Y_,Y_,Y_,Y_,Y_,Y_,Y_,Y_,Y_,Y_,Y_,N_,N_,N_] rfl rfl (Di HT_.o (by kernel_rfl)) (fun _ _ _ h => h) (Or.inr ⟨by rfl, rfl⟩) ?_ ?_
      rotate_left
      ·simp only [Act.put, sT_, sZ_, sS_, Ah, Ai]
       rfl
      refine Ei (i := 21) (N := some 59) (v := undef) (a' := ?_) #[Y_,Y_,Y_,Y_,Y_,Y_,Y_,Y_,Y_,Y_,Y_,Y_,Y_,Y_,Y_,Y_,Y_,Y_,Y_,Y_,Y_,Y_,N_,N_] rfl rfl (Di HT_.o (by kernel_rfl)) (fun _ _ _ h => h) (Or.inr ⟨by rfl, rfl⟩) ?_ ?_
      rotate_left
      ·simp only [Act.put, sT_, sZ_, sS_, Ah, Ai]
       rfl
      refine Ei (i := 22) (N := some 60) (v := undef) (a' := ?_) #[Y_,Y_,Y_,Y_,Y_,Y_,Y_,Y_,Y_,Y_,Y_,Y_,Y_,Y_,Y_,Y_,Y_,Y_,Y_,Y_,Y_,Y_,Y_,N_] rfl rfl (Di HT_.o (by kernel_rfl)) (fun _ _ _ h => h) (Or.inr ⟨by rfl, rfl⟩) ?_ ?_
      rotate_left
      ·simp only [Act.put, sT_, sZ_, sS_, Ah, Ai]
       rfl
      apply pq_ 23 61 #[Y_,Y_,Y_,Y_,Y_,Y_,Y_,Y_,Y_,Y_,Y_,Y_,Y_,Y_,Y_,Y_,Y_,Y_,Y_,Y_,Y_,Y_,Y_,Y_] HT_ rfl rfl (by kernel_rfl) (fun _ _ _ h => h) (by rfl)
      ·intro w'; go_simp; rfl
      ·simp only [Act.put, sT_, sZ_, sS_, Ah, Ai]; rfl
      refine done_ (Fa HT_.o (by kernel_rfl)) ?_
      try go_wp2
      go_roundg k2
      case measure => have := HJ4.o; have := HK2.o; omega
      case rel => exact ⟨(wrap64 (x9_2 + 1)), (by (rfl)), H', ⟨by have := HJ4.o; have := HK2.o; omega⟩, ⟨by exact BK136.o⟩, ⟨by exact HB.o⟩⟩
     rw [if_pos c15] at H
     have c15b0 : ((decide ((rd l2 x9_2) > a1)) == (decide (a3 > a1))) = true := c15
     (try (have c15b1 : decide ((decide ((rd l2 x9_2) > a1)) = (decide (a3 > a1))) = true := by simpa using c15))
     (try (have c15b2 : ((decide ((rd l2 x9_2) > a1)) == (decide (a3 > a1))) = true := by simpa using c15))
     clear c15
     obtain ⟨t139, A160, H⟩ := bindS_ H
     try dsimp only at H
     have A16 := Aa.k A160
     clear A160
     obtain ⟨t141, A170, H⟩ := bindS_ H
     try dsimp only at H
     have A17 := Aa.k A170
     clear A170
     by_cases c18 : t139 ≤ t141
     ·rw [if_pos c18] at H
      have c18b0 : decide (t139 ≤ t141) = true := decide_eq_true c18
      clear c18
      obtain rfl := Option.some.inj H
      try go_wp2
      replace BK136 := Aa.k (Dt BK136.o)
      replace HB := Aa.k (Cf HB.o)
      have p138 : 0 ≤ (x9_2 : Int) := of_decide_eq_true (by (assumption))
      have q138 : x9_2 < (l2.length : Int) := of_decide_eq_true (by (assumption))
      obtain ⟨ad138, e138, hx138_0⟩ := Kd.Eo HR2.o x9_2 p138 q138
      have hw138_0 := hx138_0
      cases e138
      replace hx138_0 := (HB.o.cell (World.block_lt_of_cell? w _ hx138_0)).trans hx138_0
      replace p138 := eq_true p138
      replace q138 := eq_true q138
      have p140 : 0 ≤ (x9_2 : Int) := of_decide_eq_true (by (assumption))
      have q140 : x9_2 < (l2.length : Int) := of_decide_eq_true (by (assumption))
      obtain ⟨ad140, e140, hx140_0⟩ := Kd.Eo HR2.o x9_2 p140 q140
      have hw140_0 := hx140_0
      obtain rfl : ad138 = ad140 := (by injection e140)
      replace hx140_0 := (HB.o.cell (World.block_lt_of_cell? w _ hx140_0)).trans hx140_0
      replace p140 := eq_true p140
      replace q140 := eq_true q140
      refine Fp (n := 24) (S := fun w' => w'.cell? ⟨gb136, 0, none⟩ = some (.int .i64 a0_0) ∧ w'.cell? ⟨gb136, 1, none⟩ = some (.bool a0_1) ∧ w'.cell? (ad138.add (x9_2).toNat) = some (.int .i64 (rd l2 x9_2)) ∧ w'.cell? (ad138.add (x9_2).toNat) = some (.int .i64 (rd l2 x9_2))) (ds := []) #[N_,N_,N_,N_,N_,N_,N_,N_,N_,N_,N_,N_,N_,N_,N_,N_,N_,N_,N_,N_,N_,N_,N_,N_] (by kernel_rfl) rfl rfl ⟨(Aw BK136.o 0).trans rfl, (Aw BK136.o 1).trans rfl, ((HB.o.cell (World.block_lt_of_cell? w _ hw138_0)).trans hw138_0), ((HB.o.cell (World.block_lt_of_cell? w _ hw140_0)).trans hw140_0)⟩ (fun hHeld => ?_); refine Dv De.tab6 De.bits6 (fun HT_ HW_ => ?_)
      generalize wr.drew = w19 at BK136 HB hx138_0 hx140_0 hHeld ⊢
      apply pq_ 0 38 #[Y_,N_,N_,N_,N_,N_,N_,N_,N_,N_,N_,N_,N_,N_,N_,N_,N_,N_,N_,N_,N_,N_,N_,N_] HT_ rfl rfl (by kernel_rfl) (fun _ _ _ h => h) (by rfl)
      ·intro w'; go_simp; rfl
      ·simp only [Act.put, sT_, sZ_, sS_, Ah, Ai]; rfl
      apply pq_ 1 39 #[Y_,Y_,N_,N_,N_,N_,N_,N_,N_,N_,N_,N_,N_,N_,N_,N_,N_,N_,N_,N_,N_,N_,N_,N_] HT_ rfl rfl (by kernel_rfl) (fun _ _ _ h => h) (by rfl)
      ·intro w'; go_simp; rfl
      ·simp only [Act.put, sT_, sZ_, sS_, Ah, Ai]; rfl
      apply pq_ 2 40 #[Y_,Y_,Y_,N_,N_,N_,N_,N_,N_,N_,N_,N_,N_,N_,N_,N_,N_,N_,N_,N_,N_,N_,N_,N_] HT_ rfl rfl (by kernel_rfl) (fun _ _ _ h => h) (by rfl)
      ·intro w'; go_simp; rfl
      ·simp only [Act.put, sT_, sZ_, sS_, Ah, Ai]; rfl
      apply pq_ 4 42 #[Y_,Y_,Y_,N_,Y_,N_,N_,N_,N_,N_,N_,N_,N_,N_,N_,N_,N_,N_,N_,N_,N_,N_,N_,N_] HT_ rfl rfl (by kernel_rfl) (fun _ _ _ h => h) (by rfl)
      ·intro w'; go_simp; rfl
      ·simp only [Act.put, sT_, sZ_, sS_, Ah, Ai]; rfl
      apply pq_ 6 44 #[Y_,Y_,Y_,N_,Y_,N_,Y_,N_,N_,N_,N_,N_,N_,N_,N_,N_,N_,N_,N_,N_,N_,N_,N_,N_] HT_ rfl rfl (by kernel_rfl) (fun _ _ _ h => h) (by rfl)
      ·intro w'; go_simp; rfl
      ·simp only [Act.put, sT_, sZ_, sS_, Ah, Ai]; rfl
      apply pq_ 7 45 #[Y_,Y_,Y_,N_,Y_,N_,Y_,Y_,N_,N_,N_,N_,N_,N_,N_,N_,N_,N_,N_,N_,N_,N_,N_,N_] HT_ rfl rfl (by kernel_rfl) (fun _ _ _ h => h) (by rfl)
      ·intro w'; go_simp; rfl
      ·simp only [Act.put, sT_, sZ_, sS_, Ah, Ai]; rfl
      apply pq_ 8 46 #[Y_,Y_,Y_,N_,Y_,N_,Y_,Y_,Y_,N_,N_,N_,N_,N_,N_,N_,N_,N_,N_,N_,N_,N_,N_,N_] HT_ rfl rfl (by kernel_rfl) (fun _ _ _ h => h) (by rfl)
      ·intro w'; go_simp; rfl
      ·simp only [Act.put, sT_, sZ_, sS_, Ah, Ai]; rfl
      refine En (i := 3) (N := some 41) (v := ?_) (a' := ?_) #[Y_,Y_,Y_,Y_,Y_,N_,Y_,Y_,Y_,N_,N_,N_,N_,N_,N_,N_,N_,N_,N_,N_,N_,N_,N_,N_] rfl rfl (Cm HT_.o HW_.o (by kernel_rfl)) (fun _ _ _ h => h) (Or.inl ⟨by rfl, ?_⟩) hHeld ?_ ?_
      rotate_left
      ·rintro w' ⟨s0, s1, s2, s3⟩
       go_simp
       rfl
      rotate_left
      ·simp only [Act.put, sT_, sZ_, sS_, Ah, Ai]
       rfl
      apply pq_ 5 43 #[Y_,Y_,Y_,Y_,Y_,Y_,Y_,Y_,Y_,N_,N_,N_,N_,N_,N_,N_,N_,N_,N_,N_,N_,N_,N_,N_] HT_ rfl rfl (by kernel_rfl) (fun _ _ _ h => h) (by rfl)
      ·intro w'; go_simp; rfl
      ·simp only [Act.put, sT_, sZ_, sS_, Ah, Ai]; rfl
      apply pq_ 9 47 #[Y_,Y_,Y_,Y_,Y_,Y_,Y_,Y_,Y_,Y_,N_,N_,N_,N_,N_,N_,N_,N_,N_,N_,N_,N_,N_,N_] HT_ rfl rfl (by kernel_rfl) (fun _ _ _ h => h) (by rfl)
      ·intro w'; go_simp; rfl
      ·simp only [Act.put, sT_, sZ_, sS_, Ah, Ai]; rfl
      apply pq_ 10 48 #[Y_,Y_,Y_,Y_,Y_,Y_,Y_,Y_,Y_,Y_,Y_,N_,N_,N_,N_,N_,N_,N_,N_,N_,N_,N_,N_,N_] HT_ rfl rfl (by kernel_rfl) (fun _ _ _ h => h) (by rfl)
      ·intro w'; go_simp; rfl
      ·simp only [Act.put, sT_, sZ_, sS_, Ah, Ai]; rfl
      apply pq_ 12 50 #[Y_,Y_,Y_,Y_,Y_,Y_,Y_,Y_,Y_,Y_,Y_,N_,Y_,N_,N_,N_,N_,N_,N_,N_,N_,N_,N_,N_] HT_ rfl rfl (by kernel_rfl) (fun _ _ _ h => h) (by rfl)
      ·intro w'; go_simp; rfl
      ·simp only [Act.put, sT_, sZ_, sS_, Ah, Ai]; rfl
      apply pq_ 13 51 #[Y_,Y_,Y_,Y_,Y_,Y_,Y_,Y_,Y_,Y_,Y_,N_,Y_,Y_,N_,N_,N_,N_,N_,N_,N_,N_,N_,N_] HT_ rfl rfl (by kernel_rfl) (fun _ _ _ h => h) (by rfl)
      ·intro w'; go_simp; rfl
      ·simp only [Act.put, sT_, sZ_, sS_, Ah, Ai]; rfl
      apply pq_ 16 54 #[Y_,Y_,Y_,Y_,Y_,Y_,Y_,Y_,Y_,Y_,Y_,N_,Y_,Y_,N_,N_,Y_,N_,N_,N_,N_,N_,N_,N_] HT_ rfl rfl (by kernel_rfl) (fun _ _ _ h => h) (by rfl)
      ·intro w'; go_simp; rfl
      ·simp only [Act.put, sT_, sZ_, sS_, Ah, Ai]; rfl
      apply pq_ 17 55 #[Y_,Y_,Y_,Y_,Y_,Y_,Y_,Y_,Y_,Y_,Y_,N_,Y_,Y_,N_,N_,Y_,Y_,N_,N_,N_,N_,N_,N_] HT_ rfl rfl (by kernel_rfl) (fun _ _ _ h => h) (by rfl)
      ·intro w'; go_simp; rfl
      ·simp only [Act.put, sT_, sZ_, sS_, Ah, Ai]; rfl
      apply pq_ 18 56 #[Y_,Y_,Y_,Y_,Y_,Y_,Y_,Y_,Y_,Y_,Y_,N_,Y_,Y_,N_,N_,Y_,Y_,Y_,N_,N_,N_,N_,N_] HT_ rfl rfl (by kernel_rfl) (fun _ _ _ h => h) (by rfl)
      ·intro w'; go_simp; rfl
      ·simp only [Act.put, sT_, sZ_, sS_, Ah, Ai]; rfl
      apply pq_ 19 57 #[Y_,Y_,Y_,Y_,Y_,Y_,Y_,Y_,Y_,Y_,Y_,N_,Y_,Y_,N_,N_,Y_,Y_,Y_,Y_,N_,N_,N_,N_] HT_ rfl rfl (by kernel_rfl) (fun _ _ _ h => h) (by rfl)
      ·intro w'; go_simp; rfl
      ·simp only [Act.put, sT_, sZ_, sS_, Ah, Ai]; rfl
      refine En (i := 11) (N := some 49) (v := ?_) (a' := ?_) #[Y_,Y_,Y_,Y_,Y_,Y_,Y_,Y_,Y_,Y_,Y_,Y_,Y_,Y_,N_,N_,Y_,Y_,Y_,Y_,N_,N_,N_,N_] rfl rfl (Cm HT_.o HW_.o (by kernel_rfl)) (fun _ _ _ h => h) (Or.inl ⟨by rfl, ?_⟩) hHeld ?_ ?_
      rotate_left
      ·rintro w' ⟨s0, s1, s2, s3⟩
       go_simp
       rfl
      rotate_left
      ·simp only [Act.put, sT_, sZ_, sS_, Ah, Ai]
       rfl
      refine En (i := 15) (N := some 53) (v := ?_) (a' := ?_) #[Y_,Y_,Y_,Y_,Y_,Y_,Y_,Y_,Y_,Y_,Y_,Y_,Y_,Y_,N_,Y_,Y_,Y_,Y_,Y_,N_,N_,N_,N_] rfl rfl (Cm HT_.o HW_.o (by kernel_rfl)) (fun _ _ _ h => h) (Or.inl ⟨by rfl, ?_⟩) hHeld ?_ ?_
      rotate_left
      ·rintro w' ⟨s0, s1, s2, s3⟩
       go_simp
       rfl
      rotate_left
      ·simp only [Act.put, sT_, sZ_, sS_, Ah, Ai]
       rfl
      refine En (i := 20) (N := some 58) (v := ?_) (a' := ?_) #[Y_,Y_,Y_,Y_,Y_,Y_,Y_,Y_,Y_,Y_,Y_,Y_,Y_,Y_,N_,Y_,Y_,Y_,Y_,Y_,Y_,N_,N_,N_] rfl rfl (Cm HT_.o HW_.o (by kernel_rfl)) (fun _ _ _ h => h) (Or.inl ⟨by rfl, ?_⟩) hHeld ?_ ?_
      rotate_left
      ·rintro w' ⟨s0, s1, s2, s3⟩
       go_simp
       rfl
      rotate_left
      ·simp only [Act.put, sT_, sZ_, sS_, Ah, Ai]
       rfl
      refine one_ (i := 14) (N := some 52) #[Y_,Y_,Y_,Y_,Y_,Y_,Y_,Y_,Y_,Y_,Y_,Y_,Y_,Y_,Y_,Y_,Y_,Y_,Y_,Y_,Y_,N_,N_,N_] rfl rfl (Ej HT_.o (by kernel_rfl)) (by decide) (fun K hK => ?_)
      refine goes_ Try.func64 (by kernel_rfl) rfl #[.agg #[.int .i64 a0_0, .bool a0_1], .int .i64 a1, .int .i64 a3] (by rfl) rfl rfl (by (try simp only [mT_, mC_, mN_]); rfl) ?_
      refine (Fz.calls a0_0 a0_1 a1 a3 t139 _ A16.o).mono ?_
      rintro e w20 ⟨rfl, hb⟩
      refine ⟨_, rfl, ?_⟩
      replace BK136 := Aa.k (Ae (g := gb136) (o := .cells #[.int .i64 a0_0, .bool a0_1] 25 (0, 0)) (by exact BK136.o) hb)
      replace HB := Aa.k (Ad HB.o hb)
      clear hb
      refine hK.out _ _ ⟨(Aw BK136.o 0).trans rfl, (Aw BK136.o 1).trans rfl, ((HB.o.cell (World.block_lt_of_cell? w _ hw138_0)).trans hw138_0), ((HB.o.cell (World.block_lt_of_cell? w _ hw140_0)).trans hw140_0)⟩ (fun hHeld => ?_)
      clear hK K
      refine Es (a' := ?_) ?_ ?_
      rotate_left
      ·show Act.put _ (some 52) _ = _
       simp only [Act.put, sT_, sZ_, sS_, Ah, Ai]
       rfl
      refine one_ (i := 21) (N := some 59) #[Y_,Y_,Y_,Y_,Y_,Y_,Y_,Y_,Y_,Y_,Y_,Y_,Y_,Y_,Y_,Y_,Y_,Y_,Y_,Y_,Y_,Y_,N_,N_] rfl rfl (Ej HT_.o (by kernel_rfl)) (by decide) (fun K hK => ?_)
      refine goes_ Try.func64 (by kernel_rfl) rfl #[.agg #[.int .i64 a0_0, .bool a0_1], .int .i64 a1, .int .i64 (rd l2 x9_2)] (by rfl) rfl rfl (by (try simp only [mT_, mC_, mN_]); rfl) ?_
      refine (Fz.calls a0_0 a0_1 a1 (rd l2 x9_2) t141 _ A17.o).mono ?_
      rintro e w21 ⟨rfl, hb⟩
      refine ⟨_, rfl, ?_⟩
      replace BK136 := Aa.k (Ae (g := gb136) (o := .cells #[.int .i64 a0_0, .bool a0_1] 25 (0, 0)) (by exact BK136.o) hb)
      replace HB := Aa.k (Ad HB.o hb)
      clear hb
      refine hK.out _ _ ⟨(Aw BK136.o 0).trans rfl, (Aw BK136.o 1).trans rfl, ((HB.o.cell (World.block_lt_of_cell? w _ hw138_0)).trans hw138_0), ((HB.o.cell (World.block_lt_of_cell? w _ hw140_0)).trans hw140_0)⟩ (fun hHeld => ?_)
      clear hK K
      refine Es (a' := ?_) ?_ ?_
      rotate_left
      ·show Act.put _ (some 59) _ = _
       simp only [Act.put, sT_, sZ_, sS_, Ah, Ai]
       rfl
      apply pq_ 22 60 #[Y_,Y_,Y_,Y_,Y_,Y_,Y_,Y_,Y_,Y_,Y_,Y_,Y_,Y_,Y_,Y_,Y_,Y_,Y_,Y_,Y_,Y_,Y_,N_] HT_ rfl rfl (by kernel_rfl) (fun _ _ _ h => h) (by rfl)
      ·intro w'; go_simp; rfl
      ·simp only [Act.put, sT_, sZ_, sS_, Ah, Ai]; rfl
      apply pq_ 23 61 #[Y_,Y_,Y_,Y_,Y_,Y_,Y_,Y_,Y_,Y_,Y_,Y_,Y_,Y_,Y_,Y_,Y_,Y_,Y_,Y_,Y_,Y_,Y_,Y_] HT_ rfl rfl (by kernel_rfl) (fun _ _ _ h => h) (by rfl)
      ·intro w'; go_simp; rfl
      ·simp only [Act.put, sT_, sZ_, sS_, Ah, Ai]; rfl
      refine done_ (Fa HT_.o (by kernel_rfl)) ?_
      try go_wp2
      go_ret
      exact ⟨by (rfl), by exact HB.o⟩
     rw [if_neg c18] at H
     have c18b0 : decide (t139 ≤ t141) = false := decide_eq_false c18
     clear c18
     have H' := Aa.k H
     clear H
     try go_wp2
     replace BK136 := Aa.k (Dt BK136.o)
     replace HB := Aa.k (Cf HB.o)
     have p138 : 0 ≤ (x9_2 : Int) := of_decide_eq_true (by (assumption))
     have q138 : x9_2 < (l2.length : Int) := of_decide_eq_true (by (assumption))
     obtain ⟨ad138, e138, hx138_0⟩ := Kd.Eo HR2.o x9_2 p138 q138
     have hw138_0 := hx138_0
     cases e138
     replace hx138_0 := (HB.o.cell (World.block_lt_of_cell? w _ hx138_0)).trans hx138_0
     replace p138 := eq_true p138
     replace q138 := eq_true q138
     have p140 : 0 ≤ (x9_2 : Int) := of_decide_eq_true (by (assumption))
     have q140 : x9_2 < (l2.length : Int) := of_decide_eq_true (by (assumption))
     obtain ⟨ad140, e140, hx140_0⟩ := Kd.Eo HR2.o x9_2 p140 q140
     have hw140_0 := hx140_0
     obtain rfl : ad138 = ad140 := (by injection e140)
     replace hx140_0 := (HB.o.cell (World.block_lt_of_cell? w _ hx140_0)).trans hx140_0
     replace p140 := eq_true p140
     replace q140 := eq_true q140
     refine Fp (n := 24) (S := fun w' => w'.cell? ⟨gb136, 0, none⟩ = some (.int .i64 a0_0) ∧ w'.cell? ⟨gb136, 1, none⟩ = some (.bool a0_1) ∧ w'.cell? (ad138.add (x9_2).toNat) = some (.int .i64 (rd l2 x9_2)) ∧ w'.cell? (ad138.add (x9_2).toNat) = some (.int .i64 (rd l2 x9_2))) (ds := []) #[N_,N_,N_,N_,N_,N_,N_,N_,N_,N_,N_,N_,N_,N_,N_,N_,N_,N_,N_,N_,N_,N_,N_,N_] (by kernel_rfl) rfl rfl ⟨(Aw BK136.o 0).trans rfl, (Aw BK136.o 1).trans rfl, ((HB.o.cell (World.block_lt_of_cell? w _ hw138_0)).trans hw138_0), ((HB.o.cell (World.block_lt_of_cell? w _ hw140_0)).trans hw140_0)⟩ (fun hHeld => ?_); refine Dv De.tab6 De.bits6 (fun HT_ HW_ => ?_)
     generalize wr.drew = w22 at BK136 HB hx138_0 hx140_0 hHeld ⊢
     apply pq_ 0 38 #[Y_,N_,N_,N_,N_,N_,N_,N_,N_,N_,N_,N_,N_,N_,N_,N_,N_,N_,N_,N_,N_,N_,N_,N_] HT_ rfl rfl (by kernel_rfl) (fun _ _ _ h => h) (by rfl)
     ·intro w'; go_simp; rfl
     ·simp only [Act.put, sT_, sZ_, sS_, Ah, Ai]; rfl
     apply pq_ 1 39 #[Y_,Y_,N_,N_,N_,N_,N_,N_,N_,N_,N_,N_,N_,N_,N_,N_,N_,N_,N_,N_,N_,N_,N_,N_] HT_ rfl rfl (by kernel_rfl) (fun _ _ _ h => h) (by rfl)
     ·intro w'; go_simp; rfl
     ·simp only [Act.put, sT_, sZ_, sS_, Ah, Ai]; rfl
     apply pq_ 2 40 #[Y_,Y_,Y_,N_,N_,N_,N_,N_,N_,N_,N_,N_,N_,N_,N_,N_,N_,N_,N_,N_,N_,N_,N_,N_] HT_ rfl rfl (by kernel_rfl) (fun _ _ _ h => h) (by rfl)
     ·intro w'; go_simp; rfl
     ·simp only [Act.put, sT_, sZ_, sS_, Ah, Ai]; rfl
     apply pq_ 4 42 #[Y_,Y_,Y_,N_,Y_,N_,N_,N_,N_,N_,N_,N_,N_,N_,N_,N_,N_,N_,N_,N_,N_,N_,N_,N_] HT_ rfl rfl (by kernel_rfl) (fun _ _ _ h => h) (by rfl)
     ·intro w'; go_simp; rfl
     ·simp only [Act.put, sT_, sZ_, sS_, Ah, Ai]; rfl
     apply pq_ 6 44 #[Y_,Y_,Y_,N_,Y_,N_,Y_,N_,N_,N_,N_,N_,N_,N_,N_,N_,N_,N_,N_,N_,N_,N_,N_,N_] HT_ rfl rfl (by kernel_rfl) (fun _ _ _ h => h) (by rfl)
     ·intro w'; go_simp; rfl
     ·simp only [Act.put, sT_, sZ_, sS_, Ah, Ai]; rfl
     apply pq_ 7 45 #[Y_,Y_,Y_,N_,Y_,N_,Y_,Y_,N_,N_,N_,N_,N_,N_,N_,N_,N_,N_,N_,N_,N_,N_,N_,N_] HT_ rfl rfl (by kernel_rfl) (fun _ _ _ h => h) (by rfl)
     ·intro w'; go_simp; rfl
     ·simp only [Act.put, sT_, sZ_, sS_, Ah, Ai]; rfl
     apply pq_ 8 46 #[Y_,Y_,Y_,N_,Y_,N_,Y_,Y_,Y_,N_,N_,N_,N_,N_,N_,N_,N_,N_,N_,N_,N_,N_,N_,N_] HT_ rfl rfl (by kernel_rfl) (fun _ _ _ h => h) (by rfl)
     ·intro w'; go_simp; rfl
     ·simp only [Act.put, sT_, sZ_, sS_, Ah, Ai]; rfl
     refine En (i := 3) (N := some 41) (v := ?_) (a' := ?_) #[Y_,Y_,Y_,Y_,Y_,N_,Y_,Y_,Y_,N_,N_,N_,N_,N_,N_,N_,N_,N_,N_,N_,N_,N_,N_,N_] rfl rfl (Cm HT_.o HW_.o (by kernel_rfl)) (fun _ _ _ h => h) (Or.inl ⟨by rfl, ?_⟩) hHeld ?_ ?_
     rotate_left
     ·rintro w' ⟨s0, s1, s2, s3⟩
      go_simp
      rfl
     rotate_left
     ·simp only [Act.put, sT_, sZ_, sS_, Ah, Ai]
      rfl
     apply pq_ 5 43 #[Y_,Y_,Y_,Y_,Y_,Y_,Y_,Y_,Y_,N_,N_,N_,N_,N_,N_,N_,N_,N_,N_,N_,N_,N_,N_,N_] HT_ rfl rfl (by kernel_rfl) (fun _ _ _ h => h) (by rfl)
     ·intro w'; go_simp; rfl
     ·simp only [Act.put, sT_, sZ_, sS_, Ah, Ai]; rfl
     apply pq_ 9 47 #[Y_,Y_,Y_,Y_,Y_,Y_,Y_,Y_,Y_,Y_,N_,N_,N_,N_,N_,N_,N_,N_,N_,N_,N_,N_,N_,N_] HT_ rfl rfl (by kernel_rfl) (fun _ _ _ h => h) (by rfl)
     ·intro w'; go_simp; rfl
     ·simp only [Act.put, sT_, sZ_, sS_, Ah, Ai]; rfl
     apply pq_ 10 48 #[Y_,Y_,Y_,Y_,Y_,Y_,Y_,Y_,Y_,Y_,Y_,N_,N_,N_,N_,N_,N_,N_,N_,N_,N_,N_,N_,N_] HT_ rfl rfl (by kernel_rfl) (fun _ _ _ h => h) (by rfl)
     ·intro w'; go_simp; rfl
     ·simp only [Act.put, sT_, sZ_, sS_, Ah, Ai]; rfl
     apply pq_ 12 50 #[Y_,Y_,Y_,Y_,Y_,Y_,Y_,Y_,Y_,Y_,Y_,N_,Y_,N_,N_,N_,N_,N_,N_,N_,N_,N_,N_,N_] HT_ rfl rfl (by kernel_rfl) (fun _ _ _ h => h) (by rfl)
     ·intro w'; go_simp; rfl
     ·simp only [Act.put, sT_, sZ_, sS_, Ah, Ai]; rfl
     apply pq_ 13 51 #[Y_,Y_,Y_,Y_,Y_,Y_,Y_,Y_,Y_,Y_,Y_,N_,Y_,Y_,N_,N_,N_,N_,N_,N_,N_,N_,N_,N_] HT_ rfl rfl (by kernel_rfl) (fun _ _ _ h => h) (by rfl)
     ·intro w'; go_simp; rfl
     ·simp only [Act.put, sT_, sZ_, sS_, Ah, Ai]; rfl
     apply pq_ 16 54 #[Y_,Y_,Y_,Y_,Y_,Y_,Y_,Y_,Y_,Y_,Y_,N_,Y_,Y_,N_,N_,Y_,N_,N_,N_,N_,N_,N_,N_] HT_ rfl rfl (by kernel_rfl) (fun _ _ _ h => h) (by rfl)
     ·intro w'; go_simp; rfl
     ·simp only [Act.put, sT_, sZ_, sS_, Ah, Ai]; rfl
     apply pq_ 17 55 #[Y_,Y_,Y_,Y_,Y_,Y_,Y_,Y_,Y_,Y_,Y_,N_,Y_,Y_,N_,N_,Y_,Y_,N_,N_,N_,N_,N_,N_] HT_ rfl rfl (by kernel_rfl) (fun _ _ _ h => h) (by rfl)
     ·intro w'; go_simp; rfl
     ·simp only [Act.put, sT_, sZ_, sS_, Ah, Ai]; rfl
     apply pq_ 18 56 #[Y_,Y_,Y_,Y_,Y_,Y_,Y_,Y_,Y_,Y_,Y_,N_,Y_,Y_,N_,N_,Y_,Y_,Y_,N_,N_,N_,N_,N_] HT_ rfl rfl (by kernel_rfl) (fun _ _ _ h => h) (by rfl)
     ·intro w'; go_simp; rfl
     ·simp only [Act.put, sT_, sZ_, sS_, Ah, Ai]; rfl
     apply pq_ 19 57 #[Y_,Y_,Y_,Y_,Y_,Y_,Y_,Y_,Y_,Y_,Y_,N_,Y_,Y_,N_,N_,Y_,Y_,Y_,Y_,N_,N_,N_,N_] HT_ rfl rfl (by kernel_rfl) (fun _ _ _ h => h) (by rfl)
     ·intro w'; go_simp; rfl
     ·simp only [Act.put, sT_, sZ_, sS_, Ah, Ai]; rfl
     refine En (i := 11) (N := some 49) (v := ?_) (a' := ?_) #[Y_,Y_,Y_,Y_,Y_,Y_,Y_,Y_,Y_,Y_,Y_,Y_,Y_,Y_,N_,N_,Y_,Y_,Y_,Y_,N_,N_,N_,N_] rfl rfl (Cm HT_.o HW_.o (by kernel_rfl)) (fun _ _ _ h => h) (Or.inl ⟨by rfl, ?_⟩) hHeld ?_ ?_
     rotate_left
     ·rintro w' ⟨s0, s1, s2, s3⟩
      go_simp
      rfl
     rotate_left
     ·simp only [Act.put, sT_, sZ_, sS_, Ah, Ai]
      rfl
     refine En (i := 15) (N := some 53) (v := ?_) (a' := ?_) #[Y_,Y_,Y_,Y_,Y_,Y_,Y_,Y_,Y_,Y_,Y_,Y_,Y_,Y_,N_,Y_,Y_,Y_,Y_,Y_,N_,N_,N_,N_] rfl rfl (Cm HT_.o HW_.o (by kernel_rfl)) (fun _ _ _ h => h) (Or.inl ⟨by rfl, ?_⟩) hHeld ?_ ?_
     rotate_left
     ·rintro w' ⟨s0, s1, s2, s3⟩
      go_simp
      rfl
     rotate_left
     ·simp only [Act.put, sT_, sZ_, sS_, Ah, Ai]
      rfl
     refine En (i := 20) (N := some 58) (v := ?_) (a' := ?_) #[Y_,Y_,Y_,Y_,Y_,Y_,Y_,Y_,Y_,Y_,Y_,Y_,Y_,Y_,N_,Y_,Y_,Y_,Y_,Y_,Y_,N_,N_,N_] rfl rfl (Cm HT_.o HW_.o (by kernel_rfl)) (fun _ _ _ h => h) (Or.inl ⟨by rfl, ?_⟩) hHeld ?_ ?_
     rotate_left
     ·rintro w' ⟨s0, s1, s2, s3⟩
      go_simp
      rfl
     rotate_left
     ·simp only [Act.put, sT_, sZ_, sS_, Ah, Ai]
      rfl
     refine one_ (i := 14) (N := some 52) #[Y_,Y_,Y_,Y_,Y_,Y_,Y_,Y_,Y_,Y_,Y_,Y_,Y_,Y_,Y_,Y_,Y_,Y_,Y_,Y_,Y_,N_,N_,N_] rfl rfl (Ej HT_.o (by kernel_rfl)) (by decide) (fun K hK => ?_)
     refine goes_ Try.func64 (by kernel_rfl) rfl #[.agg #[.int .i64 a0_0, .bool a0_1], .int .i64 a1, .int .i64 a3] (by rfl) rfl rfl (by (try simp only [mT_, mC_, mN_]); rfl) ?_
     refine (Fz.calls a0_0 a0_1 a1 a3 t139 _ A16.o).mono ?_
     rintro e w23 ⟨rfl, hb⟩
     refine ⟨_, rfl, ?_⟩
     replace BK136 := Aa.k (Ae (g := gb136) (o := .cells #[.int .i64 a0_0, .bool a0_1] 25 (0, 0)) (by exact BK136.o) hb)
     replace HB := Aa.k (Ad HB.o hb)
     clear hb
     refine hK.out _ _ ⟨(Aw BK136.o 0).trans rfl, (Aw BK136.o 1).trans rfl, ((HB.o.cell (World.block_lt_of_cell? w _ hw138_0)).trans hw138_0), ((HB.o.cell (World.block_lt_of_cell? w _ hw140_0)).trans hw140_0)⟩ (fun hHeld => ?_)
     clear hK K
     refine Es (a' := ?_) ?_ ?_
     rotate_left
     ·show Act.put _ (some 52) _ = _
      simp only [Act.put, sT_, sZ_, sS_, Ah, Ai]
      rfl
     refine one_ (i := 21) (N := some 59) #[Y_,Y_,Y_,Y_,Y_,Y_,Y_,Y_,Y_,Y_,Y_,Y_,Y_,Y_,Y_,Y_,Y_,Y_,Y_,Y_,Y_,Y_,N_,N_] rfl rfl (Ej HT_.o (by kernel_rfl)) (by decide) (fun K hK => ?_)
     refine goes_ Try.func64 (by kernel_rfl) rfl #[.agg #[.int .i64 a0_0, .bool a0_1], .int .i64 a1, .int .i64 (rd l2 x9_2)] (by rfl) rfl rfl (by (try simp only [mT_, mC_, mN_]); rfl) ?_
     refine (Fz.calls a0_0 a0_1 a1 (rd l2 x9_2) t141 _ A17.o).mono ?_
     rintro e w24 ⟨rfl, hb⟩
     refine ⟨_, rfl, ?_⟩
     replace BK136 := Aa.k (Ae (g := gb136) (o := .cells #[.int .i64 a0_0, .bool a0_1] 25 (0, 0)) (by exact BK136.o) hb)
     replace HB := Aa.k (Ad HB.o hb)
     clear hb
     refine hK.out _ _ ⟨(Aw BK136.o 0).trans rfl, (Aw BK136.o 1).trans rfl, ((HB.o.cell (World.block_lt_of_cell? w _ hw138_0)).trans hw138_0), ((HB.o.cell (World.block_lt_of_cell? w _ hw140_0)).trans hw140_0)⟩ (fun hHeld => ?_)
     clear hK K
     refine Es (a' := ?_) ?_ ?_
     rotate_left
     ·show Act.put _ (some 59) _ = _
      simp only [Act.put, sT_, sZ_, sS_, Ah, Ai]
      rfl
     apply pq_ 22 60 #[Y_,Y_,Y_,Y_,Y_,Y_,Y_,Y_,Y_,Y_,Y_,Y_,Y_,Y_,Y_,Y_,Y_,Y_,Y_,Y_,Y_,Y_,Y_,N_] HT_ rfl rfl (by kernel_rfl) (fun _ _ _ h => h) (by rfl)
     ·intro w'; go_simp; rfl
     ·simp only [Act.put, sT_, sZ_, sS_, Ah, Ai]; rfl
     apply pq_ 23 61 #[Y_,Y_,Y_,Y_,Y_,Y_,Y_,Y_,Y_,Y_,Y_,Y_,Y_,Y_,Y_,Y_,Y_,Y_,Y_,Y_,Y_,Y_,Y_,Y_] HT_ rfl rfl (by kernel_rfl) (fun _ _ _ h => h) (by rfl)
     ·intro w'; go_simp; rfl
     ·simp only [Act.put, sT_, sZ_, sS_, Ah, Ai]; rfl
     refine done_ (Fa HT_.o (by kernel_rfl)) ?_
     try go_wp2
     go_roundg k2
     case measure => have := HJ4.o; have := HK2.o; omega
     case rel => exact ⟨(wrap64 (x9_2 + 1)), (by (rfl)), H', ⟨by have := HJ4.o; have := HK2.o; omega⟩, ⟨by exact BK136.o⟩, ⟨by exact HB.o⟩⟩

end Go.Proofs.Ytogflbocmiogpaa.PFnBestSearch
