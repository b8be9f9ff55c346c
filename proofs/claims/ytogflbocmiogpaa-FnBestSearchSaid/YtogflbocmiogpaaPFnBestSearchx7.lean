-- Written for this claim by this session's turned copy of the printer.
import Derived.Test.YtogflbocmiogpaaPFnBestSearchx0
import Derived.Test.YtogflbocmiogpaaPFnBestSearchx6
namespace Go.Proofs.Ytogflbocmiogpaa.PFnBestSearch
open Go.RowKit Go.Proofs.YtogflbocmiogpaaW.PrintWords Go.Proofs.YtogflbocmiogpaaW.PrintLast Go.Proofs.YtogflbocmiogpaaW.PrintMore
open List renaming setIfInBounds_toArray → sT_, set_cons_zero → sZ_, set_cons_succ → sS_, map_toArray → mT_, map_cons → mC_, map_nil → mN_
open Bool renaming true → Y_, false → N_
attribute [local go_sem] max2_int min2_int max_two min_two Fj Fh max_four min_four   -- for this text's walks alone
set_option linter.unusedVariables false
set_option linter.unusedSimpArgs false

/-! ### slices_swapRangeCmpFunc_int: function 140 -/
section
variable {CMP_ : Int → Int → Option Int} {Pq_ : Int → Option Addr} {Nq_ Cq_ : Int → Nat} {wq_ : World} {Gq_ : Nat → Prop}
def Bi.l0 : Nat → List Int → Int → Int → Int → Int → Option (List Int)
 | 0, _, _, _, _, _ => none
 | k + 1, x0, x1, x2, x3, x10 => if x10 < x3 then (if 0 ≤ (wrap64 (x2 + x10)) then (if (wrap64 (x2 + x10)) < (x0.length : Int) then (if 0 ≤ (wrap64 (x1 + x10)) then (if (wrap64 (x1 + x10)) < (x0.length : Int) then (Bi.l0 k ((x0.set ((wrap64 (x1 + x10)) : Int).toNat (rd x0 (wrap64 (x2 + x10)))).set ((wrap64 (x2 + x10)) : Int).toNat (rd x0 (wrap64 (x1 + x10)))) x1 x2 x3 (wrap64 (x10 + 1))) else (none)) else (none)) else (none)) else (none)) else (some x0)
def Bi.f (k : Nat) (l0 : List Int) (a1 : Int) (a2 : Int) (a3 : Int) (a4 : Int) : Option (List Int) := Bi.l0 k l0 a1 a2 a3 0
def Bi.T3 : Bool × List (List Nat × List Nat) := (true, [([], []), ([], []), ([], []), ([1, 2], [1, 2]), ([], []), ([], []), ([], []), ([5, 6], [5, 6]), ([], []), ([], []), ([], []), ([9, 10], [9, 10]), ([8, 11], [8, 11]), ([12], [12]), ([], []), ([], []), ([], []), ([15, 16], [15, 16]), ([14, 17], [14, 17]), ([18], [18]), ([0, 3, 0, 1, 2, 3, 8, 9, 10, 11, 12, 13, 19], [0, 3]), ([20, 13, 0, 1, 2, 3, 8, 9, 10, 11, 12, 13, 19], [13, 20]), ([4, 7, 0, 1, 2, 3, 4, 5, 6, 7, 8, 9, 10, 11, 12, 13, 14, 15, 16, 17, 18, 19, 20, 21], [4, 7]), ([22, 19, 21, 0, 1, 2, 3, 4, 5, 6, 7, 8, 9, 10, 11, 12, 13, 14, 15, 16, 17, 18, 19, 20, 21], [19, 22])])
def Bi.B3 : List Nat := [0, 0, 0, 6, 0, 0, 0, 96, 0, 0, 0, 1536, 3840, 7936, 0, 0, 0, 98304, 245760, 507904, 1048335, 2096911, 4194303, 8388607]
theorem Bi.tab3 : rtab .any (opsOf Try.f140 3) = Bi.T3 := by kernel_rfl
theorem Bi.bits3 : waitsOk Bi.T3.2 Bi.B3 = true := by kernel_rfl
set_option maxHeartbeats 8000000 in
set_option maxRecDepth 100000 in
theorem Bi.calls (k : Nat) (P0_ : Nat → Prop) (u9000_ : Value) (l0 : List Int) (a1 : Int) (a2 : Int) (a3 : Int) (a4 : Int) (r : List Int) (w0 w : World) (hB : Below w0.heap.size w0 w) (ho0 : Kd.R (Dr Pq_ Nq_ Cq_) 30 w w0.heap.size P0_ u9000_ l0) (h : Bi.f k l0 a1 a2 a3 a4 = some r) :
  Calls Try.prog 140 #[u9000_, .int .i64 a1, .int .i64 a2, .int .i64 a3, .func (.func 121) #[] #[]] w fun e w' => e = .returned (.tuple #[]) ∧ Kd.R (Dr Pq_ Nq_ Cq_) 30 w' w0.heap.size (fun k_ => (P0_ k_ ∨ w.heap.size ≤ k_)) u9000_ r ∧ Below w0.heap.size w0 w' ∧ Kept w w' (fun k_ => P0_ k_) := by
 have HO0 := Aa.k (show Kd.R (Dr Pq_ Nq_ Cq_) 30 w w0.heap.size (fun k_ => (P0_ k_ ∨ w.heap.size ≤ k_)) u9000_ l0 from Kd.Bv ho0 (fun k_ hk => (.inl hk)))
 have HK := Aa.k (Kept.refl w (fun k_ => P0_ k_))
 have HW0 := Aa.k hB.size
 have HB := Aa.k hB
 clear hB
 have H : (Bi.l0 k l0 a1 a2 a3 0) = some r := h
 clear h
 have H' := Aa.k H
 clear H
 go_enter Try.func140, Try.ntmps140
 go_wp2
 go_loopg [10] k (fun kq v10 w' => ∃ (x0_1 : List Int) (x10_1 : Int), v10 = .int .i64 x10_1 ∧ Aa (Bi.l0 kq x0_1 a1 a2 a3 x10_1 = some r) ∧ Aa (kq ≤ k) ∧ Aa (Kd.R (Dr Pq_ Nq_ Cq_) 30 w' w0.heap.size (fun k_ => (P0_ k_ ∨ w.heap.size ≤ k_)) u9000_ x0_1) ∧ Aa (Kept w w' (fun k_ => P0_ k_)) ∧ Aa (Below w0.heap.size w0 w'))
 case atStart => exact ⟨(l0), (0), (by (rfl)), H', ⟨Nat.le_refl _⟩, ⟨by exact HO0.o⟩, ⟨by exact HK.o⟩, ⟨by exact HB.o⟩⟩
 case round =>
  clear H'
  obtain ⟨x0_1, x10_1, rfl, HA, HK1, HO_0, HK, HB⟩ := hrel
  cases gk with
  | zero => exact absurd HA.o (by simp [Bi.l0])
  | succ k1 =>
   have H := HA.o
   clear HA
   simp only [Bi.l0] at H
   by_cases c6 : x10_1 < a3
   rotate_left
   ·rw [if_neg c6] at H
    have c6b0 : decide (x10_1 < a3) = false := decide_eq_false c6
    clear c6
    obtain rfl := Option.some.inj H
    go_wp2
    (go_end0)
    exact ⟨by (rfl), by exact HO_0.o, by exact HB.o, by exact HK.o⟩
   rw [if_pos c6] at H
   have c6b0 : decide (x10_1 < a3) = true := decide_eq_true c6
   clear c6
   obtain ⟨ji7, hji7⟩ : ∃ j_ : Int, (wrap64 (a2 + x10_1)) = j_ := ⟨_, rfl⟩
   replace H : (if 0 ≤ (ji7) then (if (ji7) < (x0_1.length : Int) then (if 0 ≤ (wrap64 (a1 + x10_1)) then (if (wrap64 (a1 + x10_1)) < (x0_1.length : Int) then (Bi.l0 k1 ((x0_1.set ((wrap64 (a1 + x10_1)) : Int).toNat (rd x0_1 (ji7))).set ((ji7) : Int).toNat (rd x0_1 (wrap64 (a1 + x10_1)))) a1 a2 a3 (wrap64 (x10_1 + 1))) else (none)) else (none)) else (none)) else (none)) = some r := by (rw [hji7] at H; exact H)
   have hji7w : (IntKind.i64.wrap (a2 + x10_1)) = ji7 := (Ah _).trans hji7
   by_cases c8 : 0 ≤ (ji7)
   rotate_left
   ·rw [if_neg c8] at H
    exact absurd H (by simp)
   rw [if_pos c8] at H
   have c8b0 : decide (0 ≤ (ji7)) = true := decide_eq_true c8
   clear c8
   by_cases c9 : (ji7) < (x0_1.length : Int)
   rotate_left
   ·rw [if_neg c9] at H
    exact absurd H (by simp)
   rw [if_pos c9] at H
   have c9b0 : decide ((ji7) < (x0_1.length : Int)) = true := decide_eq_true c9
   clear c9
   obtain ⟨ji10, hji10⟩ : ∃ j_ : Int, (wrap64 (a1 + x10_1)) = j_ := ⟨_, rfl⟩
   replace H : (if 0 ≤ (ji10) then (if (ji10) < (x0_1.length : Int) then (Bi.l0 k1 ((x0_1.set ((ji10) : Int).toNat (rd x0_1 (ji7))).set ((ji7) : Int).toNat (rd x0_1 (ji10))) a1 a2 a3 (wrap64 (x10_1 + 1))) else (none)) else (none)) = some r := by (rw [hji10] at H; exact H)
   have hji10w : (IntKind.i64.wrap (a1 + x10_1)) = ji10 := (Ah _).trans hji10
   by_cases c11 : 0 ≤ (ji10)
   rotate_left
   ·rw [if_neg c11] at H
    exact absurd H (by simp)
   rw [if_pos c11] at H
   have c11b0 : decide (0 ≤ (ji10)) = true := decide_eq_true c11
   clear c11
   by_cases c12 : (ji10) < (x0_1.length : Int)
   rotate_left
   ·rw [if_neg c12] at H
    exact absurd H (by simp)
   rw [if_pos c12] at H
   have c12b0 : decide ((ji10) < (x0_1.length : Int)) = true := decide_eq_true c12
   clear c12
   obtain ⟨y169, hy169⟩ : ∃ y_ : List Int, y_ = (x0_1.set ((ji10) : Int).toNat (rd x0_1 (ji7))) := ⟨_, rfl⟩
   replace H : (Bi.l0 k1 (y169.set ((ji7) : Int).toNat (rd x0_1 (ji10))) a1 a2 a3 (wrap64 (x10_1 + 1))) = some r := by (rw [hy169]; exact H)
   have Ny169 := Aa.k hy169
   clear hy169
   obtain ⟨y170, hy170⟩ : ∃ y_ : List Int, y_ = (y169.set ((ji7) : Int).toNat (rd x0_1 (ji10))) := ⟨_, rfl⟩
   replace H : (Bi.l0 k1 y170 a1 a2 a3 (wrap64 (x10_1 + 1))) = some r := by (rw [hy170]; exact H)
   have Ny170 := Aa.k hy170
   clear hy170
   have H' := Aa.k H
   clear H
   try go_wp2
   replace HO_0 := Aa.k (Kd.R_drew HO_0.o)
   replace HK := Aa.k (Kept.drew HK.o)
   replace HB := Aa.k (Cf HB.o)
   obtain ⟨Ao16, co16, eo16⟩ := Kd.Cx HO_0.o
   ((subst eo16))
   have p167 : 0 ≤ ((ji7) : Int) := of_decide_eq_true (by (assumption))
   have q167 : (ji7) < (x0_1.length : Int) := of_decide_eq_true (by (assumption))
   obtain ⟨ad167, e167, hx167_0⟩ := Ed (Kd.Bb HO_0.o).2.2 (ji7) p167 q167
   cases e167
   replace p167 := eq_true p167
   replace q167 := eq_true q167
   have p168 : 0 ≤ ((ji10) : Int) := of_decide_eq_true (by (assumption))
   have q168 : (ji10) < (x0_1.length : Int) := of_decide_eq_true (by (assumption))
   obtain ⟨ad168, e168, hx168_0⟩ := Ed (Kd.Bb HO_0.o).2.2 (ji10) p168 q168
   obtain rfl : ad167 = ad168 := (by injection e168)
   replace p168 := eq_true p168
   replace q168 := eq_true q168
   have p13 : 0 ≤ ((ji10) : Int) := of_decide_eq_true (by (assumption))
   have q13 : ((ji10) : Int) < ((x0_1.length : Int) : Int) := of_decide_eq_true (by (assumption))
   obtain ⟨go13, co13, eo13, gb13, gl13, cl13, HG13⟩ := Kd.R_form HO_0.o (by omega)
   ((cases eo13))
   have GB13 := Aa.k gb13
   have GG13 := Aa.k HG13
   clear gb13 gl13 HG13
   have HMgo13 := Aa.k (show (P0_ go13 ∨ w.heap.size ≤ go13) from (HO_0.o.1 _ rfl))
   ((simp only [add_plain] at hx167_0))
   ((simp only [add_plain] at hx168_0))
   obtain ⟨hx13_0, hf13_0⟩ := Kd.R_celln 0 HO_0.o ((ji10) : Int) p13 q13
   replace p13 := eq_true p13
   replace q13 := eq_true q13
   have HP17 := Kd.R_putn HO_0.o ((ji10) : Int) (rd x0_1 (ji7))
   rw [← Ny169.o] at HP17
   have HQ17 := Aa.k HP17
   clear HP17
   have p14 : 0 ≤ ((ji7) : Int) := of_decide_eq_true (by (assumption))
   have q14 : ((ji7) : Int) < ((x0_1.length : Int) : Int) := of_decide_eq_true (by (assumption))
   obtain ⟨hx14_0, hf14_0⟩ := Kd.R_celln 0 HQ17.o ((ji7) : Int) p14 q14
   replace p14 := eq_true p14
   replace q14 := eq_true q14
   have HP18 := Kd.R_putn HQ17.o ((ji7) : Int) (rd x0_1 (ji10))
   rw [← Ny170.o] at HP18
   have HQ18 := Aa.k HP18
   clear HP18
   refine Fp (n := 24) (S := fun w' => w'.cell? ⟨go13, ((ji7)).toNat, none⟩ = some (.slice (Pq_ (rd x0_1 (ji7))) (Nq_ (rd x0_1 (ji7))) (Cq_ (rd x0_1 (ji7)))) ∧ w'.cell? ⟨go13, ((ji10)).toNat, none⟩ = some (.slice (Pq_ (rd x0_1 (ji10))) (Nq_ (rd x0_1 (ji10))) (Cq_ (rd x0_1 (ji10))))) (ds := [21, 23]) #[N_,N_,N_,N_,N_,N_,N_,N_,N_,N_,N_,N_,N_,N_,N_,N_,N_,N_,N_,N_,N_,N_,N_,N_] (by kernel_rfl) rfl rfl ⟨hx167_0, hx168_0⟩ (fun hHeld => ?_); refine Dv Bi.tab3 Bi.bits3 (fun HT_ HW_ => ?_)
   generalize wr.drew = w15 at HO_0 HK HB GG13 HQ17 HQ18 hf13_0 hf14_0 hx13_0 hx14_0 hx167_0 hx168_0 hHeld ⊢
   apply pq_ 0 16 #[Y_,N_,N_,N_,N_,N_,N_,N_,N_,N_,N_,N_,N_,N_,N_,N_,N_,N_,N_,N_,N_,N_,N_,N_] HT_ rfl rfl (by kernel_rfl) (fun _ _ _ h => h) (by rfl)
   ·intro w'; go_simp; rfl
   ·simp only [Act.put, sT_, sZ_, sS_, Ah, Ai]; rfl
   apply pq_ 1 17 #[Y_,Y_,N_,N_,N_,N_,N_,N_,N_,N_,N_,N_,N_,N_,N_,N_,N_,N_,N_,N_,N_,N_,N_,N_] HT_ rfl rfl (by kernel_rfl) (fun _ _ _ h => h) (by rfl)
   ·intro w'; go_simp; rfl
   ·simp only [Act.put, sT_, sZ_, sS_, Ah, Ai]; rfl
   apply pq_ 2 18 #[Y_,Y_,Y_,N_,N_,N_,N_,N_,N_,N_,N_,N_,N_,N_,N_,N_,N_,N_,N_,N_,N_,N_,N_,N_] HT_ rfl rfl (by kernel_rfl) (fun _ _ _ h => h) (by rfl)
   ·intro w'; go_simp; rfl
   ·simp only [Act.put, sT_, sZ_, sS_, Ah, Ai]; rfl
   apply pq_ 3 19 #[Y_,Y_,Y_,Y_,N_,N_,N_,N_,N_,N_,N_,N_,N_,N_,N_,N_,N_,N_,N_,N_,N_,N_,N_,N_] HT_ rfl rfl (by kernel_rfl) (fun _ _ _ h => h) (by rfl)
   ·intro w'; go_simp; rfl
   ·simp only [Act.put, sT_, sZ_, sS_, Ah, Ai]; rfl
   apply pq_ 4 20 #[Y_,Y_,Y_,Y_,Y_,N_,N_,N_,N_,N_,N_,N_,N_,N_,N_,N_,N_,N_,N_,N_,N_,N_,N_,N_] HT_ rfl rfl (by kernel_rfl) (fun _ _ _ h => h) (by rfl)
   ·intro w'; go_simp; rfl
   ·simp only [Act.put, sT_, sZ_, sS_, Ah, Ai]; rfl
   apply pq_ 5 21 #[Y_,Y_,Y_,Y_,Y_,Y_,N_,N_,N_,N_,N_,N_,N_,N_,N_,N_,N_,N_,N_,N_,N_,N_,N_,N_] HT_ rfl rfl (by kernel_rfl) (fun _ _ _ h => h) (by rfl)
   ·intro w'; go_simp; rfl
   ·simp only [Act.put, sT_, sZ_, sS_, Ah, Ai]; rfl
   apply pq_ 6 22 #[Y_,Y_,Y_,Y_,Y_,Y_,Y_,N_,N_,N_,N_,N_,N_,N_,N_,N_,N_,N_,N_,N_,N_,N_,N_,N_] HT_ rfl rfl (by kernel_rfl) (fun _ _ _ h => h) (by rfl)
   ·intro w'; go_simp; rfl
   ·simp only [Act.put, sT_, sZ_, sS_, Ah, Ai]; rfl
   apply pq_ 7 23 #[Y_,Y_,Y_,Y_,Y_,Y_,Y_,Y_,N_,N_,N_,N_,N_,N_,N_,N_,N_,N_,N_,N_,N_,N_,N_,N_] HT_ rfl rfl (by kernel_rfl) (fun _ _ _ h => h) (by rfl)
   ·intro w'; go_simp; rfl
   ·simp only [Act.put, sT_, sZ_, sS_, Ah, Ai]; rfl
   apply pq_ 8 24 #[Y_,Y_,Y_,Y_,Y_,Y_,Y_,Y_,Y_,N_,N_,N_,N_,N_,N_,N_,N_,N_,N_,N_,N_,N_,N_,N_] HT_ rfl rfl (by kernel_rfl) (fun _ _ _ h => h) (by rfl)
   ·intro w'; go_simp; rfl
   ·simp only [Act.put, sT_, sZ_, sS_, Ah, Ai]; rfl
   apply pq_ 9 25 #[Y_,Y_,Y_,Y_,Y_,Y_,Y_,Y_,Y_,Y_,N_,N_,N_,N_,N_,N_,N_,N_,N_,N_,N_,N_,N_,N_] HT_ rfl rfl (by kernel_rfl) (fun _ _ _ h => h) (by rfl)
   ·intro w'; go_simp; rfl
   ·simp only [Act.put, sT_, sZ_, sS_, Ah, Ai]; rfl
   apply pq_ 10 26 #[Y_,Y_,Y_,Y_,Y_,Y_,Y_,Y_,Y_,Y_,Y_,N_,N_,N_,N_,N_,N_,N_,N_,N_,N_,N_,N_,N_] HT_ rfl rfl (by kernel_rfl) (fun _ _ _ h => h) (by rfl)
   ·intro w'; go_simp; rfl
   ·simp only [Act.put, sT_, sZ_, sS_, Ah, Ai]; rfl
   apply pq_ 11 27 #[Y_,Y_,Y_,Y_,Y_,Y_,Y_,Y_,Y_,Y_,Y_,Y_,N_,N_,N_,N_,N_,N_,N_,N_,N_,N_,N_,N_] HT_ rfl rfl (by kernel_rfl) (fun _ _ _ h => h) (by rfl)
   ·intro w'; go_simp; rfl
   ·simp only [Act.put, sT_, sZ_, sS_, Ah, Ai]; rfl
   apply pq_ 12 28 #[Y_,Y_,Y_,Y_,Y_,Y_,Y_,Y_,Y_,Y_,Y_,Y_,Y_,N_,N_,N_,N_,N_,N_,N_,N_,N_,N_,N_] HT_ rfl rfl (by kernel_rfl) (fun _ _ _ h => h) (by rfl)
   ·intro w'; go_simp; rfl
   ·simp only [Act.put, sT_, sZ_, sS_, Ah, Ai]; rfl
   apply pq_ 14 30 #[Y_,Y_,Y_,Y_,Y_,Y_,Y_,Y_,Y_,Y_,Y_,Y_,Y_,N_,Y_,N_,N_,N_,N_,N_,N_,N_,N_,N_] HT_ rfl rfl (by kernel_rfl) (fun _ _ _ h => h) (by rfl)
   ·intro w'; go_simp; rfl
   ·simp only [Act.put, sT_, sZ_, sS_, Ah, Ai]; rfl
   apply pq_ 15 31 #[Y_,Y_,Y_,Y_,Y_,Y_,Y_,Y_,Y_,Y_,Y_,Y_,Y_,N_,Y_,Y_,N_,N_,N_,N_,N_,N_,N_,N_] HT_ rfl rfl (by kernel_rfl) (fun _ _ _ h => h) (by rfl)
   ·intro w'; go_simp; rfl
   ·simp only [Act.put, sT_, sZ_, sS_, Ah, Ai]; rfl
   apply pq_ 16 32 #[Y_,Y_,Y_,Y_,Y_,Y_,Y_,Y_,Y_,Y_,Y_,Y_,Y_,N_,Y_,Y_,Y_,N_,N_,N_,N_,N_,N_,N_] HT_ rfl rfl (by kernel_rfl) (fun _ _ _ h => h) (by rfl)
   ·intro w'; go_simp; rfl
   ·simp only [Act.put, sT_, sZ_, sS_, Ah, Ai]; rfl
   apply pq_ 17 33 #[Y_,Y_,Y_,Y_,Y_,Y_,Y_,Y_,Y_,Y_,Y_,Y_,Y_,N_,Y_,Y_,Y_,Y_,N_,N_,N_,N_,N_,N_] HT_ rfl rfl (by kernel_rfl) (fun _ _ _ h => h) (by rfl)
   ·intro w'; go_simp; rfl
   ·simp only [Act.put, sT_, sZ_, sS_, Ah, Ai]; rfl
   apply pq_ 18 34 #[Y_,Y_,Y_,Y_,Y_,Y_,Y_,Y_,Y_,Y_,Y_,Y_,Y_,N_,Y_,Y_,Y_,Y_,Y_,N_,N_,N_,N_,N_] HT_ rfl rfl (by kernel_rfl) (fun _ _ _ h => h) (by rfl)
   ·intro w'; go_simp; rfl
   ·simp only [Act.put, sT_, sZ_, sS_, Ah, Ai]; rfl
   refine En (i := 13) (N := some 29) (v := ?_) (a' := ?_) #[Y_,Y_,Y_,Y_,Y_,Y_,Y_,Y_,Y_,Y_,Y_,Y_,Y_,Y_,Y_,Y_,Y_,Y_,Y_,N_,N_,N_,N_,N_] rfl rfl (Cm HT_.o HW_.o (by kernel_rfl)) (fun _ _ _ h => h) (Or.inl ⟨by rfl, ?_⟩) hHeld ?_ ?_
   rotate_left
   ·rintro w' ⟨s0, s1⟩
    go_simp
    rfl
   rotate_left
   ·simp only [Act.put, sT_, sZ_, sS_, Ah, Ai]
    rfl
   refine En (i := 19) (N := some 35) (v := ?_) (a' := ?_) #[Y_,Y_,Y_,Y_,Y_,Y_,Y_,Y_,Y_,Y_,Y_,Y_,Y_,Y_,Y_,Y_,Y_,Y_,Y_,Y_,N_,N_,N_,N_] rfl rfl (Cm HT_.o HW_.o (by kernel_rfl)) (fun _ _ _ h => h) (Or.inl ⟨by rfl, ?_⟩) hHeld ?_ ?_
   rotate_left
   ·rintro w' ⟨s0, s1⟩
    go_simp
    rfl
   rotate_left
   ·simp only [Act.put, sT_, sZ_, sS_, Ah, Ai]
    rfl
   apply pq_ 20 36 #[Y_,Y_,Y_,Y_,Y_,Y_,Y_,Y_,Y_,Y_,Y_,Y_,Y_,Y_,Y_,Y_,Y_,Y_,Y_,Y_,Y_,N_,N_,N_] HT_ rfl rfl (by kernel_rfl) (fun _ _ _ h => h) (by rfl)
   ·intro w'; go_simp; rfl
   ·simp only [Act.put, sT_, sZ_, sS_, Ah, Ai]; rfl
   refine last_ (i := 21) (N := none) #[Y_,Y_,Y_,Y_,Y_,Y_,Y_,Y_,Y_,Y_,Y_,Y_,Y_,Y_,Y_,Y_,Y_,Y_,Y_,Y_,Y_,Y_,N_,N_] rfl rfl (Ej HT_.o (by kernel_rfl)) (by decide) (fun K hK => ?_)
   refine skip_ (w1 := ?_) (by rfl) rfl ?_ ?_
   rotate_left
   ·go_simp
    rfl
   refine hK.out _ _ ?_
   clear hK K
   apply pq_ 22 37 #[Y_,Y_,Y_,Y_,Y_,Y_,Y_,Y_,Y_,Y_,Y_,Y_,Y_,Y_,Y_,Y_,Y_,Y_,Y_,Y_,Y_,Y_,Y_,N_] HT_ rfl rfl (by kernel_rfl) (fun _ _ _ h => h) (by rfl)
   ·intro w'; go_simp; rfl
   ·simp only [Act.put, sT_, sZ_, sS_, Ah, Ai]; rfl
   refine last_ (i := 23) (N := none) #[Y_,Y_,Y_,Y_,Y_,Y_,Y_,Y_,Y_,Y_,Y_,Y_,Y_,Y_,Y_,Y_,Y_,Y_,Y_,Y_,Y_,Y_,Y_,Y_] rfl rfl (Ej HT_.o (by kernel_rfl)) (by decide) (fun K hK => ?_)
   refine skip_ (w1 := ?_) (by rfl) rfl ?_ ?_
   rotate_left
   ·go_simp
    rfl
   refine hK.out _ _ ?_
   clear hK K
   refine done_ (Fa HT_.o (by kernel_rfl)) ?_
   try go_wp2
   go_roundg k1
   case measure => have := HK1.o; omega
   case rel => exact ⟨(y170), (wrap64 (x10_1 + 1)), (by (rfl)), H', ⟨by have := HK1.o; omega⟩, ⟨by exact HQ18.o⟩, ⟨by repeat ((with_reducible first | exact HK.o | refine Kept.setCell ?_ HMgo13.o _))⟩, ⟨by repeat ((with_reducible first | exact HB.o | refine Bz ?_ GB13.o))⟩⟩
end

/-! ### slices_rotateCmpFunc_int: function 139 -/
section
variable {CMP_ : Int → Int → Option Int} {Pq_ : Int → Option Addr} {Nq_ Cq_ : Int → Nat} {wq_ : World} {Gq_ : Nat → Prop}
def Dn.l0 : Nat → List Int → Int → Int → Int → Int → Option (List Int)
 | 0, _, _, _, _, _ => none
 | k + 1, x0, x2, x4, x10, x11 => if x10 = x11 then ((Bi.f k x0 (wrap64 (x2 - x10)) x2 x10 x4).bind fun t171 => (some t171)) else (if x10 > x11 then ((Bi.f k x0 (wrap64 (x2 - x10)) x2 x11 x4).bind fun t172 => (Dn.l0 k t172 x2 x4 (wrap64 (x10 - x11)) x11)) else ((Bi.f k x0 (wrap64 (x2 - x10)) (wrap64 ((wrap64 (x2 + x11)) - x10)) x10 x4).bind fun t173 => (Dn.l0 k t173 x2 x4 x10 (wrap64 (x11 - x10)))))
def Dn.f (k : Nat) (l0 : List Int) (a1 : Int) (a2 : Int) (a3 : Int) (a4 : Int) : Option (List Int) := Dn.l0 k l0 a2 a4 (wrap64 (a2 - a1)) (wrap64 (a3 - a2))
set_option maxHeartbeats 8000000 in
set_option maxRecDepth 100000 in
theorem Dn.calls (k : Nat) (P0_ : Nat → Prop) (u9000_ : Value) (l0 : List Int) (a1 : Int) (a2 : Int) (a3 : Int) (a4 : Int) (r : List Int) (w0 w : World) (hB : Below w0.heap.size w0 w) (ho0 : Kd.R (Dr Pq_ Nq_ Cq_) 30 w w0.heap.size P0_ u9000_ l0) (h : Dn.f k l0 a1 a2 a3 a4 = some r) :
  Calls Try.prog 139 #[u9000_, .int .i64 a1, .int .i64 a2, .int .i64 a3, .func (.func 121) #[] #[]] w fun e w' => e = .returned (.tuple #[]) ∧ Kd.R (Dr Pq_ Nq_ Cq_) 30 w' w0.heap.size (fun k_ => (P0_ k_ ∨ w.heap.size ≤ k_)) u9000_ r ∧ Below w0.heap.size w0 w' ∧ Kept w w' (fun k_ => P0_ k_) := by
 have HO0 := Aa.k (show Kd.R (Dr Pq_ Nq_ Cq_) 30 w w0.heap.size (fun k_ => (P0_ k_ ∨ w.heap.size ≤ k_)) u9000_ l0 from Kd.Bv ho0 (fun k_ hk => (.inl hk)))
 have HK := Aa.k (Kept.refl w (fun k_ => P0_ k_))
 have HW0 := Aa.k hB.size
 have HB := Aa.k hB
 clear hB
 have H : (Dn.l0 k l0 a2 a4 (wrap64 (a2 - a1)) (wrap64 (a3 - a2))) = some r := h
 clear h
 have H' := Aa.k H
 clear H
 go_enter Try.func139, Try.ntmps139
 go_wp2
 go_loopg [10, 11] k (fun kq v10 v11 w' => ∃ (x0_1 : List Int) (x10_1 : Int) (x11_1 : Int), v10 = .int .i64 x10_1 ∧ v11 = .int .i64 x11_1 ∧ Aa (Dn.l0 kq x0_1 a2 a4 x10_1 x11_1 = some r) ∧ Aa (kq ≤ k) ∧ Aa (Kd.R (Dr Pq_ Nq_ Cq_) 30 w' w0.heap.size (fun k_ => (P0_ k_ ∨ w.heap.size ≤ k_)) u9000_ x0_1) ∧ Aa (Kept w w' (fun k_ => P0_ k_)) ∧ Aa (Below w0.heap.size w0 w'))
 case atStart => exact ⟨(l0), (wrap64 (a2 - a1)), (wrap64 (a3 - a2)), (by (rfl)), (by (rfl)), H', ⟨Nat.le_refl _⟩, ⟨by exact HO0.o⟩, ⟨by exact HK.o⟩, ⟨by exact HB.o⟩⟩
 case round =>
  clear H'
  obtain ⟨x0_1, x10_1, x11_1, rfl, rfl, HA, HK1, HO_0, HK, HB⟩ := hrel
  cases gk with
  | zero => exact absurd HA.o (by simp [Dn.l0])
  | succ k1 =>
   have H := HA.o
   clear HA
   simp only [Dn.l0] at H
   by_cases c6 : x10_1 = x11_1
   ·rw [if_pos c6] at H
    have c6b0 : (x10_1 == x11_1) = true := beq_iff_eq.mpr c6
    have c6b1 : (x10_1 != x11_1) = false := bne_eq_false_iff_eq.mpr c6
    clear c6
    obtain ⟨t171, A70, H⟩ := bindS_ H
    try dsimp only at H
    have A7 := Aa.k A70
    clear A70
    obtain rfl := Option.some.inj H
    obtain ⟨Ao8, co8, eo8⟩ := Kd.Cx HO_0.o
    subst eo8
    go_wp2_with (((refine Aj (f := 140) rfl ?_); refine Bf (some 57) rfl rfl Try.func140 (by kernel_rfl) rfl #[.slice Ao8 x0_1.length co8, .int .i64 (wrap64 (a2 - x10_1)), .int .i64 a2, .int .i64 x10_1, .func (.func 121) #[] #[]] rfl (by (try simp only [mT_, mC_, mN_]); rfl) ?_; (refine (Bi.calls (Pq_ := Pq_) (Nq_ := Nq_) (Cq_ := Cq_) k1 (fun k_ => some k_ = (.slice Ao8 x0_1.length co8 : Value).ownBlock) (.slice Ao8 x0_1.length co8) x0_1 (wrap64 (a2 - x10_1)) a2 x10_1 a4 t171 w0 _ ?side1 ?side2 A7.o).mono ?_); (case side1 => exact HB.o); (case side2 => exact Kd.R_tight rfl HO_0.o); rintro e w9 ⟨rfl, hy0, hb, hkp⟩; refine ⟨_, rfl, ?_⟩; replace HK := Aa.k (Kept.then_ (S := (fun k_ => P0_ k_)) HK.o hkp (fun k_ hs_ => (fun e_ => (HO_0.o.1 k_ e_.symm)) hs_)); replace HO_0 := Aa.k (Kd.R_reok rfl hy0 (fun k_ e_ => HO_0.o.1 k_ e_)); replace HB := Aa.k (hb); clear hb hkp hy0))
    (go_end0)
    exact ⟨by (rfl), by exact HO_0.o, by exact HB.o, by exact HK.o⟩
   rw [if_neg c6] at H
   have c6b0 : (x10_1 == x11_1) = false := beq_eq_false_iff_ne.mpr c6
   have c6b1 : (x10_1 != x11_1) = true := bne_iff_ne.mpr c6
   by_cases c10 : x10_1 > x11_1
   ·rw [if_pos c10] at H
    have c10b0 : decide (x11_1 < x10_1) = true := decide_eq_true c10
    clear c10
    obtain ⟨t172, A110, H⟩ := bindS_ H
    try dsimp only at H
    have A11 := Aa.k A110
    clear A110
    have H' := Aa.k H
    clear H
    obtain ⟨Ao12, co12, eo12⟩ := Kd.Cx HO_0.o
    subst eo12
    go_wp2_with (((refine Aj (f := 140) rfl ?_); refine Bf (some 31) rfl rfl Try.func140 (by kernel_rfl) rfl #[.slice Ao12 x0_1.length co12, .int .i64 (wrap64 (a2 - x10_1)), .int .i64 a2, .int .i64 x11_1, .func (.func 121) #[] #[]] rfl (by (try simp only [mT_, mC_, mN_]); rfl) ?_; (refine (Bi.calls (Pq_ := Pq_) (Nq_ := Nq_) (Cq_ := Cq_) k1 (fun k_ => some k_ = (.slice Ao12 x0_1.length co12 : Value).ownBlock) (.slice Ao12 x0_1.length co12) x0_1 (wrap64 (a2 - x10_1)) a2 x11_1 a4 t172 w0 _ ?side1 ?side2 A11.o).mono ?_); (case side1 => exact HB.o); (case side2 => exact Kd.R_tight rfl HO_0.o); rintro e w13 ⟨rfl, hy0, hb, hkp⟩; refine ⟨_, rfl, ?_⟩; replace HK := Aa.k (Kept.then_ (S := (fun k_ => P0_ k_)) HK.o hkp (fun k_ hs_ => (fun e_ => (HO_0.o.1 k_ e_.symm)) hs_)); replace HO_0 := Aa.k (Kd.R_reok rfl hy0 (fun k_ e_ => HO_0.o.1 k_ e_)); replace HB := Aa.k (hb); clear hb hkp hy0))
    go_roundg k1
    case measure => have := HK1.o; omega
    case rel => exact ⟨(t172), (wrap64 (x10_1 - x11_1)), (x11_1), (by (rfl)), (by (rfl)), H', ⟨by have := HK1.o; omega⟩, ⟨by exact HO_0.o⟩, ⟨by exact HK.o⟩, ⟨by exact HB.o⟩⟩
   rw [if_neg c10] at H
   have c10b0 : decide (x11_1 < x10_1) = false := decide_eq_false c10
   clear c10
   obtain ⟨t173, A140, H⟩ := bindS_ H
   try dsimp only at H
   have A14 := Aa.k A140
   clear A140
   have H' := Aa.k H
   clear H
   obtain ⟨Ao15, co15, eo15⟩ := Kd.Cx HO_0.o
   subst eo15
   go_wp2_with (((refine Aj (f := 140) rfl ?_); refine Bf (some 46) rfl rfl Try.func140 (by kernel_rfl) rfl #[.slice Ao15 x0_1.length co15, .int .i64 (wrap64 (a2 - x10_1)), .int .i64 (wrap64 ((wrap64 (a2 + x11_1)) - x10_1)), .int .i64 x10_1, .func (.func 121) #[] #[]] rfl (by (try simp only [mT_, mC_, mN_]); rfl) ?_; (refine (Bi.calls (Pq_ := Pq_) (Nq_ := Nq_) (Cq_ := Cq_) k1 (fun k_ => some k_ = (.slice Ao15 x0_1.length co15 : Value).ownBlock) (.slice Ao15 x0_1.length co15) x0_1 (wrap64 (a2 - x10_1)) (wrap64 ((wrap64 (a2 + x11_1)) - x10_1)) x10_1 a4 t173 w0 _ ?side1 ?side2 A14.o).mono ?_); (case side1 => exact HB.o); (case side2 => exact Kd.R_tight rfl HO_0.o); rintro e w16 ⟨rfl, hy0, hb, hkp⟩; refine ⟨_, rfl, ?_⟩; replace HK := Aa.k (Kept.then_ (S := (fun k_ => P0_ k_)) HK.o hkp (fun k_ hs_ => (fun e_ => (HO_0.o.1 k_ e_.symm)) hs_)); replace HO_0 := Aa.k (Kd.R_reok rfl hy0 (fun k_ e_ => HO_0.o.1 k_ e_)); replace HB := Aa.k (hb); clear hb hkp hy0))
   go_roundg k1
   case measure => have := HK1.o; omega
   case rel => exact ⟨(t173), (x10_1), (wrap64 (x11_1 - x10_1)), (by (rfl)), (by (rfl)), H', ⟨by have := HK1.o; omega⟩, ⟨by exact HO_0.o⟩, ⟨by exact HK.o⟩, ⟨by exact HB.o⟩⟩
end

end Go.Proofs.Ytogflbocmiogpaa.PFnBestSearch
