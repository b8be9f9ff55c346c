-- Written for this claim by this session's turned copy of the printer.
import Derived.Test.YtogflbocmiogpaaPFnBestSearchx0
namespace Go.Proofs.Ytogflbocmiogpaa.PFnBestSearch
open Go.RowKit Go.Proofs.YtogflbocmiogpaaW.PrintWords Go.Proofs.YtogflbocmiogpaaW.PrintLast Go.Proofs.YtogflbocmiogpaaW.PrintMore
open List renaming setIfInBounds_toArray → sT_, set_cons_zero → sZ_, set_cons_succ → sS_, map_toArray → mT_, map_cons → mC_, map_nil → mN_
open Bool renaming true → Y_, false → N_
attribute [local go_sem] max2_int min2_int max_two min_two Fj Fh max_four min_four   -- for this text's walks alone
set_option linter.unusedVariables false
set_option linter.unusedSimpArgs false

/-! ### slices_insertionSortCmpFunc_int: function 136 -/
/-- Rows of slices, told by a number for each. -/
def Dr (Pq_ : Int → Option Addr) (Nq_ Cq_ : Int → Nat) : Kd Int := Kd.scalar (fun x => .slice (Pq_ x) (Nq_ x) (Cq_ x)) (fun _ => rfl)
theorem Ed {Pq_ : Int → Option Addr} {Nq_ Cq_ : Int → Nat} {w : World} {A : Option Addr} {n : Nat} {xs : List Int} (h : (Dr Pq_ Nq_ Cq_).C w A n xs) (i : Int) (h0 : 0 ≤ i) (h1 : i < n) : ∃ ad, A = some ad ∧ w.cell? (ad.add i.toNat) = some (.slice (Pq_ (rd xs i)) (Nq_ (rd xs i)) (Cq_ (rd xs i))) :=
 ReadsOf.at_ (Kd.reads_of_C (enc := fun x => Value.slice (Pq_ x) (Nq_ x) (Cq_ x)) (d := (0 : Int)) (h1 := fun _ => rfl) h) i h0 h1
theorem slices_ownB {A : Option Addr} {n m c k : Nat} (h : some k = (Value.slice A n c).ownBlock) : (Value.slice A m c).ownBlock = some k := by
 cases A <;> simp_all [Value.ownBlock]
/-- All blocks but those of G are as they were in wq. -/
def Ep (wq : World) (G : Nat → Prop) (W : World) : Prop := Kept wq W G
theorem Ep.step {wq : World} {G S : Nat → Prop} {w W : World} (h : Ep wq G w) (hk : Kept w W S) (hs : ∀ k, S k → G k) : Ep wq G W := Kept.then_ h hk (fun k hk' => Or.inl (hs k hk'))
/-- What is asked of the comparer. -/
def slices_CmpAt (CMP_ : Int → Int → Option Int) (Pq_ : Int → Option Addr) (Nq_ Cq_ : Int → Nat) (wq : World) (G : Nat → Prop) : Prop :=
 ∀ (x y r : Int) (W : World), Ep wq G W → CMP_ x y = some r → Calls Try.prog 121 #[.slice (Pq_ x) (Nq_ x) (Cq_ x), .slice (Pq_ y) (Nq_ y) (Cq_ y)] W fun e w' => e = .returned (.int .i64 r) ∧ Cu W w'
theorem slices_goesT_ {P : Program} {ops : Array Oper} {Q : Exit → Act → World → Prop} {oi : Oper} {N : Option Tmp} {a : Act} {w : World} {K : Act → World → Prop} {f : FuncId} {fn : Func} {t : Tmp} {as_ : Array Operand} {ts : Array TypeId} (hf : P.funcs[f]? = some fn) (hname : (fn.name == "runtime.NumGoroutine") = false) (hb : fn.body.isSome = true) (args : Array Value)
  (hw : Region.wanted oi (yielded ops a.tmps) = true) (hN : oi.dst = N) (hop : oi.op = .call { callee := .value (.tmp t), args := as_, argTypes := ts }) (hcal : a.eval (.tmp t) = .func (.func f) #[] #[]) (hargs : as_.map a.eval = args)
  (h : Calls P f args w fun e w' => ∃ v, e = .returned v ∧ K (a.put N v) w') : if Region.wanted oi (yielded ops a.tmps) = true then Oper.wp P oi a w K Q else K (a.put N undef) w := by
 refine call_ f args hw hN ?_ h
 have he := enters_ hf hname hb args w
 unfold execOp
 simp [hop, resolve, Deferred.ofValue, invoke, hcal, hargs, he]
section
variable {CMP_ : Int → Int → Option Int} {Pq_ : Int → Option Addr} {Nq_ Cq_ : Int → Nat} {wq_ : World} {Gq_ : Nat → Prop}
mutual
def Ak.l0 (CMP_ : Int → Int → Option Int) : Nat → List Int → Int → Int → Int → Option (List Int)
 | 0, _, _, _, _ => none
 | k + 1, x0, x1, x2, x8 => if x8 < x2 then (Ak.l1 CMP_ k x0 x1 x2 x8 x8) else (some x0)
def Ak.l1 (CMP_ : Int → Int → Option Int) : Nat → List Int → Int → Int → Int → Int → Option (List Int)
 | 0, _, _, _, _, _ => none
 | k + 1, x0, x1, x2, x8, x9 => if x9 > x1 then (if 0 ≤ x9 then (if x9 < (x0.length : Int) then (if 0 ≤ (wrap64 (x9 - 1)) then (if (wrap64 (x9 - 1)) < (x0.length : Int) then ((CMP_ (rd x0 x9) (rd x0 (wrap64 (x9 - 1)))).bind fun t162 => (if t162 < 0 then (Ak.l1 CMP_ k ((x0.set (x9 : Int).toNat (rd x0 (wrap64 (x9 - 1)))).set ((wrap64 (x9 - 1)) : Int).toNat (rd x0 x9)) x1 x2 x8 (wrap64 (x9 - 1))) else (Ak.l0 CMP_ k x0 x1 x2 (wrap64 (x8 + 1))))) else (none)) else (none)) else (none)) else (none)) else (Ak.l0 CMP_ k x0 x1 x2 (wrap64 (x8 + 1)))
end
def Ak.f (CMP_ : Int → Int → Option Int) (k : Nat) (l0 : List Int) (a1 : Int) (a2 : Int) (a3 : Int) : Option (List Int) := Ak.l0 CMP_ k l0 a1 a2 (wrap64 (a1 + 1))
def Ak.T4 : Bool × List (List Nat × List Nat) := (true, [([], []), ([], []), ([0, 1], [0, 1]), ([2], [2]), ([3], [3]), ([3], [3]), ([3], [3]), ([5, 6, 3], [3, 5, 6]), ([7, 3], [3, 7]), ([3], [3]), ([3], [3]), ([10, 3], [3, 10]), ([9, 11, 3], [3, 9, 11]), ([12, 3], [3, 12]), ([4, 8, 13, 3, 3], [3, 4, 8, 13]), ([14, 3], [3, 14]), ([3, 15], [3, 15])])
def Ak.B4 : List Nat := [0, 0, 3, 7, 15, 15, 15, 111, 239, 15, 15, 1039, 3599, 7695, 16383, 32767, 65535]
theorem Ak.tab4 : rtab .any (opsOf Try.f136 4) = Ak.T4 := by kernel_rfl
theorem Ak.bits4 : waitsOk Ak.T4.2 Ak.B4 = true := by kernel_rfl
def Ak.T6 : Bool × List (List Nat × List Nat) := (true, [([], []), ([], []), ([], []), ([], []), ([3], [3]), ([], []), ([], []), ([6], [6]), ([5, 7], [5, 7]), ([8], [8]), ([], []), ([], []), ([10, 11], [10, 11]), ([12], [12]), ([0, 1, 0, 1, 5, 6, 7, 8, 9, 13], [0, 1]), ([14, 9, 0, 1, 5, 6, 7, 8, 9, 13], [9, 14]), ([2, 4, 0, 1, 2, 3, 4, 5, 6, 7, 8, 9, 10, 11, 12, 13, 14, 15], [2, 4]), ([16, 13, 15, 0, 1, 2, 3, 4, 5, 6, 7, 8, 9, 10, 11, 12, 13, 14, 15], [13, 16])])
def Ak.B6 : List Nat := [0, 0, 0, 0, 8, 0, 0, 64, 224, 480, 0, 0, 3072, 7168, 16355, 32739, 65535, 131071]
theorem Ak.tab6 : rtab .any (opsOf Try.f136 6) = Ak.T6 := by kernel_rfl
theorem Ak.bits6 : waitsOk Ak.T6.2 Ak.B6 = true := by kernel_rfl
set_option maxHeartbeats 8000000 in
set_option maxRecDepth 100000 in
theorem Ak.calls (k : Nat) (P0_ : Nat → Prop) (u9000_ : Value) (l0 : List Int) (a1 : Int) (a2 : Int) (a3 : Int) (r : List Int) (w0 w : World) (hB : Below w0.heap.size w0 w) (ho0 : Kd.R (Dr Pq_ Nq_ Cq_) 30 w w0.heap.size P0_ u9000_ l0) (h : Ak.f CMP_ k l0 a1 a2 a3 = some r) (hC_ : slices_CmpAt CMP_ Pq_ Nq_ Cq_ wq_ Gq_) (hW_ : Ep wq_ Gq_ w) (hP_ : ∀ k_, P0_ k_ → Gq_ k_) :
  Calls Try.prog 136 #[u9000_, .int .i64 a1, .int .i64 a2, .func (.func 121) #[] #[]] w fun e w' => e = .returned (.tuple #[]) ∧ Kd.R (Dr Pq_ Nq_ Cq_) 30 w' w0.heap.size (fun k_ => (P0_ k_ ∨ w.heap.size ≤ k_)) u9000_ r ∧ Below w0.heap.size w0 w' ∧ Kept w w' (fun k_ => P0_ k_) := by
 have HCQ := Aa.k hC_
 have HWQ := Aa.k hW_
 have HPQ := Aa.k hP_
 have HGQ := Aa.k (show ∀ k_, (u9000_ : Value).ownBlock = some k_ → Gq_ k_ from fun k_ e_ => hP_ k_ (ho0.1 k_ e_))
 clear hC_ hW_ hP_
 have HO0 := Aa.k (show Kd.R (Dr Pq_ Nq_ Cq_) 30 w w0.heap.size (fun k_ => (P0_ k_ ∨ w.heap.size ≤ k_)) u9000_ l0 from Kd.Bv ho0 (fun k_ hk => (.inl hk)))
 have HK := Aa.k (Kept.refl w (fun k_ => P0_ k_))
 have HW0 := Aa.k hB.size
 have HB := Aa.k hB
 clear hB
 have H : (Ak.l0 CMP_ k l0 a1 a2 (wrap64 (a1 + 1))) = some r := h
 clear h
 have H' := Aa.k H
 clear H
 go_enter Try.func136, Try.ntmps136
 go_wp2
 go_loopg [8] k (fun kq v8 w' => ∃ (x0_1 : List Int) (x8_1 : Int), v8 = .int .i64 x8_1 ∧ Aa (Ak.l0 CMP_ kq x0_1 a1 a2 x8_1 = some r) ∧ Aa (kq ≤ k) ∧ Aa (Kd.R (Dr Pq_ Nq_ Cq_) 30 w' w0.heap.size (fun k_ => (P0_ k_ ∨ w.heap.size ≤ k_)) u9000_ x0_1) ∧ Aa (Kept w w' (fun k_ => P0_ k_)) ∧ Aa (Below w0.heap.size w0 w'))
 case atStart => exact ⟨(l0), (wrap64 (a1 + 1)), (by (rfl)), H', ⟨Nat.le_refl _⟩, ⟨by exact HO0.o⟩, ⟨by exact HK.o⟩, ⟨by exact HB.o⟩⟩
 case round =>
  clear H'
  obtain ⟨x0_1, x8_1, rfl, HA, HK1, HO_0, HK, HB⟩ := hrel
  cases gk with
  | zero => exact absurd HA.o (by simp [Ak.l0])
  | succ k1 =>
   have H := HA.o
   clear HA
   simp only [Ak.l0] at H
   by_cases c5 : x8_1 < a2
   rotate_left
   ·rw [if_neg c5] at H
    have c5b0 : decide (x8_1 < a2) = false := decide_eq_false c5
    clear c5
    obtain rfl := Option.some.inj H
    go_wp2
    (go_end0)
    exact ⟨by (rfl), by exact HO_0.o, by exact HB.o, by exact HK.o⟩
   rw [if_pos c5] at H
   have c5b0 : decide (x8_1 < a2) = true := decide_eq_true c5
   clear c5
   have H' := Aa.k H
   clear H
   go_wp2
   go_loopg [9] k1 (fun kq v9 w' => ∃ (x0_2 : List Int) (x9_2 : Int), v9 = .int .i64 x9_2 ∧ Aa (Ak.l1 CMP_ kq x0_2 a1 a2 x8_1 x9_2 = some r) ∧ Aa (kq ≤ k1) ∧ Aa (Kd.R (Dr Pq_ Nq_ Cq_) 30 w' w0.heap.size (fun k_ => (P0_ k_ ∨ w.heap.size ≤ k_)) u9000_ x0_2) ∧ Aa (Kept w w' (fun k_ => P0_ k_)) ∧ Aa (Below w0.heap.size w0 w'))
   case atStart => exact ⟨(x0_1), (x8_1), (by (rfl)), H', ⟨Nat.le_refl _⟩, ⟨by exact HO_0.o⟩, ⟨by exact HK.o⟩, ⟨by exact HB.o⟩⟩
   case round =>
    clear H'
    clear c5b0
    obtain ⟨x0_2, x9_2, rfl, HA, HK2, HO_0, HK, HB⟩ := hrel
    cases gk with
    | zero => exact absurd HA.o (by simp [Ak.l1])
    | succ k2 =>
     have H := HA.o
     clear HA
     simp only [Ak.l1] at H
     by_cases c6 : x9_2 > a1
     rotate_left
     ·rw [if_neg c6] at H
      have c6b0 : decide (a1 < x9_2) = false := decide_eq_false c6
      clear c6
      have H' := Aa.k H
      clear H
      try go_wp2
      replace HO_0 := Aa.k (Kd.R_drew HO_0.o)
      replace HK := Aa.k (Kept.drew HK.o)
      replace HB := Aa.k (Cf HB.o)
      refine Fp (n := 17) (S := fun w' => True) (ds := []) #[N_,N_,N_,N_,N_,N_,N_,N_,N_,N_,N_,N_,N_,N_,N_,N_,N_] (by kernel_rfl) rfl rfl trivial (fun hHeld => ?_); refine Dv Ak.tab4 Ak.bits4 (fun HT_ HW_ => ?_)
      generalize wr.drew = w23 at HO_0 HK HB hHeld ⊢
      apply pq_ 0 18 #[Y_,N_,N_,N_,N_,N_,N_,N_,N_,N_,N_,N_,N_,N_,N_,N_,N_] HT_ rfl rfl (by kernel_rfl) (fun _ _ _ h => h) (by rfl)
      ·intro w'; go_simp; rfl
      ·simp only [Act.put, sT_, sZ_, sS_, Ah, Ai]; rfl
      apply pq_ 1 19 #[Y_,Y_,N_,N_,N_,N_,N_,N_,N_,N_,N_,N_,N_,N_,N_,N_,N_] HT_ rfl rfl (by kernel_rfl) (fun _ _ _ h => h) (by rfl)
      ·intro w'; go_simp; rfl
      ·simp only [Act.put, sT_, sZ_, sS_, Ah, Ai]; rfl
      apply pq_ 2 20 #[Y_,Y_,Y_,N_,N_,N_,N_,N_,N_,N_,N_,N_,N_,N_,N_,N_,N_] HT_ rfl rfl (by kernel_rfl) (fun _ _ _ h => h) (by rfl)
      ·intro w'; go_simp; rfl
      ·simp only [Act.put, sT_, sZ_, sS_, Ah, Ai]; rfl
      apply pq_ 3 21 #[Y_,Y_,Y_,Y_,N_,N_,N_,N_,N_,N_,N_,N_,N_,N_,N_,N_,N_] HT_ rfl rfl (by kernel_rfl) (fun _ _ _ h => h) (by rfl)
      ·intro w'; go_simp; rfl
      ·simp only [Act.put, sT_, sZ_, sS_, Ah, Ai]; rfl
      refine Ei (i := 4) (N := some 22) (v := undef) (a' := ?_) #[Y_,Y_,Y_,Y_,Y_,N_,N_,N_,N_,N_,N_,N_,N_,N_,N_,N_,N_] rfl rfl (Di HT_.o (by kernel_rfl)) (fun _ _ _ h => h) (Or.inr ⟨by rfl, rfl⟩) ?_ ?_
      rotate_left
      ·simp only [Act.put, sT_, sZ_, sS_, Ah, Ai]
       rfl
      refine Ei (i := 5) (N := some 23) (v := undef) (a' := ?_) #[Y_,Y_,Y_,Y_,Y_,Y_,N_,N_,N_,N_,N_,N_,N_,N_,N_,N_,N_] rfl rfl (Di HT_.o (by kernel_rfl)) (fun _ _ _ h => h) (Or.inr ⟨by rfl, rfl⟩) ?_ ?_
      rotate_left
      ·simp only [Act.put, sT_, sZ_, sS_, Ah, Ai]
       rfl
      refine Ei (i := 6) (N := some 24) (v := undef) (a' := ?_) #[Y_,Y_,Y_,Y_,Y_,Y_,Y_,N_,N_,N_,N_,N_,N_,N_,N_,N_,N_] rfl rfl (Di HT_.o (by kernel_rfl)) (fun _ _ _ h => h) (Or.inr ⟨by rfl, rfl⟩) ?_ ?_
      rotate_left
      ·simp only [Act.put, sT_, sZ_, sS_, Ah, Ai]
       rfl
      refine Ei (i := 7) (N := some 25) (v := undef) (a' := ?_) #[Y_,Y_,Y_,Y_,Y_,Y_,Y_,Y_,N_,N_,N_,N_,N_,N_,N_,N_,N_] rfl rfl (Di HT_.o (by kernel_rfl)) (fun _ _ _ h => h) (Or.inr ⟨by rfl, rfl⟩) ?_ ?_
      rotate_left
      ·simp only [Act.put, sT_, sZ_, sS_, Ah, Ai]
       rfl
      refine Ei (i := 8) (N := some 26) (v := undef) (a' := ?_) #[Y_,Y_,Y_,Y_,Y_,Y_,Y_,Y_,Y_,N_,N_,N_,N_,N_,N_,N_,N_] rfl rfl (Di HT_.o (by kernel_rfl)) (fun _ _ _ h => h) (Or.inr ⟨by rfl, rfl⟩) ?_ ?_
      rotate_left
      ·simp only [Act.put, sT_, sZ_, sS_, Ah, Ai]
       rfl
      refine Ei (i := 9) (N := some 27) (v := undef) (a' := ?_) #[Y_,Y_,Y_,Y_,Y_,Y_,Y_,Y_,Y_,Y_,N_,N_,N_,N_,N_,N_,N_] rfl rfl (Di HT_.o (by kernel_rfl)) (fun _ _ _ h => h) (Or.inr ⟨by rfl, rfl⟩) ?_ ?_
      rotate_left
      ·simp only [Act.put, sT_, sZ_, sS_, Ah, Ai]
       rfl
      refine Ei (i := 10) (N := some 28) (v := undef) (a' := ?_) #[Y_,Y_,Y_,Y_,Y_,Y_,Y_,Y_,Y_,Y_,Y_,N_,N_,N_,N_,N_,N_] rfl rfl (Di HT_.o (by kernel_rfl)) (fun _ _ _ h => h) (Or.inr ⟨by rfl, rfl⟩) ?_ ?_
      rotate_left
      ·simp only [Act.put, sT_, sZ_, sS_, Ah, Ai]
       rfl
      refine Ei (i := 11) (N := some 29) (v := undef) (a' := ?_) #[Y_,Y_,Y_,Y_,Y_,Y_,Y_,Y_,Y_,Y_,Y_,Y_,N_,N_,N_,N_,N_] rfl rfl (Di HT_.o (by kernel_rfl)) (fun _ _ _ h => h) (Or.inr ⟨by rfl, rfl⟩) ?_ ?_
      rotate_left
      ·simp only [Act.put, sT_, sZ_, sS_, Ah, Ai]
       rfl
      refine Ei (i := 12) (N := some 30) (v := undef) (a' := ?_) #[Y_,Y_,Y_,Y_,Y_,Y_,Y_,Y_,Y_,Y_,Y_,Y_,Y_,N_,N_,N_,N_] rfl rfl (Di HT_.o (by kernel_rfl)) (fun _ _ _ h => h) (Or.inr ⟨by rfl, rfl⟩) ?_ ?_
      rotate_left
      ·simp only [Act.put, sT_, sZ_, sS_, Ah, Ai]
       rfl
      refine Ei (i := 13) (N := some 31) (v := undef) (a' := ?_) #[Y_,Y_,Y_,Y_,Y_,Y_,Y_,Y_,Y_,Y_,Y_,Y_,Y_,Y_,N_,N_,N_] rfl rfl (Di HT_.o (by kernel_rfl)) (fun _ _ _ h => h) (Or.inr ⟨by rfl, rfl⟩) ?_ ?_
      rotate_left
      ·simp only [Act.put, sT_, sZ_, sS_, Ah, Ai]
       rfl
      refine Ei (i := 14) (N := some 32) (v := undef) (a' := ?_) #[Y_,Y_,Y_,Y_,Y_,Y_,Y_,Y_,Y_,Y_,Y_,Y_,Y_,Y_,Y_,N_,N_] rfl rfl (Di HT_.o (by kernel_rfl)) (fun _ _ _ h => h) (Or.inr ⟨by rfl, rfl⟩) ?_ ?_
      rotate_left
      ·simp only [Act.put, sT_, sZ_, sS_, Ah, Ai]
       rfl
      refine Ei (i := 15) (N := some 33) (v := undef) (a' := ?_) #[Y_,Y_,Y_,Y_,Y_,Y_,Y_,Y_,Y_,Y_,Y_,Y_,Y_,Y_,Y_,Y_,N_] rfl rfl (Di HT_.o (by kernel_rfl)) (fun _ _ _ h => h) (Or.inr ⟨by rfl, rfl⟩) ?_ ?_
      rotate_left
      ·simp only [Act.put, sT_, sZ_, sS_, Ah, Ai]
       rfl
      apply pq_ 16 34 #[Y_,Y_,Y_,Y_,Y_,Y_,Y_,Y_,Y_,Y_,Y_,Y_,Y_,Y_,Y_,Y_,Y_] HT_ rfl rfl (by kernel_rfl) (fun _ _ _ h => h) (by rfl)
      ·intro w'; go_simp; rfl
      ·simp only [Act.put, sT_, sZ_, sS_, Ah, Ai]; rfl
      refine done_ (Fa HT_.o (by kernel_rfl)) ?_
      try go_wp2
      go_roundg k2
      case measure => have := HK1.o; have := HK2.o; omega
      case rel => exact ⟨(x0_2), (wrap64 (x8_1 + 1)), (by (rfl)), H', ⟨by have := HK1.o; have := HK2.o; omega⟩, ⟨by exact HO_0.o⟩, ⟨by exact HK.o⟩, ⟨by exact HB.o⟩⟩
     rw [if_pos c6] at H
     have c6b0 : decide (a1 < x9_2) = true := decide_eq_true c6
     clear c6
     by_cases c7 : 0 ≤ x9_2
     rotate_left
     ·rw [if_neg c7] at H
      exact absurd H (by simp)
     rw [if_pos c7] at H
     have c7b0 : decide (0 ≤ x9_2) = true := decide_eq_true c7
     clear c7
     by_cases c8 : x9_2 < (x0_2.length : Int)
     rotate_left
     ·rw [if_neg c8] at H
      exact absurd H (by simp)
     rw [if_pos c8] at H
     have c8b0 : decide (x9_2 < (x0_2.length : Int)) = true := decide_eq_true c8
     clear c8
     obtain ⟨ji9, hji9⟩ : ∃ j_ : Int, (wrap64 (x9_2 - 1)) = j_ := ⟨_, rfl⟩
     replace H : (if 0 ≤ (ji9) then (if (ji9) < (x0_2.length : Int) then ((CMP_ (rd x0_2 x9_2) (rd x0_2 (ji9))).bind fun t162 => (if t162 < 0 then (Ak.l1 CMP_ k2 ((x0_2.set (x9_2 : Int).toNat (rd x0_2 (ji9))).set ((ji9) : Int).toNat (rd x0_2 x9_2)) a1 a2 x8_1 ji9) else (Ak.l0 CMP_ k2 x0_2 a1 a2 (wrap64 (x8_1 + 1))))) else (none)) else (none)) = some r := by (rw [hji9] at H; exact H)
     have hji9w : (IntKind.i64.wrap (x9_2 - 1)) = ji9 := (Ah _).trans hji9
     by_cases c10 : 0 ≤ (ji9)
     rotate_left
     ·rw [if_neg c10] at H
      exact absurd H (by simp)
     rw [if_pos c10] at H
     have c10b0 : decide (0 ≤ (ji9)) = true := decide_eq_true c10
     clear c10
     by_cases c11 : (ji9) < (x0_2.length : Int)
     rotate_left
     ·rw [if_neg c11] at H
      exact absurd H (by simp)
     rw [if_pos c11] at H
     have c11b0 : decide ((ji9) < (x0_2.length : Int)) = true := decide_eq_true c11
     clear c11
     obtain ⟨t162, A120, H⟩ := bindS_ H
     try dsimp only at H
     have A12 := Aa.k A120
     clear A120
     by_cases c13 : t162 < 0
     rotate_left
     ·rw [if_neg c13] at H
      have c13b0 : decide (t162 < 0) = false := decide_eq_false c13
      clear c13
      have H' := Aa.k H
      clear H
      try go_wp2
      replace HO_0 := Aa.k (Kd.R_drew HO_0.o)
      replace HK := Aa.k (Kept.drew HK.o)
      replace HB := Aa.k (Cf HB.o)
      obtain ⟨Ao22, co22, eo22⟩ := Kd.Cx HO_0.o
      ((subst eo22))
      have p160 : 0 ≤ (x9_2 : Int) := of_decide_eq_true (by (assumption))
      have q160 : x9_2 < (x0_2.length : Int) := of_decide_eq_true (by (assumption))
      obtain ⟨ad160, e160, hx160_0⟩ := Ed (Kd.Bb HO_0.o).2.2 x9_2 p160 q160
      cases e160
      replace p160 := eq_true p160
      replace q160 := eq_true q160
      have p161 : 0 ≤ ((ji9) : Int) := of_decide_eq_true (by (assumption))
      have q161 : (ji9) < (x0_2.length : Int) := of_decide_eq_true (by (assumption))
      obtain ⟨ad161, e161, hx161_0⟩ := Ed (Kd.Bb HO_0.o).2.2 (ji9) p161 q161
      obtain rfl : ad160 = ad161 := (by injection e161)
      replace p161 := eq_true p161
      replace q161 := eq_true q161
      refine Fp (n := 17) (S := fun w' => w'.cell? (ad160.add (x9_2).toNat) = some (.slice (Pq_ (rd x0_2 x9_2)) (Nq_ (rd x0_2 x9_2)) (Cq_ (rd x0_2 x9_2))) ∧ w'.cell? (ad160.add ((ji9)).toNat) = some (.slice (Pq_ (rd x0_2 (ji9))) (Nq_ (rd x0_2 (ji9))) (Cq_ (rd x0_2 (ji9))))) (ds := []) #[N_,N_,N_,N_,N_,N_,N_,N_,N_,N_,N_,N_,N_,N_,N_,N_,N_] (by kernel_rfl) rfl rfl ⟨hx160_0, hx161_0⟩ (fun hHeld => ?_); refine Dv Ak.tab4 Ak.bits4 (fun HT_ HW_ => ?_)
      generalize wr.drew = w21 at HO_0 HK HB hx160_0 hx161_0 hHeld ⊢
      apply pq_ 0 18 #[Y_,N_,N_,N_,N_,N_,N_,N_,N_,N_,N_,N_,N_,N_,N_,N_,N_] HT_ rfl rfl (by kernel_rfl) (fun _ _ _ h => h) (by rfl)
      ·intro w'; go_simp; rfl
      ·simp only [Act.put, sT_, sZ_, sS_, Ah, Ai]; rfl
      apply pq_ 1 19 #[Y_,Y_,N_,N_,N_,N_,N_,N_,N_,N_,N_,N_,N_,N_,N_,N_,N_] HT_ rfl rfl (by kernel_rfl) (fun _ _ _ h => h) (by rfl)
      ·intro w'; go_simp; rfl
      ·simp only [Act.put, sT_, sZ_, sS_, Ah, Ai]; rfl
      apply pq_ 2 20 #[Y_,Y_,Y_,N_,N_,N_,N_,N_,N_,N_,N_,N_,N_,N_,N_,N_,N_] HT_ rfl rfl (by kernel_rfl) (fun _ _ _ h => h) (by rfl)
      ·intro w'; go_simp; rfl
      ·simp only [Act.put, sT_, sZ_, sS_, Ah, Ai]; rfl
      apply pq_ 3 21 #[Y_,Y_,Y_,Y_,N_,N_,N_,N_,N_,N_,N_,N_,N_,N_,N_,N_,N_] HT_ rfl rfl (by kernel_rfl) (fun _ _ _ h => h) (by rfl)
      ·intro w'; go_simp; rfl
      ·simp only [Act.put, sT_, sZ_, sS_, Ah, Ai]; rfl
      apply pq_ 4 22 #[Y_,Y_,Y_,Y_,Y_,N_,N_,N_,N_,N_,N_,N_,N_,N_,N_,N_,N_] HT_ rfl rfl (by kernel_rfl) (fun _ _ _ h => h) (by rfl)
      ·intro w'; go_simp; rfl
      ·simp only [Act.put, sT_, sZ_, sS_, Ah, Ai]; rfl
      apply pq_ 5 23 #[Y_,Y_,Y_,Y_,Y_,Y_,N_,N_,N_,N_,N_,N_,N_,N_,N_,N_,N_] HT_ rfl rfl (by kernel_rfl) (fun _ _ _ h => h) (by rfl)
      ·intro w'; go_simp; rfl
      ·simp only [Act.put, sT_, sZ_, sS_, Ah, Ai]; rfl
      apply pq_ 6 24 #[Y_,Y_,Y_,Y_,Y_,Y_,Y_,N_,N_,N_,N_,N_,N_,N_,N_,N_,N_] HT_ rfl rfl (by kernel_rfl) (fun _ _ _ h => h) (by rfl)
      ·intro w'; go_simp; rfl
      ·simp only [Act.put, sT_, sZ_, sS_, Ah, Ai]; rfl
      apply pq_ 7 25 #[Y_,Y_,Y_,Y_,Y_,Y_,Y_,Y_,N_,N_,N_,N_,N_,N_,N_,N_,N_] HT_ rfl rfl (by kernel_rfl) (fun _ _ _ h => h) (by rfl)
      ·intro w'; go_simp; rfl
      ·simp only [Act.put, sT_, sZ_, sS_, Ah, Ai]; rfl
      apply pq_ 9 27 #[Y_,Y_,Y_,Y_,Y_,Y_,Y_,Y_,N_,Y_,N_,N_,N_,N_,N_,N_,N_] HT_ rfl rfl (by kernel_rfl) (fun _ _ _ h => h) (by rfl)
      ·intro w'; go_simp; rfl
      ·simp only [Act.put, sT_, sZ_, sS_, Ah, Ai]; rfl
      apply pq_ 10 28 #[Y_,Y_,Y_,Y_,Y_,Y_,Y_,Y_,N_,Y_,Y_,N_,N_,N_,N_,N_,N_] HT_ rfl rfl (by kernel_rfl) (fun _ _ _ h => h) (by rfl)
      ·intro w'; go_simp; rfl
      ·simp only [Act.put, sT_, sZ_, sS_, Ah, Ai]; rfl
      apply pq_ 11 29 #[Y_,Y_,Y_,Y_,Y_,Y_,Y_,Y_,N_,Y_,Y_,Y_,N_,N_,N_,N_,N_] HT_ rfl rfl (by kernel_rfl) (fun _ _ _ h => h) (by rfl)
      ·intro w'; go_simp; rfl
      ·simp only [Act.put, sT_, sZ_, sS_, Ah, Ai]; rfl
      apply pq_ 12 30 #[Y_,Y_,Y_,Y_,Y_,Y_,Y_,Y_,N_,Y_,Y_,Y_,Y_,N_,N_,N_,N_] HT_ rfl rfl (by kernel_rfl) (fun _ _ _ h => h) (by rfl)
      ·intro w'; go_simp; rfl
      ·simp only [Act.put, sT_, sZ_, sS_, Ah, Ai]; rfl
      refine En (i := 8) (N := some 26) (v := ?_) (a' := ?_) #[Y_,Y_,Y_,Y_,Y_,Y_,Y_,Y_,Y_,Y_,Y_,Y_,Y_,N_,N_,N_,N_] rfl rfl (Cm HT_.o HW_.o (by kernel_rfl)) (fun _ _ _ h => h) (Or.inl ⟨by rfl, ?_⟩) hHeld ?_ ?_
      rotate_left
      ·rintro w' ⟨s0, s1⟩
       go_simp
       rfl
      rotate_left
      ·simp only [Act.put, sT_, sZ_, sS_, Ah, Ai]
       rfl
      refine En (i := 13) (N := some 31) (v := ?_) (a' := ?_) #[Y_,Y_,Y_,Y_,Y_,Y_,Y_,Y_,Y_,Y_,Y_,Y_,Y_,Y_,N_,N_,N_] rfl rfl (Cm HT_.o HW_.o (by kernel_rfl)) (fun _ _ _ h => h) (Or.inl ⟨by rfl, ?_⟩) hHeld ?_ ?_
      rotate_left
      ·rintro w' ⟨s0, s1⟩
       go_simp
       rfl
      rotate_left
      ·simp only [Act.put, sT_, sZ_, sS_, Ah, Ai]
       rfl
      refine one_ (i := 14) (N := some 32) #[Y_,Y_,Y_,Y_,Y_,Y_,Y_,Y_,Y_,Y_,Y_,Y_,Y_,Y_,Y_,N_,N_] rfl rfl (Ej HT_.o (by kernel_rfl)) (by decide) (fun K hK => ?_)
      refine slices_goesT_ Try.func121 (by kernel_rfl) rfl #[.slice (Pq_ (rd x0_2 x9_2)) (Nq_ (rd x0_2 x9_2)) (Cq_ (rd x0_2 x9_2)), .slice (Pq_ (rd x0_2 (ji9))) (Nq_ (rd x0_2 (ji9))) (Cq_ (rd x0_2 (ji9)))] (by rfl) rfl rfl (by rfl) (by (try simp only [mT_, mC_, mN_]); rfl) ?_
      refine (HCQ.o (rd x0_2 x9_2) (rd x0_2 (ji9)) t162 _ (Ep.step HWQ.o HK.o HPQ.o) A12.o).mono ?_
      rintro e w' ⟨rfl, ⟨nd, rfl⟩⟩
      refine ⟨_, rfl, ?_⟩
      refine hK.out _ _ ⟨hHeld.1, hHeld.2⟩ (fun hHeld => ?_)
      clear hK K
      refine Es (a' := ?_) ?_ ?_
      rotate_left
      ·show Act.put _ (some 32) _ = _
       simp only [Act.put, sT_, sZ_, sS_, Ah, Ai]
       rfl
      apply pq_ 15 33 #[Y_,Y_,Y_,Y_,Y_,Y_,Y_,Y_,Y_,Y_,Y_,Y_,Y_,Y_,Y_,Y_,N_] HT_ rfl rfl (by kernel_rfl) (fun _ _ _ h => h) (by rfl)
      ·intro w'; go_simp; rfl
      ·simp only [Act.put, sT_, sZ_, sS_, Ah, Ai]; rfl
      apply pq_ 16 34 #[Y_,Y_,Y_,Y_,Y_,Y_,Y_,Y_,Y_,Y_,Y_,Y_,Y_,Y_,Y_,Y_,Y_] HT_ rfl rfl (by kernel_rfl) (fun _ _ _ h => h) (by rfl)
      ·intro w'; go_simp; rfl
      ·simp only [Act.put, sT_, sZ_, sS_, Ah, Ai]; rfl
      refine done_ (Fa HT_.o (by kernel_rfl)) ?_
      try go_wp2
      go_roundg k2
      case measure => have := HK1.o; have := HK2.o; omega
      case rel => exact ⟨(x0_2), (wrap64 (x8_1 + 1)), (by (rfl)), H', ⟨by have := HK1.o; have := HK2.o; omega⟩, ⟨by (with_reducible repeat ((apply Kd.Ee))); exact HO_0.o⟩, ⟨by repeat ((with_reducible first | exact HK.o | apply Kept.drewN))⟩, ⟨by repeat ((with_reducible first | exact HB.o | apply Bh))⟩⟩
     rw [if_pos c13] at H
     have c13b0 : decide (t162 < 0) = true := decide_eq_true c13
     clear c13
     obtain ⟨y165, hy165⟩ : ∃ y_ : List Int, y_ = (x0_2.set (x9_2 : Int).toNat (rd x0_2 (ji9))) := ⟨_, rfl⟩
     replace H : (Ak.l1 CMP_ k2 (y165.set ((ji9) : Int).toNat (rd x0_2 x9_2)) a1 a2 x8_1 ji9) = some r := by (rw [hy165]; exact H)
     have Ny165 := Aa.k hy165
     clear hy165
     obtain ⟨y166, hy166⟩ : ∃ y_ : List Int, y_ = (y165.set ((ji9) : Int).toNat (rd x0_2 x9_2)) := ⟨_, rfl⟩
     replace H : (Ak.l1 CMP_ k2 y166 a1 a2 x8_1 ji9) = some r := by (rw [hy166]; exact H)
     have Ny166 := Aa.k hy166
     clear hy166
     have H' := Aa.k H
     clear H
     try go_wp2
     replace HO_0 := Aa.k (Kd.R_drew HO_0.o)
     replace HK := Aa.k (Kept.drew HK.o)
     replace HB := Aa.k (Cf HB.o)
     obtain ⟨Ao17, co17, eo17⟩ := Kd.Cx HO_0.o
     ((subst eo17))
     have p160 : 0 ≤ (x9_2 : Int) := of_decide_eq_true (by (assumption))
     have q160 : x9_2 < (x0_2.length : Int) := of_decide_eq_true (by (assumption))
     obtain ⟨ad160, e160, hx160_0⟩ := Ed (Kd.Bb HO_0.o).2.2 x9_2 p160 q160
     cases e160
     replace p160 := eq_true p160
     replace q160 := eq_true q160
     have p161 : 0 ≤ ((ji9) : Int) := of_decide_eq_true (by (assumption))
     have q161 : (ji9) < (x0_2.length : Int) := of_decide_eq_true (by (assumption))
     obtain ⟨ad161, e161, hx161_0⟩ := Ed (Kd.Bb HO_0.o).2.2 (ji9) p161 q161
     obtain rfl : ad160 = ad161 := (by injection e161)
     replace p161 := eq_true p161
     replace q161 := eq_true q161
     refine Fp (n := 17) (S := fun w' => w'.cell? (ad160.add (x9_2).toNat) = some (.slice (Pq_ (rd x0_2 x9_2)) (Nq_ (rd x0_2 x9_2)) (Cq_ (rd x0_2 x9_2))) ∧ w'.cell? (ad160.add ((ji9)).toNat) = some (.slice (Pq_ (rd x0_2 (ji9))) (Nq_ (rd x0_2 (ji9))) (Cq_ (rd x0_2 (ji9))))) (ds := []) #[N_,N_,N_,N_,N_,N_,N_,N_,N_,N_,N_,N_,N_,N_,N_,N_,N_] (by kernel_rfl) rfl rfl ⟨hx160_0, hx161_0⟩ (fun hHeld => ?_); refine Dv Ak.tab4 Ak.bits4 (fun HT_ HW_ => ?_)
     generalize wr.drew = w16 at HO_0 HK HB hx160_0 hx161_0 hHeld ⊢
     apply pq_ 0 18 #[Y_,N_,N_,N_,N_,N_,N_,N_,N_,N_,N_,N_,N_,N_,N_,N_,N_] HT_ rfl rfl (by kernel_rfl) (fun _ _ _ h => h) (by rfl)
     ·intro w'; go_simp; rfl
     ·simp only [Act.put, sT_, sZ_, sS_, Ah, Ai]; rfl
     apply pq_ 1 19 #[Y_,Y_,N_,N_,N_,N_,N_,N_,N_,N_,N_,N_,N_,N_,N_,N_,N_] HT_ rfl rfl (by kernel_rfl) (fun _ _ _ h => h) (by rfl)
     ·intro w'; go_simp; rfl
     ·simp only [Act.put, sT_, sZ_, sS_, Ah, Ai]; rfl
     apply pq_ 2 20 #[Y_,Y_,Y_,N_,N_,N_,N_,N_,N_,N_,N_,N_,N_,N_,N_,N_,N_] HT_ rfl rfl (by kernel_rfl) (fun _ _ _ h => h) (by rfl)
     ·intro w'; go_simp; rfl
     ·simp only [Act.put, sT_, sZ_, sS_, Ah, Ai]; rfl
     apply pq_ 3 21 #[Y_,Y_,Y_,Y_,N_,N_,N_,N_,N_,N_,N_,N_,N_,N_,N_,N_,N_] HT_ rfl rfl (by kernel_rfl) (fun _ _ _ h => h) (by rfl)
     ·intro w'; go_simp; rfl
     ·simp only [Act.put, sT_, sZ_, sS_, Ah, Ai]; rfl
     apply pq_ 4 22 #[Y_,Y_,Y_,Y_,Y_,N_,N_,N_,N_,N_,N_,N_,N_,N_,N_,N_,N_] HT_ rfl rfl (by kernel_rfl) (fun _ _ _ h => h) (by rfl)
     ·intro w'; go_simp; rfl
     ·simp only [Act.put, sT_, sZ_, sS_, Ah, Ai]; rfl
     apply pq_ 5 23 #[Y_,Y_,Y_,Y_,Y_,Y_,N_,N_,N_,N_,N_,N_,N_,N_,N_,N_,N_] HT_ rfl rfl (by kernel_rfl) (fun _ _ _ h => h) (by rfl)
     ·intro w'; go_simp; rfl
     ·simp only [Act.put, sT_, sZ_, sS_, Ah, Ai]; rfl
     apply pq_ 6 24 #[Y_,Y_,Y_,Y_,Y_,Y_,Y_,N_,N_,N_,N_,N_,N_,N_,N_,N_,N_] HT_ rfl rfl (by kernel_rfl) (fun _ _ _ h => h) (by rfl)
     ·intro w'; go_simp; rfl
     ·simp only [Act.put, sT_, sZ_, sS_, Ah, Ai]; rfl
     apply pq_ 7 25 #[Y_,Y_,Y_,Y_,Y_,Y_,Y_,Y_,N_,N_,N_,N_,N_,N_,N_,N_,N_] HT_ rfl rfl (by kernel_rfl) (fun _ _ _ h => h) (by rfl)
     ·intro w'; go_simp; rfl
     ·simp only [Act.put, sT_, sZ_, sS_, Ah, Ai]; rfl
     apply pq_ 9 27 #[Y_,Y_,Y_,Y_,Y_,Y_,Y_,Y_,N_,Y_,N_,N_,N_,N_,N_,N_,N_] HT_ rfl rfl (by kernel_rfl) (fun _ _ _ h => h) (by rfl)
     ·intro w'; go_simp; rfl
     ·simp only [Act.put, sT_, sZ_, sS_, Ah, Ai]; rfl
     apply pq_ 10 28 #[Y_,Y_,Y_,Y_,Y_,Y_,Y_,Y_,N_,Y_,Y_,N_,N_,N_,N_,N_,N_] HT_ rfl rfl (by kernel_rfl) (fun _ _ _ h => h) (by rfl)
     ·intro w'; go_simp; rfl
     ·simp only [Act.put, sT_, sZ_, sS_, Ah, Ai]; rfl
     apply pq_ 11 29 #[Y_,Y_,Y_,Y_,Y_,Y_,Y_,Y_,N_,Y_,Y_,Y_,N_,N_,N_,N_,N_] HT_ rfl rfl (by kernel_rfl) (fun _ _ _ h => h) (by rfl)
     ·intro w'; go_simp; rfl
     ·simp only [Act.put, sT_, sZ_, sS_, Ah, Ai]; rfl
     apply pq_ 12 30 #[Y_,Y_,Y_,Y_,Y_,Y_,Y_,Y_,N_,Y_,Y_,Y_,Y_,N_,N_,N_,N_] HT_ rfl rfl (by kernel_rfl) (fun _ _ _ h => h) (by rfl)
     ·intro w'; go_simp; rfl
     ·simp only [Act.put, sT_, sZ_, sS_, Ah, Ai]; rfl
     refine En (i := 8) (N := some 26) (v := ?_) (a' := ?_) #[Y_,Y_,Y_,Y_,Y_,Y_,Y_,Y_,Y_,Y_,Y_,Y_,Y_,N_,N_,N_,N_] rfl rfl (Cm HT_.o HW_.o (by kernel_rfl)) (fun _ _ _ h => h) (Or.inl ⟨by rfl, ?_⟩) hHeld ?_ ?_
     rotate_left
     ·rintro w' ⟨s0, s1⟩
      go_simp
      rfl
     rotate_left
     ·simp only [Act.put, sT_, sZ_, sS_, Ah, Ai]
      rfl
     refine En (i := 13) (N := some 31) (v := ?_) (a' := ?_) #[Y_,Y_,Y_,Y_,Y_,Y_,Y_,Y_,Y_,Y_,Y_,Y_,Y_,Y_,N_,N_,N_] rfl rfl (Cm HT_.o HW_.o (by kernel_rfl)) (fun _ _ _ h => h) (Or.inl ⟨by rfl, ?_⟩) hHeld ?_ ?_
     rotate_left
     ·rintro w' ⟨s0, s1⟩
      go_simp
      rfl
     rotate_left
     ·simp only [Act.put, sT_, sZ_, sS_, Ah, Ai]
      rfl
     refine one_ (i := 14) (N := some 32) #[Y_,Y_,Y_,Y_,Y_,Y_,Y_,Y_,Y_,Y_,Y_,Y_,Y_,Y_,Y_,N_,N_] rfl rfl (Ej HT_.o (by kernel_rfl)) (by decide) (fun K hK => ?_)
     refine slices_goesT_ Try.func121 (by kernel_rfl) rfl #[.slice (Pq_ (rd x0_2 x9_2)) (Nq_ (rd x0_2 x9_2)) (Cq_ (rd x0_2 x9_2)), .slice (Pq_ (rd x0_2 (ji9))) (Nq_ (rd x0_2 (ji9))) (Cq_ (rd x0_2 (ji9)))] (by rfl) rfl rfl (by rfl) (by (try simp only [mT_, mC_, mN_]); rfl) ?_
     refine (HCQ.o (rd x0_2 x9_2) (rd x0_2 (ji9)) t162 _ (Ep.step HWQ.o HK.o HPQ.o) A12.o).mono ?_
     rintro e w' ⟨rfl, ⟨nd, rfl⟩⟩
     refine ⟨_, rfl, ?_⟩
     refine hK.out _ _ ⟨hHeld.1, hHeld.2⟩ (fun hHeld => ?_)
     clear hK K
     refine Es (a' := ?_) ?_ ?_
     rotate_left
     ·show Act.put _ (some 32) _ = _
      simp only [Act.put, sT_, sZ_, sS_, Ah, Ai]
      rfl
     apply pq_ 15 33 #[Y_,Y_,Y_,Y_,Y_,Y_,Y_,Y_,Y_,Y_,Y_,Y_,Y_,Y_,Y_,Y_,N_] HT_ rfl rfl (by kernel_rfl) (fun _ _ _ h => h) (by rfl)
     ·intro w'; go_simp; rfl
     ·simp only [Act.put, sT_, sZ_, sS_, Ah, Ai]; rfl
     apply pq_ 16 34 #[Y_,Y_,Y_,Y_,Y_,Y_,Y_,Y_,Y_,Y_,Y_,Y_,Y_,Y_,Y_,Y_,Y_] HT_ rfl rfl (by kernel_rfl) (fun _ _ _ h => h) (by rfl)
     ·intro w'; go_simp; rfl
     ·simp only [Act.put, sT_, sZ_, sS_, Ah, Ai]; rfl
     refine done_ (Fa HT_.o (by kernel_rfl)) ?_
     try go_wp2
     (try (rw [drewN_self w16]; generalize hq_ : World.drewN w16 _ = w16; have n0_ : Aa (Kd.R (Dr Pq_ Nq_ Cq_) 30 w16 w0.heap.size (fun k_ => (P0_ k_ ∨ w.heap.size ≤ k_)) (.slice (some ad160) x0_2.length co17) x0_2) := ⟨by rw [← hq_]; exact (by (with_reducible repeat ((apply Kd.Ee))); exact HO_0.o)⟩; have n1_ : Aa (Kept w w16 (fun k_ => P0_ k_)) := ⟨by rw [← hq_]; exact (by repeat ((with_reducible first | exact HK.o | apply Kept.drewN)))⟩; have n2_ : Aa (Below w0.heap.size w0 w16) := ⟨by rw [← hq_]; exact (by repeat ((with_reducible first | exact HB.o | apply Bh)))⟩; clear HO_0 HK HB hq_; have HO_0 := n0_; have HK := n1_; have HB := n2_; clear n0_ n1_ n2_))
     replace HO_0 := Aa.k (Kd.R_drew HO_0.o)
     replace HK := Aa.k (Kept.drew HK.o)
     replace HB := Aa.k (Cf HB.o)
     have p163 : 0 ≤ ((ji9) : Int) := of_decide_eq_true (by (assumption))
     have q163 : (ji9) < (x0_2.length : Int) := of_decide_eq_true (by (assumption))
     obtain ⟨ad163, e163, hx163_0⟩ := Ed (Kd.Bb HO_0.o).2.2 (ji9) p163 q163
     obtain rfl : ad160 = ad163 := (by injection e163)
     replace p163 := eq_true p163
     replace q163 := eq_true q163
     have p164 : 0 ≤ (x9_2 : Int) := of_decide_eq_true (by (assumption))
     have q164 : x9_2 < (x0_2.length : Int) := of_decide_eq_true (by (assumption))
     obtain ⟨ad164, e164, hx164_0⟩ := Ed (Kd.Bb HO_0.o).2.2 x9_2 p164 q164
     obtain rfl : ad160 = ad164 := (by injection e164)
     replace p164 := eq_true p164
     replace q164 := eq_true q164
     have p14 : 0 ≤ (x9_2 : Int) := of_decide_eq_true (by (assumption))
     have q14 : (x9_2 : Int) < ((x0_2.length : Int) : Int) := of_decide_eq_true (by (assumption))
     obtain ⟨go14, co14, eo14, gb14, gl14, cl14, HG14⟩ := Kd.R_form HO_0.o (by omega)
     ((cases eo14))
     have GB14 := Aa.k gb14
     have GG14 := Aa.k HG14
     clear gb14 gl14 HG14
     have HMgo14 := Aa.k (show (P0_ go14 ∨ w.heap.size ≤ go14) from (HO_0.o.1 _ rfl))
     ((simp only [add_plain] at hx160_0))
     ((simp only [add_plain] at hx161_0))
     ((simp only [add_plain] at hx163_0))
     ((simp only [add_plain] at hx164_0))
     obtain ⟨hx14_0, hf14_0⟩ := Kd.R_celln 0 HO_0.o (x9_2 : Int) p14 q14
     replace p14 := eq_true p14
     replace q14 := eq_true q14
     have HP19 := Kd.R_putn HO_0.o (x9_2 : Int) (rd x0_2 (ji9))
     rw [← Ny165.o] at HP19
     have HQ19 := Aa.k HP19
     clear HP19
     have p15 : 0 ≤ ((ji9) : Int) := of_decide_eq_true (by (assumption))
     have q15 : ((ji9) : Int) < ((x0_2.length : Int) : Int) := of_decide_eq_true (by (assumption))
     obtain ⟨hx15_0, hf15_0⟩ := Kd.R_celln 0 HQ19.o ((ji9) : Int) p15 q15
     replace p15 := eq_true p15
     replace q15 := eq_true q15
     have HP20 := Kd.R_putn HQ19.o ((ji9) : Int) (rd x0_2 x9_2)
     rw [← Ny166.o] at HP20
     have HQ20 := Aa.k HP20
     clear HP20
     refine Fp (n := 18) (S := fun w' => w'.cell? ⟨go14, ((ji9)).toNat, none⟩ = some (.slice (Pq_ (rd x0_2 (ji9))) (Nq_ (rd x0_2 (ji9))) (Cq_ (rd x0_2 (ji9)))) ∧ w'.cell? ⟨go14, (x9_2).toNat, none⟩ = some (.slice (Pq_ (rd x0_2 x9_2)) (Nq_ (rd x0_2 x9_2)) (Cq_ (rd x0_2 x9_2)))) (ds := [15, 17]) #[N_,N_,N_,N_,N_,N_,N_,N_,N_,N_,N_,N_,N_,N_,N_,N_,N_,N_] (by kernel_rfl) rfl rfl ⟨hx163_0, hx164_0⟩ (fun hHeld => ?_); refine Dv Ak.tab6 Ak.bits6 (fun HT_ HW_ => ?_)
     generalize w16.drew = w18 at HO_0 HK HB GG14 HQ19 HQ20 hf14_0 hf15_0 hx14_0 hx15_0 hx160_0 hx161_0 hx163_0 hx164_0 hHeld ⊢
     apply pq_ 0 37 #[Y_,N_,N_,N_,N_,N_,N_,N_,N_,N_,N_,N_,N_,N_,N_,N_,N_,N_] HT_ rfl rfl (by kernel_rfl) (fun _ _ _ h => h) (by rfl)
     ·intro w'; go_simp; rfl
     ·simp only [Act.put, sT_, sZ_, sS_, Ah, Ai]; rfl
     apply pq_ 1 38 #[Y_,Y_,N_,N_,N_,N_,N_,N_,N_,N_,N_,N_,N_,N_,N_,N_,N_,N_] HT_ rfl rfl (by kernel_rfl) (fun _ _ _ h => h) (by rfl)
     ·intro w'; go_simp; rfl
     ·simp only [Act.put, sT_, sZ_, sS_, Ah, Ai]; rfl
     apply pq_ 2 39 #[Y_,Y_,Y_,N_,N_,N_,N_,N_,N_,N_,N_,N_,N_,N_,N_,N_,N_,N_] HT_ rfl rfl (by kernel_rfl) (fun _ _ _ h => h) (by rfl)
     ·intro w'; go_simp; rfl
     ·simp only [Act.put, sT_, sZ_, sS_, Ah, Ai]; rfl
     apply pq_ 3 40 #[Y_,Y_,Y_,Y_,N_,N_,N_,N_,N_,N_,N_,N_,N_,N_,N_,N_,N_,N_] HT_ rfl rfl (by kernel_rfl) (fun _ _ _ h => h) (by rfl)
     ·intro w'; go_simp; rfl
     ·simp only [Act.put, sT_, sZ_, sS_, Ah, Ai]; rfl
     apply pq_ 4 41 #[Y_,Y_,Y_,Y_,Y_,N_,N_,N_,N_,N_,N_,N_,N_,N_,N_,N_,N_,N_] HT_ rfl rfl (by kernel_rfl) (fun _ _ _ h => h) (by rfl)
     ·intro w'; go_simp; rfl
     ·simp only [Act.put, sT_, sZ_, sS_, Ah, Ai]; rfl
     apply pq_ 5 42 #[Y_,Y_,Y_,Y_,Y_,Y_,N_,N_,N_,N_,N_,N_,N_,N_,N_,N_,N_,N_] HT_ rfl rfl (by kernel_rfl) (fun _ _ _ h => h) (by rfl)
     ·intro w'; go_simp; rfl
     ·simp only [Act.put, sT_, sZ_, sS_, Ah, Ai]; rfl
     apply pq_ 6 43 #[Y_,Y_,Y_,Y_,Y_,Y_,Y_,N_,N_,N_,N_,N_,N_,N_,N_,N_,N_,N_] HT_ rfl rfl (by kernel_rfl) (fun _ _ _ h => h) (by rfl)
     ·intro w'; go_simp; rfl
     ·simp only [Act.put, sT_, sZ_, sS_, Ah, Ai]; rfl
     apply pq_ 7 44 #[Y_,Y_,Y_,Y_,Y_,Y_,Y_,Y_,N_,N_,N_,N_,N_,N_,N_,N_,N_,N_] HT_ rfl rfl (by kernel_rfl) (fun _ _ _ h => h) (by rfl)
     ·intro w'; go_simp; rfl
     ·simp only [Act.put, sT_, sZ_, sS_, Ah, Ai]; rfl
     apply pq_ 8 45 #[Y_,Y_,Y_,Y_,Y_,Y_,Y_,Y_,Y_,N_,N_,N_,N_,N_,N_,N_,N_,N_] HT_ rfl rfl (by kernel_rfl) (fun _ _ _ h => h) (by rfl)
     ·intro w'; go_simp; rfl
     ·simp only [Act.put, sT_, sZ_, sS_, Ah, Ai]; rfl
     apply pq_ 10 47 #[Y_,Y_,Y_,Y_,Y_,Y_,Y_,Y_,Y_,N_,Y_,N_,N_,N_,N_,N_,N_,N_] HT_ rfl rfl (by kernel_rfl) (fun _ _ _ h => h) (by rfl)
     ·intro w'; go_simp; rfl
     ·simp only [Act.put, sT_, sZ_, sS_, Ah, Ai]; rfl
     apply pq_ 11 48 #[Y_,Y_,Y_,Y_,Y_,Y_,Y_,Y_,Y_,N_,Y_,Y_,N_,N_,N_,N_,N_,N_] HT_ rfl rfl (by kernel_rfl) (fun _ _ _ h => h) (by rfl)
     ·intro w'; go_simp; rfl
     ·simp only [Act.put, sT_, sZ_, sS_, Ah, Ai]; rfl
     apply pq_ 12 49 #[Y_,Y_,Y_,Y_,Y_,Y_,Y_,Y_,Y_,N_,Y_,Y_,Y_,N_,N_,N_,N_,N_] HT_ rfl rfl (by kernel_rfl) (fun _ _ _ h => h) (by rfl)
     ·intro w'; go_simp; rfl
     ·simp only [Act.put, sT_, sZ_, sS_, Ah, Ai]; rfl
     refine En (i := 9) (N := some 46) (v := ?_) (a' := ?_) #[Y_,Y_,Y_,Y_,Y_,Y_,Y_,Y_,Y_,Y_,Y_,Y_,Y_,N_,N_,N_,N_,N_] rfl rfl (Cm HT_.o HW_.o (by kernel_rfl)) (fun _ _ _ h => h) (Or.inl ⟨by rfl, ?_⟩) hHeld ?_ ?_
     rotate_left
     ·rintro w' ⟨s0, s1⟩
      go_simp
      rfl
     rotate_left
     ·simp only [Act.put, sT_, sZ_, sS_, Ah, Ai]
      rfl
     refine En (i := 13) (N := some 50) (v := ?_) (a' := ?_) #[Y_,Y_,Y_,Y_,Y_,Y_,Y_,Y_,Y_,Y_,Y_,Y_,Y_,Y_,N_,N_,N_,N_] rfl rfl (Cm HT_.o HW_.o (by kernel_rfl)) (fun _ _ _ h => h) (Or.inl ⟨by rfl, ?_⟩) hHeld ?_ ?_
     rotate_left
     ·rintro w' ⟨s0, s1⟩
      go_simp
      rfl
     rotate_left
     ·simp only [Act.put, sT_, sZ_, sS_, Ah, Ai]
      rfl
     apply pq_ 14 51 #[Y_,Y_,Y_,Y_,Y_,Y_,Y_,Y_,Y_,Y_,Y_,Y_,Y_,Y_,Y_,N_,N_,N_] HT_ rfl rfl (by kernel_rfl) (fun _ _ _ h => h) (by rfl)
     ·intro w'; go_simp; rfl
     ·simp only [Act.put, sT_, sZ_, sS_, Ah, Ai]; rfl
     refine last_ (i := 15) (N := none) #[Y_,Y_,Y_,Y_,Y_,Y_,Y_,Y_,Y_,Y_,Y_,Y_,Y_,Y_,Y_,Y_,N_,N_] rfl rfl (Ej HT_.o (by kernel_rfl)) (by decide) (fun K hK => ?_)
     refine skip_ (w1 := ?_) (by rfl) rfl ?_ ?_
     rotate_left
     ·go_simp
      rfl
     refine hK.out _ _ ?_
     clear hK K
     apply pq_ 16 52 #[Y_,Y_,Y_,Y_,Y_,Y_,Y_,Y_,Y_,Y_,Y_,Y_,Y_,Y_,Y_,Y_,Y_,N_] HT_ rfl rfl (by kernel_rfl) (fun _ _ _ h => h) (by rfl)
     ·intro w'; go_simp; rfl
     ·simp only [Act.put, sT_, sZ_, sS_, Ah, Ai]; rfl
     refine last_ (i := 17) (N := none) #[Y_,Y_,Y_,Y_,Y_,Y_,Y_,Y_,Y_,Y_,Y_,Y_,Y_,Y_,Y_,Y_,Y_,Y_] rfl rfl (Ej HT_.o (by kernel_rfl)) (by decide) (fun K hK => ?_)
     refine skip_ (w1 := ?_) (by rfl) rfl ?_ ?_
     rotate_left
     ·go_simp
      rfl
     refine hK.out _ _ ?_
     clear hK K
     refine done_ (Fa HT_.o (by kernel_rfl)) ?_
     try go_wp2
     go_roundg k2
     case measure => have := HK1.o; have := HK2.o; omega
     case rel => exact ⟨(y166), (ji9), (by (rfl)), H', ⟨by have := HK1.o; have := HK2.o; omega⟩, ⟨by exact HQ20.o⟩, ⟨by repeat ((with_reducible first | exact HK.o | refine Kept.setCell ?_ HMgo14.o _))⟩, ⟨by repeat ((with_reducible first | exact HB.o | refine Bz ?_ GB14.o))⟩⟩
end

end Go.Proofs.Ytogflbocmiogpaa.PFnBestSearch
