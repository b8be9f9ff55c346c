-- Written for this claim by this session's turned copy of the printer.
import Derived.Test.YtogflbocmiogpaaPFnBestSearchx0
import Derived.Test.YtogflbocmiogpaaPFnBestSearchx6
import Derived.Test.YtogflbocmiogpaaPFnBestSearchx7
namespace Go.Proofs.Ytogflbocmiogpaa.PFnBestSearch
open Go.RowKit Go.Proofs.YtogflbocmiogpaaW.PrintWords Go.Proofs.YtogflbocmiogpaaW.PrintLast Go.Proofs.YtogflbocmiogpaaW.PrintMore
open List renaming setIfInBounds_toArray → sT_, set_cons_zero → sZ_, set_cons_succ → sS_, map_toArray → mT_, map_cons → mC_, map_nil → mN_
open Bool renaming true → Y_, false → N_
attribute [local go_sem] max2_int min2_int max_two min_two Fj Fh max_four min_four   -- for this text's walks alone
set_option linter.unusedVariables false
set_option linter.unusedSimpArgs false

/-! ### slices_symMergeCmpFunc_int: function 137 -/
section
variable {CMP_ : Int → Int → Option Int} {Pq_ : Int → Option Addr} {Nq_ Cq_ : Int → Nat} {wq_ : World} {Gq_ : Nat → Prop}
mutual
def Ab.l0 (CMP_ : Int → Int → Option Int) : Nat → List Int → Int → Int → Int → Option (List Int)
 | 0, _, _, _, _ => none
 | k + 1, x0, x1, x10, x11 => if x10 < x11 then (if 0 ≤ (wrap64 ((IntKind.u64.wrap (wrap64 (x10 + x11))) / 2)) then (if (wrap64 ((IntKind.u64.wrap (wrap64 (x10 + x11))) / 2)) < (x0.length : Int) then (if 0 ≤ x1 then (if x1 < (x0.length : Int) then ((CMP_ (rd x0 (wrap64 ((IntKind.u64.wrap (wrap64 (x10 + x11))) / 2))) (rd x0 x1)).bind fun t176 => (if t176 < 0 then (Ab.l0 CMP_ k x0 x1 (wrap64 ((wrap64 ((IntKind.u64.wrap (wrap64 (x10 + x11))) / 2)) + 1)) x11) else (Ab.l0 CMP_ k x0 x1 x10 (wrap64 ((IntKind.u64.wrap (wrap64 (x10 + x11))) / 2))))) else (none)) else (none)) else (none)) else (none)) else (Ab.l1 CMP_ k x0 x10 x1)
def Ab.l1 (CMP_ : Int → Int → Option Int) : Nat → List Int → Int → Int → Option (List Int)
 | 0, _, _, _ => none
 | k + 1, x0, x10, x13 => if x13 < (wrap64 (x10 - 1)) then (if 0 ≤ (wrap64 (x13 + 1)) then (if (wrap64 (x13 + 1)) < (x0.length : Int) then (if 0 ≤ x13 then (if x13 < (x0.length : Int) then (Ab.l1 CMP_ k ((x0.set (x13 : Int).toNat (rd x0 (wrap64 (x13 + 1)))).set ((wrap64 (x13 + 1)) : Int).toNat (rd x0 x13)) x10 (wrap64 (x13 + 1))) else (none)) else (none)) else (none)) else (none)) else (some x0)
def Ab.l2 (CMP_ : Int → Int → Option Int) : Nat → List Int → Int → Int → Int → Option (List Int)
 | 0, _, _, _, _ => none
 | k + 1, x0, x2, x14, x15 => if x14 < x15 then (if 0 ≤ x2 then (if x2 < (x0.length : Int) then (if 0 ≤ (wrap64 ((IntKind.u64.wrap (wrap64 (x14 + x15))) / 2)) then (if (wrap64 ((IntKind.u64.wrap (wrap64 (x14 + x15))) / 2)) < (x0.length : Int) then ((CMP_ (rd x0 x2) (rd x0 (wrap64 ((IntKind.u64.wrap (wrap64 (x14 + x15))) / 2)))).bind fun t183 => (if t183 < 0 then (Ab.l2 CMP_ k x0 x2 x14 (wrap64 ((IntKind.u64.wrap (wrap64 (x14 + x15))) / 2))) else (Ab.l2 CMP_ k x0 x2 (wrap64 ((wrap64 ((IntKind.u64.wrap (wrap64 (x14 + x15))) / 2)) + 1)) x15))) else (none)) else (none)) else (none)) else (none)) else (Ab.l3 CMP_ k x0 x14 x2)
def Ab.l3 (CMP_ : Int → Int → Option Int) : Nat → List Int → Int → Int → Option (List Int)
 | 0, _, _, _ => none
 | k + 1, x0, x14, x17 => if x17 > x14 then (if 0 ≤ (wrap64 (x17 - 1)) then (if (wrap64 (x17 - 1)) < (x0.length : Int) then (if 0 ≤ x17 then (if x17 < (x0.length : Int) then (Ab.l3 CMP_ k ((x0.set (x17 : Int).toNat (rd x0 (wrap64 (x17 - 1)))).set ((wrap64 (x17 - 1)) : Int).toNat (rd x0 x17)) x14 (wrap64 (x17 - 1))) else (none)) else (none)) else (none)) else (none)) else (some x0)
def Ab.j4 (CMP_ : Int → Int → Option Int) : Nat → List Int → Int → Int → Int → Int → Int → Int → Int → Int → Option (List Int)
 | 0, _, _, _, _, _, _, _, _, _ => none
 | k + 1, x0, x1, x2, x3, x4, x18, x19, x20, x21 => Ab.l4 CMP_ k x0 x1 x2 x3 x4 x18 x19 x20 x21 (wrap64 (x19 - 1))
def Ab.l4 (CMP_ : Int → Int → Option Int) : Nat → List Int → Int → Int → Int → Int → Int → Int → Int → Int → Int → Option (List Int)
 | 0, _, _, _, _, _, _, _, _, _, _ => none
 | k + 1, x0, x1, x2, x3, x4, x18, x19, x20, x21, x22 => if x20 < x21 then (if 0 ≤ (wrap64 (x22 - (wrap64 ((IntKind.u64.wrap (wrap64 (x20 + x21))) / 2)))) then (if (wrap64 (x22 - (wrap64 ((IntKind.u64.wrap (wrap64 (x20 + x21))) / 2)))) < (x0.length : Int) then (if 0 ≤ (wrap64 ((IntKind.u64.wrap (wrap64 (x20 + x21))) / 2)) then (if (wrap64 ((IntKind.u64.wrap (wrap64 (x20 + x21))) / 2)) < (x0.length : Int) then ((CMP_ (rd x0 (wrap64 (x22 - (wrap64 ((IntKind.u64.wrap (wrap64 (x20 + x21))) / 2))))) (rd x0 (wrap64 ((IntKind.u64.wrap (wrap64 (x20 + x21))) / 2)))).bind fun t190 => (if t190 < 0 then (Ab.l4 CMP_ k x0 x1 x2 x3 x4 x18 x19 x20 (wrap64 ((IntKind.u64.wrap (wrap64 (x20 + x21))) / 2)) x22) else (Ab.l4 CMP_ k x0 x1 x2 x3 x4 x18 x19 (wrap64 ((wrap64 ((IntKind.u64.wrap (wrap64 (x20 + x21))) / 2)) + 1)) x21 x22))) else (none)) else (none)) else (none)) else (none)) else (if x20 < x2 then (Ab.j6 CMP_ k x0 x1 x2 x3 x4 x18 x20 (wrap64 (x19 - x20)) (decide (x2 < (wrap64 (x19 - x20))))) else (Ab.j6 CMP_ k x0 x1 x2 x3 x4 x18 x20 (wrap64 (x19 - x20)) false))
def Ab.j6 (CMP_ : Int → Int → Option Int) : Nat → List Int → Int → Int → Int → Int → Int → Int → Int → Bool → Option (List Int)
 | 0, _, _, _, _, _, _, _, _, _ => none
 | k + 1, x0, x1, x2, x3, x4, x18, x20, x24, x185 => if x185 = true then ((Dn.f k x0 x20 x2 x24 x4).bind fun t191 => (Ab.j7 CMP_ k t191 x1 x3 x4 x18 x20 x24)) else (Ab.j7 CMP_ k x0 x1 x3 x4 x18 x20 x24)
def Ab.j7 (CMP_ : Int → Int → Option Int) : Nat → List Int → Int → Int → Int → Int → Int → Int → Option (List Int)
 | 0, _, _, _, _, _, _, _ => none
 | k + 1, x0, x1, x3, x4, x18, x20, x24 => if x1 < x20 then (Ab.j8 CMP_ k x0 x1 x3 x4 x18 x20 x24 (decide (x20 < x18))) else (Ab.j8 CMP_ k x0 x1 x3 x4 x18 x20 x24 false)
def Ab.j8 (CMP_ : Int → Int → Option Int) : Nat → List Int → Int → Int → Int → Int → Int → Int → Bool → Option (List Int)
 | 0, _, _, _, _, _, _, _, _ => none
 | k + 1, x0, x1, x3, x4, x18, x20, x24, x199 => if x199 = true then ((Ab.f CMP_ k x0 x1 x20 x18 x4).bind fun t192 => (if x18 < x24 then (if x24 < x3 then ((Ab.f CMP_ k t192 x18 x24 x3 x4).bind fun t193 => (some t193)) else (some t192)) else (some t192))) else (if x18 < x24 then (if x24 < x3 then ((Ab.f CMP_ k x0 x18 x24 x3 x4).bind fun t194 => (some t194)) else (some x0)) else (some x0))
def Ab.f (CMP_ : Int → Int → Option Int) : Nat → List Int → Int → Int → Int → Int → Option (List Int)
 | 0, _, _, _, _, _ => none
 | k + 1, l0, a1, a2, a3, a4 => if (wrap64 (a2 - a1)) = 1 then (Ab.l0 CMP_ k l0 a1 a2 a3) else (if (wrap64 (a3 - a2)) = 1 then (Ab.l2 CMP_ k l0 a2 a1 a2) else (if a2 > (wrap64 ((IntKind.u64.wrap (wrap64 (a1 + a3))) / 2)) then (Ab.j4 CMP_ k l0 a1 a2 a3 a4 (wrap64 ((IntKind.u64.wrap (wrap64 (a1 + a3))) / 2)) (wrap64 ((wrap64 ((IntKind.u64.wrap (wrap64 (a1 + a3))) / 2)) + a2)) (wrap64 ((wrap64 ((wrap64 ((IntKind.u64.wrap (wrap64 (a1 + a3))) / 2)) + a2)) - a3)) (wrap64 ((IntKind.u64.wrap (wrap64 (a1 + a3))) / 2))) else (Ab.j4 CMP_ k l0 a1 a2 a3 a4 (wrap64 ((IntKind.u64.wrap (wrap64 (a1 + a3))) / 2)) (wrap64 ((wrap64 ((IntKind.u64.wrap (wrap64 (a1 + a3))) / 2)) + a2)) a1 a2)))
end
def Ab.T5 : Bool × List (List Nat × List Nat) := (true, [([], []), ([], []), ([], []), ([1, 2], [1, 2]), ([3], [3]), ([], []), ([], []), ([5, 6], [5, 6]), ([7], [7]), ([0, 4, 8], [0, 4, 8]), ([9], [9])])
def Ab.B5 : List Nat := [0, 0, 0, 6, 14, 0, 0, 96, 224, 511, 1023]
theorem Ab.tab5 : rtab .any (opsOf Try.f137 5) = Ab.T5 := by kernel_rfl
theorem Ab.bits5 : waitsOk Ab.T5.2 Ab.B5 = true := by kernel_rfl
def Ab.T11 : Bool × List (List Nat × List Nat) := (true, [([], []), ([], []), ([], []), ([], []), ([3], [3]), ([], []), ([], []), ([6], [6]), ([5, 7], [5, 7]), ([8], [8]), ([], []), ([], []), ([10, 11], [10, 11]), ([12], [12]), ([0, 1, 0, 1, 5, 6, 7, 8, 9, 13], [0, 1]), ([14, 9, 0, 1, 5, 6, 7, 8, 9, 13], [9, 14]), ([2, 4, 0, 1, 2, 3, 4, 5, 6, 7, 8, 9, 10, 11, 12, 13, 14, 15], [2, 4]), ([16, 13, 15, 0, 1, 2, 3, 4, 5, 6, 7, 8, 9, 10, 11, 12, 13, 14, 15], [13, 16])])
def Ab.B11 : List Nat := [0, 0, 0, 0, 8, 0, 0, 64, 224, 480, 0, 0, 3072, 7168, 16355, 32739, 65535, 131071]
theorem Ab.tab11 : rtab .any (opsOf Try.f137 11) = Ab.T11 := by kernel_rfl
theorem Ab.bits11 : waitsOk Ab.T11.2 Ab.B11 = true := by kernel_rfl
def Ab.T17 : Bool × List (List Nat × List Nat) := (true, [([], []), ([], []), ([], []), ([1, 2], [1, 2]), ([3], [3]), ([], []), ([], []), ([5, 6], [5, 6]), ([7], [7]), ([0, 4, 8], [0, 4, 8]), ([9], [9]), ([10], [10])])
def Ab.B17 : List Nat := [0, 0, 0, 6, 14, 0, 0, 96, 224, 511, 1023, 2047]
theorem Ab.tab17 : rtab .any (opsOf Try.f137 17) = Ab.T17 := by kernel_rfl
theorem Ab.bits17 : waitsOk Ab.T17.2 Ab.B17 = true := by kernel_rfl
def Ab.T23 : Bool × List (List Nat × List Nat) := (true, [([], []), ([], []), ([], []), ([], []), ([3], [3]), ([], []), ([], []), ([6], [6]), ([5, 7], [5, 7]), ([8], [8]), ([], []), ([], []), ([10, 11], [10, 11]), ([12], [12]), ([0, 1, 0, 1, 5, 6, 7, 8, 9, 13], [0, 1]), ([14, 9, 0, 1, 5, 6, 7, 8, 9, 13], [9, 14]), ([2, 4, 0, 1, 2, 3, 4, 5, 6, 7, 8, 9, 10, 11, 12, 13, 14, 15], [2, 4]), ([16, 13, 15, 0, 1, 2, 3, 4, 5, 6, 7, 8, 9, 10, 11, 12, 13, 14, 15], [13, 16])])
def Ab.B23 : List Nat := [0, 0, 0, 0, 8, 0, 0, 64, 224, 480, 0, 0, 3072, 7168, 16355, 32739, 65535, 131071]
theorem Ab.tab23 : rtab .any (opsOf Try.f137 23) = Ab.T23 := by kernel_rfl
theorem Ab.bits23 : waitsOk Ab.T23.2 Ab.B23 = true := by kernel_rfl
def Ab.T35 : Bool × List (List Nat × List Nat) := (true, [([], []), ([], []), ([], []), ([], []), ([2, 3], [2, 3]), ([1, 4], [1, 4]), ([5], [5]), ([], []), ([], []), ([7, 8], [7, 8]), ([9], [9]), ([0, 6, 10], [0, 6, 10]), ([11], [11]), ([12], [12])])
def Ab.B35 : List Nat := [0, 0, 0, 0, 12, 30, 62, 0, 0, 384, 896, 2047, 4095, 8191]
theorem Ab.tab35 : rtab .any (opsOf Try.f137 35) = Ab.T35 := by kernel_rfl
theorem Ab.bits35 : waitsOk Ab.T35.2 Ab.B35 = true := by kernel_rfl
set_option maxHeartbeats 8000000 in
set_option maxRecDepth 100000 in
theorem Ab.calls (k : Nat) : ∀ (P0_ : Nat → Prop) (u9000_ : Value) (l0 : List Int) (a1 : Int) (a2 : Int) (a3 : Int) (a4 : Int) (r : List Int) (w0 w : World) (hB : Below w0.heap.size w0 w) (ho0 : Kd.R (Dr Pq_ Nq_ Cq_) 30 w w0.heap.size P0_ u9000_ l0) (h : Ab.f CMP_ k l0 a1 a2 a3 a4 = some r) (hC_ : slices_CmpAt CMP_ Pq_ Nq_ Cq_ wq_ Gq_) (hW_ : Ep wq_ Gq_ w) (hP_ : ∀ k_, P0_ k_ → Gq_ k_),
  Calls Try.prog 137 #[u9000_, .int .i64 a1, .int .i64 a2, .int .i64 a3, .func (.func 121) #[] #[]] w fun e w' => e = .returned (.tuple #[]) ∧ Kd.R (Dr Pq_ Nq_ Cq_) 30 w' w0.heap.size (fun k_ => (P0_ k_ ∨ w.heap.size ≤ k_)) u9000_ r ∧ Below w0.heap.size w0 w' ∧ Kept w w' (fun k_ => P0_ k_) := by
 induction k using Nat.strongRecOn with
 | _ k ih =>
 intro P0_ u9000_ l0 a1 a2 a3 a4 r w0 w hB ho0 h hC_ hW_ hP_
 have HCQ := Aa.k hC_
 have HWQ := Aa.k hW_
 have HPQ := Aa.k hP_
 have HGQ := Aa.k (show ∀ k_, (u9000_ : Value).ownBlock = some k_ → Gq_ k_ from fun k_ e_ => hP_ k_ (ho0.1 k_ e_))
 clear hC_ hW_ hP_
 cases k with
 | zero => exact absurd h (by simp [Ab.f])
 | succ k =>
 simp only [Ab.f] at h
 have HO0 := Aa.k (show Kd.R (Dr Pq_ Nq_ Cq_) 30 w w0.heap.size (fun k_ => (P0_ k_ ∨ w.heap.size ≤ k_)) u9000_ l0 from Kd.Bv ho0 (fun k_ hk => (.inl hk)))
 have HK := Aa.k (Kept.refl w (fun k_ => P0_ k_))
 have HW0 := Aa.k hB.size
 have HB := Aa.k hB
 clear hB
 have H : (if (wrap64 (a2 - a1)) = 1 then (Ab.l0 CMP_ k l0 a1 a2 a3) else (if (wrap64 (a3 - a2)) = 1 then (Ab.l2 CMP_ k l0 a2 a1 a2) else (if a2 > (wrap64 ((IntKind.u64.wrap (wrap64 (a1 + a3))) / 2)) then (Ab.j4 CMP_ k l0 a1 a2 a3 a4 (wrap64 ((IntKind.u64.wrap (wrap64 (a1 + a3))) / 2)) (wrap64 ((wrap64 ((IntKind.u64.wrap (wrap64 (a1 + a3))) / 2)) + a2)) (wrap64 ((wrap64 ((wrap64 ((IntKind.u64.wrap (wrap64 (a1 + a3))) / 2)) + a2)) - a3)) (wrap64 ((IntKind.u64.wrap (wrap64 (a1 + a3))) / 2))) else (Ab.j4 CMP_ k l0 a1 a2 a3 a4 (wrap64 ((IntKind.u64.wrap (wrap64 (a1 + a3))) / 2)) (wrap64 ((wrap64 ((IntKind.u64.wrap (wrap64 (a1 + a3))) / 2)) + a2)) a1 a2)))) = some r := h
 clear h
 by_cases c6 : (wrap64 (a2 - a1)) = 1
 ·rw [if_pos c6] at H
  have c6b0 : ((wrap64 (a2 - a1)) == 1) = true := beq_iff_eq.mpr c6
  have c6b1 : ((wrap64 (a2 - a1)) != 1) = false := bne_eq_false_iff_eq.mpr c6
  clear c6
  as_aux_lemma =>
   have H' := Aa.k H
   clear H
   go_enter Try.func137, Try.ntmps137
   go_wp2
   go_loopg [10, 11] k (fun kq v10 v11 w' => ∃ (x10_1 : Int) (x11_1 : Int), v10 = .int .i64 x10_1 ∧ v11 = .int .i64 x11_1 ∧ Aa (Ab.l0 CMP_ kq l0 a1 x10_1 x11_1 = some r) ∧ Aa (kq ≤ k) ∧ Aa (Kd.R (Dr Pq_ Nq_ Cq_) 30 w' w0.heap.size (fun k_ => (P0_ k_ ∨ w.heap.size ≤ k_)) u9000_ l0) ∧ Aa (Kept w w' (fun k_ => P0_ k_)) ∧ Aa (Below w0.heap.size w0 w'))
   case atStart => exact ⟨(a2), (a3), (by (rfl)), (by (rfl)), H', ⟨Nat.le_refl _⟩, ⟨by exact HO0.o⟩, ⟨by exact HK.o⟩, ⟨by exact HB.o⟩⟩
   case round =>
    clear H'
    clear c6b0 c6b1
    obtain ⟨x10_1, x11_1, rfl, rfl, HA, HK1, HO_0, HK, HB⟩ := hrel
    cases gk with
    | zero => exact absurd HA.o (by simp [Ab.l0])
    | succ k1 =>
     have H := HA.o
     clear HA
     simp only [Ab.l0] at H
     by_cases c7 : x10_1 < x11_1
     ·rw [if_pos c7] at H
      have c7b0 : decide (x10_1 < x11_1) = true := decide_eq_true c7
      clear c7
      obtain ⟨ji8, hji8⟩ : ∃ j_ : Int, (wrap64 ((IntKind.u64.wrap (wrap64 (x10_1 + x11_1))) / 2)) = j_ := ⟨_, rfl⟩
      replace H : (if 0 ≤ (ji8) then (if (ji8) < (l0.length : Int) then (if 0 ≤ a1 then (if a1 < (l0.length : Int) then ((CMP_ (rd l0 (ji8)) (rd l0 a1)).bind fun t176 => (if t176 < 0 then (Ab.l0 CMP_ k1 l0 a1 (wrap64 ((ji8) + 1)) x11_1) else (Ab.l0 CMP_ k1 l0 a1 x10_1 ji8))) else (none)) else (none)) else (none)) else (none)) = some r := by (rw [hji8] at H; exact H)
      have hji8w : (IntKind.i64.wrap ((IntKind.u64.wrap (wrap64 (x10_1 + x11_1))) / 2)) = ji8 := (Ah _).trans hji8
      by_cases c9 : 0 ≤ (ji8)
      rotate_left
      ·rw [if_neg c9] at H
       exact absurd H (by simp)
      rw [if_pos c9] at H
      have c9b0 : decide (0 ≤ (ji8)) = true := decide_eq_true c9
      clear c9
      by_cases c10 : (ji8) < (l0.length : Int)
      rotate_left
      ·rw [if_neg c10] at H
       exact absurd H (by simp)
      rw [if_pos c10] at H
      have c10b0 : decide ((ji8) < (l0.length : Int)) = true := decide_eq_true c10
      clear c10
      by_cases c11 : 0 ≤ a1
      rotate_left
      ·rw [if_neg c11] at H
       exact absurd H (by simp)
      rw [if_pos c11] at H
      have c11b0 : decide (0 ≤ a1) = true := decide_eq_true c11
      clear c11
      by_cases c12 : a1 < (l0.length : Int)
      rotate_left
      ·rw [if_neg c12] at H
       exact absurd H (by simp)
      rw [if_pos c12] at H
      have c12b0 : decide (a1 < (l0.length : Int)) = true := decide_eq_true c12
      clear c12
      obtain ⟨t176, A130, H⟩ := bindS_ H
      try dsimp only at H
      have A13 := Aa.k A130
      clear A130
      by_cases c14 : t176 < 0
      rotate_left
      ·rw [if_neg c14] at H
       have c14b0 : decide (t176 < 0) = false := decide_eq_false c14
       clear c14
       as_aux_lemma =>
        have H' := Aa.k H
        clear H
        try go_wp2
        replace HO_0 := Aa.k (Kd.R_drew HO_0.o)
        replace HK := Aa.k (Kept.drew HK.o)
        replace HB := Aa.k (Cf HB.o)
        obtain ⟨Ao18, co18, eo18⟩ := Kd.Cx HO_0.o
        ((subst eo18))
        have p174 : 0 ≤ ((ji8) : Int) := of_decide_eq_true (by (assumption))
        have q174 : (ji8) < (l0.length : Int) := of_decide_eq_true (by (assumption))
        obtain ⟨ad174, e174, hx174_0⟩ := Ed (Kd.Bb HO_0.o).2.2 (ji8) p174 q174
        cases e174
        replace p174 := eq_true p174
        replace q174 := eq_true q174
        have p175 : 0 ≤ (a1 : Int) := of_decide_eq_true (by (assumption))
        have q175 : a1 < (l0.length : Int) := of_decide_eq_true (by (assumption))
        obtain ⟨ad175, e175, hx175_0⟩ := Ed (Kd.Bb HO_0.o).2.2 a1 p175 q175
        obtain rfl : ad174 = ad175 := (by injection e175)
        replace p175 := eq_true p175
        replace q175 := eq_true q175
        refine Fp (n := 11) (S := fun w' => w'.cell? (ad174.add ((ji8)).toNat) = some (.slice (Pq_ (rd l0 (ji8))) (Nq_ (rd l0 (ji8))) (Cq_ (rd l0 (ji8)))) ∧ w'.cell? (ad174.add (a1).toNat) = some (.slice (Pq_ (rd l0 a1)) (Nq_ (rd l0 a1)) (Cq_ (rd l0 a1)))) (ds := []) #[N_,N_,N_,N_,N_,N_,N_,N_,N_,N_,N_] (by kernel_rfl) rfl rfl ⟨hx174_0, hx175_0⟩ (fun hHeld => ?_); refine Dv Ab.tab5 Ab.bits5 (fun HT_ HW_ => ?_)
        generalize wr.drew = w17 at HO_0 HK HB hx174_0 hx175_0 hHeld ⊢
        apply pq_ 0 40 #[Y_,N_,N_,N_,N_,N_,N_,N_,N_,N_,N_] HT_ rfl rfl (by kernel_rfl) (fun _ _ _ h => h) (by rfl)
        ·intro w'; go_simp; rfl
        ·simp only [Act.put, sT_, sZ_, sS_, Ah, Ai]; rfl
        apply pq_ 1 41 #[Y_,Y_,N_,N_,N_,N_,N_,N_,N_,N_,N_] HT_ rfl rfl (by kernel_rfl) (fun _ _ _ h => h) (by rfl)
        ·intro w'; go_simp; rfl
        ·simp only [Act.put, sT_, sZ_, sS_, Ah, Ai]; rfl
        apply pq_ 2 42 #[Y_,Y_,Y_,N_,N_,N_,N_,N_,N_,N_,N_] HT_ rfl rfl (by kernel_rfl) (fun _ _ _ h => h) (by rfl)
        ·intro w'; go_simp; rfl
        ·simp only [Act.put, sT_, sZ_, sS_, Ah, Ai]; rfl
        apply pq_ 3 43 #[Y_,Y_,Y_,Y_,N_,N_,N_,N_,N_,N_,N_] HT_ rfl rfl (by kernel_rfl) (fun _ _ _ h => h) (by rfl)
        ·intro w'; go_simp; rfl
        ·simp only [Act.put, sT_, sZ_, sS_, Ah, Ai]; rfl
        apply pq_ 5 45 #[Y_,Y_,Y_,Y_,N_,Y_,N_,N_,N_,N_,N_] HT_ rfl rfl (by kernel_rfl) (fun _ _ _ h => h) (by rfl)
        ·intro w'; go_simp; rfl
        ·simp only [Act.put, sT_, sZ_, sS_, Ah, Ai]; rfl
        apply pq_ 6 46 #[Y_,Y_,Y_,Y_,N_,Y_,Y_,N_,N_,N_,N_] HT_ rfl rfl (by kernel_rfl) (fun _ _ _ h => h) (by rfl)
        ·intro w'; go_simp; rfl
        ·simp only [Act.put, sT_, sZ_, sS_, Ah, Ai]; rfl
        apply pq_ 7 47 #[Y_,Y_,Y_,Y_,N_,Y_,Y_,Y_,N_,N_,N_] HT_ rfl rfl (by kernel_rfl) (fun _ _ _ h => h) (by rfl)
        ·intro w'; go_simp; rfl
        ·simp only [Act.put, sT_, sZ_, sS_, Ah, Ai]; rfl
        refine En (i := 4) (N := some 44) (v := ?_) (a' := ?_) #[Y_,Y_,Y_,Y_,Y_,Y_,Y_,Y_,N_,N_,N_] rfl rfl (Cm HT_.o HW_.o (by kernel_rfl)) (fun _ _ _ h => h) (Or.inl ⟨by rfl, ?_⟩) hHeld ?_ ?_
        rotate_left
        ·rintro w' ⟨s0, s1⟩
         go_simp
         rfl
        rotate_left
        ·simp only [Act.put, sT_, sZ_, sS_, Ah, Ai]
         rfl
        refine En (i := 8) (N := some 48) (v := ?_) (a' := ?_) #[Y_,Y_,Y_,Y_,Y_,Y_,Y_,Y_,Y_,N_,N_] rfl rfl (Cm HT_.o HW_.o (by kernel_rfl)) (fun _ _ _ h => h) (Or.inl ⟨by rfl, ?_⟩) hHeld ?_ ?_
        rotate_left
        ·rintro w' ⟨s0, s1⟩
         go_simp
         rfl
        rotate_left
        ·simp only [Act.put, sT_, sZ_, sS_, Ah, Ai]
         rfl
        refine one_ (i := 9) (N := some 49) #[Y_,Y_,Y_,Y_,Y_,Y_,Y_,Y_,Y_,Y_,N_] rfl rfl (Ej HT_.o (by kernel_rfl)) (by decide) (fun K hK => ?_)
        refine slices_goesT_ Try.func121 (by kernel_rfl) rfl #[.slice (Pq_ (rd l0 (ji8))) (Nq_ (rd l0 (ji8))) (Cq_ (rd l0 (ji8))), .slice (Pq_ (rd l0 a1)) (Nq_ (rd l0 a1)) (Cq_ (rd l0 a1))] (by rfl) rfl rfl (by rfl) (by (try simp only [mT_, mC_, mN_]); rfl) ?_
        refine (HCQ.o (rd l0 (ji8)) (rd l0 a1) t176 _ (Ep.step HWQ.o HK.o HPQ.o) A13.o).mono ?_
        rintro e w' ⟨rfl, ⟨nd, rfl⟩⟩
        refine ⟨_, rfl, ?_⟩
        refine hK.out _ _ ⟨hHeld.1, hHeld.2⟩ (fun hHeld => ?_)
        clear hK K
        refine Es (a' := ?_) ?_ ?_
        rotate_left
        ·show Act.put _ (some 49) _ = _
         simp only [Act.put, sT_, sZ_, sS_, Ah, Ai]
         rfl
        apply pq_ 10 50 #[Y_,Y_,Y_,Y_,Y_,Y_,Y_,Y_,Y_,Y_,Y_] HT_ rfl rfl (by kernel_rfl) (fun _ _ _ h => h) (by rfl)
        ·intro w'; go_simp; rfl
        ·simp only [Act.put, sT_, sZ_, sS_, Ah, Ai]; rfl
        refine done_ (Fa HT_.o (by kernel_rfl)) ?_
        try go_wp2
        go_roundg k1
        case measure => have := HK1.o; omega
        case rel => exact ⟨(x10_1), (ji8), (by (rfl)), (by (rfl)), H', ⟨by have := HK1.o; omega⟩, ⟨by (with_reducible repeat ((apply Kd.Ee))); exact HO_0.o⟩, ⟨by repeat ((with_reducible first | exact HK.o | apply Kept.drewN))⟩, ⟨by repeat ((with_reducible first | exact HB.o | apply Bh))⟩⟩
      rw [if_pos c14] at H
      have c14b0 : decide (t176 < 0) = true := decide_eq_true c14
      clear c14
      as_aux_lemma =>
       have H' := Aa.k H
       clear H
       try go_wp2
       replace HO_0 := Aa.k (Kd.R_drew HO_0.o)
       replace HK := Aa.k (Kept.drew HK.o)
       replace HB := Aa.k (Cf HB.o)
       obtain ⟨Ao16, co16, eo16⟩ := Kd.Cx HO_0.o
       ((subst eo16))
       have p174 : 0 ≤ ((ji8) : Int) := of_decide_eq_true (by (assumption))
       have q174 : (ji8) < (l0.length : Int) := of_decide_eq_true (by (assumption))
       obtain ⟨ad174, e174, hx174_0⟩ := Ed (Kd.Bb HO_0.o).2.2 (ji8) p174 q174
       cases e174
       replace p174 := eq_true p174
       replace q174 := eq_true q174
       have p175 : 0 ≤ (a1 : Int) := of_decide_eq_true (by (assumption))
       have q175 : a1 < (l0.length : Int) := of_decide_eq_true (by (assumption))
       obtain ⟨ad175, e175, hx175_0⟩ := Ed (Kd.Bb HO_0.o).2.2 a1 p175 q175
       obtain rfl : ad174 = ad175 := (by injection e175)
       replace p175 := eq_true p175
       replace q175 := eq_true q175
       refine Fp (n := 11) (S := fun w' => w'.cell? (ad174.add ((ji8)).toNat) = some (.slice (Pq_ (rd l0 (ji8))) (Nq_ (rd l0 (ji8))) (Cq_ (rd l0 (ji8)))) ∧ w'.cell? (ad174.add (a1).toNat) = some (.slice (Pq_ (rd l0 a1)) (Nq_ (rd l0 a1)) (Cq_ (rd l0 a1)))) (ds := []) #[N_,N_,N_,N_,N_,N_,N_,N_,N_,N_,N_] (by kernel_rfl) rfl rfl ⟨hx174_0, hx175_0⟩ (fun hHeld => ?_); refine Dv Ab.tab5 Ab.bits5 (fun HT_ HW_ => ?_)
       generalize wr.drew = w15 at HO_0 HK HB hx174_0 hx175_0 hHeld ⊢
       apply pq_ 0 40 #[Y_,N_,N_,N_,N_,N_,N_,N_,N_,N_,N_] HT_ rfl rfl (by kernel_rfl) (fun _ _ _ h => h) (by rfl)
       ·intro w'; go_simp; rfl
       ·simp only [Act.put, sT_, sZ_, sS_, Ah, Ai]; rfl
       apply pq_ 1 41 #[Y_,Y_,N_,N_,N_,N_,N_,N_,N_,N_,N_] HT_ rfl rfl (by kernel_rfl) (fun _ _ _ h => h) (by rfl)
       ·intro w'; go_simp; rfl
       ·simp only [Act.put, sT_, sZ_, sS_, Ah, Ai]; rfl
       apply pq_ 2 42 #[Y_,Y_,Y_,N_,N_,N_,N_,N_,N_,N_,N_] HT_ rfl rfl (by kernel_rfl) (fun _ _ _ h => h) (by rfl)
       ·intro w'; go_simp; rfl
       ·simp only [Act.put, sT_, sZ_, sS_, Ah, Ai]; rfl
       apply pq_ 3 43 #[Y_,Y_,Y_,Y_,N_,N_,N_,N_,N_,N_,N_] HT_ rfl rfl (by kernel_rfl) (fun _ _ _ h => h) (by rfl)
       ·intro w'; go_simp; rfl
       ·simp only [Act.put, sT_, sZ_, sS_, Ah, Ai]; rfl
       apply pq_ 5 45 #[Y_,Y_,Y_,Y_,N_,Y_,N_,N_,N_,N_,N_] HT_ rfl rfl (by kernel_rfl) (fun _ _ _ h => h) (by rfl)
       ·intro w'; go_simp; rfl
       ·simp only [Act.put, sT_, sZ_, sS_, Ah, Ai]; rfl
       apply pq_ 6 46 #[Y_,Y_,Y_,Y_,N_,Y_,Y_,N_,N_,N_,N_] HT_ rfl rfl (by kernel_rfl) (fun _ _ _ h => h) (by rfl)
       ·intro w'; go_simp; rfl
       ·simp only [Act.put, sT_, sZ_, sS_, Ah, Ai]; rfl
       apply pq_ 7 47 #[Y_,Y_,Y_,Y_,N_,Y_,Y_,Y_,N_,N_,N_] HT_ rfl rfl (by kernel_rfl) (fun _ _ _ h => h) (by rfl)
       ·intro w'; go_simp; rfl
       ·simp only [Act.put, sT_, sZ_, sS_, Ah, Ai]; rfl
       refine En (i := 4) (N := some 44) (v := ?_) (a' := ?_) #[Y_,Y_,Y_,Y_,Y_,Y_,Y_,Y_,N_,N_,N_] rfl rfl (Cm HT_.o HW_.o (by kernel_rfl)) (fun _ _ _ h => h) (Or.inl ⟨by rfl, ?_⟩) hHeld ?_ ?_
       rotate_left
       ·rintro w' ⟨s0, s1⟩
        go_simp
        rfl
       rotate_left
       ·simp only [Act.put, sT_, sZ_, sS_, Ah, Ai]
        rfl
       refine En (i := 8) (N := some 48) (v := ?_) (a' := ?_) #[Y_,Y_,Y_,Y_,Y_,Y_,Y_,Y_,Y_,N_,N_] rfl rfl (Cm HT_.o HW_.o (by kernel_rfl)) (fun _ _ _ h => h) (Or.inl ⟨by rfl, ?_⟩) hHeld ?_ ?_
       rotate_left
       ·rintro w' ⟨s0, s1⟩
        go_simp
        rfl
       rotate_left
       ·simp only [Act.put, sT_, sZ_, sS_, Ah, Ai]
        rfl
       refine one_ (i := 9) (N := some 49) #[Y_,Y_,Y_,Y_,Y_,Y_,Y_,Y_,Y_,Y_,N_] rfl rfl (Ej HT_.o (by kernel_rfl)) (by decide) (fun K hK => ?_)
       refine slices_goesT_ Try.func121 (by kernel_rfl) rfl #[.slice (Pq_ (rd l0 (ji8))) (Nq_ (rd l0 (ji8))) (Cq_ (rd l0 (ji8))), .slice (Pq_ (rd l0 a1)) (Nq_ (rd l0 a1)) (Cq_ (rd l0 a1))] (by rfl) rfl rfl (by rfl) (by (try simp only [mT_, mC_, mN_]); rfl) ?_
       refine (HCQ.o (rd l0 (ji8)) (rd l0 a1) t176 _ (Ep.step HWQ.o HK.o HPQ.o) A13.o).mono ?_
       rintro e w' ⟨rfl, ⟨nd, rfl⟩⟩
       refine ⟨_, rfl, ?_⟩
       refine hK.out _ _ ⟨hHeld.1, hHeld.2⟩ (fun hHeld => ?_)
       clear hK K
       refine Es (a' := ?_) ?_ ?_
       rotate_left
       ·show Act.put _ (some 49) _ = _
        simp only [Act.put, sT_, sZ_, sS_, Ah, Ai]
        rfl
       apply pq_ 10 50 #[Y_,Y_,Y_,Y_,Y_,Y_,Y_,Y_,Y_,Y_,Y_] HT_ rfl rfl (by kernel_rfl) (fun _ _ _ h => h) (by rfl)
       ·intro w'; go_simp; rfl
       ·simp only [Act.put, sT_, sZ_, sS_, Ah, Ai]; rfl
       refine done_ (Fa HT_.o (by kernel_rfl)) ?_
       try go_wp2
       go_roundg k1
       case measure => have := HK1.o; omega
       case rel => exact ⟨(wrap64 ((ji8) + 1)), (x11_1), (by (rfl)), (by (rfl)), H', ⟨by have := HK1.o; omega⟩, ⟨by (with_reducible repeat ((apply Kd.Ee))); exact HO_0.o⟩, ⟨by repeat ((with_reducible first | exact HK.o | apply Kept.drewN))⟩, ⟨by repeat ((with_reducible first | exact HB.o | apply Bh))⟩⟩
     rw [if_neg c7] at H
     have c7b0 : decide (x10_1 < x11_1) = false := decide_eq_false c7
     clear c7
     as_aux_lemma =>
      have H' := Aa.k H
      clear H
      go_wp2
      go_loopg [13] k1 (fun kq v13 w' => ∃ (x0_2 : List Int) (x13_2 : Int), v13 = .int .i64 x13_2 ∧ Aa (Ab.l1 CMP_ kq x0_2 x10_1 x13_2 = some r) ∧ Aa (kq ≤ k1) ∧ Aa (Kd.R (Dr Pq_ Nq_ Cq_) 30 w' w0.heap.size (fun k_ => (P0_ k_ ∨ w.heap.size ≤ k_)) u9000_ x0_2) ∧ Aa (Kept w w' (fun k_ => P0_ k_)) ∧ Aa (Below w0.heap.size w0 w'))
      case atStart => exact ⟨(l0), (a1), (by (rfl)), H', ⟨Nat.le_refl _⟩, ⟨by exact HO_0.o⟩, ⟨by exact HK.o⟩, ⟨by exact HB.o⟩⟩
      case round =>
       clear H'
       clear c7b0
       obtain ⟨x0_2, x13_2, rfl, HA, HK2, HO_0, HK, HB⟩ := hrel
       cases gk with
       | zero => exact absurd HA.o (by simp [Ab.l1])
       | succ k2 =>
        have H := HA.o
        clear HA
        simp only [Ab.l1] at H
        by_cases c19 : x13_2 < (wrap64 (x10_1 - 1))
        rotate_left
        ·rw [if_neg c19] at H
         have c19b0 : decide (x13_2 < (wrap64 (x10_1 - 1))) = false := decide_eq_false c19
         clear c19
         as_aux_lemma =>
          obtain rfl := Option.some.inj H
          go_wp2
          ((try simp only [Exit.inBlock, Exit.then]); refine bodyPost_ret (results_none rfl _ _ _) rfl ?_)
          exact ⟨by (rfl), by exact HO_0.o, by exact HB.o, by exact HK.o⟩
        rw [if_pos c19] at H
        have c19b0 : decide (x13_2 < (wrap64 (x10_1 - 1))) = true := decide_eq_true c19
        clear c19
        obtain ⟨ji20, hji20⟩ : ∃ j_ : Int, (wrap64 (x13_2 + 1)) = j_ := ⟨_, rfl⟩
        replace H : (if 0 ≤ (ji20) then (if (ji20) < (x0_2.length : Int) then (if 0 ≤ x13_2 then (if x13_2 < (x0_2.length : Int) then (Ab.l1 CMP_ k2 ((x0_2.set (x13_2 : Int).toNat (rd x0_2 (ji20))).set ((ji20) : Int).toNat (rd x0_2 x13_2)) x10_1 ji20) else (none)) else (none)) else (none)) else (none)) = some r := by (rw [hji20] at H; exact H)
        have hji20w : (IntKind.i64.wrap (x13_2 + 1)) = ji20 := (Ah _).trans hji20
        by_cases c21 : 0 ≤ (ji20)
        rotate_left
        ·rw [if_neg c21] at H
         exact absurd H (by simp)
        rw [if_pos c21] at H
        have c21b0 : decide (0 ≤ (ji20)) = true := decide_eq_true c21
        clear c21
        by_cases c22 : (ji20) < (x0_2.length : Int)
        rotate_left
        ·rw [if_neg c22] at H
         exact absurd H (by simp)
        rw [if_pos c22] at H
        have c22b0 : decide ((ji20) < (x0_2.length : Int)) = true := decide_eq_true c22
        clear c22
        by_cases c23 : 0 ≤ x13_2
        rotate_left
        ·rw [if_neg c23] at H
         exact absurd H (by simp)
        rw [if_pos c23] at H
        have c23b0 : decide (0 ≤ x13_2) = true := decide_eq_true c23
        clear c23
        by_cases c24 : x13_2 < (x0_2.length : Int)
        rotate_left
        ·rw [if_neg c24] at H
         exact absurd H (by simp)
        rw [if_pos c24] at H
        have c24b0 : decide (x13_2 < (x0_2.length : Int)) = true := decide_eq_true c24
        clear c24
        obtain ⟨y179, hy179⟩ : ∃ y_ : List Int, y_ = (x0_2.set (x13_2 : Int).toNat (rd x0_2 (ji20))) := ⟨_, rfl⟩
        replace H : (Ab.l1 CMP_ k2 (y179.set ((ji20) : Int).toNat (rd x0_2 x13_2)) x10_1 ji20) = some r := by (rw [hy179]; exact H)
        have Ny179 := Aa.k hy179
        clear hy179
        obtain ⟨y180, hy180⟩ : ∃ y_ : List Int, y_ = (y179.set ((ji20) : Int).toNat (rd x0_2 x13_2)) := ⟨_, rfl⟩
        replace H : (Ab.l1 CMP_ k2 y180 x10_1 ji20) = some r := by (rw [hy180]; exact H)
        have Ny180 := Aa.k hy180
        clear hy180
        as_aux_lemma =>
         have H' := Aa.k H
         clear H
         try go_wp2
         replace HO_0 := Aa.k (Kd.R_drew HO_0.o)
         replace HK := Aa.k (Kept.drew HK.o)
         replace HB := Aa.k (Cf HB.o)
         obtain ⟨Ao28, co28, eo28⟩ := Kd.Cx HO_0.o
         ((subst eo28))
         have p177 : 0 ≤ ((ji20) : Int) := of_decide_eq_true (by (assumption))
         have q177 : (ji20) < (x0_2.length : Int) := of_decide_eq_true (by (assumption))
         obtain ⟨ad177, e177, hx177_0⟩ := Ed (Kd.Bb HO_0.o).2.2 (ji20) p177 q177
         cases e177
         replace p177 := eq_true p177
         replace q177 := eq_true q177
         have p178 : 0 ≤ (x13_2 : Int) := of_decide_eq_true (by (assumption))
         have q178 : x13_2 < (x0_2.length : Int) := of_decide_eq_true (by (assumption))
         obtain ⟨ad178, e178, hx178_0⟩ := Ed (Kd.Bb HO_0.o).2.2 x13_2 p178 q178
         obtain rfl : ad177 = ad178 := (by injection e178)
         replace p178 := eq_true p178
         replace q178 := eq_true q178
         have p25 : 0 ≤ (x13_2 : Int) := of_decide_eq_true (by (assumption))
         have q25 : (x13_2 : Int) < ((x0_2.length : Int) : Int) := of_decide_eq_true (by (assumption))
         obtain ⟨go25, co25, eo25, gb25, gl25, cl25, HG25⟩ := Kd.R_form HO_0.o (by omega)
         ((cases eo25))
         have GB25 := Aa.k gb25
         have GG25 := Aa.k HG25
         clear gb25 gl25 HG25
         have HMgo25 := Aa.k (show (P0_ go25 ∨ w.heap.size ≤ go25) from (HO_0.o.1 _ rfl))
         ((simp only [add_plain] at hx177_0))
         ((simp only [add_plain] at hx178_0))
         obtain ⟨hx25_0, hf25_0⟩ := Kd.R_celln 0 HO_0.o (x13_2 : Int) p25 q25
         replace p25 := eq_true p25
         replace q25 := eq_true q25
         have HP29 := Kd.R_putn HO_0.o (x13_2 : Int) (rd x0_2 (ji20))
         rw [← Ny179.o] at HP29
         have HQ29 := Aa.k HP29
         clear HP29
         have p26 : 0 ≤ ((ji20) : Int) := of_decide_eq_true (by (assumption))
         have q26 : ((ji20) : Int) < ((x0_2.length : Int) : Int) := of_decide_eq_true (by (assumption))
         obtain ⟨hx26_0, hf26_0⟩ := Kd.R_celln 0 HQ29.o ((ji20) : Int) p26 q26
         replace p26 := eq_true p26
         replace q26 := eq_true q26
         have HP30 := Kd.R_putn HQ29.o ((ji20) : Int) (rd x0_2 x13_2)
         rw [← Ny180.o] at HP30
         have HQ30 := Aa.k HP30
         clear HP30
         refine Fp (n := 18) (S := fun w' => w'.cell? ⟨go25, ((ji20)).toNat, none⟩ = some (.slice (Pq_ (rd x0_2 (ji20))) (Nq_ (rd x0_2 (ji20))) (Cq_ (rd x0_2 (ji20)))) ∧ w'.cell? ⟨go25, (x13_2).toNat, none⟩ = some (.slice (Pq_ (rd x0_2 x13_2)) (Nq_ (rd x0_2 x13_2)) (Cq_ (rd x0_2 x13_2)))) (ds := [15, 17]) #[N_,N_,N_,N_,N_,N_,N_,N_,N_,N_,N_,N_,N_,N_,N_,N_,N_,N_] (by kernel_rfl) rfl rfl ⟨hx177_0, hx178_0⟩ (fun hHeld => ?_); refine Dv Ab.tab11 Ab.bits11 (fun HT_ HW_ => ?_)
         generalize wr.drew = w27 at HO_0 HK HB GG25 HQ29 HQ30 hf25_0 hf26_0 hx177_0 hx178_0 hx25_0 hx26_0 hHeld ⊢
         apply pq_ 0 61 #[Y_,N_,N_,N_,N_,N_,N_,N_,N_,N_,N_,N_,N_,N_,N_,N_,N_,N_] HT_ rfl rfl (by kernel_rfl) (fun _ _ _ h => h) (by rfl)
         ·intro w'; go_simp; rfl
         ·simp only [Act.put, sT_, sZ_, sS_, Ah, Ai]; rfl
         apply pq_ 1 62 #[Y_,Y_,N_,N_,N_,N_,N_,N_,N_,N_,N_,N_,N_,N_,N_,N_,N_,N_] HT_ rfl rfl (by kernel_rfl) (fun _ _ _ h => h) (by rfl)
         ·intro w'; go_simp; rfl
         ·simp only [Act.put, sT_, sZ_, sS_, Ah, Ai]; rfl
         apply pq_ 2 63 #[Y_,Y_,Y_,N_,N_,N_,N_,N_,N_,N_,N_,N_,N_,N_,N_,N_,N_,N_] HT_ rfl rfl (by kernel_rfl) (fun _ _ _ h => h) (by rfl)
         ·intro w'; go_simp; rfl
         ·simp only [Act.put, sT_, sZ_, sS_, Ah, Ai]; rfl
         apply pq_ 3 64 #[Y_,Y_,Y_,Y_,N_,N_,N_,N_,N_,N_,N_,N_,N_,N_,N_,N_,N_,N_] HT_ rfl rfl (by kernel_rfl) (fun _ _ _ h => h) (by rfl)
         ·intro w'; go_simp; rfl
         ·simp only [Act.put, sT_, sZ_, sS_, Ah, Ai]; rfl
         apply pq_ 4 65 #[Y_,Y_,Y_,Y_,Y_,N_,N_,N_,N_,N_,N_,N_,N_,N_,N_,N_,N_,N_] HT_ rfl rfl (by kernel_rfl) (fun _ _ _ h => h) (by rfl)
         ·intro w'; go_simp; rfl
         ·simp only [Act.put, sT_, sZ_, sS_, Ah, Ai]; rfl
         apply pq_ 5 66 #[Y_,Y_,Y_,Y_,Y_,Y_,N_,N_,N_,N_,N_,N_,N_,N_,N_,N_,N_,N_] HT_ rfl rfl (by kernel_rfl) (fun _ _ _ h => h) (by rfl)
         ·intro w'; go_simp; rfl
         ·simp only [Act.put, sT_, sZ_, sS_, Ah, Ai]; rfl
         apply pq_ 6 67 #[Y_,Y_,Y_,Y_,Y_,Y_,Y_,N_,N_,N_,N_,N_,N_,N_,N_,N_,N_,N_] HT_ rfl rfl (by kernel_rfl) (fun _ _ _ h => h) (by rfl)
         ·intro w'; go_simp; rfl
         ·simp only [Act.put, sT_, sZ_, sS_, Ah, Ai]; rfl
         apply pq_ 7 68 #[Y_,Y_,Y_,Y_,Y_,Y_,Y_,Y_,N_,N_,N_,N_,N_,N_,N_,N_,N_,N_] HT_ rfl rfl (by kernel_rfl) (fun _ _ _ h => h) (by rfl)
         ·intro w'; go_simp; rfl
         ·simp only [Act.put, sT_, sZ_, sS_, Ah, Ai]; rfl
         apply pq_ 8 69 #[Y_,Y_,Y_,Y_,Y_,Y_,Y_,Y_,Y_,N_,N_,N_,N_,N_,N_,N_,N_,N_] HT_ rfl rfl (by kernel_rfl) (fun _ _ _ h => h) (by rfl)
         ·intro w'; go_simp; rfl
         ·simp only [Act.put, sT_, sZ_, sS_, Ah, Ai]; rfl
         apply pq_ 10 71 #[Y_,Y_,Y_,Y_,Y_,Y_,Y_,Y_,Y_,N_,Y_,N_,N_,N_,N_,N_,N_,N_] HT_ rfl rfl (by kernel_rfl) (fun _ _ _ h => h) (by rfl)
         ·intro w'; go_simp; rfl
         ·simp only [Act.put, sT_, sZ_, sS_, Ah, Ai]; rfl
         apply pq_ 11 72 #[Y_,Y_,Y_,Y_,Y_,Y_,Y_,Y_,Y_,N_,Y_,Y_,N_,N_,N_,N_,N_,N_] HT_ rfl rfl (by kernel_rfl) (fun _ _ _ h => h) (by rfl)
         ·intro w'; go_simp; rfl
         ·simp only [Act.put, sT_, sZ_, sS_, Ah, Ai]; rfl
         apply pq_ 12 73 #[Y_,Y_,Y_,Y_,Y_,Y_,Y_,Y_,Y_,N_,Y_,Y_,Y_,N_,N_,N_,N_,N_] HT_ rfl rfl (by kernel_rfl) (fun _ _ _ h => h) (by rfl)
         ·intro w'; go_simp; rfl
         ·simp only [Act.put, sT_, sZ_, sS_, Ah, Ai]; rfl
         refine En (i := 9) (N := some 70) (v := ?_) (a' := ?_) #[Y_,Y_,Y_,Y_,Y_,Y_,Y_,Y_,Y_,Y_,Y_,Y_,Y_,N_,N_,N_,N_,N_] rfl rfl (Cm HT_.o HW_.o (by kernel_rfl)) (fun _ _ _ h => h) (Or.inl ⟨by rfl, ?_⟩) hHeld ?_ ?_
         rotate_left
         ·rintro w' ⟨s0, s1⟩
          go_simp
          rfl
         rotate_left
         ·simp only [Act.put, sT_, sZ_, sS_, Ah, Ai]
          rfl
         refine En (i := 13) (N := some 74) (v := ?_) (a' := ?_) #[Y_,Y_,Y_,Y_,Y_,Y_,Y_,Y_,Y_,Y_,Y_,Y_,Y_,Y_,N_,N_,N_,N_] rfl rfl (Cm HT_.o HW_.o (by kernel_rfl)) (fun _ _ _ h => h) (Or.inl ⟨by rfl, ?_⟩) hHeld ?_ ?_
         rotate_left
         ·rintro w' ⟨s0, s1⟩
          go_simp
          rfl
         rotate_left
         ·simp only [Act.put, sT_, sZ_, sS_, Ah, Ai]
          rfl
         apply pq_ 14 75 #[Y_,Y_,Y_,Y_,Y_,Y_,Y_,Y_,Y_,Y_,Y_,Y_,Y_,Y_,Y_,N_,N_,N_] HT_ rfl rfl (by kernel_rfl) (fun _ _ _ h => h) (by rfl)
         ·intro w'; go_simp; rfl
         ·simp only [Act.put, sT_, sZ_, sS_, Ah, Ai]; rfl
         refine last_ (i := 15) (N := none) #[Y_,Y_,Y_,Y_,Y_,Y_,Y_,Y_,Y_,Y_,Y_,Y_,Y_,Y_,Y_,Y_,N_,N_] rfl rfl (Ej HT_.o (by kernel_rfl)) (by decide) (fun K hK => ?_)
         refine skip_ (w1 := ?_) (by rfl) rfl ?_ ?_
         rotate_left
         ·go_simp
          rfl
         refine hK.out _ _ ?_
         clear hK K
         apply pq_ 16 76 #[Y_,Y_,Y_,Y_,Y_,Y_,Y_,Y_,Y_,Y_,Y_,Y_,Y_,Y_,Y_,Y_,Y_,N_] HT_ rfl rfl (by kernel_rfl) (fun _ _ _ h => h) (by rfl)
         ·intro w'; go_simp; rfl
         ·simp only [Act.put, sT_, sZ_, sS_, Ah, Ai]; rfl
         refine last_ (i := 17) (N := none) #[Y_,Y_,Y_,Y_,Y_,Y_,Y_,Y_,Y_,Y_,Y_,Y_,Y_,Y_,Y_,Y_,Y_,Y_] rfl rfl (Ej HT_.o (by kernel_rfl)) (by decide) (fun K hK => ?_)
         refine skip_ (w1 := ?_) (by rfl) rfl ?_ ?_
         rotate_left
         ·go_simp
          rfl
         refine hK.out _ _ ?_
         clear hK K
         refine done_ (Fa HT_.o (by kernel_rfl)) ?_
         try go_wp2
         go_roundg k2
         case measure => have := HK1.o; have := HK2.o; omega
         case rel => exact ⟨(y180), (ji20), (by (rfl)), H', ⟨by have := HK1.o; have := HK2.o; omega⟩, ⟨by exact HQ30.o⟩, ⟨by repeat ((with_reducible first | exact HK.o | refine Kept.setCell ?_ HMgo25.o _))⟩, ⟨by repeat ((with_reducible first | exact HB.o | refine Bz ?_ GB25.o))⟩⟩
 rw [if_neg c6] at H
 have c6b0 : ((wrap64 (a2 - a1)) == 1) = false := beq_eq_false_iff_ne.mpr c6
 have c6b1 : ((wrap64 (a2 - a1)) != 1) = true := bne_iff_ne.mpr c6
 by_cases c31 : (wrap64 (a3 - a2)) = 1
 ·rw [if_pos c31] at H
  have c31b0 : ((wrap64 (a3 - a2)) == 1) = true := beq_iff_eq.mpr c31
  have c31b1 : ((wrap64 (a3 - a2)) != 1) = false := bne_eq_false_iff_eq.mpr c31
  clear c31
  as_aux_lemma =>
   have H' := Aa.k H
   clear H
   go_enter Try.func137, Try.ntmps137
   go_wp2
   go_loopg [14, 15] k (fun kq v14 v15 w' => ∃ (x14_1 : Int) (x15_1 : Int), v14 = .int .i64 x14_1 ∧ v15 = .int .i64 x15_1 ∧ Aa (Ab.l2 CMP_ kq l0 a2 x14_1 x15_1 = some r) ∧ Aa (kq ≤ k) ∧ Aa (Kd.R (Dr Pq_ Nq_ Cq_) 30 w' w0.heap.size (fun k_ => (P0_ k_ ∨ w.heap.size ≤ k_)) u9000_ l0) ∧ Aa (Kept w w' (fun k_ => P0_ k_)) ∧ Aa (Below w0.heap.size w0 w'))
   case atStart => exact ⟨(a1), (a2), (by (rfl)), (by (rfl)), H', ⟨Nat.le_refl _⟩, ⟨by exact HO0.o⟩, ⟨by exact HK.o⟩, ⟨by exact HB.o⟩⟩
   case round =>
    clear H'
    clear c6 c6b0 c6b1
    clear c31b0 c31b1
    obtain ⟨x14_1, x15_1, rfl, rfl, HA, HK1, HO_0, HK, HB⟩ := hrel
    cases gk with
    | zero => exact absurd HA.o (by simp [Ab.l2])
    | succ k1 =>
     have H := HA.o
     clear HA
     simp only [Ab.l2] at H
     by_cases c32 : x14_1 < x15_1
     ·rw [if_pos c32] at H
      have c32b0 : decide (x14_1 < x15_1) = true := decide_eq_true c32
      clear c32
      by_cases c33 : 0 ≤ a2
      rotate_left
      ·rw [if_neg c33] at H
       exact absurd H (by simp)
      rw [if_pos c33] at H
      have c33b0 : decide (0 ≤ a2) = true := decide_eq_true c33
      clear c33
      by_cases c34 : a2 < (l0.length : Int)
      rotate_left
      ·rw [if_neg c34] at H
       exact absurd H (by simp)
      rw [if_pos c34] at H
      have c34b0 : decide (a2 < (l0.length : Int)) = true := decide_eq_true c34
      clear c34
      obtain ⟨ji35, hji35⟩ : ∃ j_ : Int, (wrap64 ((IntKind.u64.wrap (wrap64 (x14_1 + x15_1))) / 2)) = j_ := ⟨_, rfl⟩
      replace H : (if 0 ≤ (ji35) then (if (ji35) < (l0.length : Int) then ((CMP_ (rd l0 a2) (rd l0 (ji35))).bind fun t183 => (if t183 < 0 then (Ab.l2 CMP_ k1 l0 a2 x14_1 ji35) else (Ab.l2 CMP_ k1 l0 a2 (wrap64 ((ji35) + 1)) x15_1))) else (none)) else (none)) = some r := by (rw [hji35] at H; exact H)
      have hji35w : (IntKind.i64.wrap ((IntKind.u64.wrap (wrap64 (x14_1 + x15_1))) / 2)) = ji35 := (Ah _).trans hji35
      by_cases c36 : 0 ≤ (ji35)
      rotate_left
      ·rw [if_neg c36] at H
       exact absurd H (by simp)
      rw [if_pos c36] at H
      have c36b0 : decide (0 ≤ (ji35)) = true := decide_eq_true c36
      clear c36
      by_cases c37 : (ji35) < (l0.length : Int)
      rotate_left
      ·rw [if_neg c37] at H
       exact absurd H (by simp)
      rw [if_pos c37] at H
      have c37b0 : decide ((ji35) < (l0.length : Int)) = true := decide_eq_true c37
      clear c37
      obtain ⟨t183, A380, H⟩ := bindS_ H
      try dsimp only at H
      have A38 := Aa.k A380
      clear A380
      by_cases c39 : t183 < 0
      ·rw [if_pos c39] at H
       have c39b0 : decide (t183 < 0) = true := decide_eq_true c39
       clear c39
       as_aux_lemma =>
        have H' := Aa.k H
        clear H
        try go_wp2
        replace HO_0 := Aa.k (Kd.R_drew HO_0.o)
        replace HK := Aa.k (Kept.drew HK.o)
        replace HB := Aa.k (Cf HB.o)
        obtain ⟨Ao41, co41, eo41⟩ := Kd.Cx HO_0.o
        ((subst eo41))
        have p181 : 0 ≤ (a2 : Int) := of_decide_eq_true (by (assumption))
        have q181 : a2 < (l0.length : Int) := of_decide_eq_true (by (assumption))
        obtain ⟨ad181, e181, hx181_0⟩ := Ed (Kd.Bb HO_0.o).2.2 a2 p181 q181
        cases e181
        replace p181 := eq_true p181
        replace q181 := eq_true q181
        have p182 : 0 ≤ ((ji35) : Int) := of_decide_eq_true (by (assumption))
        have q182 : (ji35) < (l0.length : Int) := of_decide_eq_true (by (assumption))
        obtain ⟨ad182, e182, hx182_0⟩ := Ed (Kd.Bb HO_0.o).2.2 (ji35) p182 q182
        obtain rfl : ad181 = ad182 := (by injection e182)
        replace p182 := eq_true p182
        replace q182 := eq_true q182
        refine Fp (n := 12) (S := fun w' => w'.cell? (ad181.add (a2).toNat) = some (.slice (Pq_ (rd l0 a2)) (Nq_ (rd l0 a2)) (Cq_ (rd l0 a2))) ∧ w'.cell? (ad181.add ((ji35)).toNat) = some (.slice (Pq_ (rd l0 (ji35))) (Nq_ (rd l0 (ji35))) (Cq_ (rd l0 (ji35))))) (ds := []) #[N_,N_,N_,N_,N_,N_,N_,N_,N_,N_,N_,N_] (by kernel_rfl) rfl rfl ⟨hx181_0, hx182_0⟩ (fun hHeld => ?_); refine Dv Ab.tab17 Ab.bits17 (fun HT_ HW_ => ?_)
        generalize wr.drew = w40 at HO_0 HK HB hx181_0 hx182_0 hHeld ⊢
        apply pq_ 0 92 #[Y_,N_,N_,N_,N_,N_,N_,N_,N_,N_,N_,N_] HT_ rfl rfl (by kernel_rfl) (fun _ _ _ h => h) (by rfl)
        ·intro w'; go_simp; rfl
        ·simp only [Act.put, sT_, sZ_, sS_, Ah, Ai]; rfl
        apply pq_ 1 93 #[Y_,Y_,N_,N_,N_,N_,N_,N_,N_,N_,N_,N_] HT_ rfl rfl (by kernel_rfl) (fun _ _ _ h => h) (by rfl)
        ·intro w'; go_simp; rfl
        ·simp only [Act.put, sT_, sZ_, sS_, Ah, Ai]; rfl
        apply pq_ 2 94 #[Y_,Y_,Y_,N_,N_,N_,N_,N_,N_,N_,N_,N_] HT_ rfl rfl (by kernel_rfl) (fun _ _ _ h => h) (by rfl)
        ·intro w'; go_simp; rfl
        ·simp only [Act.put, sT_, sZ_, sS_, Ah, Ai]; rfl
        apply pq_ 3 95 #[Y_,Y_,Y_,Y_,N_,N_,N_,N_,N_,N_,N_,N_] HT_ rfl rfl (by kernel_rfl) (fun _ _ _ h => h) (by rfl)
        ·intro w'; go_simp; rfl
        ·simp only [Act.put, sT_, sZ_, sS_, Ah, Ai]; rfl
        apply pq_ 5 97 #[Y_,Y_,Y_,Y_,N_,Y_,N_,N_,N_,N_,N_,N_] HT_ rfl rfl (by kernel_rfl) (fun _ _ _ h => h) (by rfl)
        ·intro w'; go_simp; rfl
        ·simp only [Act.put, sT_, sZ_, sS_, Ah, Ai]; rfl
        apply pq_ 6 98 #[Y_,Y_,Y_,Y_,N_,Y_,Y_,N_,N_,N_,N_,N_] HT_ rfl rfl (by kernel_rfl) (fun _ _ _ h => h) (by rfl)
        ·intro w'; go_simp; rfl
        ·simp only [Act.put, sT_, sZ_, sS_, Ah, Ai]; rfl
        apply pq_ 7 99 #[Y_,Y_,Y_,Y_,N_,Y_,Y_,Y_,N_,N_,N_,N_] HT_ rfl rfl (by kernel_rfl) (fun _ _ _ h => h) (by rfl)
        ·intro w'; go_simp; rfl
        ·simp only [Act.put, sT_, sZ_, sS_, Ah, Ai]; rfl
        refine En (i := 4) (N := some 96) (v := ?_) (a' := ?_) #[Y_,Y_,Y_,Y_,Y_,Y_,Y_,Y_,N_,N_,N_,N_] rfl rfl (Cm HT_.o HW_.o (by kernel_rfl)) (fun _ _ _ h => h) (Or.inl ⟨by rfl, ?_⟩) hHeld ?_ ?_
        rotate_left
        ·rintro w' ⟨s0, s1⟩
         go_simp
         rfl
        rotate_left
        ·simp only [Act.put, sT_, sZ_, sS_, Ah, Ai]
         rfl
        refine En (i := 8) (N := some 100) (v := ?_) (a' := ?_) #[Y_,Y_,Y_,Y_,Y_,Y_,Y_,Y_,Y_,N_,N_,N_] rfl rfl (Cm HT_.o HW_.o (by kernel_rfl)) (fun _ _ _ h => h) (Or.inl ⟨by rfl, ?_⟩) hHeld ?_ ?_
        rotate_left
        ·rintro w' ⟨s0, s1⟩
         go_simp
         rfl
        rotate_left
        ·simp only [Act.put, sT_, sZ_, sS_, Ah, Ai]
         rfl
        refine one_ (i := 9) (N := some 101) #[Y_,Y_,Y_,Y_,Y_,Y_,Y_,Y_,Y_,Y_,N_,N_] rfl rfl (Ej HT_.o (by kernel_rfl)) (by decide) (fun K hK => ?_)
        refine slices_goesT_ Try.func121 (by kernel_rfl) rfl #[.slice (Pq_ (rd l0 a2)) (Nq_ (rd l0 a2)) (Cq_ (rd l0 a2)), .slice (Pq_ (rd l0 (ji35))) (Nq_ (rd l0 (ji35))) (Cq_ (rd l0 (ji35)))] (by rfl) rfl rfl (by rfl) (by (try simp only [mT_, mC_, mN_]); rfl) ?_
        refine (HCQ.o (rd l0 a2) (rd l0 (ji35)) t183 _ (Ep.step HWQ.o HK.o HPQ.o) A38.o).mono ?_
        rintro e w' ⟨rfl, ⟨nd, rfl⟩⟩
        refine ⟨_, rfl, ?_⟩
        refine hK.out _ _ ⟨hHeld.1, hHeld.2⟩ (fun hHeld => ?_)
        clear hK K
        refine Es (a' := ?_) ?_ ?_
        rotate_left
        ·show Act.put _ (some 101) _ = _
         simp only [Act.put, sT_, sZ_, sS_, Ah, Ai]
         rfl
        apply pq_ 10 102 #[Y_,Y_,Y_,Y_,Y_,Y_,Y_,Y_,Y_,Y_,Y_,N_] HT_ rfl rfl (by kernel_rfl) (fun _ _ _ h => h) (by rfl)
        ·intro w'; go_simp; rfl
        ·simp only [Act.put, sT_, sZ_, sS_, Ah, Ai]; rfl
        apply pq_ 11 103 #[Y_,Y_,Y_,Y_,Y_,Y_,Y_,Y_,Y_,Y_,Y_,Y_] HT_ rfl rfl (by kernel_rfl) (fun _ _ _ h => h) (by rfl)
        ·intro w'; go_simp; rfl
        ·simp only [Act.put, sT_, sZ_, sS_, Ah, Ai]; rfl
        refine done_ (Fa HT_.o (by kernel_rfl)) ?_
        try go_wp2
        go_roundg k1
        case measure => have := HK1.o; omega
        case rel => exact ⟨(x14_1), (ji35), (by (rfl)), (by (rfl)), H', ⟨by have := HK1.o; omega⟩, ⟨by (with_reducible repeat ((apply Kd.Ee))); exact HO_0.o⟩, ⟨by repeat ((with_reducible first | exact HK.o | apply Kept.drewN))⟩, ⟨by repeat ((with_reducible first | exact HB.o | apply Bh))⟩⟩
      rw [if_neg c39] at H
      have c39b0 : decide (t183 < 0) = false := decide_eq_false c39
      clear c39
      as_aux_lemma =>
       have H' := Aa.k H
       clear H
       try go_wp2
       replace HO_0 := Aa.k (Kd.R_drew HO_0.o)
       replace HK := Aa.k (Kept.drew HK.o)
       replace HB := Aa.k (Cf HB.o)
       obtain ⟨Ao43, co43, eo43⟩ := Kd.Cx HO_0.o
       ((subst eo43))
       have p181 : 0 ≤ (a2 : Int) := of_decide_eq_true (by (assumption))
       have q181 : a2 < (l0.length : Int) := of_decide_eq_true (by (assumption))
       obtain ⟨ad181, e181, hx181_0⟩ := Ed (Kd.Bb HO_0.o).2.2 a2 p181 q181
       cases e181
       replace p181 := eq_true p181
       replace q181 := eq_true q181
       have p182 : 0 ≤ ((ji35) : Int) := of_decide_eq_true (by (assumption))
       have q182 : (ji35) < (l0.length : Int) := of_decide_eq_true (by (assumption))
       obtain ⟨ad182, e182, hx182_0⟩ := Ed (Kd.Bb HO_0.o).2.2 (ji35) p182 q182
       obtain rfl : ad181 = ad182 := (by injection e182)
       replace p182 := eq_true p182
       replace q182 := eq_true q182
       refine Fp (n := 12) (S := fun w' => w'.cell? (ad181.add (a2).toNat) = some (.slice (Pq_ (rd l0 a2)) (Nq_ (rd l0 a2)) (Cq_ (rd l0 a2))) ∧ w'.cell? (ad181.add ((ji35)).toNat) = some (.slice (Pq_ (rd l0 (ji35))) (Nq_ (rd l0 (ji35))) (Cq_ (rd l0 (ji35))))) (ds := []) #[N_,N_,N_,N_,N_,N_,N_,N_,N_,N_,N_,N_] (by kernel_rfl) rfl rfl ⟨hx181_0, hx182_0⟩ (fun hHeld => ?_); refine Dv Ab.tab17 Ab.bits17 (fun HT_ HW_ => ?_)
       generalize wr.drew = w42 at HO_0 HK HB hx181_0 hx182_0 hHeld ⊢
       apply pq_ 0 92 #[Y_,N_,N_,N_,N_,N_,N_,N_,N_,N_,N_,N_] HT_ rfl rfl (by kernel_rfl) (fun _ _ _ h => h) (by rfl)
       ·intro w'; go_simp; rfl
       ·simp only [Act.put, sT_, sZ_, sS_, Ah, Ai]; rfl
       apply pq_ 1 93 #[Y_,Y_,N_,N_,N_,N_,N_,N_,N_,N_,N_,N_] HT_ rfl rfl (by kernel_rfl) (fun _ _ _ h => h) (by rfl)
       ·intro w'; go_simp; rfl
       ·simp only [Act.put, sT_, sZ_, sS_, Ah, Ai]; rfl
       apply pq_ 2 94 #[Y_,Y_,Y_,N_,N_,N_,N_,N_,N_,N_,N_,N_] HT_ rfl rfl (by kernel_rfl) (fun _ _ _ h => h) (by rfl)
       ·intro w'; go_simp; rfl
       ·simp only [Act.put, sT_, sZ_, sS_, Ah, Ai]; rfl
       apply pq_ 3 95 #[Y_,Y_,Y_,Y_,N_,N_,N_,N_,N_,N_,N_,N_] HT_ rfl rfl (by kernel_rfl) (fun _ _ _ h => h) (by rfl)
       ·intro w'; go_simp; rfl
       ·simp only [Act.put, sT_, sZ_, sS_, Ah, Ai]; rfl
       apply pq_ 5 97 #[Y_,Y_,Y_,Y_,N_,Y_,N_,N_,N_,N_,N_,N_] HT_ rfl rfl (by kernel_rfl) (fun _ _ _ h => h) (by rfl)
       ·intro w'; go_simp; rfl
       ·simp only [Act.put, sT_, sZ_, sS_, Ah, Ai]; rfl
       apply pq_ 6 98 #[Y_,Y_,Y_,Y_,N_,Y_,Y_,N_,N_,N_,N_,N_] HT_ rfl rfl (by kernel_rfl) (fun _ _ _ h => h) (by rfl)
       ·intro w'; go_simp; rfl
       ·simp only [Act.put, sT_, sZ_, sS_, Ah, Ai]; rfl
       apply pq_ 7 99 #[Y_,Y_,Y_,Y_,N_,Y_,Y_,Y_,N_,N_,N_,N_] HT_ rfl rfl (by kernel_rfl) (fun _ _ _ h => h) (by rfl)
       ·intro w'; go_simp; rfl
       ·simp only [Act.put, sT_, sZ_, sS_, Ah, Ai]; rfl
       refine En (i := 4) (N := some 96) (v := ?_) (a' := ?_) #[Y_,Y_,Y_,Y_,Y_,Y_,Y_,Y_,N_,N_,N_,N_] rfl rfl (Cm HT_.o HW_.o (by kernel_rfl)) (fun _ _ _ h => h) (Or.inl ⟨by rfl, ?_⟩) hHeld ?_ ?_
       rotate_left
       ·rintro w' ⟨s0, s1⟩
        go_simp
        rfl
       rotate_left
       ·simp only [Act.put, sT_, sZ_, sS_, Ah, Ai]
        rfl
       refine En (i := 8) (N := some 100) (v := ?_) (a' := ?_) #[Y_,Y_,Y_,Y_,Y_,Y_,Y_,Y_,Y_,N_,N_,N_] rfl rfl (Cm HT_.o HW_.o (by kernel_rfl)) (fun _ _ _ h => h) (Or.inl ⟨by rfl, ?_⟩) hHeld ?_ ?_
       rotate_left
       ·rintro w' ⟨s0, s1⟩
        go_simp
        rfl
       rotate_left
       ·simp only [Act.put, sT_, sZ_, sS_, Ah, Ai]
        rfl
       refine one_ (i := 9) (N := some 101) #[Y_,Y_,Y_,Y_,Y_,Y_,Y_,Y_,Y_,Y_,N_,N_] rfl rfl (Ej HT_.o (by kernel_rfl)) (by decide) (fun K hK => ?_)
       refine slices_goesT_ Try.func121 (by kernel_rfl) rfl #[.slice (Pq_ (rd l0 a2)) (Nq_ (rd l0 a2)) (Cq_ (rd l0 a2)), .slice (Pq_ (rd l0 (ji35))) (Nq_ (rd l0 (ji35))) (Cq_ (rd l0 (ji35)))] (by rfl) rfl rfl (by rfl) (by (try simp only [mT_, mC_, mN_]); rfl) ?_
       refine (HCQ.o (rd l0 a2) (rd l0 (ji35)) t183 _ (Ep.step HWQ.o HK.o HPQ.o) A38.o).mono ?_
       rintro e w' ⟨rfl, ⟨nd, rfl⟩⟩
       refine ⟨_, rfl, ?_⟩
       refine hK.out _ _ ⟨hHeld.1, hHeld.2⟩ (fun hHeld => ?_)
       clear hK K
       refine Es (a' := ?_) ?_ ?_
       rotate_left
       ·show Act.put _ (some 101) _ = _
        simp only [Act.put, sT_, sZ_, sS_, Ah, Ai]
        rfl
       apply pq_ 10 102 #[Y_,Y_,Y_,Y_,Y_,Y_,Y_,Y_,Y_,Y_,Y_,N_] HT_ rfl rfl (by kernel_rfl) (fun _ _ _ h => h) (by rfl)
       ·intro w'; go_simp; rfl
       ·simp only [Act.put, sT_, sZ_, sS_, Ah, Ai]; rfl
       apply pq_ 11 103 #[Y_,Y_,Y_,Y_,Y_,Y_,Y_,Y_,Y_,Y_,Y_,Y_] HT_ rfl rfl (by kernel_rfl) (fun _ _ _ h => h) (by rfl)
       ·intro w'; go_simp; rfl
       ·simp only [Act.put, sT_, sZ_, sS_, Ah, Ai]; rfl
       refine done_ (Fa HT_.o (by kernel_rfl)) ?_
       try go_wp2
       go_roundg k1
       case measure => have := HK1.o; omega
       case rel => exact ⟨(wrap64 ((ji35) + 1)), (x15_1), (by (rfl)), (by (rfl)), H', ⟨by have := HK1.o; omega⟩, ⟨by (with_reducible repeat ((apply Kd.Ee))); exact HO_0.o⟩, ⟨by repeat ((with_reducible first | exact HK.o | apply Kept.drewN))⟩, ⟨by repeat ((with_reducible first | exact HB.o | apply Bh))⟩⟩
     rw [if_neg c32] at H
     have c32b0 : decide (x14_1 < x15_1) = false := decide_eq_false c32
     clear c32
     as_aux_lemma =>
      have H' := Aa.k H
      clear H
      go_wp2
      go_loopg [17] k1 (fun kq v17 w' => ∃ (x0_2 : List Int) (x17_2 : Int), v17 = .int .i64 x17_2 ∧ Aa (Ab.l3 CMP_ kq x0_2 x14_1 x17_2 = some r) ∧ Aa (kq ≤ k1) ∧ Aa (Kd.R (Dr Pq_ Nq_ Cq_) 30 w' w0.heap.size (fun k_ => (P0_ k_ ∨ w.heap.size ≤ k_)) u9000_ x0_2) ∧ Aa (Kept w w' (fun k_ => P0_ k_)) ∧ Aa (Below w0.heap.size w0 w'))
      case atStart => exact ⟨(l0), (a2), (by (rfl)), H', ⟨Nat.le_refl _⟩, ⟨by exact HO_0.o⟩, ⟨by exact HK.o⟩, ⟨by exact HB.o⟩⟩
      case round =>
       clear H'
       clear c32b0
       obtain ⟨x0_2, x17_2, rfl, HA, HK2, HO_0, HK, HB⟩ := hrel
       cases gk with
       | zero => exact absurd HA.o (by simp [Ab.l3])
       | succ k2 =>
        have H := HA.o
        clear HA
        simp only [Ab.l3] at H
        by_cases c44 : x17_2 > x14_1
        rotate_left
        ·rw [if_neg c44] at H
         have c44b0 : decide (x14_1 < x17_2) = false := decide_eq_false c44
         clear c44
         as_aux_lemma =>
          obtain rfl := Option.some.inj H
          go_wp2
          ((try simp only [Exit.inBlock, Exit.then]); refine bodyPost_ret (results_none rfl _ _ _) rfl ?_)
          exact ⟨by (rfl), by exact HO_0.o, by exact HB.o, by exact HK.o⟩
        rw [if_pos c44] at H
        have c44b0 : decide (x14_1 < x17_2) = true := decide_eq_true c44
        clear c44
        obtain ⟨ji45, hji45⟩ : ∃ j_ : Int, (wrap64 (x17_2 - 1)) = j_ := ⟨_, rfl⟩
        replace H : (if 0 ≤ (ji45) then (if (ji45) < (x0_2.length : Int) then (if 0 ≤ x17_2 then (if x17_2 < (x0_2.length : Int) then (Ab.l3 CMP_ k2 ((x0_2.set (x17_2 : Int).toNat (rd x0_2 (ji45))).set ((ji45) : Int).toNat (rd x0_2 x17_2)) x14_1 ji45) else (none)) else (none)) else (none)) else (none)) = some r := by (rw [hji45] at H; exact H)
        have hji45w : (IntKind.i64.wrap (x17_2 - 1)) = ji45 := (Ah _).trans hji45
        by_cases c46 : 0 ≤ (ji45)
        rotate_left
        ·rw [if_neg c46] at H
         exact absurd H (by simp)
        rw [if_pos c46] at H
        have c46b0 : decide (0 ≤ (ji45)) = true := decide_eq_true c46
        clear c46
        by_cases c47 : (ji45) < (x0_2.length : Int)
        rotate_left
        ·rw [if_neg c47] at H
         exact absurd H (by simp)
        rw [if_pos c47] at H
        have c47b0 : decide ((ji45) < (x0_2.length : Int)) = true := decide_eq_true c47
        clear c47
        by_cases c48 : 0 ≤ x17_2
        rotate_left
        ·rw [if_neg c48] at H
         exact absurd H (by simp)
        rw [if_pos c48] at H
        have c48b0 : decide (0 ≤ x17_2) = true := decide_eq_true c48
        clear c48
        by_cases c49 : x17_2 < (x0_2.length : Int)
        rotate_left
        ·rw [if_neg c49] at H
         exact absurd H (by simp)
        rw [if_pos c49] at H
        have c49b0 : decide (x17_2 < (x0_2.length : Int)) = true := decide_eq_true c49
        clear c49
        obtain ⟨y186, hy186⟩ : ∃ y_ : List Int, y_ = (x0_2.set (x17_2 : Int).toNat (rd x0_2 (ji45))) := ⟨_, rfl⟩
        replace H : (Ab.l3 CMP_ k2 (y186.set ((ji45) : Int).toNat (rd x0_2 x17_2)) x14_1 ji45) = some r := by (rw [hy186]; exact H)
        have Ny186 := Aa.k hy186
        clear hy186
        obtain ⟨y187, hy187⟩ : ∃ y_ : List Int, y_ = (y186.set ((ji45) : Int).toNat (rd x0_2 x17_2)) := ⟨_, rfl⟩
        replace H : (Ab.l3 CMP_ k2 y187 x14_1 ji45) = some r := by (rw [hy187]; exact H)
        have Ny187 := Aa.k hy187
        clear hy187
        as_aux_lemma =>
         have H' := Aa.k H
         clear H
         try go_wp2
         replace HO_0 := Aa.k (Kd.R_drew HO_0.o)
         replace HK := Aa.k (Kept.drew HK.o)
         replace HB := Aa.k (Cf HB.o)
         obtain ⟨Ao53, co53, eo53⟩ := Kd.Cx HO_0.o
         ((subst eo53))
         have p184 : 0 ≤ ((ji45) : Int) := of_decide_eq_true (by (assumption))
         have q184 : (ji45) < (x0_2.length : Int) := of_decide_eq_true (by (assumption))
         obtain ⟨ad184, e184, hx184_0⟩ := Ed (Kd.Bb HO_0.o).2.2 (ji45) p184 q184
         cases e184
         replace p184 := eq_true p184
         replace q184 := eq_true q184
         have p185 : 0 ≤ (x17_2 : Int) := of_decide_eq_true (by (assumption))
         have q185 : x17_2 < (x0_2.length : Int) := of_decide_eq_true (by (assumption))
         obtain ⟨ad185, e185, hx185_0⟩ := Ed (Kd.Bb HO_0.o).2.2 x17_2 p185 q185
         obtain rfl : ad184 = ad185 := (by injection e185)
         replace p185 := eq_true p185
         replace q185 := eq_true q185
         have p50 : 0 ≤ (x17_2 : Int) := of_decide_eq_true (by (assumption))
         have q50 : (x17_2 : Int) < ((x0_2.length : Int) : Int) := of_decide_eq_true (by (assumption))
         obtain ⟨go50, co50, eo50, gb50, gl50, cl50, HG50⟩ := Kd.R_form HO_0.o (by omega)
         ((cases eo50))
         have GB50 := Aa.k gb50
         have GG50 := Aa.k HG50
         clear gb50 gl50 HG50
         have HMgo50 := Aa.k (show (P0_ go50 ∨ w.heap.size ≤ go50) from (HO_0.o.1 _ rfl))
         ((simp only [add_plain] at hx184_0))
         ((simp only [add_plain] at hx185_0))
         obtain ⟨hx50_0, hf50_0⟩ := Kd.R_celln 0 HO_0.o (x17_2 : Int) p50 q50
         replace p50 := eq_true p50
         replace q50 := eq_true q50
         have HP54 := Kd.R_putn HO_0.o (x17_2 : Int) (rd x0_2 (ji45))
         rw [← Ny186.o] at HP54
         have HQ54 := Aa.k HP54
         clear HP54
         have p51 : 0 ≤ ((ji45) : Int) := of_decide_eq_true (by (assumption))
         have q51 : ((ji45) : Int) < ((x0_2.length : Int) : Int) := of_decide_eq_true (by (assumption))
         obtain ⟨hx51_0, hf51_0⟩ := Kd.R_celln 0 HQ54.o ((ji45) : Int) p51 q51
         replace p51 := eq_true p51
         replace q51 := eq_true q51
         have HP55 := Kd.R_putn HQ54.o ((ji45) : Int) (rd x0_2 x17_2)
         rw [← Ny187.o] at HP55
         have HQ55 := Aa.k HP55
         clear HP55
         refine Fp (n := 18) (S := fun w' => w'.cell? ⟨go50, ((ji45)).toNat, none⟩ = some (.slice (Pq_ (rd x0_2 (ji45))) (Nq_ (rd x0_2 (ji45))) (Cq_ (rd x0_2 (ji45)))) ∧ w'.cell? ⟨go50, (x17_2).toNat, none⟩ = some (.slice (Pq_ (rd x0_2 x17_2)) (Nq_ (rd x0_2 x17_2)) (Cq_ (rd x0_2 x17_2)))) (ds := [15, 17]) #[N_,N_,N_,N_,N_,N_,N_,N_,N_,N_,N_,N_,N_,N_,N_,N_,N_,N_] (by kernel_rfl) rfl rfl ⟨hx184_0, hx185_0⟩ (fun hHeld => ?_); refine Dv Ab.tab23 Ab.bits23 (fun HT_ HW_ => ?_)
         generalize wr.drew = w52 at HO_0 HK HB GG50 HQ54 HQ55 hf50_0 hf51_0 hx184_0 hx185_0 hx50_0 hx51_0 hHeld ⊢
         apply pq_ 0 113 #[Y_,N_,N_,N_,N_,N_,N_,N_,N_,N_,N_,N_,N_,N_,N_,N_,N_,N_] HT_ rfl rfl (by kernel_rfl) (fun _ _ _ h => h) (by rfl)
         ·intro w'; go_simp; rfl
         ·simp only [Act.put, sT_, sZ_, sS_, Ah, Ai]; rfl
         apply pq_ 1 114 #[Y_,Y_,N_,N_,N_,N_,N_,N_,N_,N_,N_,N_,N_,N_,N_,N_,N_,N_] HT_ rfl rfl (by kernel_rfl) (fun _ _ _ h => h) (by rfl)
         ·intro w'; go_simp; rfl
         ·simp only [Act.put, sT_, sZ_, sS_, Ah, Ai]; rfl
         apply pq_ 2 115 #[Y_,Y_,Y_,N_,N_,N_,N_,N_,N_,N_,N_,N_,N_,N_,N_,N_,N_,N_] HT_ rfl rfl (by kernel_rfl) (fun _ _ _ h => h) (by rfl)
         ·intro w'; go_simp; rfl
         ·simp only [Act.put, sT_, sZ_, sS_, Ah, Ai]; rfl
         apply pq_ 3 116 #[Y_,Y_,Y_,Y_,N_,N_,N_,N_,N_,N_,N_,N_,N_,N_,N_,N_,N_,N_] HT_ rfl rfl (by kernel_rfl) (fun _ _ _ h => h) (by rfl)
         ·intro w'; go_simp; rfl
         ·simp only [Act.put, sT_, sZ_, sS_, Ah, Ai]; rfl
         apply pq_ 4 117 #[Y_,Y_,Y_,Y_,Y_,N_,N_,N_,N_,N_,N_,N_,N_,N_,N_,N_,N_,N_] HT_ rfl rfl (by kernel_rfl) (fun _ _ _ h => h) (by rfl)
         ·intro w'; go_simp; rfl
         ·simp only [Act.put, sT_, sZ_, sS_, Ah, Ai]; rfl
         apply pq_ 5 118 #[Y_,Y_,Y_,Y_,Y_,Y_,N_,N_,N_,N_,N_,N_,N_,N_,N_,N_,N_,N_] HT_ rfl rfl (by kernel_rfl) (fun _ _ _ h => h) (by rfl)
         ·intro w'; go_simp; rfl
         ·simp only [Act.put, sT_, sZ_, sS_, Ah, Ai]; rfl
         apply pq_ 6 119 #[Y_,Y_,Y_,Y_,Y_,Y_,Y_,N_,N_,N_,N_,N_,N_,N_,N_,N_,N_,N_] HT_ rfl rfl (by kernel_rfl) (fun _ _ _ h => h) (by rfl)
         ·intro w'; go_simp; rfl
         ·simp only [Act.put, sT_, sZ_, sS_, Ah, Ai]; rfl
         apply pq_ 7 120 #[Y_,Y_,Y_,Y_,Y_,Y_,Y_,Y_,N_,N_,N_,N_,N_,N_,N_,N_,N_,N_] HT_ rfl rfl (by kernel_rfl) (fun _ _ _ h => h) (by rfl)
         ·intro w'; go_simp; rfl
         ·simp only [Act.put, sT_, sZ_, sS_, Ah, Ai]; rfl
         apply pq_ 8 121 #[Y_,Y_,Y_,Y_,Y_,Y_,Y_,Y_,Y_,N_,N_,N_,N_,N_,N_,N_,N_,N_] HT_ rfl rfl (by kernel_rfl) (fun _ _ _ h => h) (by rfl)
         ·intro w'; go_simp; rfl
         ·simp only [Act.put, sT_, sZ_, sS_, Ah, Ai]; rfl
         apply pq_ 10 123 #[Y_,Y_,Y_,Y_,Y_,Y_,Y_,Y_,Y_,N_,Y_,N_,N_,N_,N_,N_,N_,N_] HT_ rfl rfl (by kernel_rfl) (fun _ _ _ h => h) (by rfl)
         ·intro w'; go_simp; rfl
         ·simp only [Act.put, sT_, sZ_, sS_, Ah, Ai]; rfl
         apply pq_ 11 124 #[Y_,Y_,Y_,Y_,Y_,Y_,Y_,Y_,Y_,N_,Y_,Y_,N_,N_,N_,N_,N_,N_] HT_ rfl rfl (by kernel_rfl) (fun _ _ _ h => h) (by rfl)
         ·intro w'; go_simp; rfl
         ·simp only [Act.put, sT_, sZ_, sS_, Ah, Ai]; rfl
         apply pq_ 12 125 #[Y_,Y_,Y_,Y_,Y_,Y_,Y_,Y_,Y_,N_,Y_,Y_,Y_,N_,N_,N_,N_,N_] HT_ rfl rfl (by kernel_rfl) (fun _ _ _ h => h) (by rfl)
         ·intro w'; go_simp; rfl
         ·simp only [Act.put, sT_, sZ_, sS_, Ah, Ai]; rfl
         refine En (i := 9) (N := some 122) (v := ?_) (a' := ?_) #[Y_,Y_,Y_,Y_,Y_,Y_,Y_,Y_,Y_,Y_,Y_,Y_,Y_,N_,N_,N_,N_,N_] rfl rfl (Cm HT_.o HW_.o (by kernel_rfl)) (fun _ _ _ h => h) (Or.inl ⟨by rfl, ?_⟩) hHeld ?_ ?_
         rotate_left
         ·rintro w' ⟨s0, s1⟩
          go_simp
          rfl
         rotate_left
         ·simp only [Act.put, sT_, sZ_, sS_, Ah, Ai]
          rfl
         refine En (i := 13) (N := some 126) (v := ?_) (a' := ?_) #[Y_,Y_,Y_,Y_,Y_,Y_,Y_,Y_,Y_,Y_,Y_,Y_,Y_,Y_,N_,N_,N_,N_] rfl rfl (Cm HT_.o HW_.o (by kernel_rfl)) (fun _ _ _ h => h) (Or.inl ⟨by rfl, ?_⟩) hHeld ?_ ?_
         rotate_left
         ·rintro w' ⟨s0, s1⟩
          go_simp
          rfl
         rotate_left
         ·simp only [Act.put, sT_, sZ_, sS_, Ah, Ai]
          rfl
         apply pq_ 14 127 #[Y_,Y_,Y_,Y_,Y_,Y_,Y_,Y_,Y_,Y_,Y_,Y_,Y_,Y_,Y_,N_,N_,N_] HT_ rfl rfl (by kernel_rfl) (fun _ _ _ h => h) (by rfl)
         ·intro w'; go_simp; rfl
         ·simp only [Act.put, sT_, sZ_, sS_, Ah, Ai]; rfl
         refine last_ (i := 15) (N := none) #[Y_,Y_,Y_,Y_,Y_,Y_,Y_,Y_,Y_,Y_,Y_,Y_,Y_,Y_,Y_,Y_,N_,N_] rfl rfl (Ej HT_.o (by kernel_rfl)) (by decide) (fun K hK => ?_)
         refine skip_ (w1 := ?_) (by rfl) rfl ?_ ?_
         rotate_left
         ·go_simp
          rfl
         refine hK.out _ _ ?_
         clear hK K
         apply pq_ 16 128 #[Y_,Y_,Y_,Y_,Y_,Y_,Y_,Y_,Y_,Y_,Y_,Y_,Y_,Y_,Y_,Y_,Y_,N_] HT_ rfl rfl (by kernel_rfl) (fun _ _ _ h => h) (by rfl)
         ·intro w'; go_simp; rfl
         ·simp only [Act.put, sT_, sZ_, sS_, Ah, Ai]; rfl
         refine last_ (i := 17) (N := none) #[Y_,Y_,Y_,Y_,Y_,Y_,Y_,Y_,Y_,Y_,Y_,Y_,Y_,Y_,Y_,Y_,Y_,Y_] rfl rfl (Ej HT_.o (by kernel_rfl)) (by decide) (fun K hK => ?_)
         refine skip_ (w1 := ?_) (by rfl) rfl ?_ ?_
         rotate_left
         ·go_simp
          rfl
         refine hK.out _ _ ?_
         clear hK K
         refine done_ (Fa HT_.o (by kernel_rfl)) ?_
         try go_wp2
         go_roundg k2
         case measure => have := HK1.o; have := HK2.o; omega
         case rel => exact ⟨(y187), (ji45), (by (rfl)), H', ⟨by have := HK1.o; have := HK2.o; omega⟩, ⟨by exact HQ55.o⟩, ⟨by repeat ((with_reducible first | exact HK.o | refine Kept.setCell ?_ HMgo50.o _))⟩, ⟨by repeat ((with_reducible first | exact HB.o | refine Bz ?_ GB50.o))⟩⟩
 rw [if_neg c31] at H
 have c31b0 : ((wrap64 (a3 - a2)) == 1) = false := beq_eq_false_iff_ne.mpr c31
 have c31b1 : ((wrap64 (a3 - a2)) != 1) = true := bne_iff_ne.mpr c31
 have HC56 := Aa.k H
 clear H
 go_enter Try.func137, Try.ntmps137
 go_upto_if 140 with (fail)
 go_cut [20, 21] (fun v20 v21 wc => ∃ (kq : Nat) (x20_55 : Int) (x21_55 : Int), v20 = .int .i64 x20_55 ∧ v21 = .int .i64 x21_55 ∧ Aa (Ab.j4 CMP_ kq l0 a1 a2 a3 a4 (wrap64 ((IntKind.u64.wrap (wrap64 (a1 + a3))) / 2)) (wrap64 ((wrap64 ((IntKind.u64.wrap (wrap64 (a1 + a3))) / 2)) + a2)) x20_55 x21_55 = some r) ∧ Aa (kq ≤ k) ∧ Aa (Kd.R (Dr Pq_ Nq_ Cq_) 30 wc w0.heap.size (fun k_ => (P0_ k_ ∨ w.heap.size ≤ k_)) u9000_ l0) ∧ Aa (Kept w wc (fun k_ => P0_ k_)) ∧ Aa (Below w0.heap.size w0 wc))
 case first =>
  have H := HC56.o
  clear HC56
  by_cases c57 : a2 > (wrap64 ((IntKind.u64.wrap (wrap64 (a1 + a3))) / 2))
  rotate_left
  ·rw [if_neg c57] at H
   have c57b0 : decide ((wrap64 ((IntKind.u64.wrap (wrap64 (a1 + a3))) / 2)) < a2) = false := decide_eq_false c57
   clear c57
   ((rw [c57b0]))
   as_aux_lemma =>
    have H' := Aa.k H
    clear H
    go_wp2
    go_meet
    case rel => exact ⟨_, (a1), (a2), (by (rfl)), (by (rfl)), H', ⟨by (omega)⟩, ⟨by exact HO0.o⟩, ⟨by exact HK.o⟩, ⟨by exact HB.o⟩⟩
  rw [if_pos c57] at H
  have c57b0 : decide ((wrap64 ((IntKind.u64.wrap (wrap64 (a1 + a3))) / 2)) < a2) = true := decide_eq_true c57
  clear c57
  ((rw [c57b0]))
  as_aux_lemma =>
   have H' := Aa.k H
   clear H
   go_wp2
   go_meet
   case rel => exact ⟨_, (wrap64 ((wrap64 ((wrap64 ((IntKind.u64.wrap (wrap64 (a1 + a3))) / 2)) + a2)) - a3)), (wrap64 ((IntKind.u64.wrap (wrap64 (a1 + a3))) / 2)), (by (rfl)), (by (rfl)), H', ⟨by (omega)⟩, ⟨by exact HO0.o⟩, ⟨by exact HK.o⟩, ⟨by exact HB.o⟩⟩
 case rest =>
  clear HC56
  clear c6 c6b0 c6b1
  clear c31 c31b0 c31b1
  obtain ⟨kq, x20_55, x21_55, rfl, rfl, HA, HJ55, HO_0, HK, HB⟩ := hcut
  cases kq with
  | zero => exact absurd HA.o (by simp [Ab.j4])
  | succ kj55 =>
   have H := HA.o
   clear HA
   simp only [Ab.j4] at H
   as_aux_lemma =>
    have H' := Aa.k H
    clear H
    go_wp2
    go_loopg [20, 21] kj55 (fun kq v20 v21 w' => ∃ (x20_2 : Int) (x21_2 : Int), v20 = .int .i64 x20_2 ∧ v21 = .int .i64 x21_2 ∧ Aa (Ab.l4 CMP_ kq l0 a1 a2 a3 a4 (wrap64 ((IntKind.u64.wrap (wrap64 (a1 + a3))) / 2)) (wrap64 ((wrap64 ((IntKind.u64.wrap (wrap64 (a1 + a3))) / 2)) + a2)) x20_2 x21_2 (wrap64 ((wrap64 ((wrap64 ((IntKind.u64.wrap (wrap64 (a1 + a3))) / 2)) + a2)) - 1)) = some r) ∧ Aa (kq ≤ kj55) ∧ Aa (Kd.R (Dr Pq_ Nq_ Cq_) 30 w' w0.heap.size (fun k_ => (P0_ k_ ∨ w.heap.size ≤ k_)) u9000_ l0) ∧ Aa (Kept w w' (fun k_ => P0_ k_)) ∧ Aa (Below w0.heap.size w0 w'))
    case atStart => exact ⟨(x20_55), (x21_55), (by (rfl)), (by (rfl)), H', ⟨Nat.le_refl _⟩, ⟨by exact HO_0.o⟩, ⟨by exact HK.o⟩, ⟨by exact HB.o⟩⟩
    case round =>
     clear H'
     obtain ⟨x20_2, x21_2, rfl, rfl, HA, HK2, HO_0, HK, HB⟩ := hrel
     cases gk with
     | zero => exact absurd HA.o (by simp [Ab.l4])
     | succ k2 =>
      have H := HA.o
      clear HA
      simp only [Ab.l4] at H
      by_cases c58 : x20_2 < x21_2
      ·rw [if_pos c58] at H
       have c58b0 : decide (x20_2 < x21_2) = true := decide_eq_true c58
       clear c58
       obtain ⟨ji59, hji59⟩ : ∃ j_ : Int, (wrap64 ((wrap64 ((wrap64 ((wrap64 ((IntKind.u64.wrap (wrap64 (a1 + a3))) / 2)) + a2)) - 1)) - (wrap64 ((IntKind.u64.wrap (wrap64 (x20_2 + x21_2))) / 2)))) = j_ := ⟨_, rfl⟩
       replace H : (if 0 ≤ (ji59) then (if (ji59) < (l0.length : Int) then (if 0 ≤ (wrap64 ((IntKind.u64.wrap (wrap64 (x20_2 + x21_2))) / 2)) then (if (wrap64 ((IntKind.u64.wrap (wrap64 (x20_2 + x21_2))) / 2)) < (l0.length : Int) then ((CMP_ (rd l0 (ji59)) (rd l0 (wrap64 ((IntKind.u64.wrap (wrap64 (x20_2 + x21_2))) / 2)))).bind fun t190 => (if t190 < 0 then (Ab.l4 CMP_ k2 l0 a1 a2 a3 a4 (wrap64 ((IntKind.u64.wrap (wrap64 (a1 + a3))) / 2)) (wrap64 ((wrap64 ((IntKind.u64.wrap (wrap64 (a1 + a3))) / 2)) + a2)) x20_2 (wrap64 ((IntKind.u64.wrap (wrap64 (x20_2 + x21_2))) / 2)) (wrap64 ((wrap64 ((wrap64 ((IntKind.u64.wrap (wrap64 (a1 + a3))) / 2)) + a2)) - 1))) else (Ab.l4 CMP_ k2 l0 a1 a2 a3 a4 (wrap64 ((IntKind.u64.wrap (wrap64 (a1 + a3))) / 2)) (wrap64 ((wrap64 ((IntKind.u64.wrap (wrap64 (a1 + a3))) / 2)) + a2)) (wrap64 ((wrap64 ((IntKind.u64.wrap (wrap64 (x20_2 + x21_2))) / 2)) + 1)) x21_2 (wrap64 ((wrap64 ((wrap64 ((IntKind.u64.wrap (wrap64 (a1 + a3))) / 2)) + a2)) - 1))))) else (none)) else (none)) else (none)) else (none)) = some r := by (rw [hji59] at H; exact H)
       have hji59w : (IntKind.i64.wrap ((wrap64 ((wrap64 ((wrap64 ((IntKind.u64.wrap (wrap64 (a1 + a3))) / 2)) + a2)) - 1)) - (wrap64 ((IntKind.u64.wrap (wrap64 (x20_2 + x21_2))) / 2)))) = ji59 := (Ah _).trans hji59
       by_cases c60 : 0 ≤ (ji59)
       rotate_left
       ·rw [if_neg c60] at H
        exact absurd H (by simp)
       rw [if_pos c60] at H
       have c60b0 : decide (0 ≤ (ji59)) = true := decide_eq_true c60
       clear c60
       by_cases c61 : (ji59) < (l0.length : Int)
       rotate_left
       ·rw [if_neg c61] at H
        exact absurd H (by simp)
       rw [if_pos c61] at H
       have c61b0 : decide ((ji59) < (l0.length : Int)) = true := decide_eq_true c61
       clear c61
       obtain ⟨ji62, hji62⟩ : ∃ j_ : Int, (wrap64 ((IntKind.u64.wrap (wrap64 (x20_2 + x21_2))) / 2)) = j_ := ⟨_, rfl⟩
       replace H : (if 0 ≤ (ji62) then (if (ji62) < (l0.length : Int) then ((CMP_ (rd l0 (ji59)) (rd l0 (ji62))).bind fun t190 => (if t190 < 0 then (Ab.l4 CMP_ k2 l0 a1 a2 a3 a4 (wrap64 ((IntKind.u64.wrap (wrap64 (a1 + a3))) / 2)) (wrap64 ((wrap64 ((IntKind.u64.wrap (wrap64 (a1 + a3))) / 2)) + a2)) x20_2 ji62 (wrap64 ((wrap64 ((wrap64 ((IntKind.u64.wrap (wrap64 (a1 + a3))) / 2)) + a2)) - 1))) else (Ab.l4 CMP_ k2 l0 a1 a2 a3 a4 (wrap64 ((IntKind.u64.wrap (wrap64 (a1 + a3))) / 2)) (wrap64 ((wrap64 ((IntKind.u64.wrap (wrap64 (a1 + a3))) / 2)) + a2)) (wrap64 ((ji62) + 1)) x21_2 (wrap64 ((wrap64 ((wrap64 ((IntKind.u64.wrap (wrap64 (a1 + a3))) / 2)) + a2)) - 1))))) else (none)) else (none)) = some r := by (rw [hji62] at H; exact H)
       have hji62w : (IntKind.i64.wrap ((IntKind.u64.wrap (wrap64 (x20_2 + x21_2))) / 2)) = ji62 := (Ah _).trans hji62
       rw [hji62] at hji59 hji59w
       by_cases c63 : 0 ≤ (ji62)
       rotate_left
       ·rw [if_neg c63] at H
        exact absurd H (by simp)
       rw [if_pos c63] at H
       have c63b0 : decide (0 ≤ (ji62)) = true := decide_eq_true c63
       clear c63
       by_cases c64 : (ji62) < (l0.length : Int)
       rotate_left
       ·rw [if_neg c64] at H
        exact absurd H (by simp)
       rw [if_pos c64] at H
       have c64b0 : decide ((ji62) < (l0.length : Int)) = true := decide_eq_true c64
       clear c64
       obtain ⟨t190, A650, H⟩ := bindS_ H
       try dsimp only at H
       have A65 := Aa.k A650
       clear A650
       by_cases c66 : t190 < 0
       ·rw [if_pos c66] at H
        have c66b0 : decide (t190 < 0) = true := decide_eq_true c66
        clear c66
        as_aux_lemma =>
         have H' := Aa.k H
         clear H
         try go_wp2
         replace HO_0 := Aa.k (Kd.R_drew HO_0.o)
         replace HK := Aa.k (Kept.drew HK.o)
         replace HB := Aa.k (Cf HB.o)
         obtain ⟨Ao68, co68, eo68⟩ := Kd.Cx HO_0.o
         ((subst eo68))
         have p188 : 0 ≤ ((ji59) : Int) := of_decide_eq_true (by (assumption))
         have q188 : (ji59) < (l0.length : Int) := of_decide_eq_true (by (assumption))
         obtain ⟨ad188, e188, hx188_0⟩ := Ed (Kd.Bb HO_0.o).2.2 (ji59) p188 q188
         cases e188
         replace p188 := eq_true p188
         replace q188 := eq_true q188
         have p189 : 0 ≤ ((ji62) : Int) := of_decide_eq_true (by (assumption))
         have q189 : (ji62) < (l0.length : Int) := of_decide_eq_true (by (assumption))
         obtain ⟨ad189, e189, hx189_0⟩ := Ed (Kd.Bb HO_0.o).2.2 (ji62) p189 q189
         obtain rfl : ad188 = ad189 := (by injection e189)
         replace p189 := eq_true p189
         replace q189 := eq_true q189
         refine Fp (n := 14) (S := fun w' => w'.cell? (ad188.add ((ji59)).toNat) = some (.slice (Pq_ (rd l0 (ji59))) (Nq_ (rd l0 (ji59))) (Cq_ (rd l0 (ji59)))) ∧ w'.cell? (ad188.add ((ji62)).toNat) = some (.slice (Pq_ (rd l0 (ji62))) (Nq_ (rd l0 (ji62))) (Cq_ (rd l0 (ji62))))) (ds := []) #[N_,N_,N_,N_,N_,N_,N_,N_,N_,N_,N_,N_,N_,N_] (by kernel_rfl) rfl rfl ⟨hx188_0, hx189_0⟩ (fun hHeld => ?_); refine Dv Ab.tab35 Ab.bits35 (fun HT_ HW_ => ?_)
         generalize wr.drew = w67 at HO_0 HK HB hx188_0 hx189_0 hHeld ⊢
         apply pq_ 0 158 #[Y_,N_,N_,N_,N_,N_,N_,N_,N_,N_,N_,N_,N_,N_] HT_ rfl rfl (by kernel_rfl) (fun _ _ _ h => h) (by rfl)
         ·intro w'; go_simp; rfl
         ·simp only [Act.put, sT_, sZ_, sS_, Ah, Ai]; rfl
         apply pq_ 1 159 #[Y_,Y_,N_,N_,N_,N_,N_,N_,N_,N_,N_,N_,N_,N_] HT_ rfl rfl (by kernel_rfl) (fun _ _ _ h => h) (by rfl)
         ·intro w'; go_simp; rfl
         ·simp only [Act.put, sT_, sZ_, sS_, Ah, Ai]; rfl
         apply pq_ 2 160 #[Y_,Y_,Y_,N_,N_,N_,N_,N_,N_,N_,N_,N_,N_,N_] HT_ rfl rfl (by kernel_rfl) (fun _ _ _ h => h) (by rfl)
         ·intro w'; go_simp; rfl
         ·simp only [Act.put, sT_, sZ_, sS_, Ah, Ai]; rfl
         apply pq_ 3 161 #[Y_,Y_,Y_,Y_,N_,N_,N_,N_,N_,N_,N_,N_,N_,N_] HT_ rfl rfl (by kernel_rfl) (fun _ _ _ h => h) (by rfl)
         ·intro w'; go_simp; rfl
         ·simp only [Act.put, sT_, sZ_, sS_, Ah, Ai]; rfl
         apply pq_ 4 162 #[Y_,Y_,Y_,Y_,Y_,N_,N_,N_,N_,N_,N_,N_,N_,N_] HT_ rfl rfl (by kernel_rfl) (fun _ _ _ h => h) (by rfl)
         ·intro w'; go_simp; rfl
         ·simp only [Act.put, sT_, sZ_, sS_, Ah, Ai]; rfl
         apply pq_ 5 163 #[Y_,Y_,Y_,Y_,Y_,Y_,N_,N_,N_,N_,N_,N_,N_,N_] HT_ rfl rfl (by kernel_rfl) (fun _ _ _ h => h) (by rfl)
         ·intro w'; go_simp; rfl
         ·simp only [Act.put, sT_, sZ_, sS_, Ah, Ai]; rfl
         apply pq_ 7 165 #[Y_,Y_,Y_,Y_,Y_,Y_,N_,Y_,N_,N_,N_,N_,N_,N_] HT_ rfl rfl (by kernel_rfl) (fun _ _ _ h => h) (by rfl)
         ·intro w'; go_simp; rfl
         ·simp only [Act.put, sT_, sZ_, sS_, Ah, Ai]; rfl
         apply pq_ 8 166 #[Y_,Y_,Y_,Y_,Y_,Y_,N_,Y_,Y_,N_,N_,N_,N_,N_] HT_ rfl rfl (by kernel_rfl) (fun _ _ _ h => h) (by rfl)
         ·intro w'; go_simp; rfl
         ·simp only [Act.put, sT_, sZ_, sS_, Ah, Ai]; rfl
         apply pq_ 9 167 #[Y_,Y_,Y_,Y_,Y_,Y_,N_,Y_,Y_,Y_,N_,N_,N_,N_] HT_ rfl rfl (by kernel_rfl) (fun _ _ _ h => h) (by rfl)
         ·intro w'; go_simp; rfl
         ·simp only [Act.put, sT_, sZ_, sS_, Ah, Ai]; rfl
         refine En (i := 6) (N := some 164) (v := ?_) (a' := ?_) #[Y_,Y_,Y_,Y_,Y_,Y_,Y_,Y_,Y_,Y_,N_,N_,N_,N_] rfl rfl (Cm HT_.o HW_.o (by kernel_rfl)) (fun _ _ _ h => h) (Or.inl ⟨by rfl, ?_⟩) hHeld ?_ ?_
         rotate_left
         ·rintro w' ⟨s0, s1⟩
          go_simp
          rfl
         rotate_left
         ·simp only [Act.put, sT_, sZ_, sS_, Ah, Ai]
          rfl
         refine En (i := 10) (N := some 168) (v := ?_) (a' := ?_) #[Y_,Y_,Y_,Y_,Y_,Y_,Y_,Y_,Y_,Y_,Y_,N_,N_,N_] rfl rfl (Cm HT_.o HW_.o (by kernel_rfl)) (fun _ _ _ h => h) (Or.inl ⟨by rfl, ?_⟩) hHeld ?_ ?_
         rotate_left
         ·rintro w' ⟨s0, s1⟩
          go_simp
          rfl
         rotate_left
         ·simp only [Act.put, sT_, sZ_, sS_, Ah, Ai]
          rfl
         refine one_ (i := 11) (N := some 169) #[Y_,Y_,Y_,Y_,Y_,Y_,Y_,Y_,Y_,Y_,Y_,Y_,N_,N_] rfl rfl (Ej HT_.o (by kernel_rfl)) (by decide) (fun K hK => ?_)
         refine slices_goesT_ Try.func121 (by kernel_rfl) rfl #[.slice (Pq_ (rd l0 (ji59))) (Nq_ (rd l0 (ji59))) (Cq_ (rd l0 (ji59))), .slice (Pq_ (rd l0 (ji62))) (Nq_ (rd l0 (ji62))) (Cq_ (rd l0 (ji62)))] (by rfl) rfl rfl (by rfl) (by (try simp only [mT_, mC_, mN_]); rfl) ?_
         refine (HCQ.o (rd l0 (ji59)) (rd l0 (ji62)) t190 _ (Ep.step HWQ.o HK.o HPQ.o) A65.o).mono ?_
         rintro e w' ⟨rfl, ⟨nd, rfl⟩⟩
         refine ⟨_, rfl, ?_⟩
         refine hK.out _ _ ⟨hHeld.1, hHeld.2⟩ (fun hHeld => ?_)
         clear hK K
         refine Es (a' := ?_) ?_ ?_
         rotate_left
         ·show Act.put _ (some 169) _ = _
          simp only [Act.put, sT_, sZ_, sS_, Ah, Ai]
          rfl
         apply pq_ 12 170 #[Y_,Y_,Y_,Y_,Y_,Y_,Y_,Y_,Y_,Y_,Y_,Y_,Y_,N_] HT_ rfl rfl (by kernel_rfl) (fun _ _ _ h => h) (by rfl)
         ·intro w'; go_simp; rfl
         ·simp only [Act.put, sT_, sZ_, sS_, Ah, Ai]; rfl
         apply pq_ 13 171 #[Y_,Y_,Y_,Y_,Y_,Y_,Y_,Y_,Y_,Y_,Y_,Y_,Y_,Y_] HT_ rfl rfl (by kernel_rfl) (fun _ _ _ h => h) (by rfl)
         ·intro w'; go_simp; rfl
         ·simp only [Act.put, sT_, sZ_, sS_, Ah, Ai]; rfl
         refine done_ (Fa HT_.o (by kernel_rfl)) ?_
         try go_wp2
         go_roundg k2
         case measure => have := HJ55.o; have := HK2.o; omega
         case rel => exact ⟨(x20_2), (ji62), (by (rfl)), (by (rfl)), H', ⟨by have := HJ55.o; have := HK2.o; omega⟩, ⟨by (with_reducible repeat ((apply Kd.Ee))); exact HO_0.o⟩, ⟨by repeat ((with_reducible first | exact HK.o | apply Kept.drewN))⟩, ⟨by repeat ((with_reducible first | exact HB.o | apply Bh))⟩⟩
       rw [if_neg c66] at H
       have c66b0 : decide (t190 < 0) = false := decide_eq_false c66
       clear c66
       as_aux_lemma =>
        have H' := Aa.k H
        clear H
        try go_wp2
        replace HO_0 := Aa.k (Kd.R_drew HO_0.o)
        replace HK := Aa.k (Kept.drew HK.o)
        replace HB := Aa.k (Cf HB.o)
        obtain ⟨Ao70, co70, eo70⟩ := Kd.Cx HO_0.o
        ((subst eo70))
        have p188 : 0 ≤ ((ji59) : Int) := of_decide_eq_true (by (assumption))
        have q188 : (ji59) < (l0.length : Int) := of_decide_eq_true (by (assumption))
        obtain ⟨ad188, e188, hx188_0⟩ := Ed (Kd.Bb HO_0.o).2.2 (ji59) p188 q188
        cases e188
        replace p188 := eq_true p188
        replace q188 := eq_true q188
        have p189 : 0 ≤ ((ji62) : Int) := of_decide_eq_true (by (assumption))
        have q189 : (ji62) < (l0.length : Int) := of_decide_eq_true (by (assumption))
        obtain ⟨ad189, e189, hx189_0⟩ := Ed (Kd.Bb HO_0.o).2.2 (ji62) p189 q189
        obtain rfl : ad188 = ad189 := (by injection e189)
        replace p189 := eq_true p189
        replace q189 := eq_true q189
        refine Fp (n := 14) (S := fun w' => w'.cell? (ad188.add ((ji59)).toNat) = some (.slice (Pq_ (rd l0 (ji59))) (Nq_ (rd l0 (ji59))) (Cq_ (rd l0 (ji59)))) ∧ w'.cell? (ad188.add ((ji62)).toNat) = some (.slice (Pq_ (rd l0 (ji62))) (Nq_ (rd l0 (ji62))) (Cq_ (rd l0 (ji62))))) (ds := []) #[N_,N_,N_,N_,N_,N_,N_,N_,N_,N_,N_,N_,N_,N_] (by kernel_rfl) rfl rfl ⟨hx188_0, hx189_0⟩ (fun hHeld => ?_); refine Dv Ab.tab35 Ab.bits35 (fun HT_ HW_ => ?_)
        generalize wr.drew = w69 at HO_0 HK HB hx188_0 hx189_0 hHeld ⊢
        apply pq_ 0 158 #[Y_,N_,N_,N_,N_,N_,N_,N_,N_,N_,N_,N_,N_,N_] HT_ rfl rfl (by kernel_rfl) (fun _ _ _ h => h) (by rfl)
        ·intro w'; go_simp; rfl
        ·simp only [Act.put, sT_, sZ_, sS_, Ah, Ai]; rfl
        apply pq_ 1 159 #[Y_,Y_,N_,N_,N_,N_,N_,N_,N_,N_,N_,N_,N_,N_] HT_ rfl rfl (by kernel_rfl) (fun _ _ _ h => h) (by rfl)
        ·intro w'; go_simp; rfl
        ·simp only [Act.put, sT_, sZ_, sS_, Ah, Ai]; rfl
        apply pq_ 2 160 #[Y_,Y_,Y_,N_,N_,N_,N_,N_,N_,N_,N_,N_,N_,N_] HT_ rfl rfl (by kernel_rfl) (fun _ _ _ h => h) (by rfl)
        ·intro w'; go_simp; rfl
        ·simp only [Act.put, sT_, sZ_, sS_, Ah, Ai]; rfl
        apply pq_ 3 161 #[Y_,Y_,Y_,Y_,N_,N_,N_,N_,N_,N_,N_,N_,N_,N_] HT_ rfl rfl (by kernel_rfl) (fun _ _ _ h => h) (by rfl)
        ·intro w'; go_simp; rfl
        ·simp only [Act.put, sT_, sZ_, sS_, Ah, Ai]; rfl
        apply pq_ 4 162 #[Y_,Y_,Y_,Y_,Y_,N_,N_,N_,N_,N_,N_,N_,N_,N_] HT_ rfl rfl (by kernel_rfl) (fun _ _ _ h => h) (by rfl)
        ·intro w'; go_simp; rfl
        ·simp only [Act.put, sT_, sZ_, sS_, Ah, Ai]; rfl
        apply pq_ 5 163 #[Y_,Y_,Y_,Y_,Y_,Y_,N_,N_,N_,N_,N_,N_,N_,N_] HT_ rfl rfl (by kernel_rfl) (fun _ _ _ h => h) (by rfl)
        ·intro w'; go_simp; rfl
        ·simp only [Act.put, sT_, sZ_, sS_, Ah, Ai]; rfl
        apply pq_ 7 165 #[Y_,Y_,Y_,Y_,Y_,Y_,N_,Y_,N_,N_,N_,N_,N_,N_] HT_ rfl rfl (by kernel_rfl) (fun _ _ _ h => h) (by rfl)
        ·intro w'; go_simp; rfl
        ·simp only [Act.put, sT_, sZ_, sS_, Ah, Ai]; rfl
        apply pq_ 8 166 #[Y_,Y_,Y_,Y_,Y_,Y_,N_,Y_,Y_,N_,N_,N_,N_,N_] HT_ rfl rfl (by kernel_rfl) (fun _ _ _ h => h) (by rfl)
        ·intro w'; go_simp; rfl
        ·simp only [Act.put, sT_, sZ_, sS_, Ah, Ai]; rfl
        apply pq_ 9 167 #[Y_,Y_,Y_,Y_,Y_,Y_,N_,Y_,Y_,Y_,N_,N_,N_,N_] HT_ rfl rfl (by kernel_rfl) (fun _ _ _ h => h) (by rfl)
        ·intro w'; go_simp; rfl
        ·simp only [Act.put, sT_, sZ_, sS_, Ah, Ai]; rfl
        refine En (i := 6) (N := some 164) (v := ?_) (a' := ?_) #[Y_,Y_,Y_,Y_,Y_,Y_,Y_,Y_,Y_,Y_,N_,N_,N_,N_] rfl rfl (Cm HT_.o HW_.o (by kernel_rfl)) (fun _ _ _ h => h) (Or.inl ⟨by rfl, ?_⟩) hHeld ?_ ?_
        rotate_left
        ·rintro w' ⟨s0, s1⟩
         go_simp
         rfl
        rotate_left
        ·simp only [Act.put, sT_, sZ_, sS_, Ah, Ai]
         rfl
        refine En (i := 10) (N := some 168) (v := ?_) (a' := ?_) #[Y_,Y_,Y_,Y_,Y_,Y_,Y_,Y_,Y_,Y_,Y_,N_,N_,N_] rfl rfl (Cm HT_.o HW_.o (by kernel_rfl)) (fun _ _ _ h => h) (Or.inl ⟨by rfl, ?_⟩) hHeld ?_ ?_
        rotate_left
        ·rintro w' ⟨s0, s1⟩
         go_simp
         rfl
        rotate_left
        ·simp only [Act.put, sT_, sZ_, sS_, Ah, Ai]
         rfl
        refine one_ (i := 11) (N := some 169) #[Y_,Y_,Y_,Y_,Y_,Y_,Y_,Y_,Y_,Y_,Y_,Y_,N_,N_] rfl rfl (Ej HT_.o (by kernel_rfl)) (by decide) (fun K hK => ?_)
        refine slices_goesT_ Try.func121 (by kernel_rfl) rfl #[.slice (Pq_ (rd l0 (ji59))) (Nq_ (rd l0 (ji59))) (Cq_ (rd l0 (ji59))), .slice (Pq_ (rd l0 (ji62))) (Nq_ (rd l0 (ji62))) (Cq_ (rd l0 (ji62)))] (by rfl) rfl rfl (by rfl) (by (try simp only [mT_, mC_, mN_]); rfl) ?_
        refine (HCQ.o (rd l0 (ji59)) (rd l0 (ji62)) t190 _ (Ep.step HWQ.o HK.o HPQ.o) A65.o).mono ?_
        rintro e w' ⟨rfl, ⟨nd, rfl⟩⟩
        refine ⟨_, rfl, ?_⟩
        refine hK.out _ _ ⟨hHeld.1, hHeld.2⟩ (fun hHeld => ?_)
        clear hK K
        refine Es (a' := ?_) ?_ ?_
        rotate_left
        ·show Act.put _ (some 169) _ = _
         simp only [Act.put, sT_, sZ_, sS_, Ah, Ai]
         rfl
        apply pq_ 12 170 #[Y_,Y_,Y_,Y_,Y_,Y_,Y_,Y_,Y_,Y_,Y_,Y_,Y_,N_] HT_ rfl rfl (by kernel_rfl) (fun _ _ _ h => h) (by rfl)
        ·intro w'; go_simp; rfl
        ·simp only [Act.put, sT_, sZ_, sS_, Ah, Ai]; rfl
        apply pq_ 13 171 #[Y_,Y_,Y_,Y_,Y_,Y_,Y_,Y_,Y_,Y_,Y_,Y_,Y_,Y_] HT_ rfl rfl (by kernel_rfl) (fun _ _ _ h => h) (by rfl)
        ·intro w'; go_simp; rfl
        ·simp only [Act.put, sT_, sZ_, sS_, Ah, Ai]; rfl
        refine done_ (Fa HT_.o (by kernel_rfl)) ?_
        try go_wp2
        go_roundg k2
        case measure => have := HJ55.o; have := HK2.o; omega
        case rel => exact ⟨(wrap64 ((ji62) + 1)), (x21_2), (by (rfl)), (by (rfl)), H', ⟨by have := HJ55.o; have := HK2.o; omega⟩, ⟨by (with_reducible repeat ((apply Kd.Ee))); exact HO_0.o⟩, ⟨by repeat ((with_reducible first | exact HK.o | apply Kept.drewN))⟩, ⟨by repeat ((with_reducible first | exact HB.o | apply Bh))⟩⟩
      rw [if_neg c58] at H
      have c58b0 : decide (x20_2 < x21_2) = false := decide_eq_false c58
      clear c58
      have HC71 := Aa.k H
      clear H
      go_upto_region 39 with (fail)
      go_cut [185] (fun v185 wc => ∃ (kq : Nat) (x185_70 : Bool), v185 = .bool x185_70 ∧ Aa (Ab.j6 CMP_ kq l0 a1 a2 a3 a4 (wrap64 ((IntKind.u64.wrap (wrap64 (a1 + a3))) / 2)) x20_2 (wrap64 ((wrap64 ((wrap64 ((IntKind.u64.wrap (wrap64 (a1 + a3))) / 2)) + a2)) - x20_2)) x185_70 = some r) ∧ Aa (kq ≤ k2) ∧ Aa (Kd.R (Dr Pq_ Nq_ Cq_) 30 wc w0.heap.size (fun k_ => (P0_ k_ ∨ w.heap.size ≤ k_)) u9000_ l0) ∧ Aa (Kept w wc (fun k_ => P0_ k_)) ∧ Aa (Below w0.heap.size w0 wc))
      case first =>
       have H := HC71.o
       clear HC71
       by_cases c72 : x20_2 < a2
       rotate_left
       ·rw [if_neg c72] at H
        have c72b0 : decide (x20_2 < a2) = false := decide_eq_false c72
        clear c72
        ((skip))
        as_aux_lemma =>
         have H' := Aa.k H
         clear H
         go_wp2
         go_meet
         case rel => exact ⟨_, (false), (by (rfl)), H', ⟨by have := HJ55.o; have := HK2.o; (omega)⟩, ⟨by exact HO_0.o⟩, ⟨by exact HK.o⟩, ⟨by exact HB.o⟩⟩
       rw [if_pos c72] at H
       have c72b0 : decide (x20_2 < a2) = true := decide_eq_true c72
       clear c72
       ((skip))
       as_aux_lemma =>
        have H' := Aa.k H
        clear H
        go_wp2
        go_meet
        case rel => exact ⟨_, (decide (a2 < (wrap64 ((wrap64 ((wrap64 ((IntKind.u64.wrap (wrap64 (a1 + a3))) / 2)) + a2)) - x20_2)))), (by (rfl)), H', ⟨by have := HJ55.o; have := HK2.o; (omega)⟩, ⟨by exact HO_0.o⟩, ⟨by exact HK.o⟩, ⟨by exact HB.o⟩⟩
      case rest =>
       clear HC71
       clear c58b0
       obtain ⟨kq, x185_70, rfl, HA, HJ70, HO_0, HK, HB⟩ := hcut
       cases kq with
       | zero => exact absurd HA.o (by simp [Ab.j6])
       | succ kj70 =>
        have H := HA.o
        clear HA
        simp only [Ab.j6] at H
        have HC73 := Aa.k H
        clear H
        go_upto_if 185 with (fail)
        go_cut [] (fun wc => ∃ (kq : Nat) (x0_72 : List Int), Aa (Ab.j7 CMP_ kq x0_72 a1 a3 a4 (wrap64 ((IntKind.u64.wrap (wrap64 (a1 + a3))) / 2)) x20_2 (wrap64 ((wrap64 ((wrap64 ((IntKind.u64.wrap (wrap64 (a1 + a3))) / 2)) + a2)) - x20_2)) = some r) ∧ Aa (kq ≤ kj70) ∧ Aa (Kd.R (Dr Pq_ Nq_ Cq_) 30 wc w0.heap.size (fun k_ => (P0_ k_ ∨ w.heap.size ≤ k_)) u9000_ x0_72) ∧ Aa (Kept w wc (fun k_ => P0_ k_)) ∧ Aa (Below w0.heap.size w0 wc))
        case first =>
         have H := HC73.o
         clear HC73
         by_cases c74 : x185_70 = true
         rotate_left
         ·replace c74 := Bool.eq_false_iff.mpr c74
          subst c74
          rw [if_neg (show ¬ (false = true) by decide)] at H
          as_aux_lemma =>
           have H' := Aa.k H
           clear H
           go_wp2
           go_meet
           case rel => exact ⟨_, (l0), H', ⟨by have := HJ55.o; have := HK2.o; have := HJ70.o; (omega)⟩, ⟨by exact HO_0.o⟩, ⟨by exact HK.o⟩, ⟨by exact HB.o⟩⟩
         subst c74
         rw [if_pos rfl] at H
         obtain ⟨t191, A750, H⟩ := bindS_ H
         try dsimp only at H
         have A75 := Aa.k A750
         clear A750
         as_aux_lemma =>
          have H' := Aa.k H
          clear H
          obtain ⟨Ao76, co76, eo76⟩ := Kd.Cx HO_0.o
          subst eo76
          go_wp2_with (((refine Aj (f := 139) rfl ?_); refine Bf (some 191) rfl rfl Try.func139 (by kernel_rfl) rfl #[.slice Ao76 l0.length co76, .int .i64 x20_2, .int .i64 a2, .int .i64 (wrap64 ((wrap64 ((wrap64 ((IntKind.u64.wrap (wrap64 (a1 + a3))) / 2)) + a2)) - x20_2)), .func (.func 121) #[] #[]] rfl (by (try simp only [mT_, mC_, mN_]); rfl) ?_; (refine (Dn.calls (Pq_ := Pq_) (Nq_ := Nq_) (Cq_ := Cq_) kj70 (fun k_ => some k_ = (.slice Ao76 l0.length co76 : Value).ownBlock) (.slice Ao76 l0.length co76) l0 x20_2 a2 (wrap64 ((wrap64 ((wrap64 ((IntKind.u64.wrap (wrap64 (a1 + a3))) / 2)) + a2)) - x20_2)) a4 t191 w0 _ ?side1 ?side2 A75.o).mono ?_); (case side1 => exact HB.o); (case side2 => exact Kd.R_tight rfl HO_0.o); rintro e w77 ⟨rfl, hy0, hb, hkp⟩; refine ⟨_, rfl, ?_⟩; replace HK := Aa.k (Kept.then_ (S := (fun k_ => P0_ k_)) HK.o hkp (fun k_ hs_ => (fun e_ => (HO_0.o.1 k_ e_.symm)) hs_)); replace HO_0 := Aa.k (Kd.R_reok rfl hy0 (fun k_ e_ => HO_0.o.1 k_ e_)); replace HB := Aa.k (hb); clear hb hkp hy0))
          go_meet
          case rel => exact ⟨_, (t191), H', ⟨by have := HJ55.o; have := HK2.o; have := HJ70.o; (omega)⟩, ⟨by exact HO_0.o⟩, ⟨by exact HK.o⟩, ⟨by exact HB.o⟩⟩
        case rest =>
         clear HC73
         obtain ⟨kq, x0_72, HA, HJ72, HO_0, HK, HB⟩ := hcut
         cases kq with
         | zero => exact absurd HA.o (by simp [Ab.j7])
         | succ kj72 =>
          have H := HA.o
          clear HA
          simp only [Ab.j7] at H
          have HC78 := Aa.k H
          clear H
          go_upto_region 41 with (fail)
          go_cut [199] (fun v199 wc => ∃ (kq : Nat) (x199_77 : Bool), v199 = .bool x199_77 ∧ Aa (Ab.j8 CMP_ kq x0_72 a1 a3 a4 (wrap64 ((IntKind.u64.wrap (wrap64 (a1 + a3))) / 2)) x20_2 (wrap64 ((wrap64 ((wrap64 ((IntKind.u64.wrap (wrap64 (a1 + a3))) / 2)) + a2)) - x20_2)) x199_77 = some r) ∧ Aa (kq ≤ kj72) ∧ Aa (Kd.R (Dr Pq_ Nq_ Cq_) 30 wc w0.heap.size (fun k_ => (P0_ k_ ∨ w.heap.size ≤ k_)) u9000_ x0_72) ∧ Aa (Kept w wc (fun k_ => P0_ k_)) ∧ Aa (Below w0.heap.size w0 wc))
          case first =>
           have H := HC78.o
           clear HC78
           by_cases c79 : a1 < x20_2
           rotate_left
           ·rw [if_neg c79] at H
            have c79b0 : decide (a1 < x20_2) = false := decide_eq_false c79
            clear c79
            ((skip))
            as_aux_lemma =>
             have H' := Aa.k H
             clear H
             go_wp2
             go_meet
             case rel => exact ⟨_, (false), (by (rfl)), H', ⟨by have := HJ55.o; have := HK2.o; have := HJ70.o; have := HJ72.o; (omega)⟩, ⟨by exact HO_0.o⟩, ⟨by exact HK.o⟩, ⟨by exact HB.o⟩⟩
           rw [if_pos c79] at H
           have c79b0 : decide (a1 < x20_2) = true := decide_eq_true c79
           clear c79
           ((skip))
           as_aux_lemma =>
            have H' := Aa.k H
            clear H
            go_wp2
            go_meet
            case rel => exact ⟨_, (decide (x20_2 < (wrap64 ((IntKind.u64.wrap (wrap64 (a1 + a3))) / 2)))), (by (rfl)), H', ⟨by have := HJ55.o; have := HK2.o; have := HJ70.o; have := HJ72.o; (omega)⟩, ⟨by exact HO_0.o⟩, ⟨by exact HK.o⟩, ⟨by exact HB.o⟩⟩
          case rest =>
           clear HC78
           obtain ⟨kq, x199_77, rfl, HA, HJ77, HO_0, HK, HB⟩ := hcut
           cases kq with
           | zero => exact absurd HA.o (by simp [Ab.j8])
           | succ kj77 =>
            have H := HA.o
            clear HA
            simp only [Ab.j8] at H
            by_cases c80 : x199_77 = true
            rotate_left
            ·replace c80 := Bool.eq_false_iff.mpr c80
             subst c80
             rw [if_neg (show ¬ (false = true) by decide)] at H
             by_cases c92 : (wrap64 ((IntKind.u64.wrap (wrap64 (a1 + a3))) / 2)) < (wrap64 ((wrap64 ((wrap64 ((IntKind.u64.wrap (wrap64 (a1 + a3))) / 2)) + a2)) - x20_2))
             rotate_left
             ·rw [if_neg c92] at H
              have c92b0 : decide ((wrap64 ((IntKind.u64.wrap (wrap64 (a1 + a3))) / 2)) < (wrap64 ((wrap64 ((wrap64 ((IntKind.u64.wrap (wrap64 (a1 + a3))) / 2)) + a2)) - x20_2))) = false := decide_eq_false c92
              clear c92
              as_aux_lemma =>
               obtain rfl := Option.some.inj H
               go_wp2
               (go_end0)
               exact ⟨by (rfl), by exact HO_0.o, by exact HB.o, by exact HK.o⟩
             rw [if_pos c92] at H
             have c92b0 : decide ((wrap64 ((IntKind.u64.wrap (wrap64 (a1 + a3))) / 2)) < (wrap64 ((wrap64 ((wrap64 ((IntKind.u64.wrap (wrap64 (a1 + a3))) / 2)) + a2)) - x20_2))) = true := decide_eq_true c92
             clear c92
             by_cases c93 : (wrap64 ((wrap64 ((wrap64 ((IntKind.u64.wrap (wrap64 (a1 + a3))) / 2)) + a2)) - x20_2)) < a3
             rotate_left
             ·rw [if_neg c93] at H
              have c93b0 : decide ((wrap64 ((wrap64 ((wrap64 ((IntKind.u64.wrap (wrap64 (a1 + a3))) / 2)) + a2)) - x20_2)) < a3) = false := decide_eq_false c93
              clear c93
              as_aux_lemma =>
               obtain rfl := Option.some.inj H
               go_wp2
               (go_end0)
               exact ⟨by (rfl), by exact HO_0.o, by exact HB.o, by exact HK.o⟩
             rw [if_pos c93] at H
             have c93b0 : decide ((wrap64 ((wrap64 ((wrap64 ((IntKind.u64.wrap (wrap64 (a1 + a3))) / 2)) + a2)) - x20_2)) < a3) = true := decide_eq_true c93
             clear c93
             obtain ⟨t194, A940, H⟩ := bindS_ H
             try dsimp only at H
             have A94 := Aa.k A940
             clear A940
             as_aux_lemma =>
              obtain rfl := Option.some.inj H
              obtain ⟨Ao95, co95, eo95⟩ := Kd.Cx HO_0.o
              subst eo95
              go_wp2_with (((refine Aj (f := 137) rfl ?_); refine Bf (some 219) rfl rfl Try.func137 (by kernel_rfl) rfl #[.slice Ao95 x0_72.length co95, .int .i64 (wrap64 ((IntKind.u64.wrap (wrap64 (a1 + a3))) / 2)), .int .i64 (wrap64 ((wrap64 ((wrap64 ((IntKind.u64.wrap (wrap64 (a1 + a3))) / 2)) + a2)) - x20_2)), .int .i64 a3, .func (.func 121) #[] #[]] rfl (by (try simp only [mT_, mC_, mN_]); rfl) ?_; (refine (ih kj77 (by have := HJ55.o; have := HK2.o; have := HJ70.o; have := HJ72.o; have := HJ77.o; omega) (fun k_ => some k_ = (.slice Ao95 x0_72.length co95 : Value).ownBlock) (.slice Ao95 x0_72.length co95) x0_72 (wrap64 ((IntKind.u64.wrap (wrap64 (a1 + a3))) / 2)) (wrap64 ((wrap64 ((wrap64 ((IntKind.u64.wrap (wrap64 (a1 + a3))) / 2)) + a2)) - x20_2)) a3 a4 t194 w0 _ ?side1 ?side2 A94.o HCQ.o ?side3 ?side4).mono ?_); (case side3 => exact (Ep.step HWQ.o HK.o HPQ.o)); (case side4 => exact (fun k_ e_ => HGQ.o k_ (by (exact e_.symm)))); (case side1 => exact HB.o); (case side2 => exact Kd.R_tight rfl HO_0.o); rintro e w96 ⟨rfl, hy0, hb, hkp⟩; refine ⟨_, rfl, ?_⟩; replace HK := Aa.k (Kept.then_ (S := (fun k_ => P0_ k_)) HK.o hkp (fun k_ hs_ => (fun e_ => (HO_0.o.1 k_ e_.symm)) hs_)); replace HO_0 := Aa.k (Kd.R_reok rfl hy0 (fun k_ e_ => HO_0.o.1 k_ e_)); replace HB := Aa.k (hb); clear hb hkp hy0))
              (go_end0)
              exact ⟨by (rfl), by exact HO_0.o, by exact HB.o, by exact HK.o⟩
            subst c80
            rw [if_pos rfl] at H
            obtain ⟨t192, A810, H⟩ := bindS_ H
            try dsimp only at H
            have A81 := Aa.k A810
            clear A810
            by_cases c82 : (wrap64 ((IntKind.u64.wrap (wrap64 (a1 + a3))) / 2)) < (wrap64 ((wrap64 ((wrap64 ((IntKind.u64.wrap (wrap64 (a1 + a3))) / 2)) + a2)) - x20_2))
            rotate_left
            ·rw [if_neg c82] at H
             have c82b0 : decide ((wrap64 ((IntKind.u64.wrap (wrap64 (a1 + a3))) / 2)) < (wrap64 ((wrap64 ((wrap64 ((IntKind.u64.wrap (wrap64 (a1 + a3))) / 2)) + a2)) - x20_2))) = false := decide_eq_false c82
             clear c82
             as_aux_lemma =>
              obtain rfl := Option.some.inj H
              obtain ⟨Ao90, co90, eo90⟩ := Kd.Cx HO_0.o
              subst eo90
              go_wp2_with (((refine Aj (f := 137) rfl ?_); refine Bf (some 205) rfl rfl Try.func137 (by kernel_rfl) rfl #[.slice Ao90 x0_72.length co90, .int .i64 a1, .int .i64 x20_2, .int .i64 (wrap64 ((IntKind.u64.wrap (wrap64 (a1 + a3))) / 2)), .func (.func 121) #[] #[]] rfl (by (try simp only [mT_, mC_, mN_]); rfl) ?_; (refine (ih kj77 (by have := HJ55.o; have := HK2.o; have := HJ70.o; have := HJ72.o; have := HJ77.o; omega) (fun k_ => some k_ = (.slice Ao90 x0_72.length co90 : Value).ownBlock) (.slice Ao90 x0_72.length co90) x0_72 a1 x20_2 (wrap64 ((IntKind.u64.wrap (wrap64 (a1 + a3))) / 2)) a4 t192 w0 _ ?side1 ?side2 A81.o HCQ.o ?side3 ?side4).mono ?_); (case side3 => exact (Ep.step HWQ.o HK.o HPQ.o)); (case side4 => exact (fun k_ e_ => HGQ.o k_ (by (exact e_.symm)))); (case side1 => exact HB.o); (case side2 => exact Kd.R_tight rfl HO_0.o); rintro e w91 ⟨rfl, hy0, hb, hkp⟩; refine ⟨_, rfl, ?_⟩; replace HK := Aa.k (Kept.then_ (S := (fun k_ => P0_ k_)) HK.o hkp (fun k_ hs_ => (fun e_ => (HO_0.o.1 k_ e_.symm)) hs_)); replace HO_0 := Aa.k (Kd.R_reok rfl hy0 (fun k_ e_ => HO_0.o.1 k_ e_)); replace HB := Aa.k (hb); clear hb hkp hy0))
              (go_end0)
              exact ⟨by (rfl), by exact HO_0.o, by exact HB.o, by exact HK.o⟩
            rw [if_pos c82] at H
            have c82b0 : decide ((wrap64 ((IntKind.u64.wrap (wrap64 (a1 + a3))) / 2)) < (wrap64 ((wrap64 ((wrap64 ((IntKind.u64.wrap (wrap64 (a1 + a3))) / 2)) + a2)) - x20_2))) = true := decide_eq_true c82
            clear c82
            by_cases c83 : (wrap64 ((wrap64 ((wrap64 ((IntKind.u64.wrap (wrap64 (a1 + a3))) / 2)) + a2)) - x20_2)) < a3
            rotate_left
            ·rw [if_neg c83] at H
             have c83b0 : decide ((wrap64 ((wrap64 ((wrap64 ((IntKind.u64.wrap (wrap64 (a1 + a3))) / 2)) + a2)) - x20_2)) < a3) = false := decide_eq_false c83
             clear c83
             as_aux_lemma =>
              obtain rfl := Option.some.inj H
              obtain ⟨Ao88, co88, eo88⟩ := Kd.Cx HO_0.o
              subst eo88
              go_wp2_with (((refine Aj (f := 137) rfl ?_); refine Bf (some 205) rfl rfl Try.func137 (by kernel_rfl) rfl #[.slice Ao88 x0_72.length co88, .int .i64 a1, .int .i64 x20_2, .int .i64 (wrap64 ((IntKind.u64.wrap (wrap64 (a1 + a3))) / 2)), .func (.func 121) #[] #[]] rfl (by (try simp only [mT_, mC_, mN_]); rfl) ?_; (refine (ih kj77 (by have := HJ55.o; have := HK2.o; have := HJ70.o; have := HJ72.o; have := HJ77.o; omega) (fun k_ => some k_ = (.slice Ao88 x0_72.length co88 : Value).ownBlock) (.slice Ao88 x0_72.length co88) x0_72 a1 x20_2 (wrap64 ((IntKind.u64.wrap (wrap64 (a1 + a3))) / 2)) a4 t192 w0 _ ?side1 ?side2 A81.o HCQ.o ?side3 ?side4).mono ?_); (case side3 => exact (Ep.step HWQ.o HK.o HPQ.o)); (case side4 => exact (fun k_ e_ => HGQ.o k_ (by (exact e_.symm)))); (case side1 => exact HB.o); (case side2 => exact Kd.R_tight rfl HO_0.o); rintro e w89 ⟨rfl, hy0, hb, hkp⟩; refine ⟨_, rfl, ?_⟩; replace HK := Aa.k (Kept.then_ (S := (fun k_ => P0_ k_)) HK.o hkp (fun k_ hs_ => (fun e_ => (HO_0.o.1 k_ e_.symm)) hs_)); replace HO_0 := Aa.k (Kd.R_reok rfl hy0 (fun k_ e_ => HO_0.o.1 k_ e_)); replace HB := Aa.k (hb); clear hb hkp hy0))
              (go_end0)
              exact ⟨by (rfl), by exact HO_0.o, by exact HB.o, by exact HK.o⟩
            rw [if_pos c83] at H
            have c83b0 : decide ((wrap64 ((wrap64 ((wrap64 ((IntKind.u64.wrap (wrap64 (a1 + a3))) / 2)) + a2)) - x20_2)) < a3) = true := decide_eq_true c83
            clear c83
            obtain ⟨t193, A840, H⟩ := bindS_ H
            try dsimp only at H
            have A84 := Aa.k A840
            clear A840
            as_aux_lemma =>
             obtain rfl := Option.some.inj H
             obtain ⟨Ao85, co85, eo85⟩ := Kd.Cx HO_0.o
             subst eo85
             go_wp2_with (first | ((with_reducible refine Aj (f := 137) rfl ?_); refine Bf (some 205) rfl rfl Try.func137 (by kernel_rfl) rfl #[.slice Ao85 x0_72.length co85, .int .i64 a1, .int .i64 x20_2, .int .i64 (wrap64 ((IntKind.u64.wrap (wrap64 (a1 + a3))) / 2)), .func (.func 121) #[] #[]] rfl (by (try simp only [mT_, mC_, mN_]); rfl) ?_; (with_reducible refine (ih kj77 (by have := HJ55.o; have := HK2.o; have := HJ70.o; have := HJ72.o; have := HJ77.o; omega) (fun k_ => some k_ = (.slice Ao85 x0_72.length co85 : Value).ownBlock) (.slice Ao85 x0_72.length co85) x0_72 a1 x20_2 (wrap64 ((IntKind.u64.wrap (wrap64 (a1 + a3))) / 2)) a4 t192 w0 _ ?side1 ?side2 A81.o HCQ.o ?side3 ?side4).mono ?_); (case side3 => exact (Ep.step HWQ.o HK.o HPQ.o)); (case side4 => exact (fun k_ e_ => HGQ.o k_ (by (exact e_.symm)))); (case side1 => exact HB.o); (case side2 => exact Kd.R_tight rfl HO_0.o); rintro e w86 ⟨rfl, hy0, hb, hkp⟩; refine ⟨_, rfl, ?_⟩; replace HK := Aa.k (Kept.then_ (S := (fun k_ => P0_ k_)) HK.o hkp (fun k_ hs_ => (fun e_ => (HO_0.o.1 k_ e_.symm)) hs_)); replace HO_0 := Aa.k (Kd.R_reok rfl hy0 (fun k_ e_ => HO_0.o.1 k_ e_)); replace HB := Aa.k (hb); clear hb hkp hy0) | ((with_reducible refine Aj (f := 137) rfl ?_); refine Bf (some 219) rfl rfl Try.func137 (by kernel_rfl) rfl #[.slice Ao85 x0_72.length co85, .int .i64 (wrap64 ((IntKind.u64.wrap (wrap64 (a1 + a3))) / 2)), .int .i64 (wrap64 ((wrap64 ((wrap64 ((IntKind.u64.wrap (wrap64 (a1 + a3))) / 2)) + a2)) - x20_2)), .int .i64 a3, .func (.func 121) #[] #[]] rfl (by (try simp only [mT_, mC_, mN_]); rfl) ?_; (with_reducible refine (ih kj77 (by have := HJ55.o; have := HK2.o; have := HJ70.o; have := HJ72.o; have := HJ77.o; omega) (fun k_ => some k_ = (.slice Ao85 x0_72.length co85 : Value).ownBlock) (.slice Ao85 x0_72.length co85) t192 (wrap64 ((IntKind.u64.wrap (wrap64 (a1 + a3))) / 2)) (wrap64 ((wrap64 ((wrap64 ((IntKind.u64.wrap (wrap64 (a1 + a3))) / 2)) + a2)) - x20_2)) a3 a4 t193 w0 _ ?side1 ?side2 A84.o HCQ.o ?side3 ?side4).mono ?_); (case side3 => exact (Ep.step HWQ.o HK.o HPQ.o)); (case side4 => exact (fun k_ e_ => HGQ.o k_ (by (exact e_.symm)))); (case side1 => exact HB.o); (case side2 => exact Kd.R_tight rfl HO_0.o); rintro e w87 ⟨rfl, hy0, hb, hkp⟩; refine ⟨_, rfl, ?_⟩; replace HK := Aa.k (Kept.then_ (S := (fun k_ => P0_ k_)) HK.o hkp (fun k_ hs_ => (fun e_ => (HO_0.o.1 k_ e_.symm)) hs_)); replace HO_0 := Aa.k (Kd.R_reok rfl hy0 (fun k_ e_ => HO_0.o.1 k_ e_)); replace HB := Aa.k (hb); clear hb hkp hy0))
             (go_end0)
             exact ⟨by (rfl), by exact HO_0.o, by exact HB.o, by exact HK.o⟩
end

end Go.Proofs.Ytogflbocmiogpaa.PFnBestSearch
