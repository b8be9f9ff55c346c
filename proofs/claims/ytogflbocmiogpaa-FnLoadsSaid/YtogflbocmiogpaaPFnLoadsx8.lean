-- Written for this claim by this session's turned copy of the printer.
import Derived.Test.YtogflbocmiogpaaPFnLoadsx0
import Derived.Test.YtogflbocmiogpaaPFnLoadsx2
namespace Go.Proofs.Ytogflbocmiogpaa.PFnLoads
open Go.RowKit Go.Proofs.YtogflbocmiogpaaW.PrintWords Go.Proofs.YtogflbocmiogpaaW.PrintLast Go.Proofs.YtogflbocmiogpaaW.PrintMore
open Bool renaming true → Y_, false → N_
attribute [local go_sem] max2_int min2_int max_two min_two max_three min_three max_four min_four   -- for this text's walks alone
set_option linter.unusedVariables false
set_option linter.unusedSimpArgs false

/-! ### spec_l3Search: function 103 -/
mutual
def spec_l3Search.l0 : Nat → Int → List Int → Int → Int → Int → Int → Bool → Option (Bool)
 | 0, _, _, _, _, _, _, _ => none
 | k + 1, x1, x2, x7, x8, x9, x110000, x110001 => if x9 < (x2.length : Int) then (if 0 ≤ x9 then (if (rd x2 x9) > x1 then ((spec_l1In.f (rd x2 x9) 0 (wrap64 (x110000 - 1))).bind fun t112 => (if t112 = true then (if (rd x2 x9) = x1 then (spec_l3Search.j1 k x1 x2 x7 x8 x9 true true x110000 x110001) else (if x9 > 0 then (if 0 ≤ (wrap64 (x9 - 1)) then (if (wrap64 (x9 - 1)) < (x2.length : Int) then (spec_l3Search.j1 k x1 x2 x7 x8 x9 true (true == (decide ((rd x2 (wrap64 (x9 - 1))) > x1))) x110000 x110001) else (none)) else (none)) else (spec_l3Search.j1 k x1 x2 x7 x8 x9 true false x110000 x110001))) else (spec_l3Search.j1 k x1 x2 x7 x8 x9 true true x110000 x110001))) else ((spec_l1In.f (rd x2 x9) 0 (wrap64 (x110000 - 1))).bind fun t120 => (if t120 = true then (if (rd x2 x9) = x1 then (spec_l3Search.j3 k x1 x2 x7 x8 x9 false true x110000 x110001) else (if x9 > 0 then (if 0 ≤ (wrap64 (x9 - 1)) then (if (wrap64 (x9 - 1)) < (x2.length : Int) then (spec_l3Search.j3 k x1 x2 x7 x8 x9 false (false == (decide ((rd x2 (wrap64 (x9 - 1))) > x1))) x110000 x110001) else (none)) else (none)) else (spec_l3Search.j3 k x1 x2 x7 x8 x9 false false x110000 x110001))) else (spec_l3Search.j3 k x1 x2 x7 x8 x9 false true x110000 x110001)))) else (none)) else (if x7 = 0 then (some (x8 == (wrap64 (x110000 - 1)))) else (some false))
def spec_l3Search.j1 : Nat → Int → List Int → Int → Int → Int → Bool → Bool → Int → Bool → Option (Bool)
 | 0, _, _, _, _, _, _, _, _, _ => none
 | k + 1, x1, x2, x7, x8, x9, x10, x56, x110000, x110001 => if x56 = true then (some false) else (if x10 = true then (if 0 ≤ x9 then (if x9 < (x2.length : Int) then (if (rd x2 x9) ≤ x8 then (spec_l3Search.j2 k x1 x2 x7 x8 x9 x10 true x110000 x110001) else (spec_l3Search.j2 k x1 x2 x7 x8 x9 x10 false x110000 x110001)) else (none)) else (none)) else (if 0 ≤ x9 then (if x9 < (x2.length : Int) then (spec_l3Search.j2 k x1 x2 x7 x8 x9 x10 (decide ((rd x2 x9) ≥ x7)) x110000 x110001) else (none)) else (none)))
def spec_l3Search.j2 : Nat → Int → List Int → Int → Int → Int → Bool → Bool → Int → Bool → Option (Bool)
 | 0, _, _, _, _, _, _, _, _, _ => none
 | k + 1, x1, x2, x7, x8, x9, x10, x77, x110000, x110001 => if x77 = true then (some false) else (if x10 = true then (if 0 ≤ x9 then (if x9 < (x2.length : Int) then (spec_l3Search.l0 k x1 x2 x7 (rd x2 x9) (wrap64 (x9 + 1)) x110000 x110001) else (none)) else (none)) else (if 0 ≤ x9 then (if x9 < (x2.length : Int) then (spec_l3Search.l0 k x1 x2 (rd x2 x9) x8 (wrap64 (x9 + 1)) x110000 x110001) else (none)) else (none)))
def spec_l3Search.j3 : Nat → Int → List Int → Int → Int → Int → Bool → Bool → Int → Bool → Option (Bool)
 | 0, _, _, _, _, _, _, _, _, _ => none
 | k + 1, x1, x2, x7, x8, x9, x10, x56, x110000, x110001 => if x56 = true then (some false) else (if x10 = true then (if 0 ≤ x9 then (if x9 < (x2.length : Int) then (if (rd x2 x9) ≤ x8 then (spec_l3Search.j4 k x1 x2 x7 x8 x9 x10 true x110000 x110001) else (spec_l3Search.j4 k x1 x2 x7 x8 x9 x10 false x110000 x110001)) else (none)) else (none)) else (if 0 ≤ x9 then (if x9 < (x2.length : Int) then (spec_l3Search.j4 k x1 x2 x7 x8 x9 x10 (decide ((rd x2 x9) ≥ x7)) x110000 x110001) else (none)) else (none)))
def spec_l3Search.j4 : Nat → Int → List Int → Int → Int → Int → Bool → Bool → Int → Bool → Option (Bool)
 | 0, _, _, _, _, _, _, _, _, _ => none
 | k + 1, x1, x2, x7, x8, x9, x10, x77, x110000, x110001 => if x77 = true then (some false) else (if x10 = true then (if 0 ≤ x9 then (if x9 < (x2.length : Int) then (spec_l3Search.l0 k x1 x2 x7 (rd x2 x9) (wrap64 (x9 + 1)) x110000 x110001) else (none)) else (none)) else (if 0 ≤ x9 then (if x9 < (x2.length : Int) then (spec_l3Search.l0 k x1 x2 (rd x2 x9) x8 (wrap64 (x9 + 1)) x110000 x110001) else (none)) else (none)))
end
def spec_l3Search.f (k : Nat) (a0_0 : Int) (a0_1 : Bool) (a1 : Int) (l2 : List Int) : Option (Bool) := spec_l3Search.l0 k a1 l2 a1 a1 0 a0_0 a0_1
def spec_l3Search.T6 : Bool × List (List Nat × List Nat) := (true, [([], []), ([], []), ([0, 1], [0, 1]), ([2], [2]), ([], []), ([4], [4]), ([5], [5]), ([3, 6], [3, 6]), ([7], [7]), ([8, 7], [8]), ([9], [9]), ([9], [9]), ([10, 11, 9], [9, 10, 11]), ([12, 9], [9, 12]), ([9], [9]), ([13, 14, 9], [9, 13, 14]), ([9, 15], [9, 15]), ([16, 9], [16]), ([17], [17]), ([18, 17], [17, 18]), ([19, 17, 17], [17, 19]), ([20], [20]), ([20], [20]), ([20], [20]), ([23, 20], [20, 23]), ([22, 24, 20], [20, 22, 24]), ([25, 20], [20, 25]), ([20], [20]), ([26, 27, 20], [20, 26, 27]), ([21, 28, 20], [20, 21, 28]), ([20, 29, 17], [17, 20, 29]), ([17, 30], [17, 30])])
def spec_l3Search.B6 : List Nat := [0, 0, 3, 7, 0, 16, 48, 127, 255, 511, 1023, 1023, 4095, 8191, 1023, 32767, 65535, 131071, 262143, 524287, 1048575, 2097151, 2097151, 2097151, 10485759, 31457279, 65011711, 2097151, 266338303, 536870911, 1073741823, 2147483647]
theorem spec_l3Search.tab6 : rtab .any (opsOf Try.f103 6) = spec_l3Search.T6 := by kernel_rfl
theorem spec_l3Search.bits6 : waitsOk spec_l3Search.T6.2 spec_l3Search.B6 = true := by kernel_rfl
theorem spec_l3Search.j24 (k : Nat) (a : Int) (l : List Int) (x7 x8 x9 : Int) (b c : Bool) (n : Int) (g : Bool) : spec_l3Search.j4 k a l x7 x8 x9 b c n g = spec_l3Search.j2 k a l x7 x8 x9 b c n g := by
 cases k <;> simp only [spec_l3Search.j4, spec_l3Search.j2]
theorem spec_l3Search.j13 (k : Nat) (a : Int) (l : List Int) (x7 x8 x9 : Int) (b c : Bool) (n : Int) (g : Bool) : spec_l3Search.j3 k a l x7 x8 x9 b c n g = spec_l3Search.j1 k a l x7 x8 x9 b c n g := by
 cases k <;> simp only [spec_l3Search.j3, spec_l3Search.j1, spec_l3Search.j24]
theorem spec_l3Search.out {k : Nat} {a : Int} {l : List Int} {x7 x8 x9 : Int} {b n : Int} {R c g r : Bool} (h0 : 0 ≤ x9) (h1 : x9 < (l.length : Int)) (H : spec_l3Search.j1 k a l x7 x8 x9 R c n g = some r) :
  c = true ∧ r = false ∨ c = false ∧ (R = true ∧ (rd l x9 ≤ x8 ∧ r = false ∨ ¬ rd l x9 ≤ x8 ∧ ∃ k3, k3 ≤ k ∧ spec_l3Search.l0 k3 a l x7 (rd l x9) (wrap64 (x9 + 1)) n g = some r) ∨ R = false ∧ (x7 ≤ rd l x9 ∧ r = false ∨ ¬ x7 ≤ rd l x9 ∧ ∃ k3, k3 ≤ k ∧ spec_l3Search.l0 k3 a l (rd l x9) x8 (wrap64 (x9 + 1)) n g = some r)) := by
 cases k with
 | zero => exact absurd H (by simp [spec_l3Search.j1])
 | succ k =>
 simp only [spec_l3Search.j1, h0, h1, if_true] at H
 cases c with
 | true => exact .inl ⟨rfl, by simpa using H.symm⟩
 | false =>
  refine .inr ⟨rfl, ?_⟩
  rw [if_neg (by decide)] at H
  cases R with
  | true =>
   refine .inl ⟨rfl, ?_⟩
   rw [if_pos rfl] at H
   cases k with
   | zero => exact absurd H (by simp [spec_l3Search.j2])
   | succ k =>
   simp only [spec_l3Search.j2, h0, h1, if_true] at H
   by_cases q : rd l x9 ≤ x8
   ·rw [if_pos q] at H
    exact .inl ⟨q, by simpa using H.symm⟩
   rw [if_neg q, if_neg (by decide)] at H
   exact .inr ⟨q, k, by omega, H⟩
  | false =>
   refine .inr ⟨rfl, ?_⟩
   rw [if_neg (by decide)] at H
   cases k with
   | zero => exact absurd H (by simp [spec_l3Search.j2])
   | succ k =>
   simp only [spec_l3Search.j2, h0, h1, if_true] at H
   by_cases q : x7 ≤ rd l x9
   ·rw [if_pos (decide_eq_true q)] at H
    exact .inl ⟨q, by simpa using H.symm⟩
   rw [if_neg (by simpa using q), if_neg (by decide)] at H
   exact .inr ⟨q, k, by omega, H⟩
theorem spec_l3Search.step {k : Nat} {a : Int} {l : List Int} {x7 x8 : Int} {i : Nat} {n : Int} {g r : Bool} (hi : i < l.length) (hl : (l.length : Int) ≤ 9223372036854775807) (H : spec_l3Search.l0 (k + 1) a l x7 x8 i n g = some r) :
  ∃ q c, spec_l1In.f (rd l i) 0 (wrap64 (n - 1)) = some q ∧ spec_l3Search.j1 k a l x7 x8 i (decide (a < rd l i)) c n g = some r ∧
   (q = false ∧ c = true ∨ q = true ∧ rd l i = a ∧ c = true ∨ q = true ∧ rd l i ≠ a ∧ i = 0 ∧ c = false ∨ q = true ∧ rd l i ≠ a ∧ ∃ m, i = m + 1 ∧ c = (decide (a < rd l i) == decide (a < rd l m))) := by
 have h0 : (0 : Int) ≤ (i : Int) := by omega
 have h1 : (i : Int) < (l.length : Int) := by omega
 simp only [spec_l3Search.l0, h0, h1, if_true, spec_l3Search.j13, gt_iff_lt] at H
 by_cases hr : a < rd l i
 ·rw [if_pos hr] at H
  obtain ⟨q, hq, H⟩ := Option.bind_eq_some_iff.mp H
  rw [decide_eq_true hr]
  cases q with
  | false => exact ⟨false, true, hq, by simpa using H, .inl ⟨rfl, rfl⟩⟩
  | true =>
   rw [if_pos rfl] at H
   by_cases he : rd l i = a
   ·rw [if_pos he] at H
    exact ⟨true, true, hq, H, .inr (.inl ⟨rfl, he, rfl⟩)⟩
   rw [if_neg he] at H
   rcases Nat.eq_zero_or_pos i with hz | hz
   ·rw [if_neg (by omega)] at H
    exact ⟨true, false, hq, H, .inr (.inr (.inl ⟨rfl, he, hz, rfl⟩))⟩
   obtain ⟨m, rfl⟩ : ∃ m, i = m + 1 := ⟨i - 1, by omega⟩
   rw [if_pos (by omega), show wrap64 (((m + 1 : Nat) : Int) - 1) = (m : Int) by unfold wrap64; omega, if_pos (by omega), if_pos (by omega)] at H
   exact ⟨true, _, hq, H, .inr (.inr (.inr ⟨rfl, he, m, rfl, rfl⟩))⟩
 rw [if_neg hr] at H
 obtain ⟨q, hq, H⟩ := Option.bind_eq_some_iff.mp H
 rw [decide_eq_false hr]
 cases q with
 | false => exact ⟨false, true, hq, by simpa using H, .inl ⟨rfl, rfl⟩⟩
 | true =>
  rw [if_pos rfl] at H
  by_cases he : rd l i = a
  ·rw [if_pos he] at H
   exact ⟨true, true, hq, H, .inr (.inl ⟨rfl, he, rfl⟩)⟩
  rw [if_neg he] at H
  rcases Nat.eq_zero_or_pos i with hz | hz
  ·rw [if_neg (by omega)] at H
   exact ⟨true, false, hq, H, .inr (.inr (.inl ⟨rfl, he, hz, rfl⟩))⟩
  obtain ⟨m, rfl⟩ : ∃ m, i = m + 1 := ⟨i - 1, by omega⟩
  rw [if_pos (by omega), show wrap64 (((m + 1 : Nat) : Int) - 1) = (m : Int) by unfold wrap64; omega, if_pos (by omega), if_pos (by omega)] at H
  exact ⟨true, _, hq, H, .inr (.inr (.inr ⟨rfl, he, m, rfl, rfl⟩))⟩
set_option maxHeartbeats 8000000 in
set_option maxRecDepth 100000 in
theorem spec_l3Search.calls (k : Nat) (a0_0 : Int) (a0_1 : Bool) (a1 : Int) (A2 : Option Addr) (c2 : Nat) (l2 : List Int) (r : Bool) (w : World) (hr2 : Kd.C (Kd.int .i64) w A2 l2.length l2) (hc2 : l2.length ≤ c2) (h : spec_l3Search.f k a0_0 a0_1 a1 l2 = some r) :
  Calls Try.prog 103 #[.agg #[.int .i64 a0_0, .bool a0_1], .int .i64 a1, .slice A2 l2.length c2] w fun e w' => e = .returned (.bool r) ∧ Below w.heap.size w w' := by
 have hu27 := Try.underlying25
 have HR2 := Aside0.mk hr2
 have HLL := Aside0.mk hr2.2.1
 have HB := Aside0.mk (Below.refl w.heap.size w)
 have H' := Aside0.mk (show spec_l3Search.l0 k a1 l2 a1 a1 ((0 : Nat) : Int) a0_0 a0_1 = some r from h)
 clear hr2 hc2 h
 go_enter Try.func103, Try.ntmps103
 go_wp2_with (((refine gate_dst (N := 3) rfl ?_); refine box_event ?hg (N := 3) ?hd (cs := #[.int .i64 a0_0, .bool a0_1]) (t := 25) ?hr ?_; (case hd => rfl); (case hg => rfl); (case hr => (go_simp; done)); intro gb hg w7 hbox hb; have BK := Aside0.mk hbox; have n0_ := Aside0.mk (below_step HB.out hb); clear HB hb hbox hg; have HB := n0_; clear n0_))
 go_loopg [7, 8, 9] k (fun kq v7 v8 v9 w' => ∃ (x7 x8 : Int) (i : Nat), v7 = .int .i64 x7 ∧ v8 = .int .i64 x8 ∧ v9 = .int .i64 (i : Int) ∧ Aside0 (spec_l3Search.l0 kq a1 l2 x7 x8 (i : Int) a0_0 a0_1 = some r) ∧ Aside0 (kq ≤ k) ∧ Aside0 (w'.heap[gb]? = some (.cells #[.int .i64 a0_0, .bool a0_1] 25 (0, 0))) ∧ Aside0 (Below w.heap.size w w'))
 case atStart => exact ⟨a1, a1, 0, rfl, rfl, rfl, H', ⟨Nat.le_refl _⟩, BK, HB⟩
 case round =>
  clear H' BK HB
  obtain ⟨x7, x8, i, rfl, rfl, rfl, HA, HK1, BK, HB⟩ := hrel
  cases gk with
  | zero => exact absurd HA.out (by simp [spec_l3Search.l0])
  | succ k1 =>
   have H := HA.out
   clear HA
   by_cases ci : i < l2.length
   rotate_left
   ·have c1b : decide ((i : Int) < (l2.length : Int)) = false := decide_eq_false (by omega)
    have c1n : decide (i < l2.length) = false := decide_eq_false ci
    simp only [spec_l3Search.l0] at H
    rw [if_neg (by omega)] at H
    have hcz0 : wr.cell? ⟨gb, 0, none⟩ = some (.int .i64 a0_0) := (blk_cell BK.out 0).trans rfl
    have hcz1 : wr.cell? ⟨gb, 1, none⟩ = some (.bool a0_1) := (blk_cell BK.out 1).trans rfl
    by_cases hz : x7 = 0
    ·rw [if_pos hz] at H
     obtain rfl := Option.some.inj H
     have hzb : (x7 == 0) = true := beq_iff_eq.mpr hz
     clear hz H ci
     go_wp2
     go_ret
     exact ⟨by (rfl), HB.out⟩
    rw [if_neg hz] at H
    obtain rfl := Option.some.inj H
    have hzb : (x7 == 0) = false := beq_eq_false_iff_ne.mpr hz
    clear hz H ci
    go_wp2
    go_ret
    exact ⟨rfl, HB.out⟩
   have c1b : decide ((i : Int) < (l2.length : Int)) = true := decide_eq_true (by omega)
   have c1n : decide (i < l2.length) = true := decide_eq_true ci
   obtain ⟨q, c, hq, hj, hc⟩ := spec_l3Search.step ci (by have := HLL.out; omega) H
   have ho := spec_l3Search.out (b := 0) (by omega) (by omega) hj
   have HQ := Aside0.mk hq
   obtain ⟨ad, e, hx⟩ := Kd.at_int HR2.out (i : Int) (by omega) (by omega)
   have hyy : ∀ m : Nat, i = m + 1 → w.cell? (ad.add m) = some (.int .i64 (rd l2 m)) := fun m hm => by
    obtain ⟨ad2, e2, hx2⟩ := Kd.at_int HR2.out (m : Int) (by omega) (by omega)
    rw [e] at e2
    injection e2 with e2
    subst e2
    rwa [Int.toNat_natCast] at hx2
   subst e
   rw [Int.toNat_natCast] at hx
   replace hx := (HB.out.cell (World.block_lt_of_cell? w _ hx)).trans hx
   have hw1 : IntKind.i64.wrap ((i : Int) + 1) = ((i + 1 : Nat) : Int) := (i64_w _).trans (by have := HLL.out; unfold wrap64; omega)
   have hwn := i64_w (a0_0 - 1)
   rw [show wrap64 ((i : Int) + 1) = ((i + 1 : Nat) : Int) from (i64_w _).symm.trans hw1] at ho
   have i0 : (0 : Int) ≤ (i : Int) := by omega
   have i1 : (i : Int) < (l2.length : Int) := by omega
   have hR : decide (a1 < rd l2 i) = true ∨ decide (a1 < rd l2 i) = false := by cases decide (a1 < rd l2 i) <;> simp
   generalize hxx : rd l2 (i : Int) = x at hx hR hc ho HQ
   have hc' : (q = false ∧ c = true) ∨ (q = true ∧ (x == a1) = true ∧ c = true) ∨ (q = true ∧ (x == a1) = false ∧ (decide (0 < (i : Int)) = false ∧ decide (0 < i) = false) ∧ c = false) ∨ (q = true ∧ (x == a1) = false ∧ ∃ m : Nat, (decide (0 < (i : Int)) = true ∧ decide (0 < i) = true) ∧ IntKind.i64.wrap ((i : Int) - 1) = (m : Int) ∧ ((m : Int) < (l2.length : Int) ∧ m < l2.length) ∧ ∃ y, wr.cell? (ad.add m) = some (.int .i64 y) ∧ (decide (a1 < y) = true ∨ decide (a1 < y) = false) ∧ c = (decide (a1 < x) == decide (a1 < y))) := by
    rcases hc with h1 | ⟨h1, h2, h3⟩ | ⟨h1, h2, h3, h4⟩ | ⟨h1, h2, m, hm, h4⟩
    ·exact .inl h1
    ·exact .inr (.inl ⟨h1, beq_iff_eq.mpr h2, h3⟩)
    ·exact .inr (.inr (.inl ⟨h1, beq_eq_false_iff_ne.mpr h2, ⟨decide_eq_false (by omega), decide_eq_false (by omega)⟩, h4⟩))
    ·refine .inr (.inr (.inr ⟨h1, beq_eq_false_iff_ne.mpr h2, m, ⟨decide_eq_true (by omega), decide_eq_true (by omega)⟩, (i64_w _).trans (by have := HLL.out; unfold wrap64; omega), ⟨by omega, by omega⟩, rd l2 m, ?_, ?_, h4⟩))
     ·have := hyy m hm
      exact (HB.out.cell (World.block_lt_of_cell? w _ this)).trans this
     ·cases decide (a1 < rd l2 m) <;> simp
   have HO := Aside0.mk ho
   clear ho hc hyy hq hj H ci hxx
   rcases hR with hR | hR
   all_goals
    rw [hR] at hc' HO
    rcases hc' with ⟨rfl, rfl⟩ | ⟨rfl, f1, rfl⟩ | ⟨rfl, f1, ⟨f2, f3⟩, rfl⟩ | ⟨rfl, f1, m, ⟨f2, f3⟩, hw2, ⟨j1, j2⟩, y, hy, f4 | f4, rfl⟩
    all_goals
     try rw [f4] at HO
     go_wp2
     have n0_ := Aside0.mk (blk_drew BK.out)
     have n1_ := Aside0.mk (below_drew1 HB.out)
     clear BK HB
     have BK := n0_
     have HB := n1_
     clear n0_ n1_
     first
     | refine start_ (n := 32) (S := fun w' => w'.cell? ⟨gb, 0, none⟩ = some (.int .i64 a0_0) ∧ w'.cell? ⟨gb, 1, none⟩ = some (.bool a0_1) ∧ w'.cell? (ad.add i) = some (.int .i64 x) ∧ w'.cell? (ad.add m) = some (.int .i64 y)) (ds := []) #[N_,N_,N_,N_,N_,N_,N_,N_,N_,N_,N_,N_,N_,N_,N_,N_,N_,N_,N_,N_,N_,N_,N_,N_,N_,N_,N_,N_,N_,N_,N_,N_] (by kernel_rfl) rfl rfl ⟨(blk_cell BK.out 0).trans rfl, (blk_cell BK.out 1).trans rfl, hx, hy⟩ (fun hHeld => ?_)
     | refine start_ (n := 32) (S := fun w' => w'.cell? ⟨gb, 0, none⟩ = some (.int .i64 a0_0) ∧ w'.cell? ⟨gb, 1, none⟩ = some (.bool a0_1) ∧ w'.cell? (ad.add i) = some (.int .i64 x)) (ds := []) #[N_,N_,N_,N_,N_,N_,N_,N_,N_,N_,N_,N_,N_,N_,N_,N_,N_,N_,N_,N_,N_,N_,N_,N_,N_,N_,N_,N_,N_,N_,N_,N_] (by kernel_rfl) rfl rfl ⟨(blk_cell BK.out 0).trans rfl, (blk_cell BK.out 1).trans rfl, hx⟩ (fun hHeld => ?_)
     refine with_tabW spec_l3Search.tab6 spec_l3Search.bits6 (fun HT_ HW_ => ?_)
     generalize wr.drew = w21 at BK HB hHeld ⊢
     refine pure_ (i := 0) (N := some 25) (v := ?_) (a' := ?_) #[Y_,N_,N_,N_,N_,N_,N_,N_,N_,N_,N_,N_,N_,N_,N_,N_,N_,N_,N_,N_,N_,N_,N_,N_,N_,N_,N_,N_,N_,N_,N_,N_] rfl rfl (any_of HT_.out (by kernel_rfl)) (fun _ _ _ h => h) (Or.inl ⟨by rfl, ?_⟩) ?_ ?_
     rotate_left
     ·intro w'
      go_simp
      rfl
     rotate_left
     ·simp only [Act.put, List.setIfInBounds_toArray, List.set_cons_zero, List.set_cons_succ, i64_w, i32_w]
      rfl
     refine pure_ (i := 1) (N := some 26) (v := ?_) (a' := ?_) #[Y_,Y_,N_,N_,N_,N_,N_,N_,N_,N_,N_,N_,N_,N_,N_,N_,N_,N_,N_,N_,N_,N_,N_,N_,N_,N_,N_,N_,N_,N_,N_,N_] rfl rfl (any_of HT_.out (by kernel_rfl)) (fun _ _ _ h => h) (Or.inl ⟨by rfl, ?_⟩) ?_ ?_
     rotate_left
     ·intro w'
      go_simp
      rfl
     rotate_left
     ·simp only [Act.put, List.setIfInBounds_toArray, List.set_cons_zero, List.set_cons_succ, i64_w, i32_w]
      rfl
     refine pure_ (i := 2) (N := some 27) (v := ?_) (a' := ?_) #[Y_,Y_,Y_,N_,N_,N_,N_,N_,N_,N_,N_,N_,N_,N_,N_,N_,N_,N_,N_,N_,N_,N_,N_,N_,N_,N_,N_,N_,N_,N_,N_,N_] rfl rfl (any_of HT_.out (by kernel_rfl)) (fun _ _ _ h => h) (Or.inl ⟨by rfl, ?_⟩) ?_ ?_
     rotate_left
     ·intro w'
      go_simp
      rfl
     rotate_left
     ·simp only [Act.put, List.setIfInBounds_toArray, List.set_cons_zero, List.set_cons_succ, i64_w, i32_w]
      rfl
     refine take_ (i := 3) (N := some 28) (v := ?_) (a' := ?_) #[Y_,Y_,Y_,Y_,N_,N_,N_,N_,N_,N_,N_,N_,N_,N_,N_,N_,N_,N_,N_,N_,N_,N_,N_,N_,N_,N_,N_,N_,N_,N_,N_,N_] rfl rfl (take_ofW HT_.out HW_.out (by kernel_rfl)) (fun _ _ _ h => h) (Or.inl ⟨by rfl, ?_⟩) hHeld ?_ ?_
     rotate_left
     ·intro w' hs_; have s0 := hs_.1; have s1 := hs_.2.1; (first | (have s2 := hs_.2.2.1; have s3 := hs_.2.2.2) | have s2 := hs_.2.2)
      go_simp
      rfl
     rotate_left
     ·simp only [Act.put, List.setIfInBounds_toArray, List.set_cons_zero, List.set_cons_succ, i64_w, i32_w]
      rfl
     refine pure_ (i := 4) (N := some 29) (v := ?_) (a' := ?_) #[Y_,Y_,Y_,Y_,Y_,N_,N_,N_,N_,N_,N_,N_,N_,N_,N_,N_,N_,N_,N_,N_,N_,N_,N_,N_,N_,N_,N_,N_,N_,N_,N_,N_] rfl rfl (any_of HT_.out (by kernel_rfl)) (fun _ _ _ h => h) (Or.inl ⟨by rfl, ?_⟩) ?_ ?_
     rotate_left
     ·intro w'
      go_simp
      rfl
     rotate_left
     ·simp only [Act.put, List.setIfInBounds_toArray, List.set_cons_zero, List.set_cons_succ, i64_w, i32_w]
      rfl
     refine take_ (i := 5) (N := some 30) (v := ?_) (a' := ?_) #[Y_,Y_,Y_,Y_,Y_,Y_,N_,N_,N_,N_,N_,N_,N_,N_,N_,N_,N_,N_,N_,N_,N_,N_,N_,N_,N_,N_,N_,N_,N_,N_,N_,N_] rfl rfl (take_ofW HT_.out HW_.out (by kernel_rfl)) (fun _ _ _ h => h) (Or.inl ⟨by rfl, ?_⟩) hHeld ?_ ?_
     rotate_left
     ·intro w' hs_; have s0 := hs_.1; have s1 := hs_.2.1; (first | (have s2 := hs_.2.2.1; have s3 := hs_.2.2.2) | have s2 := hs_.2.2)
      go_simp
      rfl
     rotate_left
     ·simp only [Act.put, List.setIfInBounds_toArray, List.set_cons_zero, List.set_cons_succ, i64_w, i32_w]
      rfl
     refine pure_ (i := 6) (N := some 31) (v := ?_) (a' := ?_) #[Y_,Y_,Y_,Y_,Y_,Y_,Y_,N_,N_,N_,N_,N_,N_,N_,N_,N_,N_,N_,N_,N_,N_,N_,N_,N_,N_,N_,N_,N_,N_,N_,N_,N_] rfl rfl (any_of HT_.out (by kernel_rfl)) (fun _ _ _ h => h) (Or.inl ⟨by rfl, ?_⟩) ?_ ?_
     rotate_left
     ·intro w'
      go_simp
      rfl
     rotate_left
     ·simp only [Act.put, List.setIfInBounds_toArray, List.set_cons_zero, List.set_cons_succ, i64_w, i32_w]
      rfl
     refine one_ (i := 7) (N := some 32) #[Y_,Y_,Y_,Y_,Y_,Y_,Y_,Y_,N_,N_,N_,N_,N_,N_,N_,N_,N_,N_,N_,N_,N_,N_,N_,N_,N_,N_,N_,N_,N_,N_,N_,N_] rfl rfl (one_of HT_.out (by kernel_rfl)) (by decide) (fun K hK => ?_)
     refine goes_ Try.func100 (by kernel_rfl) rfl #[.int .i64 x, .int .i64 0, .int .i64 (wrap64 (a0_0 - 1))] (by rfl) rfl rfl (by (try simp only [List.map_toArray, List.map_cons, List.map_nil]); (rfl)) ?_
     refine (spec_l1In.calls _ _ _ _ _ HQ.out).mono ?_
     rintro e w22 ⟨rfl, ⟨⟨nd, rfl⟩⟩⟩
     refine ⟨_, rfl, ?_⟩
     refine hK.out _ _ hHeld (fun hHeld => ?_)
     clear hK K
     refine norm_ (a' := ?_) ?_ ?_
     rotate_left
     ·show Act.put _ (some 32) _ = _
      simp only [Act.put, List.setIfInBounds_toArray, List.set_cons_zero, List.set_cons_succ, i64_w, i32_w]
      rfl
     refine pure_ (i := 8) (N := some 33) (v := ?_) (a' := ?_) #[Y_,Y_,Y_,Y_,Y_,Y_,Y_,Y_,Y_,N_,N_,N_,N_,N_,N_,N_,N_,N_,N_,N_,N_,N_,N_,N_,N_,N_,N_,N_,N_,N_,N_,N_] rfl rfl (any_of HT_.out (by kernel_rfl)) (fun _ _ _ h => h) (Or.inl ⟨by rfl, ?_⟩) ?_ ?_
     rotate_left
     ·intro w'
      go_simp
      rfl
     rotate_left
     ·simp only [Act.put, List.setIfInBounds_toArray, List.set_cons_zero, List.set_cons_succ, i64_w, i32_w]
      rfl
     refine pure_ (i := 9) (N := some 34) (v := ?_) (a' := ?_) #[Y_,Y_,Y_,Y_,Y_,Y_,Y_,Y_,Y_,Y_,N_,N_,N_,N_,N_,N_,N_,N_,N_,N_,N_,N_,N_,N_,N_,N_,N_,N_,N_,N_,N_,N_] rfl rfl (any_of HT_.out (by kernel_rfl)) (fun _ _ _ h => h) (Or.inl ⟨by rfl, ?_⟩) ?_ ?_
     rotate_left
     ·intro w'
      go_simp
      rfl
     rotate_left
     ·simp only [Act.put, List.setIfInBounds_toArray, List.set_cons_zero, List.set_cons_succ, i64_w, i32_w]
      rfl
     first
     | (refine pure_ (i := 10) (N := some 35) (v := undef) (a' := ?_) #[Y_,Y_,Y_,Y_,Y_,Y_,Y_,Y_,Y_,Y_,Y_,N_,N_,N_,N_,N_,N_,N_,N_,N_,N_,N_,N_,N_,N_,N_,N_,N_,N_,N_,N_,N_] rfl rfl (any_of HT_.out (by kernel_rfl)) (fun _ _ _ h => h) (Or.inr ⟨by rfl, rfl⟩) ?_ ?_
        rotate_left
        ·simp only [Act.put, List.setIfInBounds_toArray, List.set_cons_zero, List.set_cons_succ, i64_w, i32_w]
         rfl)
     | (refine pure_ (i := 10) (N := some 35) (v := ?_) (a' := ?_) #[Y_,Y_,Y_,Y_,Y_,Y_,Y_,Y_,Y_,Y_,Y_,N_,N_,N_,N_,N_,N_,N_,N_,N_,N_,N_,N_,N_,N_,N_,N_,N_,N_,N_,N_,N_] rfl rfl (any_of HT_.out (by kernel_rfl)) (fun _ _ _ h => h) (Or.inl ⟨by rfl, ?_⟩) ?_ ?_
        rotate_left
        ·intro w'
         go_simp
         rfl
        rotate_left
        ·simp only [Act.put, List.setIfInBounds_toArray, List.set_cons_zero, List.set_cons_succ, i64_w, i32_w]
         rfl)
     first
     | (refine pure_ (i := 11) (N := some 36) (v := undef) (a' := ?_) #[Y_,Y_,Y_,Y_,Y_,Y_,Y_,Y_,Y_,Y_,Y_,Y_,N_,N_,N_,N_,N_,N_,N_,N_,N_,N_,N_,N_,N_,N_,N_,N_,N_,N_,N_,N_] rfl rfl (any_of HT_.out (by kernel_rfl)) (fun _ _ _ h => h) (Or.inr ⟨by rfl, rfl⟩) ?_ ?_
        rotate_left
        ·simp only [Act.put, List.setIfInBounds_toArray, List.set_cons_zero, List.set_cons_succ, i64_w, i32_w]
         rfl)
     | (refine pure_ (i := 11) (N := some 36) (v := ?_) (a' := ?_) #[Y_,Y_,Y_,Y_,Y_,Y_,Y_,Y_,Y_,Y_,Y_,Y_,N_,N_,N_,N_,N_,N_,N_,N_,N_,N_,N_,N_,N_,N_,N_,N_,N_,N_,N_,N_] rfl rfl (any_of HT_.out (by kernel_rfl)) (fun _ _ _ h => h) (Or.inl ⟨by rfl, ?_⟩) ?_ ?_
        rotate_left
        ·intro w'
         go_simp
         rfl
        rotate_left
        ·simp only [Act.put, List.setIfInBounds_toArray, List.set_cons_zero, List.set_cons_succ, i64_w, i32_w]
         rfl)
     first
     | (refine pure_ (i := 12) (N := some 37) (v := undef) (a' := ?_) #[Y_,Y_,Y_,Y_,Y_,Y_,Y_,Y_,Y_,Y_,Y_,Y_,Y_,N_,N_,N_,N_,N_,N_,N_,N_,N_,N_,N_,N_,N_,N_,N_,N_,N_,N_,N_] rfl rfl (any_of HT_.out (by kernel_rfl)) (fun _ _ _ h => h) (Or.inr ⟨by rfl, rfl⟩) ?_ ?_
        rotate_left
        ·simp only [Act.put, List.setIfInBounds_toArray, List.set_cons_zero, List.set_cons_succ, i64_w, i32_w]
         rfl)
     | (refine pure_ (i := 12) (N := some 37) (v := ?_) (a' := ?_) #[Y_,Y_,Y_,Y_,Y_,Y_,Y_,Y_,Y_,Y_,Y_,Y_,Y_,N_,N_,N_,N_,N_,N_,N_,N_,N_,N_,N_,N_,N_,N_,N_,N_,N_,N_,N_] rfl rfl (any_of HT_.out (by kernel_rfl)) (fun _ _ _ h => h) (Or.inl ⟨by rfl, ?_⟩) ?_ ?_
        rotate_left
        ·intro w'
         go_simp
         rfl
        rotate_left
        ·simp only [Act.put, List.setIfInBounds_toArray, List.set_cons_zero, List.set_cons_succ, i64_w, i32_w]
         rfl)
     first
     | (refine pure_ (i := 13) (N := some 38) (v := undef) (a' := ?_) #[Y_,Y_,Y_,Y_,Y_,Y_,Y_,Y_,Y_,Y_,Y_,Y_,Y_,Y_,N_,N_,N_,N_,N_,N_,N_,N_,N_,N_,N_,N_,N_,N_,N_,N_,N_,N_] rfl rfl (any_of HT_.out (by kernel_rfl)) (fun _ _ _ h => h) (Or.inr ⟨by rfl, rfl⟩) ?_ ?_
        rotate_left
        ·simp only [Act.put, List.setIfInBounds_toArray, List.set_cons_zero, List.set_cons_succ, i64_w, i32_w]
         rfl)
     | (refine take_ (i := 13) (N := some 38) (v := ?_) (a' := ?_) #[Y_,Y_,Y_,Y_,Y_,Y_,Y_,Y_,Y_,Y_,Y_,Y_,Y_,Y_,N_,N_,N_,N_,N_,N_,N_,N_,N_,N_,N_,N_,N_,N_,N_,N_,N_,N_] rfl rfl (take_ofW HT_.out HW_.out (by kernel_rfl)) (fun _ _ _ h => h) (Or.inl ⟨by rfl, ?_⟩) hHeld ?_ ?_
        rotate_left
        ·intro w' hs_; have s0 := hs_.1; have s1 := hs_.2.1; (first | (have s2 := hs_.2.2.1; have s3 := hs_.2.2.2) | have s2 := hs_.2.2)
         go_simp
         rfl
        rotate_left
        ·simp only [Act.put, List.setIfInBounds_toArray, List.set_cons_zero, List.set_cons_succ, i64_w, i32_w]
         rfl)
     first
     | (refine pure_ (i := 14) (N := some 39) (v := undef) (a' := ?_) #[Y_,Y_,Y_,Y_,Y_,Y_,Y_,Y_,Y_,Y_,Y_,Y_,Y_,Y_,Y_,N_,N_,N_,N_,N_,N_,N_,N_,N_,N_,N_,N_,N_,N_,N_,N_,N_] rfl rfl (any_of HT_.out (by kernel_rfl)) (fun _ _ _ h => h) (Or.inr ⟨by rfl, rfl⟩) ?_ ?_
        rotate_left
        ·simp only [Act.put, List.setIfInBounds_toArray, List.set_cons_zero, List.set_cons_succ, i64_w, i32_w]
         rfl)
     | (refine pure_ (i := 14) (N := some 39) (v := ?_) (a' := ?_) #[Y_,Y_,Y_,Y_,Y_,Y_,Y_,Y_,Y_,Y_,Y_,Y_,Y_,Y_,Y_,N_,N_,N_,N_,N_,N_,N_,N_,N_,N_,N_,N_,N_,N_,N_,N_,N_] rfl rfl (any_of HT_.out (by kernel_rfl)) (fun _ _ _ h => h) (Or.inl ⟨by rfl, ?_⟩) ?_ ?_
        rotate_left
        ·intro w'
         go_simp
         rfl
        rotate_left
        ·simp only [Act.put, List.setIfInBounds_toArray, List.set_cons_zero, List.set_cons_succ, i64_w, i32_w]
         rfl)
     first
     | (refine pure_ (i := 15) (N := some 40) (v := undef) (a' := ?_) #[Y_,Y_,Y_,Y_,Y_,Y_,Y_,Y_,Y_,Y_,Y_,Y_,Y_,Y_,Y_,Y_,N_,N_,N_,N_,N_,N_,N_,N_,N_,N_,N_,N_,N_,N_,N_,N_] rfl rfl (any_of HT_.out (by kernel_rfl)) (fun _ _ _ h => h) (Or.inr ⟨by rfl, rfl⟩) ?_ ?_
        rotate_left
        ·simp only [Act.put, List.setIfInBounds_toArray, List.set_cons_zero, List.set_cons_succ, i64_w, i32_w]
         rfl)
     | (refine pure_ (i := 15) (N := some 40) (v := ?_) (a' := ?_) #[Y_,Y_,Y_,Y_,Y_,Y_,Y_,Y_,Y_,Y_,Y_,Y_,Y_,Y_,Y_,Y_,N_,N_,N_,N_,N_,N_,N_,N_,N_,N_,N_,N_,N_,N_,N_,N_] rfl rfl (any_of HT_.out (by kernel_rfl)) (fun _ _ _ h => h) (Or.inl ⟨by rfl, ?_⟩) ?_ ?_
        rotate_left
        ·intro w'
         go_simp
         rfl
        rotate_left
        ·simp only [Act.put, List.setIfInBounds_toArray, List.set_cons_zero, List.set_cons_succ, i64_w, i32_w]
         rfl)
     refine pure_ (i := 16) (N := some 41) (v := ?_) (a' := ?_) #[Y_,Y_,Y_,Y_,Y_,Y_,Y_,Y_,Y_,Y_,Y_,Y_,Y_,Y_,Y_,Y_,Y_,N_,N_,N_,N_,N_,N_,N_,N_,N_,N_,N_,N_,N_,N_,N_] rfl rfl (any_of HT_.out (by kernel_rfl)) (fun _ _ _ h => h) (Or.inl ⟨by rfl, ?_⟩) ?_ ?_
     rotate_left
     ·intro w'
      go_simp
      rfl
     rotate_left
     ·simp only [Act.put, List.setIfInBounds_toArray, List.set_cons_zero, List.set_cons_succ, i64_w, i32_w]
      rfl
     refine pure_ (i := 17) (N := some 42) (v := ?_) (a' := ?_) #[Y_,Y_,Y_,Y_,Y_,Y_,Y_,Y_,Y_,Y_,Y_,Y_,Y_,Y_,Y_,Y_,Y_,Y_,N_,N_,N_,N_,N_,N_,N_,N_,N_,N_,N_,N_,N_,N_] rfl rfl (any_of HT_.out (by kernel_rfl)) (fun _ _ _ h => h) (Or.inl ⟨by rfl, ?_⟩) ?_ ?_
     rotate_left
     ·intro w'
      go_simp
      rfl
     rotate_left
     ·simp only [Act.put, List.setIfInBounds_toArray, List.set_cons_zero, List.set_cons_succ, i64_w, i32_w]
      rfl
     first
     | (refine pure_ (i := 18) (N := some 43) (v := undef) (a' := ?_) #[Y_,Y_,Y_,Y_,Y_,Y_,Y_,Y_,Y_,Y_,Y_,Y_,Y_,Y_,Y_,Y_,Y_,Y_,Y_,N_,N_,N_,N_,N_,N_,N_,N_,N_,N_,N_,N_,N_] rfl rfl (any_of HT_.out (by kernel_rfl)) (fun _ _ _ h => h) (Or.inr ⟨by rfl, rfl⟩) ?_ ?_
        rotate_left
        ·simp only [Act.put, List.setIfInBounds_toArray, List.set_cons_zero, List.set_cons_succ, i64_w, i32_w]
         rfl)
     | (refine pure_ (i := 18) (N := some 43) (v := ?_) (a' := ?_) #[Y_,Y_,Y_,Y_,Y_,Y_,Y_,Y_,Y_,Y_,Y_,Y_,Y_,Y_,Y_,Y_,Y_,Y_,Y_,N_,N_,N_,N_,N_,N_,N_,N_,N_,N_,N_,N_,N_] rfl rfl (any_of HT_.out (by kernel_rfl)) (fun _ _ _ h => h) (Or.inl ⟨by rfl, ?_⟩) ?_ ?_
        rotate_left
        ·intro w'
         go_simp
         rfl
        rotate_left
        ·simp only [Act.put, List.setIfInBounds_toArray, List.set_cons_zero, List.set_cons_succ, i64_w, i32_w]
         rfl)
     first
     | (refine pure_ (i := 19) (N := some 44) (v := undef) (a' := ?_) #[Y_,Y_,Y_,Y_,Y_,Y_,Y_,Y_,Y_,Y_,Y_,Y_,Y_,Y_,Y_,Y_,Y_,Y_,Y_,Y_,N_,N_,N_,N_,N_,N_,N_,N_,N_,N_,N_,N_] rfl rfl (any_of HT_.out (by kernel_rfl)) (fun _ _ _ h => h) (Or.inr ⟨by rfl, rfl⟩) ?_ ?_
        rotate_left
        ·simp only [Act.put, List.setIfInBounds_toArray, List.set_cons_zero, List.set_cons_succ, i64_w, i32_w]
         rfl)
     | (refine pure_ (i := 19) (N := some 44) (v := ?_) (a' := ?_) #[Y_,Y_,Y_,Y_,Y_,Y_,Y_,Y_,Y_,Y_,Y_,Y_,Y_,Y_,Y_,Y_,Y_,Y_,Y_,Y_,N_,N_,N_,N_,N_,N_,N_,N_,N_,N_,N_,N_] rfl rfl (any_of HT_.out (by kernel_rfl)) (fun _ _ _ h => h) (Or.inl ⟨by rfl, ?_⟩) ?_ ?_
        rotate_left
        ·intro w'
         go_simp
         rfl
        rotate_left
        ·simp only [Act.put, List.setIfInBounds_toArray, List.set_cons_zero, List.set_cons_succ, i64_w, i32_w]
         rfl)
     first
     | (refine pure_ (i := 20) (N := some 45) (v := undef) (a' := ?_) #[Y_,Y_,Y_,Y_,Y_,Y_,Y_,Y_,Y_,Y_,Y_,Y_,Y_,Y_,Y_,Y_,Y_,Y_,Y_,Y_,Y_,N_,N_,N_,N_,N_,N_,N_,N_,N_,N_,N_] rfl rfl (any_of HT_.out (by kernel_rfl)) (fun _ _ _ h => h) (Or.inr ⟨by rfl, rfl⟩) ?_ ?_
        rotate_left
        ·simp only [Act.put, List.setIfInBounds_toArray, List.set_cons_zero, List.set_cons_succ, i64_w, i32_w]
         rfl)
     | (refine pure_ (i := 20) (N := some 45) (v := ?_) (a' := ?_) #[Y_,Y_,Y_,Y_,Y_,Y_,Y_,Y_,Y_,Y_,Y_,Y_,Y_,Y_,Y_,Y_,Y_,Y_,Y_,Y_,Y_,N_,N_,N_,N_,N_,N_,N_,N_,N_,N_,N_] rfl rfl (any_of HT_.out (by kernel_rfl)) (fun _ _ _ h => h) (Or.inl ⟨by rfl, ?_⟩) ?_ ?_
        rotate_left
        ·intro w'
         go_simp
         rfl
        rotate_left
        ·simp only [Act.put, List.setIfInBounds_toArray, List.set_cons_zero, List.set_cons_succ, i64_w, i32_w]
         rfl)
     first
     | (refine pure_ (i := 21) (N := some 46) (v := undef) (a' := ?_) #[Y_,Y_,Y_,Y_,Y_,Y_,Y_,Y_,Y_,Y_,Y_,Y_,Y_,Y_,Y_,Y_,Y_,Y_,Y_,Y_,Y_,Y_,N_,N_,N_,N_,N_,N_,N_,N_,N_,N_] rfl rfl (any_of HT_.out (by kernel_rfl)) (fun _ _ _ h => h) (Or.inr ⟨by rfl, rfl⟩) ?_ ?_
        rotate_left
        ·simp only [Act.put, List.setIfInBounds_toArray, List.set_cons_zero, List.set_cons_succ, i64_w, i32_w]
         rfl)
     | (refine pure_ (i := 21) (N := some 46) (v := ?_) (a' := ?_) #[Y_,Y_,Y_,Y_,Y_,Y_,Y_,Y_,Y_,Y_,Y_,Y_,Y_,Y_,Y_,Y_,Y_,Y_,Y_,Y_,Y_,Y_,N_,N_,N_,N_,N_,N_,N_,N_,N_,N_] rfl rfl (any_of HT_.out (by kernel_rfl)) (fun _ _ _ h => h) (Or.inl ⟨by rfl, ?_⟩) ?_ ?_
        rotate_left
        ·intro w'
         go_simp
         rfl
        rotate_left
        ·simp only [Act.put, List.setIfInBounds_toArray, List.set_cons_zero, List.set_cons_succ, i64_w, i32_w]
         rfl)
     first
     | (refine pure_ (i := 22) (N := some 47) (v := undef) (a' := ?_) #[Y_,Y_,Y_,Y_,Y_,Y_,Y_,Y_,Y_,Y_,Y_,Y_,Y_,Y_,Y_,Y_,Y_,Y_,Y_,Y_,Y_,Y_,Y_,N_,N_,N_,N_,N_,N_,N_,N_,N_] rfl rfl (any_of HT_.out (by kernel_rfl)) (fun _ _ _ h => h) (Or.inr ⟨by rfl, rfl⟩) ?_ ?_
        rotate_left
        ·simp only [Act.put, List.setIfInBounds_toArray, List.set_cons_zero, List.set_cons_succ, i64_w, i32_w]
         rfl)
     | (refine pure_ (i := 22) (N := some 47) (v := ?_) (a' := ?_) #[Y_,Y_,Y_,Y_,Y_,Y_,Y_,Y_,Y_,Y_,Y_,Y_,Y_,Y_,Y_,Y_,Y_,Y_,Y_,Y_,Y_,Y_,Y_,N_,N_,N_,N_,N_,N_,N_,N_,N_] rfl rfl (any_of HT_.out (by kernel_rfl)) (fun _ _ _ h => h) (Or.inl ⟨by rfl, ?_⟩) ?_ ?_
        rotate_left
        ·intro w'
         go_simp
         rfl
        rotate_left
        ·simp only [Act.put, List.setIfInBounds_toArray, List.set_cons_zero, List.set_cons_succ, i64_w, i32_w]
         rfl)
     first
     | (refine pure_ (i := 23) (N := some 48) (v := undef) (a' := ?_) #[Y_,Y_,Y_,Y_,Y_,Y_,Y_,Y_,Y_,Y_,Y_,Y_,Y_,Y_,Y_,Y_,Y_,Y_,Y_,Y_,Y_,Y_,Y_,Y_,N_,N_,N_,N_,N_,N_,N_,N_] rfl rfl (any_of HT_.out (by kernel_rfl)) (fun _ _ _ h => h) (Or.inr ⟨by rfl, rfl⟩) ?_ ?_
        rotate_left
        ·simp only [Act.put, List.setIfInBounds_toArray, List.set_cons_zero, List.set_cons_succ, i64_w, i32_w]
         rfl)
     | (refine pure_ (i := 23) (N := some 48) (v := ?_) (a' := ?_) #[Y_,Y_,Y_,Y_,Y_,Y_,Y_,Y_,Y_,Y_,Y_,Y_,Y_,Y_,Y_,Y_,Y_,Y_,Y_,Y_,Y_,Y_,Y_,Y_,N_,N_,N_,N_,N_,N_,N_,N_] rfl rfl (any_of HT_.out (by kernel_rfl)) (fun _ _ _ h => h) (Or.inl ⟨by rfl, ?_⟩) ?_ ?_
        rotate_left
        ·intro w'
         go_simp
         rfl
        rotate_left
        ·simp only [Act.put, List.setIfInBounds_toArray, List.set_cons_zero, List.set_cons_succ, i64_w, i32_w]
         rfl)
     first
     | (refine pure_ (i := 24) (N := some 49) (v := undef) (a' := ?_) #[Y_,Y_,Y_,Y_,Y_,Y_,Y_,Y_,Y_,Y_,Y_,Y_,Y_,Y_,Y_,Y_,Y_,Y_,Y_,Y_,Y_,Y_,Y_,Y_,Y_,N_,N_,N_,N_,N_,N_,N_] rfl rfl (any_of HT_.out (by kernel_rfl)) (fun _ _ _ h => h) (Or.inr ⟨by rfl, rfl⟩) ?_ ?_
        rotate_left
        ·simp only [Act.put, List.setIfInBounds_toArray, List.set_cons_zero, List.set_cons_succ, i64_w, i32_w]
         rfl)
     | (refine pure_ (i := 24) (N := some 49) (v := ?_) (a' := ?_) #[Y_,Y_,Y_,Y_,Y_,Y_,Y_,Y_,Y_,Y_,Y_,Y_,Y_,Y_,Y_,Y_,Y_,Y_,Y_,Y_,Y_,Y_,Y_,Y_,Y_,N_,N_,N_,N_,N_,N_,N_] rfl rfl (any_of HT_.out (by kernel_rfl)) (fun _ _ _ h => h) (Or.inl ⟨by rfl, ?_⟩) ?_ ?_
        rotate_left
        ·intro w'
         go_simp
         rfl
        rotate_left
        ·simp only [Act.put, List.setIfInBounds_toArray, List.set_cons_zero, List.set_cons_succ, i64_w, i32_w]
         rfl)
     first
     | (refine pure_ (i := 25) (N := some 50) (v := undef) (a' := ?_) #[Y_,Y_,Y_,Y_,Y_,Y_,Y_,Y_,Y_,Y_,Y_,Y_,Y_,Y_,Y_,Y_,Y_,Y_,Y_,Y_,Y_,Y_,Y_,Y_,Y_,Y_,N_,N_,N_,N_,N_,N_] rfl rfl (any_of HT_.out (by kernel_rfl)) (fun _ _ _ h => h) (Or.inr ⟨by rfl, rfl⟩) ?_ ?_
        rotate_left
        ·simp only [Act.put, List.setIfInBounds_toArray, List.set_cons_zero, List.set_cons_succ, i64_w, i32_w]
         rfl)
     | (refine pure_ (i := 25) (N := some 50) (v := ?_) (a' := ?_) #[Y_,Y_,Y_,Y_,Y_,Y_,Y_,Y_,Y_,Y_,Y_,Y_,Y_,Y_,Y_,Y_,Y_,Y_,Y_,Y_,Y_,Y_,Y_,Y_,Y_,Y_,N_,N_,N_,N_,N_,N_] rfl rfl (any_of HT_.out (by kernel_rfl)) (fun _ _ _ h => h) (Or.inl ⟨by rfl, ?_⟩) ?_ ?_
        rotate_left
        ·intro w'
         go_simp
         rfl
        rotate_left
        ·simp only [Act.put, List.setIfInBounds_toArray, List.set_cons_zero, List.set_cons_succ, i64_w, i32_w]
         rfl)
     first
     | (refine pure_ (i := 26) (N := some 51) (v := undef) (a' := ?_) #[Y_,Y_,Y_,Y_,Y_,Y_,Y_,Y_,Y_,Y_,Y_,Y_,Y_,Y_,Y_,Y_,Y_,Y_,Y_,Y_,Y_,Y_,Y_,Y_,Y_,Y_,Y_,N_,N_,N_,N_,N_] rfl rfl (any_of HT_.out (by kernel_rfl)) (fun _ _ _ h => h) (Or.inr ⟨by rfl, rfl⟩) ?_ ?_
        rotate_left
        ·simp only [Act.put, List.setIfInBounds_toArray, List.set_cons_zero, List.set_cons_succ, i64_w, i32_w]
         rfl)
     | (refine take_ (i := 26) (N := some 51) (v := ?_) (a' := ?_) #[Y_,Y_,Y_,Y_,Y_,Y_,Y_,Y_,Y_,Y_,Y_,Y_,Y_,Y_,Y_,Y_,Y_,Y_,Y_,Y_,Y_,Y_,Y_,Y_,Y_,Y_,Y_,N_,N_,N_,N_,N_] rfl rfl (take_ofW HT_.out HW_.out (by kernel_rfl)) (fun _ _ _ h => h) (Or.inl ⟨by rfl, ?_⟩) hHeld ?_ ?_
        rotate_left
        ·intro w' hs_; have s0 := hs_.1; have s1 := hs_.2.1; ((have s2 := hs_.2.2.1; have s3 := hs_.2.2.2))
         go_simp
         rfl
        rotate_left
        ·simp only [Act.put, List.setIfInBounds_toArray, List.set_cons_zero, List.set_cons_succ, i64_w, i32_w]
         rfl)
     first
     | (refine pure_ (i := 27) (N := some 52) (v := undef) (a' := ?_) #[Y_,Y_,Y_,Y_,Y_,Y_,Y_,Y_,Y_,Y_,Y_,Y_,Y_,Y_,Y_,Y_,Y_,Y_,Y_,Y_,Y_,Y_,Y_,Y_,Y_,Y_,Y_,Y_,N_,N_,N_,N_] rfl rfl (any_of HT_.out (by kernel_rfl)) (fun _ _ _ h => h) (Or.inr ⟨by rfl, rfl⟩) ?_ ?_
        rotate_left
        ·simp only [Act.put, List.setIfInBounds_toArray, List.set_cons_zero, List.set_cons_succ, i64_w, i32_w]
         rfl)
     | (refine pure_ (i := 27) (N := some 52) (v := ?_) (a' := ?_) #[Y_,Y_,Y_,Y_,Y_,Y_,Y_,Y_,Y_,Y_,Y_,Y_,Y_,Y_,Y_,Y_,Y_,Y_,Y_,Y_,Y_,Y_,Y_,Y_,Y_,Y_,Y_,Y_,N_,N_,N_,N_] rfl rfl (any_of HT_.out (by kernel_rfl)) (fun _ _ _ h => h) (Or.inl ⟨by rfl, ?_⟩) ?_ ?_
        rotate_left
        ·intro w'
         go_simp
         rfl
        rotate_left
        ·simp only [Act.put, List.setIfInBounds_toArray, List.set_cons_zero, List.set_cons_succ, i64_w, i32_w]
         rfl)
     first
     | (refine pure_ (i := 28) (N := some 53) (v := undef) (a' := ?_) #[Y_,Y_,Y_,Y_,Y_,Y_,Y_,Y_,Y_,Y_,Y_,Y_,Y_,Y_,Y_,Y_,Y_,Y_,Y_,Y_,Y_,Y_,Y_,Y_,Y_,Y_,Y_,Y_,Y_,N_,N_,N_] rfl rfl (any_of HT_.out (by kernel_rfl)) (fun _ _ _ h => h) (Or.inr ⟨by rfl, rfl⟩) ?_ ?_
        rotate_left
        ·simp only [Act.put, List.setIfInBounds_toArray, List.set_cons_zero, List.set_cons_succ, i64_w, i32_w]
         rfl)
     | (refine pure_ (i := 28) (N := some 53) (v := ?_) (a' := ?_) #[Y_,Y_,Y_,Y_,Y_,Y_,Y_,Y_,Y_,Y_,Y_,Y_,Y_,Y_,Y_,Y_,Y_,Y_,Y_,Y_,Y_,Y_,Y_,Y_,Y_,Y_,Y_,Y_,Y_,N_,N_,N_] rfl rfl (any_of HT_.out (by kernel_rfl)) (fun _ _ _ h => h) (Or.inl ⟨by rfl, ?_⟩) ?_ ?_
        rotate_left
        ·intro w'
         go_simp
         rfl
        rotate_left
        ·simp only [Act.put, List.setIfInBounds_toArray, List.set_cons_zero, List.set_cons_succ, i64_w, i32_w]
         rfl)
     first
     | (refine pure_ (i := 29) (N := some 54) (v := undef) (a' := ?_) #[Y_,Y_,Y_,Y_,Y_,Y_,Y_,Y_,Y_,Y_,Y_,Y_,Y_,Y_,Y_,Y_,Y_,Y_,Y_,Y_,Y_,Y_,Y_,Y_,Y_,Y_,Y_,Y_,Y_,Y_,N_,N_] rfl rfl (any_of HT_.out (by kernel_rfl)) (fun _ _ _ h => h) (Or.inr ⟨by rfl, rfl⟩) ?_ ?_
        rotate_left
        ·simp only [Act.put, List.setIfInBounds_toArray, List.set_cons_zero, List.set_cons_succ, i64_w, i32_w]
         rfl)
     | (refine pure_ (i := 29) (N := some 54) (v := ?_) (a' := ?_) #[Y_,Y_,Y_,Y_,Y_,Y_,Y_,Y_,Y_,Y_,Y_,Y_,Y_,Y_,Y_,Y_,Y_,Y_,Y_,Y_,Y_,Y_,Y_,Y_,Y_,Y_,Y_,Y_,Y_,Y_,N_,N_] rfl rfl (any_of HT_.out (by kernel_rfl)) (fun _ _ _ h => h) (Or.inl ⟨by rfl, ?_⟩) ?_ ?_
        rotate_left
        ·intro w'
         go_simp
         rfl
        rotate_left
        ·simp only [Act.put, List.setIfInBounds_toArray, List.set_cons_zero, List.set_cons_succ, i64_w, i32_w]
         rfl)
     first
     | (refine pure_ (i := 30) (N := some 55) (v := undef) (a' := ?_) #[Y_,Y_,Y_,Y_,Y_,Y_,Y_,Y_,Y_,Y_,Y_,Y_,Y_,Y_,Y_,Y_,Y_,Y_,Y_,Y_,Y_,Y_,Y_,Y_,Y_,Y_,Y_,Y_,Y_,Y_,Y_,N_] rfl rfl (any_of HT_.out (by kernel_rfl)) (fun _ _ _ h => h) (Or.inr ⟨by rfl, rfl⟩) ?_ ?_
        rotate_left
        ·simp only [Act.put, List.setIfInBounds_toArray, List.set_cons_zero, List.set_cons_succ, i64_w, i32_w]
         rfl)
     | (refine pure_ (i := 30) (N := some 55) (v := ?_) (a' := ?_) #[Y_,Y_,Y_,Y_,Y_,Y_,Y_,Y_,Y_,Y_,Y_,Y_,Y_,Y_,Y_,Y_,Y_,Y_,Y_,Y_,Y_,Y_,Y_,Y_,Y_,Y_,Y_,Y_,Y_,Y_,Y_,N_] rfl rfl (any_of HT_.out (by kernel_rfl)) (fun _ _ _ h => h) (Or.inl ⟨by rfl, ?_⟩) ?_ ?_
        rotate_left
        ·intro w'
         go_simp
         rfl
        rotate_left
        ·simp only [Act.put, List.setIfInBounds_toArray, List.set_cons_zero, List.set_cons_succ, i64_w, i32_w]
         rfl)
     refine pure_ (i := 31) (N := some 56) (v := ?_) (a' := ?_) #[Y_,Y_,Y_,Y_,Y_,Y_,Y_,Y_,Y_,Y_,Y_,Y_,Y_,Y_,Y_,Y_,Y_,Y_,Y_,Y_,Y_,Y_,Y_,Y_,Y_,Y_,Y_,Y_,Y_,Y_,Y_,Y_] rfl rfl (any_of HT_.out (by kernel_rfl)) (fun _ _ _ h => h) (Or.inl ⟨by rfl, ?_⟩) ?_ ?_
     rotate_left
     ·intro w'
      go_simp
      rfl
     rotate_left
     ·simp only [Act.put, List.setIfInBounds_toArray, List.set_cons_zero, List.set_cons_succ, i64_w, i32_w]
      rfl
     refine done_ (done_of HT_.out (by kernel_rfl)) ?_
     have hx2 : (w21.drewN nd).cell? (ad.add i) = some (.int .i64 x) := by first | exact hHeld.2.2.1 | exact hHeld.2.2
     have n0_ := Aside0.mk (blk_drewN BK.out nd)
     have n1_ := Aside0.mk (pw_below_drewN HB.out nd)
     have ho := HO.out
     clear BK HB HO hHeld hx HQ
     have BK := n0_
     have HB := n1_
     clear n0_ n1_
     (try clear f1)
     try clear f2 f3
     try clear hy f4 j1 j2 hw2
     rcases ho with ⟨hc, hr⟩ | ⟨hc, ⟨hR2, ⟨hq, hr⟩ | ⟨hq, k3, hk, hH⟩⟩ | ⟨hR2, ⟨hq, hr⟩ | ⟨hq, k3, hk, hH⟩⟩⟩
     all_goals try (cases hc; done)
     all_goals try (cases hR2; done)
     all_goals
      first
      | (subst hr
         try have g1 := decide_eq_true hq
         (try clear hq)
         go_wp2
         go_ret
         exact ⟨rfl, HB.out⟩)
      | (try have g1 : decide (x ≤ x8) = false := decide_eq_false (by omega)
         try have g2 : decide (x7 ≤ x) = false := decide_eq_false (by omega)
         have HH := Aside0.mk hH
         have HKK := Aside0.mk hk
         clear hq hH hk
         go_wp2
         go_roundg k3
         case measure => have := HKK.out; omega
         case rel => exact ⟨_, _, i + 1, rfl, rfl, by (rfl), HH, ⟨by have := HK1.out; have := HKK.out; omega⟩, BK, HB⟩)

/-! ### spec_l3Good: function 78 -/
def spec_l3Good.f (k : Nat) (a0_0 : Int) (a0_1 : Bool) (a1 : Int) (l2 : List Int) : Option (Bool) := (spec_l3Line.f a0_0 a0_1 a1).bind fun t327 => (if t327 = true then ((spec_l3Search.f k a0_0 a0_1 a1 l2).bind fun t328 => (some t328)) else (some false))
set_option maxHeartbeats 8000000 in
set_option maxRecDepth 100000 in
theorem spec_l3Good.calls (k : Nat) (a0_0 : Int) (a0_1 : Bool) (a1 : Int) (A2 : Option Addr) (c2 : Nat) (l2 : List Int) (r : Bool) (w : World) (hr2 : Kd.C (Kd.int .i64) w A2 l2.length l2) (hc2 : l2.length ≤ c2) (h : spec_l3Good.f k a0_0 a0_1 a1 l2 = some r) :
  Calls Try.prog 78 #[.agg #[.int .i64 a0_0, .bool a0_1], .int .i64 a1, .slice A2 l2.length c2] w fun e w' => e = .returned (.bool r) ∧ Below w.heap.size w w' := by
 have hu25 := Try.underlying25
 have HR2 := Aside0.mk hr2
 have HC2 := Aside0.mk hc2
 clear hr2 hc2
 have HB := Aside0.mk (Below.refl w.heap.size w)
 have H : ((spec_l3Line.f a0_0 a0_1 a1).bind fun t327 => (if t327 = true then ((spec_l3Search.f k a0_0 a0_1 a1 l2).bind fun t328 => (some t328)) else (some false))) = some r := h
 clear h
 replace H := Option.bind_eq_some_iff.mp H
 obtain ⟨t327, A40, H⟩ := H
 try dsimp only at H
 have A4 := Aside0.mk A40
 clear A40
 by_cases c5 : t327 = true
 rotate_left
 ·replace c5 := Bool.eq_false_iff.mpr c5
  subst c5
  rw [if_neg (show ¬ (false = true) by decide)] at H
  obtain rfl := Option.some.inj H
  go_enter Try.func78, Try.ntmps78
  go_wp2_with (first | ((with_reducible refine gate_dst (N := 3) rfl ?_); refine box_event ?hg (N := 3) ?hd (cs := #[.int .i64 a0_0, .bool a0_1]) (t := 25) ?hr ?_; (case hd => rfl); (case hg => rfl); (case hr => (go_simp; done)); intro gb326 hg w12 hbox hb; have n0_ := Aside0.mk (below_step (by repeat ((with_reducible (exact HB.out)))) hb); have n1_ := Aside0.mk (hbox); have n2_ := Aside0.mk ((by rw [hg]; exact (below_size (by repeat ((with_reducible (exact HB.out))))) : w.heap.size ≤ gb326)); have n3_ := Aside0.mk ((by rw [hg]; exact (below_size (by repeat ((with_reducible (exact HB.out))))) : w.heap.size ≤ gb326)); clear HB; have HB := n0_; have BK326 := n1_; have GW326 := n2_; have GE326 := n3_; clear n0_ n1_ n2_ n3_; clear hb hbox hg; have hcz13_0 : w12.cell? ⟨gb326, 0, none⟩ = some (.int .i64 a0_0) := (blk_cell BK326.out 0).trans rfl; have hcz13_1 : w12.cell? ⟨gb326, 1, none⟩ = some (.bool a0_1) := (blk_cell BK326.out 1).trans rfl; have hfz13_0 := blk_frozen BK326.out 0; have hfz13_1 := blk_frozen BK326.out 1) | ((with_reducible refine gate_callee (f := 84) rfl ?_); refine goesL_ (some 9) rfl rfl Try.func84 (by kernel_rfl) rfl #[.agg #[.int .i64 a0_0, .bool a0_1], .int .i64 a1] rfl (by (try simp only [List.map_toArray, List.map_cons, List.map_nil]); (rfl)) ?_; (with_reducible refine (spec_l3Line.calls a0_0 a0_1 a1 false _ A4.out).mono ?_); rintro e w14 ⟨rfl, hb⟩; refine ⟨_, rfl, ?_⟩; have n0_ := Aside0.mk (blk_below (g := gb326) (o := .cells #[.int .i64 a0_0, .bool a0_1] 25 (0, 0)) (by (with_reducible repeat (fail)); exact BK326.out) hb); have n1_ := Aside0.mk (below_step (by repeat ((with_reducible (exact HB.out)))) hb); clear BK326; clear HB; have BK326 := n0_; have HB := n1_; clear n0_ n1_; (try clear hb); (try clear hb2); (try clear hk); (try clear hi)))
  go_ret
  exact ⟨by (rfl), by repeat ((with_reducible (exact HB.out)))⟩
 subst c5
 rw [if_pos rfl] at H
 replace H := Option.bind_eq_some_iff.mp H
 obtain ⟨t328, A60, H⟩ := H
 try dsimp only at H
 have A6 := Aside0.mk A60
 clear A60
 obtain rfl := Option.some.inj H
 go_enter Try.func78, Try.ntmps78
 go_wp2_with (first | ((with_reducible refine gate_dst (N := 3) rfl ?_); refine box_event ?hg (N := 3) ?hd (cs := #[.int .i64 a0_0, .bool a0_1]) (t := 25) ?hr ?_; (case hd => rfl); (case hg => rfl); (case hr => (go_simp; done)); intro gb326 hg w7 hbox hb; have n0_ := Aside0.mk (below_step (by repeat ((with_reducible (exact HB.out)))) hb); have n1_ := Aside0.mk (hbox); have n2_ := Aside0.mk ((by rw [hg]; exact (below_size (by repeat ((with_reducible (exact HB.out))))) : w.heap.size ≤ gb326)); have n3_ := Aside0.mk ((by rw [hg]; exact (below_size (by repeat ((with_reducible (exact HB.out))))) : w.heap.size ≤ gb326)); clear HB; have HB := n0_; have BK326 := n1_; have GW326 := n2_; have GE326 := n3_; clear n0_ n1_ n2_ n3_; clear hb hbox hg; have hcz8_0 : w7.cell? ⟨gb326, 0, none⟩ = some (.int .i64 a0_0) := (blk_cell BK326.out 0).trans rfl; have hcz8_1 : w7.cell? ⟨gb326, 1, none⟩ = some (.bool a0_1) := (blk_cell BK326.out 1).trans rfl; have hfz8_0 := blk_frozen BK326.out 0; have hfz8_1 := blk_frozen BK326.out 1) | ((with_reducible refine gate_callee (f := 84) rfl ?_); refine goesL_ (some 9) rfl rfl Try.func84 (by kernel_rfl) rfl #[.agg #[.int .i64 a0_0, .bool a0_1], .int .i64 a1] rfl (by (try simp only [List.map_toArray, List.map_cons, List.map_nil]); (rfl)) ?_; (with_reducible refine (spec_l3Line.calls a0_0 a0_1 a1 true _ A4.out).mono ?_); rintro e w9 ⟨rfl, hb⟩; refine ⟨_, rfl, ?_⟩; have n0_ := Aside0.mk (blk_below (g := gb326) (o := .cells #[.int .i64 a0_0, .bool a0_1] 25 (0, 0)) (by (with_reducible repeat (fail)); exact BK326.out) hb); have n1_ := Aside0.mk (below_step (by repeat ((with_reducible (exact HB.out)))) hb); clear BK326; clear HB; have BK326 := n0_; have HB := n1_; clear n0_ n1_; (try clear hb); (try clear hb2); (try clear hk); (try clear hi); have hcz10_0 : w9.cell? ⟨gb326, 0, none⟩ = some (.int .i64 a0_0) := (blk_cell BK326.out 0).trans rfl; have hcz10_1 : w9.cell? ⟨gb326, 1, none⟩ = some (.bool a0_1) := (blk_cell BK326.out 1).trans rfl; have hfz10_0 := blk_frozen BK326.out 0; have hfz10_1 := blk_frozen BK326.out 1) | (go_at_call 103; (with_reducible refine (spec_l3Search.calls k a0_0 a0_1 a1 _ _ l2 t328 _ ?side1 ?side2 A6.out).mono ?_); (case side1 => repeat (exact (Kd.C_below HR2.out HB.out))); (case side2 => exact HC2.out); rintro e w11 ⟨rfl, hb⟩; have n0_ := Aside0.mk (blk_below (g := gb326) (o := .cells #[.int .i64 a0_0, .bool a0_1] 25 (0, 0)) (by (with_reducible repeat (fail)); exact BK326.out) hb); have n1_ := Aside0.mk (below_step (by repeat ((with_reducible (exact HB.out)))) hb); clear BK326; clear HB; have BK326 := n0_; have HB := n1_; clear n0_ n1_; (try clear hb); (try clear hb2); (try clear hk); (try clear hi)))
 go_ret
 exact ⟨by (rfl), by repeat ((with_reducible (exact HB.out)))⟩

/-! ### spec_l3Hefts: function 79 -/
def spec_l3Hefts.l0 : Nat → List Int → Int → Int → Bool → Option (Bool)
 | 0, _, _, _, _ => none
 | k + 1, x1, x5, x330000, x330001 => if x5 < (x1.length : Int) then (if 0 ≤ x5 then ((spec_l1In.f (rd x1 x5) 0 99).bind fun t331 => (if t331 = true then (spec_l3Hefts.l0 k x1 (wrap64 (x5 + 1)) x330000 x330001) else (some false))) else (none)) else (some ((x1.length : Int) == x330000))
def spec_l3Hefts.f (k : Nat) (a0_0 : Int) (a0_1 : Bool) (l1 : List Int) : Option (Bool) := spec_l3Hefts.l0 k l1 0 a0_0 a0_1
set_option maxHeartbeats 8000000 in
set_option maxRecDepth 100000 in
theorem spec_l3Hefts.calls (k : Nat) (a0_0 : Int) (a0_1 : Bool) (A1 : Option Addr) (c1 : Nat) (l1 : List Int) (r : Bool) (w : World) (hr1 : Kd.C (Kd.int .i64) w A1 l1.length l1) (hc1 : l1.length ≤ c1) (h : spec_l3Hefts.f k a0_0 a0_1 l1 = some r) :
  Calls Try.prog 79 #[.agg #[.int .i64 a0_0, .bool a0_1], .slice A1 l1.length c1] w fun e w' => e = .returned (.bool r) ∧ Below w.heap.size w w' := by
 have hu25 := Try.underlying25
 have HR1 := Aside0.mk hr1
 have HC1 := Aside0.mk hc1
 clear hr1 hc1
 have HB := Aside0.mk (Below.refl w.heap.size w)
 have H : (spec_l3Hefts.l0 k l1 0 a0_0 a0_1) = some r := h
 clear h
 have H' := Aside0.mk H
 clear H
 go_enter Try.func79, Try.ntmps79
 go_wp2_with (((refine gate_dst (N := 2) rfl ?_); refine box_event ?hg (N := 2) ?hd (cs := #[.int .i64 a0_0, .bool a0_1]) (t := 25) ?hr ?_; (case hd => rfl); (case hg => rfl); (case hr => (go_simp; done)); intro gb329 hg w3 hbox hb; have n0_ := Aside0.mk (below_step (by repeat ((with_reducible (exact HB.out)))) hb); have n1_ := Aside0.mk (hbox); have n2_ := Aside0.mk ((by rw [hg]; exact (below_size (by repeat ((with_reducible (exact HB.out))))) : w.heap.size ≤ gb329)); have n3_ := Aside0.mk ((by rw [hg]; exact (below_size (by repeat ((with_reducible (exact HB.out))))) : w.heap.size ≤ gb329)); clear HB; have HB := n0_; have BK329 := n1_; have GW329 := n2_; have GE329 := n3_; clear n0_ n1_ n2_ n3_; clear hb hbox hg))
 go_loopg [5] k (fun kq v5 w' => ∃ (x5_1 : Int), v5 = .int .i64 x5_1 ∧ Aside0 (spec_l3Hefts.l0 kq l1 x5_1 a0_0 a0_1 = some r) ∧ Aside0 (kq ≤ k) ∧ Aside0 (w'.heap[gb329]? = some (.cells #[.int .i64 a0_0, .bool a0_1] 25 (0, 0))) ∧ Aside0 (Below w.heap.size w w'))
 case atStart => exact ⟨(0), (by (rfl)), H', ⟨Nat.le_refl _⟩, ⟨by (with_reducible repeat (fail)); exact BK329.out⟩, ⟨by repeat ((with_reducible (exact HB.out)))⟩⟩
 case round =>
  clear H'
  (try clear c1); (try clear p2)
  obtain ⟨x5_1, rfl, HA, HK1, BK329, HB⟩ := hrel
  cases gk with
  | zero => exact absurd HA.out (by simp [spec_l3Hefts.l0])
  | succ k1 =>
   have H := HA.out
   clear HA
   simp only [spec_l3Hefts.l0] at H
   by_cases c4 : x5_1 < (l1.length : Int)
   rotate_left
   ·rw [if_neg c4] at H
    have c4b0 : decide (x5_1 < (l1.length : Int)) = false := decide_eq_false c4
    clear c4
    obtain rfl := Option.some.inj H
    have hcz8_0 : wr.cell? ⟨gb329, 0, none⟩ = some (.int .i64 a0_0) := (blk_cell BK329.out 0).trans rfl
    have hcz8_1 : wr.cell? ⟨gb329, 1, none⟩ = some (.bool a0_1) := (blk_cell BK329.out 1).trans rfl
    have hfz8_0 := blk_frozen BK329.out 0
    have hfz8_1 := blk_frozen BK329.out 1
    go_wp2
    go_ret
    exact ⟨by (rfl), by repeat ((with_reducible (exact HB.out)))⟩
   rw [if_pos c4] at H
   have c4b0 : decide (x5_1 < (l1.length : Int)) = true := decide_eq_true c4
   clear c4
   by_cases c5 : 0 ≤ x5_1
   rotate_left
   ·rw [if_neg c5] at H
    exact absurd H (by simp)
   rw [if_pos c5] at H
   have c5b0 : decide (0 ≤ x5_1) = true := decide_eq_true c5
   clear c5
   replace H := Option.bind_eq_some_iff.mp H
   obtain ⟨t331, A60, H⟩ := H
   try dsimp only at H
   have A6 := Aside0.mk A60
   clear A60
   by_cases c7 : t331 = true
   rotate_left
   ·replace c7 := Bool.eq_false_iff.mpr c7
    subst c7
    rw [if_neg (show ¬ (false = true) by decide)] at H
    obtain rfl := Option.some.inj H
    have p330 : 0 ≤ (x5_1 : Int) := of_decide_eq_true (by (assumption))
    have q330 : x5_1 < (l1.length : Int) := of_decide_eq_true (by (assumption))
    obtain ⟨ad330, e330, hx330_0⟩ := Kd.at_int HR1.out x5_1 p330 q330
    cases e330
    replace hx330_0 := (HB.out.cell (World.block_lt_of_cell? w _ hx330_0)).trans hx330_0
    replace p330 := eq_true p330
    replace q330 := eq_true q330
    go_wp2_with (((refine gate_callee (f := 100) rfl ?_); refine goesL_ (some 16) rfl rfl Try.func100 (by kernel_rfl) rfl #[.int .i64 (rd l1 x5_1), .int .i64 0, .int .i64 99] rfl (by (try simp only [List.map_toArray, List.map_cons, List.map_nil]); (rfl)) ?_; (refine (spec_l1In.calls (rd l1 x5_1) 0 99 false _ A6.out).mono ?_); rintro e w' ⟨rfl, ⟨nd, rfl⟩⟩; refine ⟨_, rfl, ?_⟩))
    go_ret
    exact ⟨by (rfl), by repeat ((with_reducible first | exact HB.out | apply pw_below_drewN))⟩
   subst c7
   rw [if_pos rfl] at H
   have H' := Aside0.mk H
   clear H
   have p330 : 0 ≤ (x5_1 : Int) := of_decide_eq_true (by (assumption))
   have q330 : x5_1 < (l1.length : Int) := of_decide_eq_true (by (assumption))
   obtain ⟨ad330, e330, hx330_0⟩ := Kd.at_int HR1.out x5_1 p330 q330
   cases e330
   replace hx330_0 := (HB.out.cell (World.block_lt_of_cell? w _ hx330_0)).trans hx330_0
   replace p330 := eq_true p330
   replace q330 := eq_true q330
   go_wp2_with (((refine gate_callee (f := 100) rfl ?_); refine goesL_ (some 16) rfl rfl Try.func100 (by kernel_rfl) rfl #[.int .i64 (rd l1 x5_1), .int .i64 0, .int .i64 99] rfl (by (try simp only [List.map_toArray, List.map_cons, List.map_nil]); (rfl)) ?_; (refine (spec_l1In.calls (rd l1 x5_1) 0 99 true _ A6.out).mono ?_); rintro e w' ⟨rfl, ⟨nd, rfl⟩⟩; refine ⟨_, rfl, ?_⟩))
   go_roundg k1
   case measure => have := HK1.out; omega
   case rel => exact ⟨(wrap64 (x5_1 + 1)), (by (rfl)), H', ⟨by have := HK1.out; omega⟩, ⟨by (with_reducible repeat ((refine blk_drewN ?_ _))); exact BK329.out⟩, ⟨by repeat ((with_reducible first | exact HB.out | apply pw_below_drewN))⟩⟩

end Go.Proofs.Ytogflbocmiogpaa.PFnLoads
