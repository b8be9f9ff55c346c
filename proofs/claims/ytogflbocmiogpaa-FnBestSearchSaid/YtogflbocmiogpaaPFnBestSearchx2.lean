-- Written for this claim by this session's turned copy of the printer.
import Derived.Test.YtogflbocmiogpaaPFnBestSearchx0
import Derived.Test.YtogflbocmiogpaaPFnBestSearchx1
namespace Go.Proofs.Ytogflbocmiogpaa.PFnBestSearch
open Go.RowKit Go.Proofs.YtogflbocmiogpaaW.PrintWords Go.Proofs.YtogflbocmiogpaaW.PrintLast Go.Proofs.YtogflbocmiogpaaW.PrintMore
open List renaming setIfInBounds_toArray → sT_, set_cons_zero → sZ_, set_cons_succ → sS_, map_toArray → mT_, map_cons → mC_, map_nil → mN_
open Bool renaming true → Y_, false → N_
attribute [local go_sem] max2_int min2_int max_two min_two Fj Fh max_four min_four   -- for this text's walks alone
set_option linter.unusedVariables false
set_option linter.unusedSimpArgs false

/-! ### spec_l3Search: function 103 -/
mutual
def Ay.l0 : Nat → Int → List Int → Int → Int → Int → Int → Bool → Option (Bool)
 | 0, _, _, _, _, _, _, _ => none
 | k + 1, x1, x2, x7, x8, x9, x110000, x110001 => if x9 < (x2.length : Int) then (if 0 ≤ x9 then (if (rd x2 x9) > x1 then ((Eu.f (rd x2 x9) 0 (wrap64 (x110000 - 1))).bind fun t112 => (if t112 = true then (if (rd x2 x9) = x1 then (Ay.j1 k x1 x2 x7 x8 x9 true true x110000 x110001) else (if x9 > 0 then (if 0 ≤ (wrap64 (x9 - 1)) then (if (wrap64 (x9 - 1)) < (x2.length : Int) then (Ay.j1 k x1 x2 x7 x8 x9 true (true == (decide ((rd x2 (wrap64 (x9 - 1))) > x1))) x110000 x110001) else (none)) else (none)) else (Ay.j1 k x1 x2 x7 x8 x9 true false x110000 x110001))) else (Ay.j1 k x1 x2 x7 x8 x9 true true x110000 x110001))) else ((Eu.f (rd x2 x9) 0 (wrap64 (x110000 - 1))).bind fun t120 => (if t120 = true then (if (rd x2 x9) = x1 then (Ay.j3 k x1 x2 x7 x8 x9 false true x110000 x110001) else (if x9 > 0 then (if 0 ≤ (wrap64 (x9 - 1)) then (if (wrap64 (x9 - 1)) < (x2.length : Int) then (Ay.j3 k x1 x2 x7 x8 x9 false (false == (decide ((rd x2 (wrap64 (x9 - 1))) > x1))) x110000 x110001) else (none)) else (none)) else (Ay.j3 k x1 x2 x7 x8 x9 false false x110000 x110001))) else (Ay.j3 k x1 x2 x7 x8 x9 false true x110000 x110001)))) else (none)) else (if x7 = 0 then (some (x8 == (wrap64 (x110000 - 1)))) else (some false))
def Ay.j1 : Nat → Int → List Int → Int → Int → Int → Bool → Bool → Int → Bool → Option (Bool)
 | 0, _, _, _, _, _, _, _, _, _ => none
 | k + 1, x1, x2, x7, x8, x9, x10, x56, x110000, x110001 => if x56 = true then (some false) else (if x10 = true then (if 0 ≤ x9 then (if x9 < (x2.length : Int) then (if (rd x2 x9) ≤ x8 then (Ay.j2 k x1 x2 x7 x8 x9 x10 true x110000 x110001) else (Ay.j2 k x1 x2 x7 x8 x9 x10 false x110000 x110001)) else (none)) else (none)) else (if 0 ≤ x9 then (if x9 < (x2.length : Int) then (Ay.j2 k x1 x2 x7 x8 x9 x10 (decide ((rd x2 x9) ≥ x7)) x110000 x110001) else (none)) else (none)))
def Ay.j2 : Nat → Int → List Int → Int → Int → Int → Bool → Bool → Int → Bool → Option (Bool)
 | 0, _, _, _, _, _, _, _, _, _ => none
 | k + 1, x1, x2, x7, x8, x9, x10, x77, x110000, x110001 => if x77 = true then (some false) else (if x10 = true then (if 0 ≤ x9 then (if x9 < (x2.length : Int) then (Ay.l0 k x1 x2 x7 (rd x2 x9) (wrap64 (x9 + 1)) x110000 x110001) else (none)) else (none)) else (if 0 ≤ x9 then (if x9 < (x2.length : Int) then (Ay.l0 k x1 x2 (rd x2 x9) x8 (wrap64 (x9 + 1)) x110000 x110001) else (none)) else (none)))
def Ay.j3 : Nat → Int → List Int → Int → Int → Int → Bool → Bool → Int → Bool → Option (Bool)
 | 0, _, _, _, _, _, _, _, _, _ => none
 | k + 1, x1, x2, x7, x8, x9, x10, x56, x110000, x110001 => if x56 = true then (some false) else (if x10 = true then (if 0 ≤ x9 then (if x9 < (x2.length : Int) then (if (rd x2 x9) ≤ x8 then (Ay.j4 k x1 x2 x7 x8 x9 x10 true x110000 x110001) else (Ay.j4 k x1 x2 x7 x8 x9 x10 false x110000 x110001)) else (none)) else (none)) else (if 0 ≤ x9 then (if x9 < (x2.length : Int) then (Ay.j4 k x1 x2 x7 x8 x9 x10 (decide ((rd x2 x9) ≥ x7)) x110000 x110001) else (none)) else (none)))
def Ay.j4 : Nat → Int → List Int → Int → Int → Int → Bool → Bool → Int → Bool → Option (Bool)
 | 0, _, _, _, _, _, _, _, _, _ => none
 | k + 1, x1, x2, x7, x8, x9, x10, x77, x110000, x110001 => if x77 = true then (some false) else (if x10 = true then (if 0 ≤ x9 then (if x9 < (x2.length : Int) then (Ay.l0 k x1 x2 x7 (rd x2 x9) (wrap64 (x9 + 1)) x110000 x110001) else (none)) else (none)) else (if 0 ≤ x9 then (if x9 < (x2.length : Int) then (Ay.l0 k x1 x2 (rd x2 x9) x8 (wrap64 (x9 + 1)) x110000 x110001) else (none)) else (none)))
end
def Ay.f (k : Nat) (a0_0 : Int) (a0_1 : Bool) (a1 : Int) (l2 : List Int) : Option (Bool) := Ay.l0 k a1 l2 a1 a1 0 a0_0 a0_1
def Ay.T6 : Bool × List (List Nat × List Nat) := (true, [([], []), ([], []), ([0, 1], [0, 1]), ([2], [2]), ([], []), ([4], [4]), ([5], [5]), ([3, 6], [3, 6]), ([7], [7]), ([8, 7], [8]), ([9], [9]), ([9], [9]), ([10, 11, 9], [9, 10, 11]), ([12, 9], [9, 12]), ([9], [9]), ([13, 14, 9], [9, 13, 14]), ([9, 15], [9, 15]), ([16, 9], [16]), ([17], [17]), ([18, 17], [17, 18]), ([19, 17, 17], [17, 19]), ([20], [20]), ([20], [20]), ([20], [20]), ([23, 20], [20, 23]), ([22, 24, 20], [20, 22, 24]), ([25, 20], [20, 25]), ([20], [20]), ([26, 27, 20], [20, 26, 27]), ([21, 28, 20], [20, 21, 28]), ([20, 29, 17], [17, 20, 29]), ([17, 30], [17, 30])])
def Ay.B6 : List Nat := [0, 0, 3, 7, 0, 16, 48, 127, 255, 511, 1023, 1023, 4095, 8191, 1023, 32767, 65535, 131071, 262143, 524287, 1048575, 2097151, 2097151, 2097151, 10485759, 31457279, 65011711, 2097151, 266338303, 536870911, 1073741823, 2147483647]
theorem Ay.tab6 : rtab .any (opsOf Try.f103 6) = Ay.T6 := by kernel_rfl
theorem Ay.bits6 : waitsOk Ay.T6.2 Ay.B6 = true := by kernel_rfl
theorem Ay.j24 (k : Nat) (a : Int) (l : List Int) (x7 x8 x9 : Int) (b c : Bool) (n : Int) (g : Bool) : Ay.j4 k a l x7 x8 x9 b c n g = Ay.j2 k a l x7 x8 x9 b c n g := by
 cases k <;> simp only [Ay.j4, Ay.j2]
theorem Ay.j13 (k : Nat) (a : Int) (l : List Int) (x7 x8 x9 : Int) (b c : Bool) (n : Int) (g : Bool) : Ay.j3 k a l x7 x8 x9 b c n g = Ay.j1 k a l x7 x8 x9 b c n g := by
 cases k <;> simp only [Ay.j3, Ay.j1, Ay.j24]
theorem Ay.o {k : Nat} {a : Int} {l : List Int} {x7 x8 x9 : Int} {b n : Int} {R c g r : Bool} (h0 : 0 ≤ x9) (h1 : x9 < (l.length : Int)) (H : Ay.j1 k a l x7 x8 x9 R c n g = some r) :
  c = true ∧ r = false ∨ c = false ∧ (R = true ∧ (rd l x9 ≤ x8 ∧ r = false ∨ ¬ rd l x9 ≤ x8 ∧ ∃ k3, k3 ≤ k ∧ Ay.l0 k3 a l x7 (rd l x9) (wrap64 (x9 + 1)) n g = some r) ∨ R = false ∧ (x7 ≤ rd l x9 ∧ r = false ∨ ¬ x7 ≤ rd l x9 ∧ ∃ k3, k3 ≤ k ∧ Ay.l0 k3 a l (rd l x9) x8 (wrap64 (x9 + 1)) n g = some r)) := by
 cases k with
 | zero => exact absurd H (by simp [Ay.j1])
 | succ k =>
 simp only [Ay.j1, h0, h1, if_true] at H
 cases c with
 | true => exact .inl ⟨rfl, by simpa using H.symm⟩
 | false =>
  refine .inr ⟨rfl, ?_⟩
  rw [if_neg (by decide)] at H
  cases R with
  | true =>
   refine .inl ⟨rfl, ?_⟩
   rw [if_pos rfl] at H
   cases k with
   | zero => exact absurd H (by simp [Ay.j2])
   | succ k =>
   simp only [Ay.j2, h0, h1, if_true] at H
   by_cases q : rd l x9 ≤ x8
   ·rw [if_pos q] at H
    exact .inl ⟨q, by simpa using H.symm⟩
   rw [if_neg q, if_neg (by decide)] at H
   exact .inr ⟨q, k, by omega, H⟩
  | false =>
   refine .inr ⟨rfl, ?_⟩
   rw [if_neg (by decide)] at H
   cases k with
   | zero => exact absurd H (by simp [Ay.j2])
   | succ k =>
   simp only [Ay.j2, h0, h1, if_true] at H
   by_cases q : x7 ≤ rd l x9
   ·rw [if_pos (decide_eq_true q)] at H
    exact .inl ⟨q, by simpa using H.symm⟩
   rw [if_neg (by simpa using q), if_neg (by decide)] at H
   exact .inr ⟨q, k, by omega, H⟩
theorem Ay.step {k : Nat} {a : Int} {l : List Int} {x7 x8 : Int} {i : Nat} {n : Int} {g r : Bool} (hi : i < l.length) (hl : (l.length : Int) ≤ 9223372036854775807) (H : Ay.l0 (k + 1) a l x7 x8 i n g = some r) :
  ∃ q c, Eu.f (rd l i) 0 (wrap64 (n - 1)) = some q ∧ Ay.j1 k a l x7 x8 i (decide (a < rd l i)) c n g = some r ∧
   (q = false ∧ c = true ∨ q = true ∧ rd l i = a ∧ c = true ∨ q = true ∧ rd l i ≠ a ∧ i = 0 ∧ c = false ∨ q = true ∧ rd l i ≠ a ∧ ∃ m, i = m + 1 ∧ c = (decide (a < rd l i) == decide (a < rd l m))) := by
 have h0 : (0 : Int) ≤ (i : Int) := by omega
 have h1 : (i : Int) < (l.length : Int) := by omega
 simp only [Ay.l0, h0, h1, if_true, Ay.j13, gt_iff_lt] at H
 by_cases hr : a < rd l i
 ·rw [if_pos hr] at H
  obtain ⟨q, hq, H⟩ := Option.bind_eq_some_iff.mp H
  rw [decide_eq_true hr]
  cases q with
  | false => exact ⟨false, true, hq, by simpa using H, .inl ⟨rfl, rfl⟩⟩
  | true =>
   rw [if_pos rfl] at H
   by_cases he : rd l i = a
   ·rw [if_pos he] at H
    exact ⟨true, true, hq, H, .inr (.inl ⟨rfl, he, rfl⟩)⟩
   rw [if_neg he] at H
   rcases Nat.eq_zero_or_pos i with hz | hz
   ·rw [if_neg (by omega)] at H
    exact ⟨true, false, hq, H, .inr (.inr (.inl ⟨rfl, he, hz, rfl⟩))⟩
   obtain ⟨m, rfl⟩ : ∃ m, i = m + 1 := ⟨i - 1, by omega⟩
   rw [if_pos (by omega), show wrap64 (((m + 1 : Nat) : Int) - 1) = (m : Int) by unfold wrap64; omega, if_pos (by omega), if_pos (by omega)] at H
   exact ⟨true, _, hq, H, .inr (.inr (.inr ⟨rfl, he, m, rfl, rfl⟩))⟩
 rw [if_neg hr] at H
 obtain ⟨q, hq, H⟩ := Option.bind_eq_some_iff.mp H
 rw [decide_eq_false hr]
 cases q with
 | false => exact ⟨false, true, hq, by simpa using H, .inl ⟨rfl, rfl⟩⟩
 | true =>
  rw [if_pos rfl] at H
  by_cases he : rd l i = a
  ·rw [if_pos he] at H
   exact ⟨true, true, hq, H, .inr (.inl ⟨rfl, he, rfl⟩)⟩
  rw [if_neg he] at H
  rcases Nat.eq_zero_or_pos i with hz | hz
  ·rw [if_neg (by omega)] at H
   exact ⟨true, false, hq, H, .inr (.inr (.inl ⟨rfl, he, hz, rfl⟩))⟩
  obtain ⟨m, rfl⟩ : ∃ m, i = m + 1 := ⟨i - 1, by omega⟩
  rw [if_pos (by omega), show wrap64 (((m + 1 : Nat) : Int) - 1) = (m : Int) by unfold wrap64; omega, if_pos (by omega), if_pos (by omega)] at H
  exact ⟨true, _, hq, H, .inr (.inr (.inr ⟨rfl, he, m, rfl, rfl⟩))⟩
set_option maxHeartbeats 8000000 in
set_option maxRecDepth 100000 in
theorem Ay.calls (k : Nat) (a0_0 : Int) (a0_1 : Bool) (a1 : Int) (A2 : Option Addr) (c2 : Nat) (l2 : List Int) (r : Bool) (w : World) (hr2 : Kd.C (Kd.int .i64) w A2 l2.length l2) (hc2 : l2.length ≤ c2) (h : Ay.f k a0_0 a0_1 a1 l2 = some r) :
  Calls Try.prog 103 #[.agg #[.int .i64 a0_0, .bool a0_1], .int .i64 a1, .slice A2 l2.length c2] w fun e w' => e = .returned (.bool r) ∧ Below w.heap.size w w' := by
 have hu27 := Try.underlying25
 have HR2 := Aa.k hr2
 have HLL := Aa.k hr2.2.1
 have HB := Aa.k (Below.refl w.heap.size w)
 have H' := Aa.k (show Ay.l0 k a1 l2 a1 a1 ((0 : Nat) : Int) a0_0 a0_1 = some r from h)
 clear hr2 hc2 h
 go_enter Try.func103, Try.ntmps103
 go_wp2_with (((refine Be (N := 3) rfl ?_); refine Bo ?hg (N := 3) ?hd (cs := #[.int .i64 a0_0, .bool a0_1]) (t := 25) ?hr ?_; (case hd => rfl); (case hg => rfl); (case hr => (go_simp; done)); intro gb hg w7 hbox hb; have BK := Aa.k hbox; have n0_ := Aa.k (Ad HB.o hb); clear HB hb hbox hg; have HB := n0_; clear n0_))
 go_loopg [7, 8, 9] k (fun kq v7 v8 v9 w' => ∃ (x7 x8 : Int) (i : Nat), v7 = .int .i64 x7 ∧ v8 = .int .i64 x8 ∧ v9 = .int .i64 (i : Int) ∧ Aa (Ay.l0 kq a1 l2 x7 x8 (i : Int) a0_0 a0_1 = some r) ∧ Aa (kq ≤ k) ∧ Aa (w'.heap[gb]? = some (.cells #[.int .i64 a0_0, .bool a0_1] 25 (0, 0))) ∧ Aa (Below w.heap.size w w'))
 case atStart => exact ⟨a1, a1, 0, rfl, rfl, rfl, H', ⟨Nat.le_refl _⟩, BK, HB⟩
 case round =>
  clear H' BK HB
  obtain ⟨x7, x8, i, rfl, rfl, rfl, HA, HK1, BK, HB⟩ := hrel
  cases gk with
  | zero => exact absurd HA.o (by simp [Ay.l0])
  | succ k1 =>
   have H := HA.o
   clear HA
   by_cases ci : i < l2.length
   rotate_left
   ·have c1b : decide ((i : Int) < (l2.length : Int)) = false := decide_eq_false (by omega)
    have c1n : decide (i < l2.length) = false := decide_eq_false ci
    simp only [Ay.l0] at H
    rw [if_neg (by omega)] at H
    have hcz0 := Bj BK.o
    have hcz1 := Bn BK.o
    by_cases hz : x7 = 0
    ·rw [if_pos hz] at H
     obtain rfl := Option.some.inj H
     have hzb : (x7 == 0) = true := beq_iff_eq.mpr hz
     clear hz H ci
     go_wp2
     go_ret
     exact ⟨by (rfl), HB.o⟩
    rw [if_neg hz] at H
    obtain rfl := Option.some.inj H
    have hzb : (x7 == 0) = false := beq_eq_false_iff_ne.mpr hz
    clear hz H ci
    go_wp2
    go_ret
    exact ⟨rfl, HB.o⟩
   have c1b : decide ((i : Int) < (l2.length : Int)) = true := decide_eq_true (by omega)
   have c1n : decide (i < l2.length) = true := decide_eq_true ci
   obtain ⟨q, c, hq, hj, hc⟩ := Ay.step ci (by have := HLL.o; omega) H
   have ho := Ay.o (b := 0) (by omega) (by omega) hj
   have HQ := Aa.k hq
   obtain ⟨ad, e, hx⟩ := Kd.Eo HR2.o (i : Int) (by omega) (by omega)
   have hyy : ∀ m : Nat, i = m + 1 → w.cell? (ad.add m) = some (.int .i64 (rd l2 m)) := fun m hm => by
    obtain ⟨ad2, e2, hx2⟩ := Kd.Eo HR2.o (m : Int) (by omega) (by omega)
    rw [e] at e2
    injection e2 with e2
    subst e2
    rwa [Int.toNat_natCast] at hx2
   subst e
   rw [Int.toNat_natCast] at hx
   replace hx := (HB.o.cell (World.block_lt_of_cell? w _ hx)).trans hx
   have hw1 : IntKind.i64.wrap ((i : Int) + 1) = ((i + 1 : Nat) : Int) := (Ah _).trans (by have := HLL.o; unfold wrap64; omega)
   have hwn := Ah (a0_0 - 1)
   rw [show wrap64 ((i : Int) + 1) = ((i + 1 : Nat) : Int) from (Ah _).symm.trans hw1] at ho
   have i0 : (0 : Int) ≤ (i : Int) := by omega
   have i1 : (i : Int) < (l2.length : Int) := by omega
   have hR : decide (a1 < rd l2 i) = true ∨ decide (a1 < rd l2 i) = false := by cases decide (a1 < rd l2 i) <;> simp
   generalize hxx : rd l2 (i : Int) = x at hx hR hc ho HQ
   have hc' : (q = false ∧ c = true) ∨ (q = true ∧ (x == a1) = true ∧ c = true) ∨ (q = true ∧ (x == a1) = false ∧ (decide (0 < (i : Int)) = false ∧ decide (0 < i) = false) ∧ c = false) ∨ (q = true ∧ (x == a1) = false ∧ ∃ m : Nat, (decide (0 < (i : Int)) = true ∧ decide (0 < i) = true) ∧ IntKind.i64.wrap ((i : Int) - 1) = (m : Int) ∧ ((m : Int) < (l2.length : Int) ∧ m < l2.length) ∧ ∃ y, wr.cell? (ad.add m) = some (.int .i64 y) ∧ (decide (a1 < y) = true ∨ decide (a1 < y) = false) ∧ c = (decide (a1 < x) == decide (a1 < y))) := by
    rcases hc with h1 | ⟨h1, h2, h3⟩ | ⟨h1, h2, h3, h4⟩ | ⟨h1, h2, m, hm, h4⟩
    ·exact .inl h1
    ·exact .inr (.inl ⟨h1, beq_iff_eq.mpr h2, h3⟩)
    ·exact .inr (.inr (.inl ⟨h1, beq_eq_false_iff_ne.mpr h2, ⟨decide_eq_false (by omega), decide_eq_false (by omega)⟩, h4⟩))
    ·refine .inr (.inr (.inr ⟨h1, beq_eq_false_iff_ne.mpr h2, m, ⟨decide_eq_true (by omega), decide_eq_true (by omega)⟩, (Ah _).trans (by have := HLL.o; unfold wrap64; omega), ⟨by omega, by omega⟩, rd l2 m, ?_, ?_, h4⟩))
     ·have := hyy m hm
      exact (HB.o.cell (World.block_lt_of_cell? w _ this)).trans this
     ·cases decide (a1 < rd l2 m) <;> simp
   have HO := Aa.k ho
   clear ho hc hyy hq hj H ci hxx
   rcases hR with hR | hR
   all_goals
    rw [hR] at hc' HO
    rcases hc' with ⟨rfl, rfl⟩ | ⟨rfl, f1, rfl⟩ | ⟨rfl, f1, ⟨f2, f3⟩, rfl⟩ | ⟨rfl, f1, m, ⟨f2, f3⟩, hw2, ⟨j1, j2⟩, y, hy, f4 | f4, rfl⟩
    all_goals
     try rw [f4] at HO
     go_wp2
     have n0_ := Aa.k (Dt BK.o)
     have n1_ := Aa.k (Cf HB.o)
     clear BK HB
     have BK := n0_
     have HB := n1_
     clear n0_ n1_
     first
     | refine Fp (n := 32) (S := fun w' => w'.cell? ⟨gb, 0, none⟩ = some (.int .i64 a0_0) ∧ w'.cell? ⟨gb, 1, none⟩ = some (.bool a0_1) ∧ w'.cell? (ad.add i) = some (.int .i64 x) ∧ w'.cell? (ad.add m) = some (.int .i64 y)) (ds := []) #[N_,N_,N_,N_,N_,N_,N_,N_,N_,N_,N_,N_,N_,N_,N_,N_,N_,N_,N_,N_,N_,N_,N_,N_,N_,N_,N_,N_,N_,N_,N_,N_] (by kernel_rfl) rfl rfl ⟨(Aw BK.o 0).trans rfl, (Aw BK.o 1).trans rfl, hx, hy⟩ (fun hHeld => ?_)
     | refine Fp (n := 32) (S := fun w' => w'.cell? ⟨gb, 0, none⟩ = some (.int .i64 a0_0) ∧ w'.cell? ⟨gb, 1, none⟩ = some (.bool a0_1) ∧ w'.cell? (ad.add i) = some (.int .i64 x)) (ds := []) #[N_,N_,N_,N_,N_,N_,N_,N_,N_,N_,N_,N_,N_,N_,N_,N_,N_,N_,N_,N_,N_,N_,N_,N_,N_,N_,N_,N_,N_,N_,N_,N_] (by kernel_rfl) rfl rfl ⟨(Aw BK.o 0).trans rfl, (Aw BK.o 1).trans rfl, hx⟩ (fun hHeld => ?_)
     refine Dv Ay.tab6 Ay.bits6 (fun HT_ HW_ => ?_)
     generalize wr.drew = w21 at BK HB hHeld ⊢
     apply pq_ 0 25 #[Y_,N_,N_,N_,N_,N_,N_,N_,N_,N_,N_,N_,N_,N_,N_,N_,N_,N_,N_,N_,N_,N_,N_,N_,N_,N_,N_,N_,N_,N_,N_,N_] HT_ rfl rfl (by kernel_rfl) (fun _ _ _ h => h) (by rfl)
     ·intro w'; go_simp; rfl
     ·simp only [Act.put, sT_, sZ_, sS_, Ah, Ai]; rfl
     apply pq_ 1 26 #[Y_,Y_,N_,N_,N_,N_,N_,N_,N_,N_,N_,N_,N_,N_,N_,N_,N_,N_,N_,N_,N_,N_,N_,N_,N_,N_,N_,N_,N_,N_,N_,N_] HT_ rfl rfl (by kernel_rfl) (fun _ _ _ h => h) (by rfl)
     ·intro w'; go_simp; rfl
     ·simp only [Act.put, sT_, sZ_, sS_, Ah, Ai]; rfl
     apply pq_ 2 27 #[Y_,Y_,Y_,N_,N_,N_,N_,N_,N_,N_,N_,N_,N_,N_,N_,N_,N_,N_,N_,N_,N_,N_,N_,N_,N_,N_,N_,N_,N_,N_,N_,N_] HT_ rfl rfl (by kernel_rfl) (fun _ _ _ h => h) (by rfl)
     ·intro w'; go_simp; rfl
     ·simp only [Act.put, sT_, sZ_, sS_, Ah, Ai]; rfl
     refine En (i := 3) (N := some 28) (v := ?_) (a' := ?_) #[Y_,Y_,Y_,Y_,N_,N_,N_,N_,N_,N_,N_,N_,N_,N_,N_,N_,N_,N_,N_,N_,N_,N_,N_,N_,N_,N_,N_,N_,N_,N_,N_,N_] rfl rfl (Cm HT_.o HW_.o (by kernel_rfl)) (fun _ _ _ h => h) (Or.inl ⟨by rfl, ?_⟩) hHeld ?_ ?_
     rotate_left
     ·intro w' hs_; have s0 := hs_.1; have s1 := hs_.2.1; (first | (have s2 := hs_.2.2.1; have s3 := hs_.2.2.2) | have s2 := hs_.2.2)
      go_simp
      rfl
     rotate_left
     ·simp only [Act.put, sT_, sZ_, sS_, Ah, Ai]
      rfl
     apply pq_ 4 29 #[Y_,Y_,Y_,Y_,Y_,N_,N_,N_,N_,N_,N_,N_,N_,N_,N_,N_,N_,N_,N_,N_,N_,N_,N_,N_,N_,N_,N_,N_,N_,N_,N_,N_] HT_ rfl rfl (by kernel_rfl) (fun _ _ _ h => h) (by rfl)
     ·intro w'; go_simp; rfl
     ·simp only [Act.put, sT_, sZ_, sS_, Ah, Ai]; rfl
     refine En (i := 5) (N := some 30) (v := ?_) (a' := ?_) #[Y_,Y_,Y_,Y_,Y_,Y_,N_,N_,N_,N_,N_,N_,N_,N_,N_,N_,N_,N_,N_,N_,N_,N_,N_,N_,N_,N_,N_,N_,N_,N_,N_,N_] rfl rfl (Cm HT_.o HW_.o (by kernel_rfl)) (fun _ _ _ h => h) (Or.inl ⟨by rfl, ?_⟩) hHeld ?_ ?_
     rotate_left
     ·intro w' hs_; have s0 := hs_.1; have s1 := hs_.2.1; (first | (have s2 := hs_.2.2.1; have s3 := hs_.2.2.2) | have s2 := hs_.2.2)
      go_simp
      rfl
     rotate_left
     ·simp only [Act.put, sT_, sZ_, sS_, Ah, Ai]
      rfl
     apply pq_ 6 31 #[Y_,Y_,Y_,Y_,Y_,Y_,Y_,N_,N_,N_,N_,N_,N_,N_,N_,N_,N_,N_,N_,N_,N_,N_,N_,N_,N_,N_,N_,N_,N_,N_,N_,N_] HT_ rfl rfl (by kernel_rfl) (fun _ _ _ h => h) (by rfl)
     ·intro w'; go_simp; rfl
     ·simp only [Act.put, sT_, sZ_, sS_, Ah, Ai]; rfl
     refine one_ (i := 7) (N := some 32) #[Y_,Y_,Y_,Y_,Y_,Y_,Y_,Y_,N_,N_,N_,N_,N_,N_,N_,N_,N_,N_,N_,N_,N_,N_,N_,N_,N_,N_,N_,N_,N_,N_,N_,N_] rfl rfl (Ej HT_.o (by kernel_rfl)) (by decide) (fun K hK => ?_)
     refine goes_ Try.func100 (by kernel_rfl) rfl #[.int .i64 x, .int .i64 0, .int .i64 (wrap64 (a0_0 - 1))] (by rfl) rfl rfl (by (try simp only [mT_, mC_, mN_]); rfl) ?_
     refine (Eu.calls _ _ _ _ _ HQ.o).mono ?_
     rintro e w22 ⟨rfl, ⟨⟨nd, rfl⟩⟩⟩
     refine ⟨_, rfl, ?_⟩
     refine hK.out _ _ hHeld (fun hHeld => ?_)
     clear hK K
     refine Es (a' := ?_) ?_ ?_
     rotate_left
     ·show Act.put _ (some 32) _ = _
      simp only [Act.put, sT_, sZ_, sS_, Ah, Ai]
      rfl
     apply pq_ 8 33 #[Y_,Y_,Y_,Y_,Y_,Y_,Y_,Y_,Y_,N_,N_,N_,N_,N_,N_,N_,N_,N_,N_,N_,N_,N_,N_,N_,N_,N_,N_,N_,N_,N_,N_,N_] HT_ rfl rfl (by kernel_rfl) (fun _ _ _ h => h) (by rfl)
     ·intro w'; go_simp; rfl
     ·simp only [Act.put, sT_, sZ_, sS_, Ah, Ai]; rfl
     apply pq_ 9 34 #[Y_,Y_,Y_,Y_,Y_,Y_,Y_,Y_,Y_,Y_,N_,N_,N_,N_,N_,N_,N_,N_,N_,N_,N_,N_,N_,N_,N_,N_,N_,N_,N_,N_,N_,N_] HT_ rfl rfl (by kernel_rfl) (fun _ _ _ h => h) (by rfl)
     ·intro w'; go_simp; rfl
     ·simp only [Act.put, sT_, sZ_, sS_, Ah, Ai]; rfl
     first
     | (refine Ei (i := 10) (N := some 35) (v := undef) (a' := ?_) #[Y_,Y_,Y_,Y_,Y_,Y_,Y_,Y_,Y_,Y_,Y_,N_,N_,N_,N_,N_,N_,N_,N_,N_,N_,N_,N_,N_,N_,N_,N_,N_,N_,N_,N_,N_] rfl rfl (Di HT_.o (by kernel_rfl)) (fun _ _ _ h => h) (Or.inr ⟨by rfl, rfl⟩) ?_ ?_
        rotate_left
        ·simp only [Act.put, sT_, sZ_, sS_, Ah, Ai]
         rfl)
     | (refine Ei (i := 10) (N := some 35) (v := ?_) (a' := ?_) #[Y_,Y_,Y_,Y_,Y_,Y_,Y_,Y_,Y_,Y_,Y_,N_,N_,N_,N_,N_,N_,N_,N_,N_,N_,N_,N_,N_,N_,N_,N_,N_,N_,N_,N_,N_] rfl rfl (Di HT_.o (by kernel_rfl)) (fun _ _ _ h => h) (Or.inl ⟨by rfl, ?_⟩) ?_ ?_
        rotate_left
        ·intro w'
         go_simp
         rfl
        rotate_left
        ·simp only [Act.put, sT_, sZ_, sS_, Ah, Ai]
         rfl)
     first
     | (refine Ei (i := 11) (N := some 36) (v := undef) (a' := ?_) #[Y_,Y_,Y_,Y_,Y_,Y_,Y_,Y_,Y_,Y_,Y_,Y_,N_,N_,N_,N_,N_,N_,N_,N_,N_,N_,N_,N_,N_,N_,N_,N_,N_,N_,N_,N_] rfl rfl (Di HT_.o (by kernel_rfl)) (fun _ _ _ h => h) (Or.inr ⟨by rfl, rfl⟩) ?_ ?_
        rotate_left
        ·simp only [Act.put, sT_, sZ_, sS_, Ah, Ai]
         rfl)
     | (refine Ei (i := 11) (N := some 36) (v := ?_) (a' := ?_) #[Y_,Y_,Y_,Y_,Y_,Y_,Y_,Y_,Y_,Y_,Y_,Y_,N_,N_,N_,N_,N_,N_,N_,N_,N_,N_,N_,N_,N_,N_,N_,N_,N_,N_,N_,N_] rfl rfl (Di HT_.o (by kernel_rfl)) (fun _ _ _ h => h) (Or.inl ⟨by rfl, ?_⟩) ?_ ?_
        rotate_left
        ·intro w'
         go_simp
         rfl
        rotate_left
        ·simp only [Act.put, sT_, sZ_, sS_, Ah, Ai]
         rfl)
     first
     | (refine Ei (i := 12) (N := some 37) (v := undef) (a' := ?_) #[Y_,Y_,Y_,Y_,Y_,Y_,Y_,Y_,Y_,Y_,Y_,Y_,Y_,N_,N_,N_,N_,N_,N_,N_,N_,N_,N_,N_,N_,N_,N_,N_,N_,N_,N_,N_] rfl rfl (Di HT_.o (by kernel_rfl)) (fun _ _ _ h => h) (Or.inr ⟨by rfl, rfl⟩) ?_ ?_
        rotate_left
        ·simp only [Act.put, sT_, sZ_, sS_, Ah, Ai]
         rfl)
     | (refine Ei (i := 12) (N := some 37) (v := ?_) (a' := ?_) #[Y_,Y_,Y_,Y_,Y_,Y_,Y_,Y_,Y_,Y_,Y_,Y_,Y_,N_,N_,N_,N_,N_,N_,N_,N_,N_,N_,N_,N_,N_,N_,N_,N_,N_,N_,N_] rfl rfl (Di HT_.o (by kernel_rfl)) (fun _ _ _ h => h) (Or.inl ⟨by rfl, ?_⟩) ?_ ?_
        rotate_left
        ·intro w'
         go_simp
         rfl
        rotate_left
        ·simp only [Act.put, sT_, sZ_, sS_, Ah, Ai]
         rfl)
     first
     | (refine Ei (i := 13) (N := some 38) (v := undef) (a' := ?_) #[Y_,Y_,Y_,Y_,Y_,Y_,Y_,Y_,Y_,Y_,Y_,Y_,Y_,Y_,N_,N_,N_,N_,N_,N_,N_,N_,N_,N_,N_,N_,N_,N_,N_,N_,N_,N_] rfl rfl (Di HT_.o (by kernel_rfl)) (fun _ _ _ h => h) (Or.inr ⟨by rfl, rfl⟩) ?_ ?_
        rotate_left
        ·simp only [Act.put, sT_, sZ_, sS_, Ah, Ai]
         rfl)
     | (refine En (i := 13) (N := some 38) (v := ?_) (a' := ?_) #[Y_,Y_,Y_,Y_,Y_,Y_,Y_,Y_,Y_,Y_,Y_,Y_,Y_,Y_,N_,N_,N_,N_,N_,N_,N_,N_,N_,N_,N_,N_,N_,N_,N_,N_,N_,N_] rfl rfl (Cm HT_.o HW_.o (by kernel_rfl)) (fun _ _ _ h => h) (Or.inl ⟨by rfl, ?_⟩) hHeld ?_ ?_
        rotate_left
        ·intro w' hs_; have s0 := hs_.1; have s1 := hs_.2.1; (first | (have s2 := hs_.2.2.1; have s3 := hs_.2.2.2) | have s2 := hs_.2.2)
         go_simp
         rfl
        rotate_left
        ·simp only [Act.put, sT_, sZ_, sS_, Ah, Ai]
         rfl)
     first
     | (refine Ei (i := 14) (N := some 39) (v := undef) (a' := ?_) #[Y_,Y_,Y_,Y_,Y_,Y_,Y_,Y_,Y_,Y_,Y_,Y_,Y_,Y_,Y_,N_,N_,N_,N_,N_,N_,N_,N_,N_,N_,N_,N_,N_,N_,N_,N_,N_] rfl rfl (Di HT_.o (by kernel_rfl)) (fun _ _ _ h => h) (Or.inr ⟨by rfl, rfl⟩) ?_ ?_
        rotate_left
        ·simp only [Act.put, sT_, sZ_, sS_, Ah, Ai]
         rfl)
     | (refine Ei (i := 14) (N := some 39) (v := ?_) (a' := ?_) #[Y_,Y_,Y_,Y_,Y_,Y_,Y_,Y_,Y_,Y_,Y_,Y_,Y_,Y_,Y_,N_,N_,N_,N_,N_,N_,N_,N_,N_,N_,N_,N_,N_,N_,N_,N_,N_] rfl rfl (Di HT_.o (by kernel_rfl)) (fun _ _ _ h => h) (Or.inl ⟨by rfl, ?_⟩) ?_ ?_
        rotate_left
        ·intro w'
         go_simp
         rfl
        rotate_left
        ·simp only [Act.put, sT_, sZ_, sS_, Ah, Ai]
         rfl)
     first
     | (refine Ei (i := 15) (N := some 40) (v := undef) (a' := ?_) #[Y_,Y_,Y_,Y_,Y_,Y_,Y_,Y_,Y_,Y_,Y_,Y_,Y_,Y_,Y_,Y_,N_,N_,N_,N_,N_,N_,N_,N_,N_,N_,N_,N_,N_,N_,N_,N_] rfl rfl (Di HT_.o (by kernel_rfl)) (fun _ _ _ h => h) (Or.inr ⟨by rfl, rfl⟩) ?_ ?_
        rotate_left
        ·simp only [Act.put, sT_, sZ_, sS_, Ah, Ai]
         rfl)
     | (refine Ei (i := 15) (N := some 40) (v := ?_) (a' := ?_) #[Y_,Y_,Y_,Y_,Y_,Y_,Y_,Y_,Y_,Y_,Y_,Y_,Y_,Y_,Y_,Y_,N_,N_,N_,N_,N_,N_,N_,N_,N_,N_,N_,N_,N_,N_,N_,N_] rfl rfl (Di HT_.o (by kernel_rfl)) (fun _ _ _ h => h) (Or.inl ⟨by rfl, ?_⟩) ?_ ?_
        rotate_left
        ·intro w'
         go_simp
         rfl
        rotate_left
        ·simp only [Act.put, sT_, sZ_, sS_, Ah, Ai]
         rfl)
     apply pq_ 16 41 #[Y_,Y_,Y_,Y_,Y_,Y_,Y_,Y_,Y_,Y_,Y_,Y_,Y_,Y_,Y_,Y_,Y_,N_,N_,N_,N_,N_,N_,N_,N_,N_,N_,N_,N_,N_,N_,N_] HT_ rfl rfl (by kernel_rfl) (fun _ _ _ h => h) (by rfl)
     ·intro w'; go_simp; rfl
     ·simp only [Act.put, sT_, sZ_, sS_, Ah, Ai]; rfl
     apply pq_ 17 42 #[Y_,Y_,Y_,Y_,Y_,Y_,Y_,Y_,Y_,Y_,Y_,Y_,Y_,Y_,Y_,Y_,Y_,Y_,N_,N_,N_,N_,N_,N_,N_,N_,N_,N_,N_,N_,N_,N_] HT_ rfl rfl (by kernel_rfl) (fun _ _ _ h => h) (by rfl)
     ·intro w'; go_simp; rfl
     ·simp only [Act.put, sT_, sZ_, sS_, Ah, Ai]; rfl
     first
     | (refine Ei (i := 18) (N := some 43) (v := undef) (a' := ?_) #[Y_,Y_,Y_,Y_,Y_,Y_,Y_,Y_,Y_,Y_,Y_,Y_,Y_,Y_,Y_,Y_,Y_,Y_,Y_,N_,N_,N_,N_,N_,N_,N_,N_,N_,N_,N_,N_,N_] rfl rfl (Di HT_.o (by kernel_rfl)) (fun _ _ _ h => h) (Or.inr ⟨by rfl, rfl⟩) ?_ ?_
        rotate_left
        ·simp only [Act.put, sT_, sZ_, sS_, Ah, Ai]
         rfl)
     | (refine Ei (i := 18) (N := some 43) (v := ?_) (a' := ?_) #[Y_,Y_,Y_,Y_,Y_,Y_,Y_,Y_,Y_,Y_,Y_,Y_,Y_,Y_,Y_,Y_,Y_,Y_,Y_,N_,N_,N_,N_,N_,N_,N_,N_,N_,N_,N_,N_,N_] rfl rfl (Di HT_.o (by kernel_rfl)) (fun _ _ _ h => h) (Or.inl ⟨by rfl, ?_⟩) ?_ ?_
        rotate_left
        ·intro w'
         go_simp
         rfl
        rotate_left
        ·simp only [Act.put, sT_, sZ_, sS_, Ah, Ai]
         rfl)
     first
     | (refine Ei (i := 19) (N := some 44) (v := undef) (a' := ?_) #[Y_,Y_,Y_,Y_,Y_,Y_,Y_,Y_,Y_,Y_,Y_,Y_,Y_,Y_,Y_,Y_,Y_,Y_,Y_,Y_,N_,N_,N_,N_,N_,N_,N_,N_,N_,N_,N_,N_] rfl rfl (Di HT_.o (by kernel_rfl)) (fun _ _ _ h => h) (Or.inr ⟨by rfl, rfl⟩) ?_ ?_
        rotate_left
        ·simp only [Act.put, sT_, sZ_, sS_, Ah, Ai]
         rfl)
     | (refine Ei (i := 19) (N := some 44) (v := ?_) (a' := ?_) #[Y_,Y_,Y_,Y_,Y_,Y_,Y_,Y_,Y_,Y_,Y_,Y_,Y_,Y_,Y_,Y_,Y_,Y_,Y_,Y_,N_,N_,N_,N_,N_,N_,N_,N_,N_,N_,N_,N_] rfl rfl (Di HT_.o (by kernel_rfl)) (fun _ _ _ h => h) (Or.inl ⟨by rfl, ?_⟩) ?_ ?_
        rotate_left
        ·intro w'
         go_simp
         rfl
        rotate_left
        ·simp only [Act.put, sT_, sZ_, sS_, Ah, Ai]
         rfl)
     first
     | (refine Ei (i := 20) (N := some 45) (v := undef) (a' := ?_) #[Y_,Y_,Y_,Y_,Y_,Y_,Y_,Y_,Y_,Y_,Y_,Y_,Y_,Y_,Y_,Y_,Y_,Y_,Y_,Y_,Y_,N_,N_,N_,N_,N_,N_,N_,N_,N_,N_,N_] rfl rfl (Di HT_.o (by kernel_rfl)) (fun _ _ _ h => h) (Or.inr ⟨by rfl, rfl⟩) ?_ ?_
        rotate_left
        ·simp only [Act.put, sT_, sZ_, sS_, Ah, Ai]
         rfl)
     | (refine Ei (i := 20) (N := some 45) (v := ?_) (a' := ?_) #[Y_,Y_,Y_,Y_,Y_,Y_,Y_,Y_,Y_,Y_,Y_,Y_,Y_,Y_,Y_,Y_,Y_,Y_,Y_,Y_,Y_,N_,N_,N_,N_,N_,N_,N_,N_,N_,N_,N_] rfl rfl (Di HT_.o (by kernel_rfl)) (fun _ _ _ h => h) (Or.inl ⟨by rfl, ?_⟩) ?_ ?_
        rotate_left
        ·intro w'
         go_simp
         rfl
        rotate_left
        ·simp only [Act.put, sT_, sZ_, sS_, Ah, Ai]
         rfl)
     first
     | (refine Ei (i := 21) (N := some 46) (v := undef) (a' := ?_) #[Y_,Y_,Y_,Y_,Y_,Y_,Y_,Y_,Y_,Y_,Y_,Y_,Y_,Y_,Y_,Y_,Y_,Y_,Y_,Y_,Y_,Y_,N_,N_,N_,N_,N_,N_,N_,N_,N_,N_] rfl rfl (Di HT_.o (by kernel_rfl)) (fun _ _ _ h => h) (Or.inr ⟨by rfl, rfl⟩) ?_ ?_
        rotate_left
        ·simp only [Act.put, sT_, sZ_, sS_, Ah, Ai]
         rfl)
     | (refine Ei (i := 21) (N := some 46) (v := ?_) (a' := ?_) #[Y_,Y_,Y_,Y_,Y_,Y_,Y_,Y_,Y_,Y_,Y_,Y_,Y_,Y_,Y_,Y_,Y_,Y_,Y_,Y_,Y_,Y_,N_,N_,N_,N_,N_,N_,N_,N_,N_,N_] rfl rfl (Di HT_.o (by kernel_rfl)) (fun _ _ _ h => h) (Or.inl ⟨by rfl, ?_⟩) ?_ ?_
        rotate_left
        ·intro w'
         go_simp
         rfl
        rotate_left
        ·simp only [Act.put, sT_, sZ_, sS_, Ah, Ai]
         rfl)
     first
     | (refine Ei (i := 22) (N := some 47) (v := undef) (a' := ?_) #[Y_,Y_,Y_,Y_,Y_,Y_,Y_,Y_,Y_,Y_,Y_,Y_,Y_,Y_,Y_,Y_,Y_,Y_,Y_,Y_,Y_,Y_,Y_,N_,N_,N_,N_,N_,N_,N_,N_,N_] rfl rfl (Di HT_.o (by kernel_rfl)) (fun _ _ _ h => h) (Or.inr ⟨by rfl, rfl⟩) ?_ ?_
        rotate_left
        ·simp only [Act.put, sT_, sZ_, sS_, Ah, Ai]
         rfl)
     | (refine Ei (i := 22) (N := some 47) (v := ?_) (a' := ?_) #[Y_,Y_,Y_,Y_,Y_,Y_,Y_,Y_,Y_,Y_,Y_,Y_,Y_,Y_,Y_,Y_,Y_,Y_,Y_,Y_,Y_,Y_,Y_,N_,N_,N_,N_,N_,N_,N_,N_,N_] rfl rfl (Di HT_.o (by kernel_rfl)) (fun _ _ _ h => h) (Or.inl ⟨by rfl, ?_⟩) ?_ ?_
        rotate_left
        ·intro w'
         go_simp
         rfl
        rotate_left
        ·simp only [Act.put, sT_, sZ_, sS_, Ah, Ai]
         rfl)
     first
     | (refine Ei (i := 23) (N := some 48) (v := undef) (a' := ?_) #[Y_,Y_,Y_,Y_,Y_,Y_,Y_,Y_,Y_,Y_,Y_,Y_,Y_,Y_,Y_,Y_,Y_,Y_,Y_,Y_,Y_,Y_,Y_,Y_,N_,N_,N_,N_,N_,N_,N_,N_] rfl rfl (Di HT_.o (by kernel_rfl)) (fun _ _ _ h => h) (Or.inr ⟨by rfl, rfl⟩) ?_ ?_
        rotate_left
        ·simp only [Act.put, sT_, sZ_, sS_, Ah, Ai]
         rfl)
     | (refine Ei (i := 23) (N := some 48) (v := ?_) (a' := ?_) #[Y_,Y_,Y_,Y_,Y_,Y_,Y_,Y_,Y_,Y_,Y_,Y_,Y_,Y_,Y_,Y_,Y_,Y_,Y_,Y_,Y_,Y_,Y_,Y_,N_,N_,N_,N_,N_,N_,N_,N_] rfl rfl (Di HT_.o (by kernel_rfl)) (fun _ _ _ h => h) (Or.inl ⟨by rfl, ?_⟩) ?_ ?_
        rotate_left
        ·intro w'
         go_simp
         rfl
        rotate_left
        ·simp only [Act.put, sT_, sZ_, sS_, Ah, Ai]
         rfl)
     first
     | (refine Ei (i := 24) (N := some 49) (v := undef) (a' := ?_) #[Y_,Y_,Y_,Y_,Y_,Y_,Y_,Y_,Y_,Y_,Y_,Y_,Y_,Y_,Y_,Y_,Y_,Y_,Y_,Y_,Y_,Y_,Y_,Y_,Y_,N_,N_,N_,N_,N_,N_,N_] rfl rfl (Di HT_.o (by kernel_rfl)) (fun _ _ _ h => h) (Or.inr ⟨by rfl, rfl⟩) ?_ ?_
        rotate_left
        ·simp only [Act.put, sT_, sZ_, sS_, Ah, Ai]
         rfl)
     | (refine Ei (i := 24) (N := some 49) (v := ?_) (a' := ?_) #[Y_,Y_,Y_,Y_,Y_,Y_,Y_,Y_,Y_,Y_,Y_,Y_,Y_,Y_,Y_,Y_,Y_,Y_,Y_,Y_,Y_,Y_,Y_,Y_,Y_,N_,N_,N_,N_,N_,N_,N_] rfl rfl (Di HT_.o (by kernel_rfl)) (fun _ _ _ h => h) (Or.inl ⟨by rfl, ?_⟩) ?_ ?_
        rotate_left
        ·intro w'
         go_simp
         rfl
        rotate_left
        ·simp only [Act.put, sT_, sZ_, sS_, Ah, Ai]
         rfl)
     first
     | (refine Ei (i := 25) (N := some 50) (v := undef) (a' := ?_) #[Y_,Y_,Y_,Y_,Y_,Y_,Y_,Y_,Y_,Y_,Y_,Y_,Y_,Y_,Y_,Y_,Y_,Y_,Y_,Y_,Y_,Y_,Y_,Y_,Y_,Y_,N_,N_,N_,N_,N_,N_] rfl rfl (Di HT_.o (by kernel_rfl)) (fun _ _ _ h => h) (Or.inr ⟨by rfl, rfl⟩) ?_ ?_
        rotate_left
        ·simp only [Act.put, sT_, sZ_, sS_, Ah, Ai]
         rfl)
     | (refine Ei (i := 25) (N := some 50) (v := ?_) (a' := ?_) #[Y_,Y_,Y_,Y_,Y_,Y_,Y_,Y_,Y_,Y_,Y_,Y_,Y_,Y_,Y_,Y_,Y_,Y_,Y_,Y_,Y_,Y_,Y_,Y_,Y_,Y_,N_,N_,N_,N_,N_,N_] rfl rfl (Di HT_.o (by kernel_rfl)) (fun _ _ _ h => h) (Or.inl ⟨by rfl, ?_⟩) ?_ ?_
        rotate_left
        ·intro w'
         go_simp
         rfl
        rotate_left
        ·simp only [Act.put, sT_, sZ_, sS_, Ah, Ai]
         rfl)
     first
     | (refine Ei (i := 26) (N := some 51) (v := undef) (a' := ?_) #[Y_,Y_,Y_,Y_,Y_,Y_,Y_,Y_,Y_,Y_,Y_,Y_,Y_,Y_,Y_,Y_,Y_,Y_,Y_,Y_,Y_,Y_,Y_,Y_,Y_,Y_,Y_,N_,N_,N_,N_,N_] rfl rfl (Di HT_.o (by kernel_rfl)) (fun _ _ _ h => h) (Or.inr ⟨by rfl, rfl⟩) ?_ ?_
        rotate_left
        ·simp only [Act.put, sT_, sZ_, sS_, Ah, Ai]
         rfl)
     | (refine En (i := 26) (N := some 51) (v := ?_) (a' := ?_) #[Y_,Y_,Y_,Y_,Y_,Y_,Y_,Y_,Y_,Y_,Y_,Y_,Y_,Y_,Y_,Y_,Y_,Y_,Y_,Y_,Y_,Y_,Y_,Y_,Y_,Y_,Y_,N_,N_,N_,N_,N_] rfl rfl (Cm HT_.o HW_.o (by kernel_rfl)) (fun _ _ _ h => h) (Or.inl ⟨by rfl, ?_⟩) hHeld ?_ ?_
        rotate_left
        ·intro w' hs_; have s0 := hs_.1; have s1 := hs_.2.1; ((have s2 := hs_.2.2.1; have s3 := hs_.2.2.2))
         go_simp
         rfl
        rotate_left
        ·simp only [Act.put, sT_, sZ_, sS_, Ah, Ai]
         rfl)
     first
     | (refine Ei (i := 27) (N := some 52) (v := undef) (a' := ?_) #[Y_,Y_,Y_,Y_,Y_,Y_,Y_,Y_,Y_,Y_,Y_,Y_,Y_,Y_,Y_,Y_,Y_,Y_,Y_,Y_,Y_,Y_,Y_,Y_,Y_,Y_,Y_,Y_,N_,N_,N_,N_] rfl rfl (Di HT_.o (by kernel_rfl)) (fun _ _ _ h => h) (Or.inr ⟨by rfl, rfl⟩) ?_ ?_
        rotate_left
        ·simp only [Act.put, sT_, sZ_, sS_, Ah, Ai]
         rfl)
     | (refine Ei (i := 27) (N := some 52) (v := ?_) (a' := ?_) #[Y_,Y_,Y_,Y_,Y_,Y_,Y_,Y_,Y_,Y_,Y_,Y_,Y_,Y_,Y_,Y_,Y_,Y_,Y_,Y_,Y_,Y_,Y_,Y_,Y_,Y_,Y_,Y_,N_,N_,N_,N_] rfl rfl (Di HT_.o (by kernel_rfl)) (fun _ _ _ h => h) (Or.inl ⟨by rfl, ?_⟩) ?_ ?_
        rotate_left
        ·intro w'
         go_simp
         rfl
        rotate_left
        ·simp only [Act.put, sT_, sZ_, sS_, Ah, Ai]
         rfl)
     first
     | (refine Ei (i := 28) (N := some 53) (v := undef) (a' := ?_) #[Y_,Y_,Y_,Y_,Y_,Y_,Y_,Y_,Y_,Y_,Y_,Y_,Y_,Y_,Y_,Y_,Y_,Y_,Y_,Y_,Y_,Y_,Y_,Y_,Y_,Y_,Y_,Y_,Y_,N_,N_,N_] rfl rfl (Di HT_.o (by kernel_rfl)) (fun _ _ _ h => h) (Or.inr ⟨by rfl, rfl⟩) ?_ ?_
        rotate_left
        ·simp only [Act.put, sT_, sZ_, sS_, Ah, Ai]
         rfl)
     | (refine Ei (i := 28) (N := some 53) (v := ?_) (a' := ?_) #[Y_,Y_,Y_,Y_,Y_,Y_,Y_,Y_,Y_,Y_,Y_,Y_,Y_,Y_,Y_,Y_,Y_,Y_,Y_,Y_,Y_,Y_,Y_,Y_,Y_,Y_,Y_,Y_,Y_,N_,N_,N_] rfl rfl (Di HT_.o (by kernel_rfl)) (fun _ _ _ h => h) (Or.inl ⟨by rfl, ?_⟩) ?_ ?_
        rotate_left
        ·intro w'
         go_simp
         rfl
        rotate_left
        ·simp only [Act.put, sT_, sZ_, sS_, Ah, Ai]
         rfl)
     first
     | (refine Ei (i := 29) (N := some 54) (v := undef) (a' := ?_) #[Y_,Y_,Y_,Y_,Y_,Y_,Y_,Y_,Y_,Y_,Y_,Y_,Y_,Y_,Y_,Y_,Y_,Y_,Y_,Y_,Y_,Y_,Y_,Y_,Y_,Y_,Y_,Y_,Y_,Y_,N_,N_] rfl rfl (Di HT_.o (by kernel_rfl)) (fun _ _ _ h => h) (Or.inr ⟨by rfl, rfl⟩) ?_ ?_
        rotate_left
        ·simp only [Act.put, sT_, sZ_, sS_, Ah, Ai]
         rfl)
     | (refine Ei (i := 29) (N := some 54) (v := ?_) (a' := ?_) #[Y_,Y_,Y_,Y_,Y_,Y_,Y_,Y_,Y_,Y_,Y_,Y_,Y_,Y_,Y_,Y_,Y_,Y_,Y_,Y_,Y_,Y_,Y_,Y_,Y_,Y_,Y_,Y_,Y_,Y_,N_,N_] rfl rfl (Di HT_.o (by kernel_rfl)) (fun _ _ _ h => h) (Or.inl ⟨by rfl, ?_⟩) ?_ ?_
        rotate_left
        ·intro w'
         go_simp
         rfl
        rotate_left
        ·simp only [Act.put, sT_, sZ_, sS_, Ah, Ai]
         rfl)
     first
     | (refine Ei (i := 30) (N := some 55) (v := undef) (a' := ?_) #[Y_,Y_,Y_,Y_,Y_,Y_,Y_,Y_,Y_,Y_,Y_,Y_,Y_,Y_,Y_,Y_,Y_,Y_,Y_,Y_,Y_,Y_,Y_,Y_,Y_,Y_,Y_,Y_,Y_,Y_,Y_,N_] rfl rfl (Di HT_.o (by kernel_rfl)) (fun _ _ _ h => h) (Or.inr ⟨by rfl, rfl⟩) ?_ ?_
        rotate_left
        ·simp only [Act.put, sT_, sZ_, sS_, Ah, Ai]
         rfl)
     | (refine Ei (i := 30) (N := some 55) (v := ?_) (a' := ?_) #[Y_,Y_,Y_,Y_,Y_,Y_,Y_,Y_,Y_,Y_,Y_,Y_,Y_,Y_,Y_,Y_,Y_,Y_,Y_,Y_,Y_,Y_,Y_,Y_,Y_,Y_,Y_,Y_,Y_,Y_,Y_,N_] rfl rfl (Di HT_.o (by kernel_rfl)) (fun _ _ _ h => h) (Or.inl ⟨by rfl, ?_⟩) ?_ ?_
        rotate_left
        ·intro w'
         go_simp
         rfl
        rotate_left
        ·simp only [Act.put, sT_, sZ_, sS_, Ah, Ai]
         rfl)
     apply pq_ 31 56 #[Y_,Y_,Y_,Y_,Y_,Y_,Y_,Y_,Y_,Y_,Y_,Y_,Y_,Y_,Y_,Y_,Y_,Y_,Y_,Y_,Y_,Y_,Y_,Y_,Y_,Y_,Y_,Y_,Y_,Y_,Y_,Y_] HT_ rfl rfl (by kernel_rfl) (fun _ _ _ h => h) (by rfl)
     ·intro w'; go_simp; rfl
     ·simp only [Act.put, sT_, sZ_, sS_, Ah, Ai]; rfl
     refine done_ (Fa HT_.o (by kernel_rfl)) ?_
     have hx2 : (w21.drewN nd).cell? (ad.add i) = some (.int .i64 x) := by first | exact hHeld.2.2.1 | exact hHeld.2.2
     have n0_ := Aa.k (Dk BK.o nd)
     have n1_ := Aa.k (Bh HB.o nd)
     have ho := HO.o
     clear BK HB HO hHeld hx HQ
     have BK := n0_
     have HB := n1_
     clear n0_ n1_
     (try clear f1)
     try clear f2 f3
     try clear hy f4 j1 j2 hw2
     rcases ho with ⟨hc, hr⟩ | ⟨hc, ⟨hR2, ⟨hq, hr⟩ | ⟨hq, k3, hk, hH⟩⟩ | ⟨hR2, ⟨hq, hr⟩ | ⟨hq, k3, hk, hH⟩⟩⟩
     all_goals try (cases hc; done)
     all_goals try (cases hR2; done)
     all_goals
      first
      | (subst hr
         try have g1 := decide_eq_true hq
         (try clear hq)
         go_wp2
         go_ret
         exact ⟨rfl, HB.o⟩)
      | (try have g1 : decide (x ≤ x8) = false := decide_eq_false (by omega)
         try have g2 : decide (x7 ≤ x) = false := decide_eq_false (by omega)
         have HH := Aa.k hH
         have HKK := Aa.k hk
         clear hq hH hk
         go_wp2
         go_roundg k3
         case measure => have := HKK.o; omega
         case rel => exact ⟨_, _, i + 1, rfl, rfl, by (rfl), HH, ⟨by have := HK1.o; have := HKK.o; omega⟩, BK, HB⟩)

/-! ### spec_l1Most: function 86 -/
def Ec.f (a0 : Int) (a1 : Int) : Option (Int) := if a0 > a1 then (some a0) else (some a1)
set_option maxHeartbeats 8000000 in
set_option maxRecDepth 100000 in
theorem Ec.calls (a0 : Int) (a1 : Int) (r : Int) (w : World) (h : Ec.f a0 a1 = some r) :
  Calls Try.prog 86 #[.int .i64 a0, .int .i64 a1] w fun e w' => e = .returned (.int .i64 r) ∧ Cu w w' := by
 have H : (if a0 > a1 then (some a0) else (some a1)) = some r := h
 clear h
 by_cases c3 : a0 > a1
 ·rw [if_pos c3] at H
  have c3b0 : decide (a1 < a0) = true := decide_eq_true c3
  clear c3
  obtain rfl := Option.some.inj H
  go_enter Try.func86, Try.ntmps86
  go_wp2
  go_ret
  exact ⟨by (rfl), by repeat (exact Cu.refl _)⟩
 rw [if_neg c3] at H
 have c3b0 : decide (a1 < a0) = false := decide_eq_false c3
 clear c3
 obtain rfl := Option.some.inj H
 go_enter Try.func86, Try.ntmps86
 go_wp2
 go_ret
 exact ⟨by (rfl), by repeat (exact Cu.refl _)⟩

/-! ### spec_l1Least: function 96 -/
def Et.f (a0 : Int) (a1 : Int) : Option (Int) := if a0 < a1 then (some a0) else (some a1)
set_option maxHeartbeats 8000000 in
set_option maxRecDepth 100000 in
theorem Et.calls (a0 : Int) (a1 : Int) (r : Int) (w : World) (h : Et.f a0 a1 = some r) :
  Calls Try.prog 96 #[.int .i64 a0, .int .i64 a1] w fun e w' => e = .returned (.int .i64 r) ∧ Cu w w' := by
 have H : (if a0 < a1 then (some a0) else (some a1)) = some r := h
 clear h
 by_cases c3 : a0 < a1
 ·rw [if_pos c3] at H
  have c3b0 : decide (a0 < a1) = true := decide_eq_true c3
  clear c3
  obtain rfl := Option.some.inj H
  go_enter Try.func96, Try.ntmps96
  go_wp2
  go_ret
  exact ⟨by (rfl), by repeat (exact Cu.refl _)⟩
 rw [if_neg c3] at H
 have c3b0 : decide (a0 < a1) = false := decide_eq_false c3
 clear c3
 obtain rfl := Option.some.inj H
 go_enter Try.func96, Try.ntmps96
 go_wp2
 go_ret
 exact ⟨by (rfl), by repeat (exact Cu.refl _)⟩

/-! ### spec_l2Gap: function 64 -/
def Fz.f (a0_0 : Int) (a0_1 : Bool) (a1 : Int) (a2 : Int) : Option (Int) := (Ec.f (wrap64 (a1 - a2)) (wrap64 (a2 - a1))).bind fun t134 => (if a0_1 = true then ((Et.f t134 (wrap64 (a0_0 - t134))).bind fun t135 => (some t135)) else (some t134))
set_option maxHeartbeats 8000000 in
set_option maxRecDepth 100000 in
theorem Fz.calls (a0_0 : Int) (a0_1 : Bool) (a1 : Int) (a2 : Int) (r : Int) (w : World) (h : Fz.f a0_0 a0_1 a1 a2 = some r) :
  Calls Try.prog 64 #[.agg #[.int .i64 a0_0, .bool a0_1], .int .i64 a1, .int .i64 a2] w fun e w' => e = .returned (.int .i64 r) ∧ Below w.heap.size w w' := by
 have hu25 := Try.underlying25
 have HB := Aa.k (Below.refl w.heap.size w)
 have H : ((Ec.f (wrap64 (a1 - a2)) (wrap64 (a2 - a1))).bind fun t134 => (if a0_1 = true then ((Et.f t134 (wrap64 (a0_0 - t134))).bind fun t135 => (some t135)) else (some t134))) = some r := h
 clear h
 obtain ⟨t134, A40, H⟩ := bindS_ H
 try dsimp only at H
 have A4 := Aa.k A40
 clear A40
 by_cases c5 : a0_1 = true
 rotate_left
 ·replace c5 := Bool.eq_false_iff.mpr c5
  subst c5
  rw [if_neg (show ¬ (false = true) by decide)] at H
  obtain rfl := Option.some.inj H
  go_enter Try.func64, Try.ntmps64
  go_wp2_with (first | ((with_reducible refine Be (N := 3) rfl ?_); refine Bo ?hg (N := 3) ?hd (cs := #[.int .i64 a0_0, .bool false]) (t := 25) ?hr ?_; (case hd => rfl); (case hg => rfl); (case hr => (go_simp; done)); intro gb133 hg w9 hbox hb; have n0_ := Aa.k (Ad HB.o hb); have n1_ := Aa.k (hbox); have n2_ := Aa.k ((by rw [hg]; exact (Af HB.o) : w.heap.size ≤ gb133)); have n3_ := Aa.k ((by rw [hg]; exact (Af HB.o) : w.heap.size ≤ gb133)); clear HB; have HB := n0_; have BK133 := n1_; have GW133 := n2_; have GE133 := n3_; clear n0_ n1_ n2_ n3_; clear hb hbox hg) | ((with_reducible refine Aj (f := 86) rfl ?_); refine Bf (some 14) rfl rfl Try.func86 (by kernel_rfl) rfl #[.int .i64 (wrap64 (a1 - a2)), .int .i64 (wrap64 (a2 - a1))] rfl (by (try simp only [mT_, mC_, mN_]); rfl) ?_; (with_reducible refine (Ec.calls (wrap64 (a1 - a2)) (wrap64 (a2 - a1)) t134 _ A4.o).mono ?_); rintro e w' ⟨rfl, ⟨nd, rfl⟩⟩; refine ⟨_, rfl, ?_⟩; have hcz10_0 := Bj BK133.o; have hcz10_1 := Bn BK133.o; have hfz10_0 := Ac BK133.o 0; have hfz10_1 := Ac BK133.o 1))
  go_ret
  exact ⟨by (rfl), by repeat ((with_reducible first | exact HB.o | apply Bh))⟩
 subst c5
 rw [if_pos rfl] at H
 obtain ⟨t135, A60, H⟩ := bindS_ H
 try dsimp only at H
 have A6 := Aa.k A60
 clear A60
 obtain rfl := Option.some.inj H
 go_enter Try.func64, Try.ntmps64
 go_wp2_with (first | ((with_reducible refine Be (N := 3) rfl ?_); refine Bo ?hg (N := 3) ?hd (cs := #[.int .i64 a0_0, .bool true]) (t := 25) ?hr ?_; (case hd => rfl); (case hg => rfl); (case hr => (go_simp; done)); intro gb133 hg w7 hbox hb; have n0_ := Aa.k (Ad HB.o hb); have n1_ := Aa.k (hbox); have n2_ := Aa.k ((by rw [hg]; exact (Af HB.o) : w.heap.size ≤ gb133)); have n3_ := Aa.k ((by rw [hg]; exact (Af HB.o) : w.heap.size ≤ gb133)); clear HB; have HB := n0_; have BK133 := n1_; have GW133 := n2_; have GE133 := n3_; clear n0_ n1_ n2_ n3_; clear hb hbox hg) | ((with_reducible refine Aj (f := 86) rfl ?_); refine Bf (some 14) rfl rfl Try.func86 (by kernel_rfl) rfl #[.int .i64 (wrap64 (a1 - a2)), .int .i64 (wrap64 (a2 - a1))] rfl (by (try simp only [mT_, mC_, mN_]); rfl) ?_; (with_reducible refine (Ec.calls (wrap64 (a1 - a2)) (wrap64 (a2 - a1)) t134 _ A4.o).mono ?_); rintro e w' ⟨rfl, ⟨nd, rfl⟩⟩; refine ⟨_, rfl, ?_⟩; have hcz8_0 := Bj BK133.o; have hcz8_1 := Bn BK133.o; have hfz8_0 := Ac BK133.o 0; have hfz8_1 := Ac BK133.o 1) | ((with_reducible refine Aj (f := 96) rfl ?_); refine Bf (some 22) rfl rfl Try.func96 (by kernel_rfl) rfl #[.int .i64 t134, .int .i64 (wrap64 (a0_0 - t134))] rfl (by (try simp only [mT_, mC_, mN_]); rfl) ?_; (with_reducible refine (Et.calls t134 (wrap64 (a0_0 - t134)) t135 _ A6.o).mono ?_); rintro e w' ⟨rfl, ⟨nd, rfl⟩⟩; refine ⟨_, rfl, ?_⟩))
 go_ret
 exact ⟨by (rfl), by repeat ((with_reducible first | exact HB.o | apply Bh))⟩

end Go.Proofs.Ytogflbocmiogpaa.PFnBestSearch
