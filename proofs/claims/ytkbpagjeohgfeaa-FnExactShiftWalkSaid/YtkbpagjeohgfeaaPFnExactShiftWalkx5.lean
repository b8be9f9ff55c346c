-- Written for this claim by this session's turned copy of the printer.
import Derived.Test.YtkbpagjeohgfeaaPFnExactShiftWalkx0
import Derived.Test.YtkbpagjeohgfeaaPFnExactShiftWalkx3
import Derived.Test.YtkbpagjeohgfeaaPFnExactShiftWalkx4
namespace Go.Proofs.Ytkbpagjeohgfeaa.PFnExactShiftWalk
open Go.RowKit Go.Proofs.YtkbpagjeohgfeaaW.PrintWords Go.Proofs.YtkbpagjeohgfeaaW.PrintLast Go.Proofs.YtkbpagjeohgfeaaW.PrintMore
attribute [local go_sem] max2_int min2_int max_two min_two max_three min_three max_four min_four   -- for this text's walks alone
set_option linter.unusedVariables false
set_option linter.unusedSimpArgs false

/-! ### impl_ShiftWalk: function 23 -/
def impl_ShiftWalk.f (k : Nat) (a0_0 : Int) (a0_1 : Bool) (l1 : List Int) (a2 : Int) : Option (List Int × Bool) := (impl_areWalks.f k a0_0 a0_1 [l1]).bind fun t => if t = true then (if a0_1 = true then ((impl_Road_has.f k a0_0 a0_1 [a2]).bind fun b => if b = true then (if l1.length < 17592186044416 then (if a0_0 = 0 then none else some (l1.map fun p => Int.tmod (wrap64 (p + a2)) a0_0, true)) else none) else some ([], false)) else some ([], false)) else some ([], false)
theorem impl_ShiftWalk.mono : ∀ a0 a1 a2 a3 k, LeO (impl_ShiftWalk.f k a0 a1 a2 a3) (impl_ShiftWalk.f (k + 1) a0 a1 a2 a3) :=
  fun n g l a k => LeO.bind (impl_areWalks.mono n g [l] k) fun _ => LeO.ite (LeO.ite (LeO.bind (impl_Road_has.mono n g [a] k) fun _ => LeO.refl _) (LeO.refl _)) (LeO.refl _)
theorem impl_ShiftWalk.one {W : World} {b : Nat} {A : Option Addr} {c : Nat} {l : List Int} (hcell : W.cell? ⟨b, 0, none⟩ = some (.slice A l.length c)) (hc : l.length ≤ c) (hr : Kd.C (Kd.int .i64) W A l.length l) : Kd.C (Kd.slice 3 (Kd.int .i64)) W (some ⟨b, 0, none⟩) [l].length [l] :=
  ⟨rfl, by simp, fun _ => ⟨_, rfl, fun j p hp => by
    match j, hp with
    | 0, hp =>
      simp only [List.getElem?_cons_zero, Option.some.injEq] at hp
      subst hp
      refine ⟨[.slice A l.length c], rfl, ⟨A, c, rfl, hc, hr⟩, fun i u hu => ?_⟩
      match i, hu with
      | 0, hu =>
        simp only [List.getElem?_cons_zero, Option.some.injEq] at hu
        subst hu
        exact hcell
      | i + 1, hu => simp at hu
    | j + 1, hp => simp at hp⟩⟩
theorem impl_ShiftWalk.one_int {W : World} {b : Nat} {x : Int} (hcell : W.cell? ⟨b, 0, none⟩ = some (.int .i64 x)) : Kd.C (Kd.int .i64) W (some ⟨b, 0, none⟩) [x].length [x] :=
  Kd.C_of_reads (d := (0 : Int)) (h1 := fun _ => rfl) ⟨rfl, by simp, fun _ => ⟨_, rfl, fun j hj => by
    obtain rfl : j = 0 := by simp at hj; omega
    exact hcell⟩⟩
set_option maxHeartbeats 1600000 in
set_option maxRecDepth 100000 in
theorem impl_ShiftWalk.lit_calls (n : Int) (g : Bool) (a x : Int) (W : World) (b0 b1 : Nat) (h0 : W.heap[b0]? = some (.cells #[.int .i64 n, .bool g] 27 (0, 0))) (h1 : W.heap[b1]? = some (.cells #[.int .i64 a] 3 (0, 0))) (hn : n ≠ 0) :
    Calls Try.prog 51 #[.int .i64 x, .pointer (some ⟨b1, 0, none⟩), .pointer (some ⟨b0, 0, none⟩)] W fun e W' => e = .returned (.int .i64 (Int.tmod (wrap64 (x + a)) n)) ∧ Below W.heap.size W W' := by
  have hu := Try.underlying27
  have hz0 : W.cell? ⟨b0, 0, none⟩ = some (.int .i64 n) := (blk_cell h0 0).trans rfl
  have hz1 : W.cell? ⟨b1, 0, none⟩ = some (.int .i64 a) := (blk_cell h1 0).trans rfl
  have hn0 : (n == 0) = false := beq_eq_false_iff_ne.mpr hn
  have hn1 : (n != 0) = true := bne_iff_ne.mpr hn
  clear h0 h1
  go_enter Try.func51, Try.ntmps51
  go_wp2
  go_ret
  exact ⟨by first | rfl | simp [*], Below.refl _ _⟩
set_option maxHeartbeats 1600000 in
set_option maxRecDepth 100000 in
theorem impl_ShiftWalk.calls (k : Nat) (a0_0 : Int) (a0_1 : Bool) (A1 : Option Addr) (c1 : Nat) (l1 : List Int) (a2 : Int) (r1 : List Int) (r2 : Bool) (w : World) (hr1 : Kd.C (Kd.int .i64) w A1 l1.length l1) (hc1 : l1.length ≤ c1) (h : impl_ShiftWalk.f k a0_0 a0_1 l1 a2 = some (r1, r2)) :
    Calls Try.prog 23 #[.agg #[.int .i64 a0_0, .bool a0_1], .slice A1 l1.length c1, .int .i64 a2] w fun e w' => ∃ v0_ : Value, e = .returned (.tuple #[v0_, .bool r2]) ∧ Kd.R (Kd.int .i64) 3 w' w.heap.size (fun _ => True) v0_ r1 ∧ Below w.heap.size w w' := by
  have hu := Try.underlying27
  have HR := Aside0.mk hr1
  have HC := Aside0.mk hc1
  unfold impl_ShiftWalk.f at h
  obtain ⟨t, h1, h2⟩ := Option.bind_eq_some_iff.mp h
  have H1 := Aside0.mk h1
  clear hr1 hc1 h h1
  cases t with
  | false =>
    rw [if_neg (by simp)] at h2
    simp only [Option.some.injEq, Prod.mk.injEq] at h2
    obtain ⟨rfl, rfl⟩ := h2
    go_enter Try.func23, Try.ntmps23
    go_wp2_with (go_at_call 46; refine (impl_areWalks.calls k a0_0 a0_1 _ _ [l1] false _ (impl_ShiftWalk.one (by go_simp) HC.out (Kd.C_alloc (Kd.C_alloc (Kd.C_alloc HR.out _) _) _)) (Nat.le_refl _) H1.out).mono ?_; rintro e w1 ⟨rfl, hb⟩; have HB := Aside0.mk (below_step (below_alloc (below_alloc (below_alloc (Below.refl _ _) _) _) _) hb); have hk := blk_below (blk_alloc (blk_alloc (blk_new w (.cells #[.int .i64 a0_0, .bool a0_1] 27)) _) _) hb; have hk2 := blk_below (blk_alloc (blk_new (w.alloc (.cells #[.int .i64 a0_0, .bool a0_1] 27)) (.cells #[.int .i64 a2] 3)) _) hb; rw [show (w.alloc (.cells #[.int .i64 a0_0, .bool a0_1] 27)).heap.size = w.heap.size + 1 from by simp] at hk2; have HK := Aside0.mk hk; have HK2 := Aside0.mk hk2; have hz0 := (blk_cell hk 0).trans rfl; have hz1 := (blk_cell hk 1).trans rfl; have hz2 := (blk_cell hk2 0).trans rfl; have hf0 := blk_frozen hk 0; have hf1 := blk_frozen hk 1; have hf2 := blk_frozen hk2 0; clear hb hk hk2)
    go_ret2
    exact ⟨_, rfl, Kd.R_nil _ _ _ _ _, HB.out⟩
  | true =>
    rw [if_pos rfl] at h2
    cases a0_1 with
    | false =>
      rw [if_neg (by simp)] at h2
      simp only [Option.some.injEq, Prod.mk.injEq] at h2
      obtain ⟨rfl, rfl⟩ := h2
      go_enter Try.func23, Try.ntmps23
      go_wp2_with (go_at_call 46; refine (impl_areWalks.calls k a0_0 false _ _ [l1] true _ (impl_ShiftWalk.one (by go_simp) HC.out (Kd.C_alloc (Kd.C_alloc (Kd.C_alloc HR.out _) _) _)) (Nat.le_refl _) H1.out).mono ?_; rintro e w1 ⟨rfl, hb⟩; have HB := Aside0.mk (below_step (below_alloc (below_alloc (below_alloc (Below.refl _ _) _) _) _) hb); have hk := blk_below (blk_alloc (blk_alloc (blk_new w (.cells #[.int .i64 a0_0, .bool false] 27)) _) _) hb; have hk2 := blk_below (blk_alloc (blk_new (w.alloc (.cells #[.int .i64 a0_0, .bool false] 27)) (.cells #[.int .i64 a2] 3)) _) hb; rw [show (w.alloc (.cells #[.int .i64 a0_0, .bool false] 27)).heap.size = w.heap.size + 1 from by simp] at hk2; have HK := Aside0.mk hk; have HK2 := Aside0.mk hk2; have hz0 := (blk_cell hk 0).trans rfl; have hz1 := (blk_cell hk 1).trans rfl; have hz2 := (blk_cell hk2 0).trans rfl; have hf0 := blk_frozen hk 0; have hf1 := blk_frozen hk 1; have hf2 := blk_frozen hk2 0; clear hb hk hk2)
      go_ret2
      exact ⟨_, rfl, Kd.R_nil _ _ _ _ _, HB.out⟩
    | true =>
      rw [if_pos rfl] at h2
      obtain ⟨b, h3, h4⟩ := Option.bind_eq_some_iff.mp h2
      have H3 := Aside0.mk h3
      clear h2 h3
      cases b with
      | false =>
        rw [if_neg (by simp)] at h4
        simp only [Option.some.injEq, Prod.mk.injEq] at h4
        obtain ⟨rfl, rfl⟩ := h4
        go_enter Try.func23, Try.ntmps23
        go_wp2_with (first | (go_at_call 46; refine (impl_areWalks.calls k a0_0 true _ _ [l1] true _ (impl_ShiftWalk.one (by go_simp) HC.out (Kd.C_alloc (Kd.C_alloc (Kd.C_alloc HR.out _) _) _)) (Nat.le_refl _) H1.out).mono ?_; rintro e w1 ⟨rfl, hb⟩; have HB := Aside0.mk (below_step (below_alloc (below_alloc (below_alloc (Below.refl _ _) _) _) _) hb); have hk := blk_below (blk_alloc (blk_alloc (blk_new w (.cells #[.int .i64 a0_0, .bool true] 27)) _) _) hb; have hk2 := blk_below (blk_alloc (blk_new (w.alloc (.cells #[.int .i64 a0_0, .bool true] 27)) (.cells #[.int .i64 a2] 3)) _) hb; rw [show (w.alloc (.cells #[.int .i64 a0_0, .bool true] 27)).heap.size = w.heap.size + 1 from by simp] at hk2; have HK := Aside0.mk hk; have HK2 := Aside0.mk hk2; have hz0 := (blk_cell hk 0).trans rfl; have hz1 := (blk_cell hk 1).trans rfl; have hz2 := (blk_cell hk2 0).trans rfl; have hf0 := blk_frozen hk 0; have hf1 := blk_frozen hk 1; have hf2 := blk_frozen hk2 0; clear hb hk hk2) | (go_at_call 49; refine (impl_Road_has.calls k a0_0 true _ _ [a2] false _ (impl_ShiftWalk.one_int (by go_simp)) (Nat.le_refl _) H3.out).mono ?_; rintro e w2 ⟨rfl, hb⟩; clear hz0 hz1 hz2 hf0 hf1 hf2; have hk := blk_below (blk_alloc HK.out _) hb; have hk2 := blk_below (blk_alloc HK2.out _) hb; have n1_ := Aside0.mk (below_step (below_alloc HB.out _) hb); clear HB HK HK2; have HB := n1_; have HK := Aside0.mk hk; have HK2 := Aside0.mk hk2; have hz0 := (blk_cell hk 0).trans rfl; have hz1 := (blk_cell hk 1).trans rfl; have hz2 := (blk_cell hk2 0).trans rfl; have hf0 := blk_frozen hk 0; have hf1 := blk_frozen hk 1; have hf2 := blk_frozen hk2 0; clear hb hk hk2 n1_))
        go_ret2
        exact ⟨_, rfl, Kd.R_nil _ _ _ _ _, HB.out⟩
      | true =>
        rw [if_pos rfl] at h4
        by_cases hl : l1.length < 17592186044416
        · rw [if_pos hl] at h4
          by_cases hn : a0_0 = 0
          · rw [if_pos hn] at h4
            cases h4
          · rw [if_neg hn] at h4
            simp only [Option.some.injEq, Prod.mk.injEq] at h4
            obtain ⟨rfl, rfl⟩ := h4
            have HL := Aside0.mk hl
            have HN := Aside0.mk hn
            clear hl hn
            go_enter Try.func23, Try.ntmps23
            go_wp2_with (first | (go_at_call 46; refine (impl_areWalks.calls k a0_0 true _ _ [l1] true _ (impl_ShiftWalk.one (by go_simp) HC.out (Kd.C_alloc (Kd.C_alloc (Kd.C_alloc HR.out _) _) _)) (Nat.le_refl _) H1.out).mono ?_; rintro e w1 ⟨rfl, hb⟩; have HB := Aside0.mk (below_step (below_alloc (below_alloc (below_alloc (Below.refl _ _) _) _) _) hb); have hk := blk_below (blk_alloc (blk_alloc (blk_new w (.cells #[.int .i64 a0_0, .bool true] 27)) _) _) hb; have hk2 := blk_below (blk_alloc (blk_new (w.alloc (.cells #[.int .i64 a0_0, .bool true] 27)) (.cells #[.int .i64 a2] 3)) _) hb; rw [show (w.alloc (.cells #[.int .i64 a0_0, .bool true] 27)).heap.size = w.heap.size + 1 from by simp] at hk2; have HK := Aside0.mk hk; have HK2 := Aside0.mk hk2; have hz0 := (blk_cell hk 0).trans rfl; have hz1 := (blk_cell hk 1).trans rfl; have hz2 := (blk_cell hk2 0).trans rfl; have hf0 := blk_frozen hk 0; have hf1 := blk_frozen hk 1; have hf2 := blk_frozen hk2 0; clear hb hk hk2) | (go_at_call 49; refine (impl_Road_has.calls k a0_0 true _ _ [a2] true _ (impl_ShiftWalk.one_int (by go_simp)) (Nat.le_refl _) H3.out).mono ?_; rintro e w2 ⟨rfl, hb⟩; clear hz0 hz1 hz2 hf0 hf1 hf2; have hk := blk_below (blk_alloc HK.out _) hb; have hk2 := blk_below (blk_alloc HK2.out _) hb; have n1_ := Aside0.mk (below_step (below_alloc HB.out _) hb); clear HB HK HK2; have HB := n1_; have HK := Aside0.mk hk; have HK2 := Aside0.mk hk2; have hz0 := (blk_cell hk 0).trans rfl; have hz1 := (blk_cell hk 1).trans rfl; have hz2 := (blk_cell hk2 0).trans rfl; have hf0 := blk_frozen hk 0; have hf1 := blk_frozen hk 1; have hf2 := blk_frozen hk2 0; clear hb hk hk2 n1_) | (go_at_call 50; refine (impl_mapped.calls_cap51 _ _ (fun p => Int.tmod (wrap64 (p + a2)) a0_0) _ _ l1 _ (Kd.C_below HR.out HB.out) HC.out HL.out (fun W hW x _ => impl_ShiftWalk.lit_calls a0_0 true a2 x W w.heap.size (w.heap.size + 1) (blk_below HK.out hW) (blk_below HK2.out hW) HN.out)).mono ?_; rintro e w3 ⟨v0, rfl, ho, hb⟩; have HO := Aside0.mk (Kd.R_lower ho (below_size HB.out)); have n1_ := Aside0.mk (below_step HB.out hb); clear HB ho hb; have HB := n1_; clear n1_))
            go_ret2
            exact ⟨_, rfl, HO.out, HB.out⟩
        · rw [if_neg hl] at h4
          cases h4


/-! ### laws_markIntS: function 24 -/
def laws_markIntS.l0 : Nat → List Int → Int → Int → Option (Int × List Int)
  | 0, _, _, _ => none
  | k + 1, x0, x1, x5 => if x5 < (x0.length : Int) then (if 0 ≤ x5 then (laws_markIntS.l0 k (x0.set (x5 : Int).toNat x1) (wrap64 (x1 + 1)) (wrap64 (x5 + 1))) else (none)) else (some (x1, x0))
def laws_markIntS.f (k : Nat) (l0 : List Int) (a1 : Int) : Option (Int × List Int) := laws_markIntS.l0 k l0 a1 0
theorem laws_markIntS.mono_l : ∀ k, (∀ y0 y1 y2, LeO (laws_markIntS.l0 k y0 y1 y2) (laws_markIntS.l0 (k + 1) y0 y1 y2))
  | 0 => fun _ _ _ r h => by simp [laws_markIntS.l0] at h
  | k + 1 => by
    have ih0 := laws_markIntS.mono_l k
    · intro y0 y1 y2
      unfold laws_markIntS.l0
      repeat' first
      | (with_reducible exact ih0 _ _ _)
      | (with_reducible exact LeO.refl _)
      | (with_reducible exact LeO.none _)
      | (with_reducible refine LeO.ite ?_ ?_)
      | (with_reducible refine LeO.bind ?_ (fun _ => ?_))
      | exact ih0 _ _ _
      | exact LeO.none _
      | refine LeO.ite ?_ ?_
      | refine LeO.bind ?_ (fun _ => ?_)
theorem laws_markIntS.mono : ∀ a0 a1 k, LeO (laws_markIntS.f k a0 a1) (laws_markIntS.f (k + 1) a0 a1) := by
  intro a0 a1 k
  have ih0 := laws_markIntS.mono_l k
  unfold laws_markIntS.f
  repeat' first
      | (with_reducible exact ih0 _ _ _)
      | (with_reducible exact LeO.refl _)
      | (with_reducible exact LeO.none _)
      | (with_reducible refine LeO.ite ?_ ?_)
      | (with_reducible refine LeO.bind ?_ (fun _ => ?_))
      | exact ih0 _ _ _
      | exact LeO.none _
      | refine LeO.ite ?_ ?_
      | refine LeO.bind ?_ (fun _ => ?_)
set_option maxHeartbeats 8000000 in
set_option maxRecDepth 100000 in
theorem laws_markIntS.calls (k : Nat) (P0_ : Nat → Prop) (u9000_ : Value) (l0 : List Int) (a1 : Int) (r1 : Int) (r2 : List Int) (w0 w : World) (hB : Below w0.heap.size w0 w) (ho0 : Kd.R (Kd.int .i64) 3 w w0.heap.size P0_ u9000_ l0) (h : laws_markIntS.f k l0 a1 = some (r1, r2)) :
    Calls Try.prog 24 #[u9000_, .int .i64 a1] w fun e w' => e = .returned (.int .i64 r1) ∧ Kd.R (Kd.int .i64) 3 w' w0.heap.size (fun k_ => (P0_ k_ ∨ w.heap.size ≤ k_)) u9000_ r2 ∧ Below w0.heap.size w0 w' ∧ Kept w w' (fun k_ => P0_ k_) := by
  have HO0 := Aside0.mk (show Kd.R (Kd.int .i64) 3 w w0.heap.size (fun k_ => (P0_ k_ ∨ w.heap.size ≤ k_)) u9000_ l0 from Kd.R_mono ho0 (fun k_ hk => (.inl hk)))
  have HK := Aside0.mk (Kept.refl w (fun k_ => P0_ k_))
  have HW0 := Aside0.mk hB.size
  have HB := Aside0.mk hB
  clear hB
  have H : (laws_markIntS.l0 k l0 a1 0) = some (r1, r2) := h
  clear h
  have H' := Aside0.mk H
  clear H
  go_enter Try.func24, Try.ntmps24
  go_wp2
  go_loopg [1, 5] k (fun kq v1 v5 w' => ∃ (x0_1 : List Int) (x1_1 : Int) (x5_1 : Int), v1 = .int .i64 x1_1 ∧ v5 = .int .i64 x5_1 ∧ Aside0 (laws_markIntS.l0 kq x0_1 x1_1 x5_1 = some (r1, r2)) ∧ Aside0 (kq ≤ k) ∧ Aside0 (Kd.R (Kd.int .i64) 3 w' w0.heap.size (fun k_ => (P0_ k_ ∨ w.heap.size ≤ k_)) u9000_ x0_1) ∧ Aside0 (Kept w w' (fun k_ => P0_ k_)) ∧ Aside0 (Below w0.heap.size w0 w'))
  case atStart => exact ⟨(l0), (a1), (0), (by first | rfl | (simp; done) | (simp [*]; done)), (by first | rfl | (simp; done) | (simp [*]; done)), H', ⟨Nat.le_refl _⟩, ⟨by (with_reducible repeat (first | apply Kd.R_alloc | apply Kd.R_drewN | apply Kd.R_drew)); exact HO0.out⟩, ⟨by repeat (first | (with_reducible first | exact HK.out | apply Kept.alloc | apply Kept.drewN | apply Kept.drew) | exact HK.out)⟩, ⟨by repeat (first | (with_reducible first | exact HB.out | apply below_alloc | apply pw_below_drewN | apply below_drew1) | exact HB.out)⟩⟩
  case round =>
    clear H'
    try clear c2
    try clear p2
    obtain ⟨x0_1, x1_1, x5_1, rfl, rfl, HA, HK1, HO_0, HK, HB⟩ := hrel
    cases gk with
    | zero => exact absurd HA.out (by simp [laws_markIntS.l0])
    | succ k1 =>
      have H := HA.out
      clear HA
      simp only [laws_markIntS.l0] at H
      by_cases c3 : x5_1 < (x0_1.length : Int)
      · rw [if_pos c3] at H
        have c3b0 : decide (x5_1 < (x0_1.length : Int)) = true := decide_eq_true c3
        clear c3
        by_cases c4 : 0 ≤ x5_1
        · rw [if_pos c4] at H
          have c4b0 : decide (0 ≤ x5_1) = true := decide_eq_true c4
          clear c4
          obtain ⟨y150, hy150⟩ : ∃ y_ : List Int, y_ = (x0_1.set (x5_1 : Int).toNat x1_1) := ⟨_, rfl⟩
          replace H : (laws_markIntS.l0 k1 y150 (wrap64 (x1_1 + 1)) (wrap64 (x5_1 + 1))) = some (r1, r2) := by first | (rw [hy150]; with_reducible exact H) | (have H2_ := (Option.bind_some _ _).symm.trans H; rw [hy150]; with_reducible exact H2_) | (have H2_ := (Option.bind_some _ _).symm.trans H; with_reducible exact H2_) | with_reducible exact H | (rw [hy150]; exact H) | exact H
          have Ny150 := Aside0.mk hy150
          clear hy150
          have H' := Aside0.mk H
          clear H
          obtain ⟨Ao6, co6, eo6⟩ := Kd.R_slice HO_0.out
          subst eo6
          have p5 : 0 ≤ (x5_1 : Int) := of_decide_eq_true (by first | (with_reducible assumption) | assumption)
          have q5 : (x5_1 : Int) < ((x0_1.length : Int) : Int) := of_decide_eq_true (by first | (with_reducible assumption) | assumption)
          obtain ⟨go5, co5, eo5, gb5, gl5, cl5, HG5⟩ := Kd.R_form HO_0.out (by omega)
          (first | cases eo5 | (injection eo5 with ea_ en_ ec_; (first | subst ea_ | (injection ea_ with ea_; subst ea_)); subst ec_; clear en_))
          have GB5 := Aside0.mk gb5
          have GG5 := Aside0.mk HG5
          clear gb5 gl5 HG5
          have HMgo5 := Aside0.mk (show (P0_ go5 ∨ w.heap.size ≤ go5) from (HO_0.out.1 _ rfl))
          obtain ⟨hx5_0, hf5_0⟩ := Kd.R_celln 0 HO_0.out (x5_1 : Int) p5 q5
          replace p5 := eq_true p5
          replace q5 := eq_true q5
          have HP7 := Kd.R_putg HO_0.out (x5_1 : Int) x1_1
          go_wp2_with (first | ((with_reducible refine gate_store (t := 3) (p := 15) rfl ?_); refine store_event (t := 3) (p := 15) (v := ?vo_w8) (w1 := (wr.setCell ⟨go5, (x5_1 : Int).toNat, none⟩ (.int .i64 x1_1))) ?hg ?ho ?hn ?hr ?_; (case ho => rfl); (case hg => rfl); (case hn => rfl); (case hr => first | (go_simp; done) | (go_simp; rfl)); intro w8 hw; have hg : wr.grownBy w8 (some go5) := (by rw [hw]; exact HP7.2); have hp_ : Kd.R (Kd.int .i64) 3 w8 w0.heap.size (fun k_ => (P0_ k_ ∨ w.heap.size ≤ k_)) (.slice (some ⟨go5, 0, none⟩) x0_1.length co6) y150 := (by rw [hw, Ny150.out]; exact HP7.1); clear HP7; have n0_ := Aside0.mk (hp_); have n1_ := Aside0.mk ((by rw [hw]; exact below_set (HB.out) GB5.out : Below w0.heap.size w0 w8)); have n2_ := Aside0.mk (Kept.of_grown (S := (fun k_ => P0_ k_)) hg (by repeat (first | (with_reducible first | exact HK.out | apply Kept.alloc | apply Kept.drewN | apply Kept.drew) | exact HK.out)) (fun k_ e_ => (HO_0.out.1 k_ e_))); clear HO_0; clear HB; clear HK; have HO_0 := n0_; have HB := n1_; have HK := n2_; clear n0_ n1_ n2_; clear hg hw hp_))
          go_roundg k1
          case measure => have := HK1.out; omega
          case rel => exact ⟨(y150), (wrap64 (x1_1 + 1)), (wrap64 (x5_1 + 1)), (by first | rfl | (simp; done) | (simp [*]; done)), (by first | rfl | (simp; done) | (simp [*]; done)), H', ⟨by have := HK1.out; omega⟩, ⟨by (with_reducible repeat (first | apply Kd.R_alloc | apply Kd.R_drewN | apply Kd.R_drew)); exact HO_0.out⟩, ⟨by repeat (first | (with_reducible first | exact HK.out | apply Kept.alloc | apply Kept.drewN | apply Kept.drew) | exact HK.out)⟩, ⟨by repeat (first | (with_reducible first | exact HB.out | apply below_alloc | apply pw_below_drewN | apply below_drew1) | exact HB.out)⟩⟩
        · rw [if_neg c4] at H
          exact absurd H (by simp)
      · rw [if_neg c3] at H
        have c3b0 : decide (x5_1 < (x0_1.length : Int)) = false := decide_eq_false c3
        clear c3
        simp only [Option.some.injEq, Prod.mk.injEq] at H
        obtain ⟨rfl, rfl⟩ := H
        obtain ⟨Ao9, co9, eo9⟩ := Kd.R_slice HO_0.out
        subst eo9
        go_wp2
        go_ret
        exact ⟨by first | rfl | (simp [errW_none, errW_some] <;> rfl) | (simp [*, errW_none, errW_some] <;> rfl), by (with_reducible repeat (first | apply Kd.R_alloc | apply Kd.R_drewN | apply Kd.R_drew)); exact HO_0.out, by repeat (first | (with_reducible first | exact HB.out | apply below_alloc | apply pw_below_drewN | apply below_drew1) | exact HB.out), by repeat (first | (with_reducible first | exact HK.out | apply Kept.alloc | apply Kept.drewN | apply Kept.drew) | exact HK.out)⟩

/-! ### laws_heldIntS: function 25 -/
def laws_heldIntS.l0 : Nat → List Int → Int → Int → Option (Int)
  | 0, _, _, _ => none
  | k + 1, x0, x1, x5 => if x5 < (x0.length : Int) then (if 0 ≤ x5 then (if (rd x0 x5) = x1 then (laws_heldIntS.l0 k x0 (wrap64 (x1 + 1)) (wrap64 (x5 + 1))) else (some (-1))) else (none)) else (some x1)
def laws_heldIntS.f (k : Nat) (l0 : List Int) (a1 : Int) : Option (Int) := laws_heldIntS.l0 k l0 a1 0
theorem laws_heldIntS.mono_l : ∀ k, (∀ y0 y1 y2, LeO (laws_heldIntS.l0 k y0 y1 y2) (laws_heldIntS.l0 (k + 1) y0 y1 y2))
  | 0 => fun _ _ _ r h => by simp [laws_heldIntS.l0] at h
  | k + 1 => by
    have ih0 := laws_heldIntS.mono_l k
    · intro y0 y1 y2
      unfold laws_heldIntS.l0
      repeat' first
      | (with_reducible exact ih0 _ _ _)
      | (with_reducible exact LeO.refl _)
      | (with_reducible exact LeO.none _)
      | (with_reducible refine LeO.ite ?_ ?_)
      | (with_reducible refine LeO.bind ?_ (fun _ => ?_))
      | exact ih0 _ _ _
      | exact LeO.none _
      | refine LeO.ite ?_ ?_
      | refine LeO.bind ?_ (fun _ => ?_)
theorem laws_heldIntS.mono : ∀ a0 a1 k, LeO (laws_heldIntS.f k a0 a1) (laws_heldIntS.f (k + 1) a0 a1) := by
  intro a0 a1 k
  have ih0 := laws_heldIntS.mono_l k
  unfold laws_heldIntS.f
  repeat' first
      | (with_reducible exact ih0 _ _ _)
      | (with_reducible exact LeO.refl _)
      | (with_reducible exact LeO.none _)
      | (with_reducible refine LeO.ite ?_ ?_)
      | (with_reducible refine LeO.bind ?_ (fun _ => ?_))
      | exact ih0 _ _ _
      | exact LeO.none _
      | refine LeO.ite ?_ ?_
      | refine LeO.bind ?_ (fun _ => ?_)
set_option maxHeartbeats 8000000 in
set_option maxRecDepth 100000 in
theorem laws_heldIntS.calls (k : Nat) (A0 : Option Addr) (c0 : Nat) (l0 : List Int) (a1 : Int) (r : Int) (w : World) (hr0 : Kd.C (Kd.int .i64) w A0 l0.length l0) (hc0 : l0.length ≤ c0) (h : laws_heldIntS.f k l0 a1 = some r) :
    Calls Try.prog 25 #[.slice A0 l0.length c0, .int .i64 a1] w fun e w' => e = .returned (.int .i64 r) ∧ Drawn0 w w' := by
  have HR0 := Aside0.mk hr0
  have HC0 := Aside0.mk hc0
  clear hr0 hc0
  have H : (laws_heldIntS.l0 k l0 a1 0) = some r := h
  clear h
  have H' := Aside0.mk H
  clear H
  go_enter Try.func25, Try.ntmps25
  go_wp2
  go_loopg [1, 5] k (fun kq v1 v5 w' => ∃ (x1_1 : Int) (x5_1 : Int), v1 = .int .i64 x1_1 ∧ v5 = .int .i64 x5_1 ∧ Aside0 (laws_heldIntS.l0 kq l0 x1_1 x5_1 = some r) ∧ Aside0 (kq ≤ k) ∧ Drawn0 w w')
  case atStart => exact ⟨(a1), (0), (by first | rfl | (simp; done) | (simp [*]; done)), (by first | rfl | (simp; done) | (simp [*]; done)), H', ⟨Nat.le_refl _⟩, by repeat (first | exact Drawn0.refl _ | apply Drawn0.step)⟩
  case round =>
    clear H'
    try clear c2
    try clear p2
    obtain ⟨x1_1, x5_1, rfl, rfl, HA, HK1, ⟨m1, rfl⟩⟩ := hrel
    cases gk with
    | zero => exact absurd HA.out (by simp [laws_heldIntS.l0])
    | succ k1 =>
      have H := HA.out
      clear HA
      simp only [laws_heldIntS.l0] at H
      by_cases c3 : x5_1 < (l0.length : Int)
      · rw [if_pos c3] at H
        have c3b0 : decide (x5_1 < (l0.length : Int)) = true := decide_eq_true c3
        clear c3
        by_cases c4 : 0 ≤ x5_1
        · rw [if_pos c4] at H
          have c4b0 : decide (0 ≤ x5_1) = true := decide_eq_true c4
          clear c4
          by_cases c5 : (rd l0 x5_1) = x1_1
          · rw [if_pos c5] at H
            have c5b0 : ((rd l0 x5_1) == x1_1) = true := beq_iff_eq.mpr c5
            have c5b1 : ((rd l0 x5_1) != x1_1) = false := bne_eq_false_iff_eq.mpr c5
            clear c5
            have H' := Aside0.mk H
            clear H
            have p151 : 0 ≤ (x5_1 : Int) := of_decide_eq_true (by first | (with_reducible assumption) | assumption)
            have q151 : x5_1 < (l0.length : Int) := of_decide_eq_true (by first | (with_reducible assumption) | assumption)
            obtain ⟨ad151, e151, hx151_0⟩ := Kd.at_int HR0.out x5_1 p151 q151
            cases e151
            replace p151 := eq_true p151
            replace q151 := eq_true q151
            go_wp2
            go_roundg k1
            case measure => have := HK1.out; omega
            case rel => exact ⟨(wrap64 (x1_1 + 1)), (wrap64 (x5_1 + 1)), (by first | rfl | (simp; done) | (simp [*]; done)), (by first | rfl | (simp; done) | (simp [*]; done)), H', ⟨by have := HK1.out; omega⟩, by repeat (first | exact Drawn0.refl _ | apply Drawn0.step)⟩
          · rw [if_neg c5] at H
            have c5b0 : ((rd l0 x5_1) == x1_1) = false := beq_eq_false_iff_ne.mpr c5
            have c5b1 : ((rd l0 x5_1) != x1_1) = true := bne_iff_ne.mpr c5
            obtain rfl := Option.some.inj H
            have p151 : 0 ≤ (x5_1 : Int) := of_decide_eq_true (by first | (with_reducible assumption) | assumption)
            have q151 : x5_1 < (l0.length : Int) := of_decide_eq_true (by first | (with_reducible assumption) | assumption)
            obtain ⟨ad151, e151, hx151_0⟩ := Kd.at_int HR0.out x5_1 p151 q151
            cases e151
            replace p151 := eq_true p151
            replace q151 := eq_true q151
            go_wp2
            go_ret
            exact ⟨by first | rfl | (simp; done) | (simp [*]; done), by repeat (first | exact Drawn0.refl _ | apply Drawn0.step)⟩
        · rw [if_neg c4] at H
          exact absurd H (by simp)
      · rw [if_neg c3] at H
        have c3b0 : decide (x5_1 < (l0.length : Int)) = false := decide_eq_false c3
        clear c3
        obtain rfl := Option.some.inj H
        go_wp2
        go_ret
        exact ⟨by first | rfl | (simp; done) | (simp [*]; done), by repeat (first | exact Drawn0.refl _ | apply Drawn0.step)⟩

end Go.Proofs.Ytkbpagjeohgfeaa.PFnExactShiftWalk
