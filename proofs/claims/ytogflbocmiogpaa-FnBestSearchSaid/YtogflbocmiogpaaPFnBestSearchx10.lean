-- Written for this claim by this session's turned copy of the printer.
import Derived.Test.YtogflbocmiogpaaPFnBestSearchx0
import Derived.Test.YtogflbocmiogpaaPFnBestSearchx2
namespace Go.Proofs.Ytogflbocmiogpaa.PFnBestSearch
open Go.RowKit Go.Proofs.YtogflbocmiogpaaW.PrintWords Go.Proofs.YtogflbocmiogpaaW.PrintLast Go.Proofs.YtogflbocmiogpaaW.PrintMore
open List renaming setIfInBounds_toArray → sT_, set_cons_zero → sZ_, set_cons_succ → sS_, map_toArray → mT_, map_cons → mC_, map_nil → mN_
open Bool renaming true → Y_, false → N_
attribute [local go_sem] max2_int min2_int max_two min_two Fj Fh max_four min_four   -- for this text's walks alone
set_option linter.unusedVariables false
set_option linter.unusedSimpArgs false

/-- A state of type 68 at block g of W; what its slices lead to came in by w0. -/
def Bc (w0 W : World) (g : Nat) (f0 : List Int) (f1 : Int) (f2 : Int) : Prop := ∃ A0 c0, W.heap[g]? = some (.cells #[.slice A0 f0.length c0, .int .i64 f1, .int .u64 f2] 68 (0, 0)) ∧ w0.heap.size ≤ g ∧ Kd.C (Kd.int .u8) w0 A0 f0.length f0
theorem Bc.grown {w0 W : World} {g : Nat} {f0 : List Int} {f1 : Int} {f2 : Int} {W1 : World} {row : Option Nat} (h : Bc w0 W g f0 f1 f2) (hw : W.grownBy W1 row) (hne : some g ≠ row) : Bc w0 W1 g f0 f1 f2 := by
 obtain ⟨A0, c0, hb, hg, hr0⟩ := h
 exact ⟨A0, c0, Fb hb hw hne, hg, hr0⟩
theorem Bc.below {w0 W : World} {g : Nat} {f0 : List Int} {f1 : Int} {f2 : Int} {W1 : World} (h : Bc w0 W g f0 f1 f2) (hw : Below W.heap.size W W1) : Bc w0 W1 g f0 f1 f2 := h.grown (grown_of_below hw none) (by simp)
theorem Bc.alloc {w0 W : World} {g : Nat} {f0 : List Int} {f1 : Int} {f2 : Int} (h : Bc w0 W g f0 f1 f2) (o : Obj) : Bc w0 (W.alloc o) g f0 f1 f2 := h.below (Dq (Below.refl _ _) o)
theorem Bc.drewN {w0 W : World} {g : Nat} {f0 : List Int} {f1 : Int} {f2 : Int} (h : Bc w0 W g f0 f1 f2) (m : Nat) : Bc w0 (W.drewN m) g f0 f1 f2 := h
theorem Bc.drew {w0 W : World} {g : Nat} {f0 : List Int} {f1 : Int} {f2 : Int} (h : Bc w0 W g f0 f1 f2) : Bc w0 W.drew g f0 f1 f2 := h
theorem Bc.at_ {w0 W : World} {g : Nat} {f0 : List Int} {f1 : Int} {f2 : Int} {w' : World} {m : Nat} (hq : W.drewN m = w') (h : Bc w0 W g f0 f1 f2) : Bc w0 w' g f0 f1 f2 := by subst hq; exact Bc.drewN h m
theorem Bc.apart {w0 W : World} {g : Nat} {f0 : List Int} {f1 : Int} {f2 : Int} {α : Type} {d : Kd α} {e : Nat} {base : Nat} {ok : Nat → Prop} {v : Value} {xs : List α} (h : Bc w0 W g f0 f1 f2) (ho : d.R e W base ok v xs) (ht : ∀ q, q ∈ e :: d.E → q ≠ 68) : d.R e W base (fun k => ok k ∧ k ≠ g) v xs := by
 obtain ⟨A0, c0, hb, hg, hr0⟩ := h
 exact Kd.Dh ho hb ht
theorem Bc.own_ne {w0 W : World} {g : Nat} {f0 : List Int} {f1 : Int} {f2 : Int} {α : Type} {d : Kd α} {e : Nat} {base : Nat} {ok : Nat → Prop} {v : Value} {xs : List α} (h : Bc w0 W g f0 f1 f2) (ho : d.R e W base ok v xs) (ht : e ≠ 68) : some g ≠ v.ownBlock := by
 obtain ⟨A0, c0, hb, hg, hr0⟩ := h
 exact Kd.R_ne ho hb ht
theorem Bc.lt {w0 W : World} {g : Nat} {f0 : List Int} {f1 : Int} {f2 : Int} (h : Bc w0 W g f0 f1 f2) : g < W.heap.size := by
 obtain ⟨A0, c0, hb, hg, hr0⟩ := h
 exact Ca hb
theorem Bc.ge {w0 W : World} {g : Nat} {f0 : List Int} {f1 : Int} {f2 : Int} (h : Bc w0 W g f0 f1 f2) : w0.heap.size ≤ g := by
 obtain ⟨A0, c0, hb, hg, hr0⟩ := h
 exact hg
theorem Bc.far {w0 W : World} {g : Nat} {f0 : List Int} {f1 : Int} {f2 : Int} {p : Addr} (h : Bc w0 W g f0 f1 f2) (hne : g ≠ p.block) (u : Value) : Bc w0 (W.setCell p u) g f0 f1 f2 := by
 obtain ⟨A0, c0, hb, hg, hr0⟩ := h
 exact ⟨A0, c0, Cb hb hne u, hg, hr0⟩
theorem cellS68_0 {W : World} {g : Nat} {A0 : Option Addr} {c0 : Nat} {f0 : List Int} {f1 : Int} {f2 : Int} (h : W.heap[g]? = some (.cells #[.slice A0 f0.length c0, .int .i64 f1, .int .u64 f2] 68 (0, 0))) : W.cell? ⟨g, 0, none⟩ = some (.slice A0 f0.length c0) := (Aw h 0).trans rfl
theorem cellS68_1 {W : World} {g : Nat} {A0 : Option Addr} {c0 : Nat} {f0 : List Int} {f1 : Int} {f2 : Int} (h : W.heap[g]? = some (.cells #[.slice A0 f0.length c0, .int .i64 f1, .int .u64 f2] 68 (0, 0))) : W.cell? ⟨g, 1, none⟩ = some (.int .i64 f1) := (Aw h 1).trans rfl
theorem Bc.set_1 {w0 W : World} {g : Nat} {f0 : List Int} {f1 : Int} {f2 : Int} (h : Bc w0 W g f0 f1 f2) (x : Int) : Bc w0 (W.setCell ⟨g, 1, none⟩ (.int .i64 x)) g f0 x f2 := by
 obtain ⟨A0, c0, hb, hg, hr0⟩ := h
 exact ⟨A0, c0, by simpa using blk_set hb 1 (.int .i64 x), hg, hr0⟩
theorem cellS68_2 {W : World} {g : Nat} {A0 : Option Addr} {c0 : Nat} {f0 : List Int} {f1 : Int} {f2 : Int} (h : W.heap[g]? = some (.cells #[.slice A0 f0.length c0, .int .i64 f1, .int .u64 f2] 68 (0, 0))) : W.cell? ⟨g, 2, none⟩ = some (.int .u64 f2) := (Aw h 2).trans rfl
theorem Bc.set_2 {w0 W : World} {g : Nat} {f0 : List Int} {f1 : Int} {f2 : Int} (h : Bc w0 W g f0 f1 f2) (x : Int) : Bc w0 (W.setCell ⟨g, 2, none⟩ (.int .u64 x)) g f0 f1 x := by
 obtain ⟨A0, c0, hb, hg, hr0⟩ := h
 exact ⟨A0, c0, by simpa using blk_set hb 2 (.int .u64 x), hg, hr0⟩
/-! ### spec_l1Cur_next: function 123 -/
def Fs.f (s0_0 : List Int) (s0_1 : Int) (s0_2 : Int) : Option (Int × Int × Int) := if s0_1 < (s0_0.length : Int) then (if 0 ≤ s0_1 then (if (wrap64 (s0_1 + 1)) ≤ (s0_0.length : Int) then (some (wrap64 (rd s0_0 s0_1), wrap64 (s0_1 + 1), IntKind.u64.wrap ((IntKind.u64.wrap ((IntKind.u64.wrap (s0_2 * 6364136223846793005)) + (IntKind.u64.wrap (wrap64 (rd s0_0 s0_1))))) + 462197))) else (some (wrap64 (Go.bits .and .u64 ((IntKind.u64.wrap ((IntKind.u64.wrap ((IntKind.u64.wrap (s0_2 * 6364136223846793005)) + (IntKind.u64.wrap (wrap64 (rd s0_0 s0_1))))) + 462197)) / 1099511627776) 255), wrap64 (s0_1 + 1), IntKind.u64.wrap ((IntKind.u64.wrap ((IntKind.u64.wrap (s0_2 * 6364136223846793005)) + (IntKind.u64.wrap (wrap64 (rd s0_0 s0_1))))) + 462197)))) else (none)) else (if (wrap64 (s0_1 + 1)) ≤ (s0_0.length : Int) then (some (0, wrap64 (s0_1 + 1), IntKind.u64.wrap ((IntKind.u64.wrap ((IntKind.u64.wrap (s0_2 * 6364136223846793005)))) + 462197))) else (some (wrap64 (Go.bits .and .u64 ((IntKind.u64.wrap ((IntKind.u64.wrap ((IntKind.u64.wrap (s0_2 * 6364136223846793005)))) + 462197)) / 1099511627776) 255), wrap64 (s0_1 + 1), IntKind.u64.wrap ((IntKind.u64.wrap ((IntKind.u64.wrap (s0_2 * 6364136223846793005)))) + 462197))))
set_option maxHeartbeats 8000000 in
set_option maxRecDepth 100000 in
theorem Fs.calls (g : Nat) (s0_0 : List Int) (s0_1 : Int) (s0_2 : Int) (r1 : Int) (r2 : Int) (r3 : Int) (w0 w : World) (hI : Bc w0 w g s0_0 s0_1 s0_2) (hB : Below w0.heap.size w0 w) (h : Fs.f s0_0 s0_1 s0_2 = some (r1, r2, r3)) :
  Calls Try.prog 123 #[.pointer (some ⟨g, 0, none⟩)] w fun e w' => e = .returned (.int .i64 r1) ∧ Bc w0 w' g s0_0 r2 r3 ∧ Below w0.heap.size w0 w' ∧ Am w w' g none := by
 have HI0 := Aa.k hI
 have HK := Aa.k (Am.refl w g none)
 have HL := Aa.k hB.size
 clear hI
 have HW0 := Aa.k hB.size
 have HB := Aa.k hB
 clear hB
 have H : (if s0_1 < (s0_0.length : Int) then (if 0 ≤ s0_1 then (if (wrap64 (s0_1 + 1)) ≤ (s0_0.length : Int) then (some (wrap64 (rd s0_0 s0_1), wrap64 (s0_1 + 1), IntKind.u64.wrap ((IntKind.u64.wrap ((IntKind.u64.wrap (s0_2 * 6364136223846793005)) + (IntKind.u64.wrap (wrap64 (rd s0_0 s0_1))))) + 462197))) else (some (wrap64 (Go.bits .and .u64 ((IntKind.u64.wrap ((IntKind.u64.wrap ((IntKind.u64.wrap (s0_2 * 6364136223846793005)) + (IntKind.u64.wrap (wrap64 (rd s0_0 s0_1))))) + 462197)) / 1099511627776) 255), wrap64 (s0_1 + 1), IntKind.u64.wrap ((IntKind.u64.wrap ((IntKind.u64.wrap (s0_2 * 6364136223846793005)) + (IntKind.u64.wrap (wrap64 (rd s0_0 s0_1))))) + 462197)))) else (none)) else (if (wrap64 (s0_1 + 1)) ≤ (s0_0.length : Int) then (some (0, wrap64 (s0_1 + 1), IntKind.u64.wrap ((IntKind.u64.wrap ((IntKind.u64.wrap (s0_2 * 6364136223846793005)))) + 462197))) else (some (wrap64 (Go.bits .and .u64 ((IntKind.u64.wrap ((IntKind.u64.wrap ((IntKind.u64.wrap (s0_2 * 6364136223846793005)))) + 462197)) / 1099511627776) 255), wrap64 (s0_1 + 1), IntKind.u64.wrap ((IntKind.u64.wrap ((IntKind.u64.wrap (s0_2 * 6364136223846793005)))) + 462197))))) = some (r1, r2, r3) := h
 clear h
 by_cases c2 : s0_1 < (s0_0.length : Int)
 rotate_left
 ·rw [if_neg c2] at H
  have c2b0 : decide (s0_1 < (s0_0.length : Int)) = false := decide_eq_false c2
  clear c2
  by_cases c7 : (wrap64 (s0_1 + 1)) ≤ (s0_0.length : Int)
  ·rw [if_pos c7] at H
   have c7b0 : decide ((wrap64 (s0_1 + 1)) ≤ (s0_0.length : Int)) = true := decide_eq_true c7
   clear c7
   simp only [Option.some.injEq, Prod.mk.injEq] at H
   obtain ⟨rfl, rfl, rfl⟩ := H
   obtain ⟨ASz8_0, cSz8_0, HGz8, hgz8, HSz8_0⟩ := HI0.o
   have hcz8_0 := cellS68_0 HGz8
   have hcz8_1 := cellS68_1 HGz8
   have hcz8_2 := cellS68_2 HGz8
   have hfz8_1 := Ac HGz8 1
   have hfz8_2 := Ac HGz8 2
   clear HGz8 hgz8
   go_enter Try.func123, Try.ntmps123
   go_wp2
   repeat (go_quiet (fail); try go_wp2)
   go_ret
   exact ⟨by (rfl), by repeat ((with_reducible first | exact HI0.o | apply Bc.drewN | apply Bc.set_1 | apply Bc.set_2)), by repeat ((with_reducible first | exact HB.o | apply Bh | refine Bz ?_ (Bc.ge HI0.o))), by repeat ((with_reducible first | exact HK.o | apply Am.set_ | apply keep_drewN))⟩
  rw [if_neg c7] at H
  have c7b0 : decide ((wrap64 (s0_1 + 1)) ≤ (s0_0.length : Int)) = false := decide_eq_false c7
  clear c7
  simp only [Option.some.injEq, Prod.mk.injEq] at H
  obtain ⟨rfl, rfl, rfl⟩ := H
  obtain ⟨ASz9_0, cSz9_0, HGz9, hgz9, HSz9_0⟩ := HI0.o
  have hcz9_0 := cellS68_0 HGz9
  have hcz9_1 := cellS68_1 HGz9
  have hcz9_2 := cellS68_2 HGz9
  have hfz9_1 := Ac HGz9 1
  have hfz9_2 := Ac HGz9 2
  clear HGz9 hgz9
  go_enter Try.func123, Try.ntmps123
  go_wp2
  repeat (go_quiet (fail); try go_wp2)
  go_ret
  exact ⟨by (rfl), by repeat ((with_reducible first | exact HI0.o | apply Bc.drewN | apply Bc.set_1 | apply Bc.set_2)), by repeat ((with_reducible first | exact HB.o | apply Bh | refine Bz ?_ (Bc.ge HI0.o))), by repeat ((with_reducible first | exact HK.o | apply Am.set_ | apply keep_drewN))⟩
 rw [if_pos c2] at H
 have c2b0 : decide (s0_1 < (s0_0.length : Int)) = true := decide_eq_true c2
 clear c2
 by_cases c3 : 0 ≤ s0_1
 rotate_left
 ·rw [if_neg c3] at H
  exact absurd H (by simp)
 rw [if_pos c3] at H
 have c3b0 : decide (0 ≤ s0_1) = true := decide_eq_true c3
 clear c3
 by_cases c4 : (wrap64 (s0_1 + 1)) ≤ (s0_0.length : Int)
 ·rw [if_pos c4] at H
  have c4b0 : decide ((wrap64 (s0_1 + 1)) ≤ (s0_0.length : Int)) = true := decide_eq_true c4
  clear c4
  simp only [Option.some.injEq, Prod.mk.injEq] at H
  obtain ⟨rfl, rfl, rfl⟩ := H
  obtain ⟨ASz5_0, cSz5_0, HGz5, hgz5, HSz5_0⟩ := HI0.o
  have hcz5_0 := cellS68_0 HGz5
  have hcz5_1 := cellS68_1 HGz5
  have hcz5_2 := cellS68_2 HGz5
  have hfz5_1 := Ac HGz5 1
  have hfz5_2 := Ac HGz5 2
  clear HGz5 hgz5
  have p164 : 0 ≤ (s0_1 : Int) := of_decide_eq_true (by (assumption))
  have q164 : s0_1 < (s0_0.length : Int) := of_decide_eq_true (by (assumption))
  obtain ⟨ad164, e164, hx164_0⟩ := Kd.Eo HSz5_0 s0_1 p164 q164
  cases e164
  replace hx164_0 := pw_cell_below HB.o hx164_0
  replace p164 := eq_true p164
  replace q164 := eq_true q164
  go_enter Try.func123, Try.ntmps123
  go_wp2
  repeat (go_quiet (fail); try go_wp2)
  go_ret
  exact ⟨by (rfl), by repeat ((with_reducible first | exact HI0.o | apply Bc.drewN | apply Bc.set_1 | apply Bc.set_2)), by repeat ((with_reducible first | exact HB.o | apply Bh | refine Bz ?_ (Bc.ge HI0.o))), by repeat ((with_reducible first | exact HK.o | apply Am.set_ | apply keep_drewN))⟩
 rw [if_neg c4] at H
 have c4b0 : decide ((wrap64 (s0_1 + 1)) ≤ (s0_0.length : Int)) = false := decide_eq_false c4
 clear c4
 simp only [Option.some.injEq, Prod.mk.injEq] at H
 obtain ⟨rfl, rfl, rfl⟩ := H
 obtain ⟨ASz6_0, cSz6_0, HGz6, hgz6, HSz6_0⟩ := HI0.o
 have hcz6_0 := cellS68_0 HGz6
 have hcz6_1 := cellS68_1 HGz6
 have hcz6_2 := cellS68_2 HGz6
 have hfz6_1 := Ac HGz6 1
 have hfz6_2 := Ac HGz6 2
 clear HGz6 hgz6
 have p164 : 0 ≤ (s0_1 : Int) := of_decide_eq_true (by (assumption))
 have q164 : s0_1 < (s0_0.length : Int) := of_decide_eq_true (by (assumption))
 obtain ⟨ad164, e164, hx164_0⟩ := Kd.Eo HSz6_0 s0_1 p164 q164
 cases e164
 replace hx164_0 := pw_cell_below HB.o hx164_0
 replace p164 := eq_true p164
 replace q164 := eq_true q164
 go_enter Try.func123, Try.ntmps123
 go_wp2
 repeat (go_quiet (fail); try go_wp2)
 go_ret
 exact ⟨by (rfl), by repeat ((with_reducible first | exact HI0.o | apply Bc.drewN | apply Bc.set_1 | apply Bc.set_2)), by repeat ((with_reducible first | exact HB.o | apply Bh | refine Bz ?_ (Bc.ge HI0.o))), by repeat ((with_reducible first | exact HK.o | apply Am.set_ | apply keep_drewN))⟩

/-! ### spec_l1Cur_pick: function 89 -/
def Dg.f (s0_0 : List Int) (s0_1 : Int) (s0_2 : Int) (a1 : Int) : Option (Int × Int × Int) := if a1 ≤ 1 then (some (0, s0_1, s0_2)) else ((Fs.f s0_0 s0_1 s0_2).bind fun bt165 => (if a1 > 200 then ((Fs.f s0_0 bt165.2.1 bt165.2.2).bind fun bt168 => (if a1 = 0 then (none) else (some (Int.tmod (wrap64 ((wrap64 (bt165.1 * 256)) + bt168.1)) a1, bt168.2.1, bt168.2.2)))) else (if a1 = 0 then (none) else (some (Int.tmod bt165.1 a1, bt165.2.1, bt165.2.2)))))
set_option maxHeartbeats 8000000 in
set_option maxRecDepth 100000 in
theorem Dg.calls (g : Nat) (s0_0 : List Int) (s0_1 : Int) (s0_2 : Int) (a1 : Int) (r1 : Int) (r2 : Int) (r3 : Int) (w0 w : World) (hI : Bc w0 w g s0_0 s0_1 s0_2) (hB : Below w0.heap.size w0 w) (h : Dg.f s0_0 s0_1 s0_2 a1 = some (r1, r2, r3)) :
  Calls Try.prog 89 #[.pointer (some ⟨g, 0, none⟩), .int .i64 a1] w fun e w' => e = .returned (.int .i64 r1) ∧ Bc w0 w' g s0_0 r2 r3 ∧ Below w0.heap.size w0 w' ∧ Am w w' g none := by
 have HI0 := Aa.k hI
 have HK := Aa.k (Am.refl w g none)
 have HL := Aa.k hB.size
 clear hI
 have HW0 := Aa.k hB.size
 have HB := Aa.k hB
 clear hB
 have H : (if a1 ≤ 1 then (some (0, s0_1, s0_2)) else ((Fs.f s0_0 s0_1 s0_2).bind fun bt165 => (if a1 > 200 then ((Fs.f s0_0 bt165.2.1 bt165.2.2).bind fun bt168 => (if a1 = 0 then (none) else (some (Int.tmod (wrap64 ((wrap64 (bt165.1 * 256)) + bt168.1)) a1, bt168.2.1, bt168.2.2)))) else (if a1 = 0 then (none) else (some (Int.tmod bt165.1 a1, bt165.2.1, bt165.2.2)))))) = some (r1, r2, r3) := h
 clear h
 by_cases c3 : a1 ≤ 1
 ·rw [if_pos c3] at H
  have c3b0 : decide (a1 ≤ 1) = true := decide_eq_true c3
  clear c3
  simp only [Option.some.injEq, Prod.mk.injEq] at H
  obtain ⟨rfl, rfl, rfl⟩ := H
  go_enter Try.func89, Try.ntmps89
  go_wp2
  go_ret
  exact ⟨by (rfl), by exact HI0.o, by exact HB.o, by exact HK.o⟩
 rw [if_neg c3] at H
 have c3b0 : decide (a1 ≤ 1) = false := decide_eq_false c3
 clear c3
 obtain ⟨⟨t165, t166, t167⟩, A40, H⟩ := bindS_ H
 try dsimp only at H
 have A4 := Aa.k A40
 clear A40
 by_cases c5 : a1 > 200
 rotate_left
 ·rw [if_neg c5] at H
  have c5b0 : decide (200 < a1) = false := decide_eq_false c5
  clear c5
  by_cases c10 : a1 = 0
  ·rw [if_pos c10] at H
   exact absurd H (by simp)
  rw [if_neg c10] at H
  have c10b0 : (a1 == 0) = false := beq_eq_false_iff_ne.mpr c10
  have c10b1 : (a1 != 0) = true := bne_iff_ne.mpr c10
  simp only [Option.some.injEq, Prod.mk.injEq] at H
  obtain ⟨rfl, rfl, rfl⟩ := H
  go_enter Try.func89, Try.ntmps89
  go_wp2_with (((refine Aj (f := 123) rfl ?_); refine Bf (some 9) rfl rfl Try.func123 (by kernel_rfl) rfl #[.pointer (some ⟨g, 0, none⟩)] rfl (by (try simp only [mT_, mC_, mN_]); rfl) ?_; (refine (Fs.calls g s0_0 s0_1 s0_2 t165 t166 t167 w0 _ ?side1 ?side2 A4.o).mono ?_); (case side1 => exact HI0.o); (case side2 => exact HB.o); rintro e w11 ⟨rfl, hi, hb, hk⟩; refine ⟨_, rfl, ?_⟩; replace HK := Aa.k (Am.trans HK.o hk (.inl rfl)); replace HB := Aa.k (hb); replace HI0 := Aa.k (hi); clear hb hk hi))
  go_ret
  exact ⟨by (rfl), by exact HI0.o, by exact HB.o, by exact HK.o⟩
 rw [if_pos c5] at H
 have c5b0 : decide (200 < a1) = true := decide_eq_true c5
 clear c5
 obtain ⟨⟨t168, t169, t170⟩, A60, H⟩ := bindS_ H
 try dsimp only at H
 have A6 := Aa.k A60
 clear A60
 by_cases c7 : a1 = 0
 ·rw [if_pos c7] at H
  exact absurd H (by simp)
 rw [if_neg c7] at H
 have c7b0 : (a1 == 0) = false := beq_eq_false_iff_ne.mpr c7
 have c7b1 : (a1 != 0) = true := bne_iff_ne.mpr c7
 simp only [Option.some.injEq, Prod.mk.injEq] at H
 obtain ⟨rfl, rfl, rfl⟩ := H
 go_enter Try.func89, Try.ntmps89
 go_wp2_with (first | ((with_reducible refine Aj (f := 123) rfl ?_); refine Bf (some 9) rfl rfl Try.func123 (by kernel_rfl) rfl #[.pointer (some ⟨g, 0, none⟩)] rfl (by (try simp only [mT_, mC_, mN_]); rfl) ?_; (with_reducible refine (Fs.calls g s0_0 s0_1 s0_2 t165 t166 t167 w0 _ ?side1 ?side2 A4.o).mono ?_); (case side1 => exact HI0.o); (case side2 => exact HB.o); rintro e w8 ⟨rfl, hi, hb, hk⟩; refine ⟨_, rfl, ?_⟩; replace HK := Aa.k (Am.trans HK.o hk (.inl rfl)); replace HB := Aa.k (hb); replace HI0 := Aa.k (hi); clear hb hk hi) | ((with_reducible refine Aj (f := 123) rfl ?_); refine Bf (some 15) rfl rfl Try.func123 (by kernel_rfl) rfl #[.pointer (some ⟨g, 0, none⟩)] rfl (by (try simp only [mT_, mC_, mN_]); rfl) ?_; (with_reducible refine (Fs.calls g s0_0 t166 t167 t168 t169 t170 w0 _ ?side1 ?side2 A6.o).mono ?_); (case side1 => exact HI0.o); (case side2 => exact HB.o); rintro e w9 ⟨rfl, hi, hb, hk⟩; refine ⟨_, rfl, ?_⟩; replace HK := Aa.k (Am.trans HK.o hk (.inl rfl)); replace HB := Aa.k (hb); replace HI0 := Aa.k (hi); clear hb hk hi))
 go_ret
 exact ⟨by (rfl), by exact HI0.o, by exact HB.o, by exact HK.o⟩

/-! ### spec_l1Cur_among: function 88 -/
def Ce.f (s0_0 : List Int) (s0_1 : Int) (s0_2 : Int) (l1 : List Int) : Option (Int × Int × Int) := (Dg.f s0_0 s0_1 s0_2 (l1.length : Int)).bind fun bt171 => (if 0 ≤ bt171.1 then (if bt171.1 < (l1.length : Int) then (some (rd l1 bt171.1, bt171.2.1, bt171.2.2)) else (none)) else (none))
set_option maxHeartbeats 8000000 in
set_option maxRecDepth 100000 in
theorem Ce.calls (g : Nat) (s0_0 : List Int) (s0_1 : Int) (s0_2 : Int) (A1 : Option Addr) (c1 : Nat) (l1 : List Int) (r1 : Int) (r2 : Int) (r3 : Int) (w0 w : World) (hI : Bc w0 w g s0_0 s0_1 s0_2) (hB : Below w0.heap.size w0 w) (hr1 : Kd.C (Kd.int .i64) w A1 l1.length l1) (hc1 : l1.length ≤ c1) (hf1 : ∀ ad, A1 = some ad → 0 < l1.length → ad.block ≠ g) (h : Ce.f s0_0 s0_1 s0_2 l1 = some (r1, r2, r3)) :
  Calls Try.prog 88 #[.pointer (some ⟨g, 0, none⟩), .slice A1 l1.length c1] w fun e w' => e = .returned (.int .i64 r1) ∧ Bc w0 w' g s0_0 r2 r3 ∧ Below w0.heap.size w0 w' ∧ Am w w' g none := by
 have HR1 := Aa.k hr1
 have HC1 := Aa.k hc1
 clear hr1 hc1
 have HI0 := Aa.k hI
 have HK := Aa.k (Am.refl w g none)
 have HL := Aa.k hB.size
 clear hI
 have HW0 := Aa.k hB.size
 have HB := Aa.k hB
 clear hB
 have H : ((Dg.f s0_0 s0_1 s0_2 (l1.length : Int)).bind fun bt171 => (if 0 ≤ bt171.1 then (if bt171.1 < (l1.length : Int) then (some (rd l1 bt171.1, bt171.2.1, bt171.2.2)) else (none)) else (none))) = some (r1, r2, r3) := h
 clear h
 obtain ⟨⟨t171, t172, t173⟩, A30, H⟩ := bindS_ H
 try dsimp only at H
 have A3 := Aa.k A30
 clear A30
 by_cases c4 : 0 ≤ t171
 rotate_left
 ·rw [if_neg c4] at H
  exact absurd H (by simp)
 rw [if_pos c4] at H
 have c4b0 : decide (0 ≤ t171) = true := decide_eq_true c4
 clear c4
 by_cases c5 : t171 < (l1.length : Int)
 rotate_left
 ·rw [if_neg c5] at H
  exact absurd H (by simp)
 rw [if_pos c5] at H
 have c5b0 : decide (t171 < (l1.length : Int)) = true := decide_eq_true c5
 clear c5
 simp only [Option.some.injEq, Prod.mk.injEq] at H
 obtain ⟨rfl, rfl, rfl⟩ := H
 go_enter Try.func88, Try.ntmps88
 go_wp2_with (((refine Aj (f := 89) rfl ?_); refine Bf (some 9) rfl rfl Try.func89 (by kernel_rfl) rfl #[.pointer (some ⟨g, 0, none⟩), .int .i64 (l1.length : Int)] rfl (by (try simp only [mT_, mC_, mN_]); rfl) ?_; (refine (Dg.calls g s0_0 s0_1 s0_2 (l1.length : Int) t171 t172 t173 w0 _ ?side1 ?side2 A3.o).mono ?_); (case side1 => exact HI0.o); (case side2 => exact HB.o); rintro e w6 ⟨rfl, hi, hb, hk⟩; refine ⟨_, rfl, ?_⟩; replace HK := Aa.k (Am.trans HK.o hk (.inl rfl)); replace HB := Aa.k (hb); replace HI0 := Aa.k (hi); clear hb hk hi; have p174 : 0 ≤ (t171 : Int) := of_decide_eq_true (by (assumption)); have q174 : t171 < (l1.length : Int) := of_decide_eq_true (by (assumption)); obtain ⟨ad174, e174, hx174_0⟩ := Kd.Eo HR1.o t171 p174 q174; cases e174; replace hx174_0 := keep_cell HK.o hx174_0 (by (rw [add_block]; exact hf1 _ rfl (by omega))); replace p174 := eq_true p174; replace q174 := eq_true q174))
 go_ret
 exact ⟨by (rfl), by exact HI0.o, by exact HB.o, by exact HK.o⟩

/-! ### spec_l1Cur_one: function 110 -/
def Ch.f (s0_0 : List Int) (s0_1 : Int) (s0_2 : Int) (a1 : Int) : Option (Bool × Int × Int) := (Dg.f s0_0 s0_1 s0_2 a1).bind fun bt175 => (some ((bt175.1 == 0), bt175.2.1, bt175.2.2))
set_option maxHeartbeats 8000000 in
set_option maxRecDepth 100000 in
theorem Ch.calls (g : Nat) (s0_0 : List Int) (s0_1 : Int) (s0_2 : Int) (a1 : Int) (r1 : Bool) (r2 : Int) (r3 : Int) (w0 w : World) (hI : Bc w0 w g s0_0 s0_1 s0_2) (hB : Below w0.heap.size w0 w) (h : Ch.f s0_0 s0_1 s0_2 a1 = some (r1, r2, r3)) :
  Calls Try.prog 110 #[.pointer (some ⟨g, 0, none⟩), .int .i64 a1] w fun e w' => e = .returned (.bool r1) ∧ Bc w0 w' g s0_0 r2 r3 ∧ Below w0.heap.size w0 w' ∧ Am w w' g none := by
 have HI0 := Aa.k hI
 have HK := Aa.k (Am.refl w g none)
 have HL := Aa.k hB.size
 clear hI
 have HW0 := Aa.k hB.size
 have HB := Aa.k hB
 clear hB
 have H : ((Dg.f s0_0 s0_1 s0_2 a1).bind fun bt175 => (some ((bt175.1 == 0), bt175.2.1, bt175.2.2))) = some (r1, r2, r3) := h
 clear h
 obtain ⟨⟨t175, t176, t177⟩, A30, H⟩ := bindS_ H
 try dsimp only at H
 have A3 := Aa.k A30
 clear A30
 simp only [Option.some.injEq, Prod.mk.injEq] at H
 obtain ⟨rfl, rfl, rfl⟩ := H
 go_enter Try.func110, Try.ntmps110
 go_wp2_with (((refine Aj (f := 89) rfl ?_); refine Bf (some 7) rfl rfl Try.func89 (by kernel_rfl) rfl #[.pointer (some ⟨g, 0, none⟩), .int .i64 a1] rfl (by (try simp only [mT_, mC_, mN_]); rfl) ?_; (refine (Dg.calls g s0_0 s0_1 s0_2 a1 t175 t176 t177 w0 _ ?side1 ?side2 A3.o).mono ?_); (case side1 => exact HI0.o); (case side2 => exact HB.o); rintro e w4 ⟨rfl, hi, hb, hk⟩; refine ⟨_, rfl, ?_⟩; replace HK := Aa.k (Am.trans HK.o hk (.inl rfl)); replace HB := Aa.k (hb); replace HI0 := Aa.k (hi); clear hb hk hi))
 go_ret
 exact ⟨by (rfl), by exact HI0.o, by exact HB.o, by exact HK.o⟩

/-! ### spec_l1Cur_placeOn: function 60 -/
def Eg.f (s0_0 : List Int) (s0_1 : Int) (s0_2 : Int) (a1_0 : Int) (a1_1 : Bool) : Option (Int × Int × Int) := (Ch.f s0_0 s0_1 s0_2 30).bind fun bt179 => (if bt179.1 = true then ((Ce.f s0_0 bt179.2.1 bt179.2.2 (([(-1), 0, a1_0, wrap64 (a1_0 - 1), 4611686018427387904] : List Int))).bind fun bt185 => (some (bt185.1, bt185.2.1, bt185.2.2))) else ((Et.f a1_0 24).bind fun t188 => ((Ec.f t188 1).bind fun t189 => ((Dg.f s0_0 bt179.2.1 bt179.2.2 t189).bind fun bt190 => (some (bt190.1, bt190.2.1, bt190.2.2))))))
set_option maxHeartbeats 8000000 in
set_option maxRecDepth 100000 in
theorem Eg.calls (g : Nat) (s0_0 : List Int) (s0_1 : Int) (s0_2 : Int) (a1_0 : Int) (a1_1 : Bool) (r1 : Int) (r2 : Int) (r3 : Int) (w0 w : World) (hI : Bc w0 w g s0_0 s0_1 s0_2) (hB : Below w0.heap.size w0 w) (h : Eg.f s0_0 s0_1 s0_2 a1_0 a1_1 = some (r1, r2, r3)) :
  Calls Try.prog 60 #[.pointer (some ⟨g, 0, none⟩), .agg #[.int .i64 a1_0, .bool a1_1]] w fun e w' => e = .returned (.int .i64 r1) ∧ Bc w0 w' g s0_0 r2 r3 ∧ Below w0.heap.size w0 w' ∧ Am w w' g none := by
 have hu25 := Try.underlying25
 have HI0 := Aa.k hI
 have HK := Aa.k (Am.refl w g none)
 have HL := Aa.k hB.size
 clear hI
 have HW0 := Aa.k hB.size
 have HB := Aa.k hB
 clear hB
 have H : ((Ch.f s0_0 s0_1 s0_2 30).bind fun bt179 => (if bt179.1 = true then ((Ce.f s0_0 bt179.2.1 bt179.2.2 (([(-1), 0, a1_0, wrap64 (a1_0 - 1), 4611686018427387904] : List Int))).bind fun bt185 => (some (bt185.1, bt185.2.1, bt185.2.2))) else ((Et.f a1_0 24).bind fun t188 => ((Ec.f t188 1).bind fun t189 => ((Dg.f s0_0 bt179.2.1 bt179.2.2 t189).bind fun bt190 => (some (bt190.1, bt190.2.1, bt190.2.2))))))) = some (r1, r2, r3) := h
 clear h
 obtain ⟨⟨t179, t180, t181⟩, A30, H⟩ := bindS_ H
 try dsimp only at H
 have A3 := Aa.k A30
 clear A30
 by_cases c4 : t179 = true
 rotate_left
 ·replace c4 := Bool.eq_false_iff.mpr c4
  subst c4
  rw [if_neg (show ¬ (false = true) by decide)] at H
  obtain ⟨t188, A140, H⟩ := bindS_ H
  try dsimp only at H
  have A14 := Aa.k A140
  clear A140
  obtain ⟨t189, A150, H⟩ := bindS_ H
  try dsimp only at H
  have A15 := Aa.k A150
  clear A150
  obtain ⟨⟨t190, t191, t192⟩, A160, H⟩ := bindS_ H
  try dsimp only at H
  have A16 := Aa.k A160
  clear A160
  simp only [Option.some.injEq, Prod.mk.injEq] at H
  obtain ⟨rfl, rfl, rfl⟩ := H
  go_enter Try.func60, Try.ntmps60
  go_wp2_with (first | ((with_reducible refine Be (N := 3) rfl ?_); refine Bo ?hg (N := 3) ?hd (cs := #[.int .i64 a1_0, .bool a1_1]) (t := 25) ?hr ?_; (case hd => rfl); (case hg => rfl); (case hr => (go_simp; done)); intro gb178 hg w17 hbox hb; replace HB := Aa.k (Ad HB.o hb); have BK178 := Aa.k (hbox); have GW178 := Aa.k ((by rw [hg]; exact (Cj (w := w) (g := g) (row := none) HK.o) : w.heap.size ≤ gb178)); have GE178 := Aa.k ((Nat.le_trans HW0.o (by rw [hg]; exact (Cj (w := w) (g := g) (row := none) HK.o) : w.heap.size ≤ gb178) : w0.heap.size ≤ gb178)); replace HK := Aa.k (Am.trans HK.o (Am.of_below hb g none) (.inl rfl)); have NB0_178 := Aa.k ((by rw [hg]; exact Nat.ne_of_lt (Bc.lt (show Bc w0 _ g s0_0 s0_1 s0_2 from by exact HI0.o)) : g ≠ gb178)); have NB178_0 := Aa.k ((by rw [hg]; exact Nat.ne_of_gt (Bc.lt (show Bc w0 _ g s0_0 s0_1 s0_2 from by exact HI0.o)) : gb178 ≠ g)); replace HI0 := Aa.k (Bc.below HI0.o hb); clear hb hbox hg) | ((with_reducible refine Aj (f := 110) rfl ?_); refine Bf (some 6) rfl rfl Try.func110 (by kernel_rfl) rfl #[.pointer (some ⟨g, 0, none⟩), .int .i64 30] rfl (by (try simp only [mT_, mC_, mN_]); rfl) ?_; (with_reducible refine (Ch.calls g s0_0 s0_1 s0_2 30 false t180 t181 w0 _ ?side1 ?side2 A3.o).mono ?_); (case side1 => exact HI0.o); (case side2 => exact HB.o); rintro e w18 ⟨rfl, hi, hb, hk⟩; refine ⟨_, rfl, ?_⟩; replace BK178 := Aa.k (Am.blk hk (g' := gb178) (o := .cells #[.int .i64 a1_0, .bool a1_1] 25 (0, 0)) (by exact BK178.o) NB178_0.o (by simp)); replace HK := Aa.k (Am.trans HK.o hk (.inl rfl)); replace HB := Aa.k (hb); replace HI0 := Aa.k (hi); clear hb hk hi; have hnb19 := NB178_0.o; have hnc19 := NB0_178.o; have hcz20_0 := Bj BK178.o; have hcz20_1 := Bn BK178.o; have hfz20_0 := Ac BK178.o 0; have hfz20_1 := Ac BK178.o 1) | ((with_reducible refine Aj (f := 96) rfl ?_); refine Bf (some 18) rfl rfl Try.func96 (by kernel_rfl) rfl #[.int .i64 a1_0, .int .i64 24] rfl (by (try simp only [mT_, mC_, mN_]); rfl) ?_; (with_reducible refine (Et.calls a1_0 24 t188 _ A14.o).mono ?_); rintro e w' ⟨rfl, ⟨nd, rfl⟩⟩; refine ⟨_, rfl, ?_⟩) | ((with_reducible refine Aj (f := 86) rfl ?_); refine Bf (some 19) rfl rfl Try.func86 (by kernel_rfl) rfl #[.int .i64 t188, .int .i64 1] rfl (by (try simp only [mT_, mC_, mN_]); rfl) ?_; (with_reducible refine (Ec.calls t188 1 t189 _ A15.o).mono ?_); rintro e w' ⟨rfl, ⟨nd, rfl⟩⟩; refine ⟨_, rfl, ?_⟩) | ((with_reducible refine Aj (f := 89) rfl ?_); refine Bf (some 20) rfl rfl Try.func89 (by kernel_rfl) rfl #[.pointer (some ⟨g, 0, none⟩), .int .i64 t189] rfl (by (try simp only [mT_, mC_, mN_]); rfl) ?_; (with_reducible refine (Dg.calls g s0_0 t180 t181 t189 t190 t191 t192 w0 _ ?side1 ?side2 A16.o).mono ?_); (case side1 => repeat ((with_reducible first | exact HI0.o | apply Bc.drewN))); (case side2 => repeat ((with_reducible first | exact HB.o | apply Bh))); rintro e w21 ⟨rfl, hi, hb, hk⟩; refine ⟨_, rfl, ?_⟩; replace BK178 := Aa.k (Am.blk hk (g' := gb178) (o := .cells #[.int .i64 a1_0, .bool a1_1] 25 (0, 0)) (by (with_reducible repeat ((refine Dk ?_ _))); exact BK178.o) NB178_0.o (by simp)); replace HK := Aa.k (Am.trans (by repeat ((with_reducible first | exact HK.o | apply keep_drewN))) hk (.inl rfl)); replace HB := Aa.k (hb); replace HI0 := Aa.k (hi); clear hb hk hi))
  go_ret
  exact ⟨by (rfl), by exact HI0.o, by exact HB.o, by exact HK.o⟩
 subst c4
 rw [if_pos rfl] at H
 obtain ⟨y182, hy182⟩ : ∃ y_ : List Int, y_ = (([(-1), 0, a1_0, wrap64 (a1_0 - 1), 4611686018427387904] : List Int)) := ⟨_, rfl⟩
 replace H : ((Ce.f s0_0 t180 t181 y182).bind fun bt185 => (some (bt185.1, bt185.2.1, bt185.2.2))) = some (r1, r2, r3) := by (rw [hy182]; exact H)
 have Ny182 := Aa.k hy182
 clear hy182
 obtain ⟨⟨t185, t186, t187⟩, A50, H⟩ := bindS_ H
 try dsimp only at H
 have A5 := Aa.k A50
 clear A50
 simp only [Option.some.injEq, Prod.mk.injEq] at H
 obtain ⟨rfl, rfl, rfl⟩ := H
 go_enter Try.func60, Try.ntmps60
 go_wp2_with (first | ((with_reducible refine Be (N := 3) rfl ?_); refine Bo ?hg (N := 3) ?hd (cs := #[.int .i64 a1_0, .bool a1_1]) (t := 25) ?hr ?_; (case hd => rfl); (case hg => rfl); (case hr => (go_simp; done)); intro gb178 hg w6 hbox hb; replace HB := Aa.k (Ad HB.o hb); have BK178 := Aa.k (hbox); have GW178 := Aa.k ((by rw [hg]; exact (Cj (w := w) (g := g) (row := none) HK.o) : w.heap.size ≤ gb178)); have GE178 := Aa.k ((Nat.le_trans HW0.o (by rw [hg]; exact (Cj (w := w) (g := g) (row := none) HK.o) : w.heap.size ≤ gb178) : w0.heap.size ≤ gb178)); replace HK := Aa.k (Am.trans HK.o (Am.of_below hb g none) (.inl rfl)); have NB0_178 := Aa.k ((by rw [hg]; exact Nat.ne_of_lt (Bc.lt (show Bc w0 _ g s0_0 s0_1 s0_2 from by exact HI0.o)) : g ≠ gb178)); have NB178_0 := Aa.k ((by rw [hg]; exact Nat.ne_of_gt (Bc.lt (show Bc w0 _ g s0_0 s0_1 s0_2 from by exact HI0.o)) : gb178 ≠ g)); replace HI0 := Aa.k (Bc.below HI0.o hb); clear hb hbox hg) | ((with_reducible refine Aj (f := 110) rfl ?_); refine Bf (some 6) rfl rfl Try.func110 (by kernel_rfl) rfl #[.pointer (some ⟨g, 0, none⟩), .int .i64 30] rfl (by (try simp only [mT_, mC_, mN_]); rfl) ?_; (with_reducible refine (Ch.calls g s0_0 s0_1 s0_2 30 true t180 t181 w0 _ ?side1 ?side2 A3.o).mono ?_); (case side1 => exact HI0.o); (case side2 => exact HB.o); rintro e w7 ⟨rfl, hi, hb, hk⟩; refine ⟨_, rfl, ?_⟩; replace BK178 := Aa.k (Am.blk hk (g' := gb178) (o := .cells #[.int .i64 a1_0, .bool a1_1] 25 (0, 0)) (by exact BK178.o) NB178_0.o (by simp)); replace HK := Aa.k (Am.trans HK.o hk (.inl rfl)); replace HB := Aa.k (hb); replace HI0 := Aa.k (hi); clear hb hk hi; have hnb8 := NB178_0.o; have hnc8 := NB0_178.o; have hcz9_0 := Bj BK178.o; have hcz9_1 := Bn BK178.o; have hfz9_0 := Ac BK178.o 0; have hfz9_1 := Ac BK178.o 1) | ((with_reducible refine Be (N := 13) rfl ?_); refine Kd.R_lit (Kd.int .i64) _ 3 ?hg (N := 13) ?hd (xs := ([(-1), 0, a1_0, wrap64 (a1_0 - 1), 4611686018427387904] : List Int)) (inner := [.int .i64 (-1), .int .i64 0, .int .i64 a1_0, .int .i64 (wrap64 (a1_0 - 1)), .int .i64 4611686018427387904]) (ok := fun _ => True) (okp := fun _ => True) ?hr ?hp (fun _ hk => hk) trivial (Below.refl _ _) (Nat.le_refl _) (by simp) ?_; (case hd => rfl); (case hg => rfl); (case hr => (go_simp; done)); (case hp => exact (Reps.one (show Kd.M (Kd.int .i64) _ _ _ (-1) [.int .i64 (-1)] from rfl) (Reps.one (show Kd.M (Kd.int .i64) _ _ _ 0 [.int .i64 0] from rfl) (Reps.one (show Kd.M (Kd.int .i64) _ _ _ a1_0 [.int .i64 a1_0] from rfl) (Reps.one (show Kd.M (Kd.int .i64) _ _ _ (wrap64 (a1_0 - 1)) [.int .i64 (wrap64 (a1_0 - 1))] from rfl) (Reps.one (show Kd.M (Kd.int .i64) _ _ _ 4611686018427387904 [.int .i64 4611686018427387904] from rfl) (Reps.none _ _))))))); intro v183 w10 ho11 hb hg_ hnew_; clear hg_ hnew_; ((rw [← Ny182.o] at ho11)); have HO184 := Aa.k (Kd.Ct ho11 (Cj (w := w) (g := g) (row := none) HK.o)); replace HI0 := Aa.k (Bc.below HI0.o hb); replace BK178 := Aa.k (Ae (g := gb178) (o := .cells #[.int .i64 a1_0, .bool a1_1] 25 (0, 0)) (by exact BK178.o) hb); replace HK := Aa.k (Am.trans HK.o (Am.of_below hb g none) (.inl rfl)); replace HB := Aa.k (Ad HB.o hb); clear hb ho11; obtain ⟨Ao12, co12, eo12⟩ := Kd.Cx HO184.o; subst eo12) | ((with_reducible refine Aj (f := 88) rfl ?_); refine Bf (some 14) rfl rfl Try.func88 (by kernel_rfl) rfl #[.pointer (some ⟨g, 0, none⟩), .slice Ao12 y182.length co12] rfl (by (try simp only [mT_, mC_, mN_]); rfl) ?_; (with_reducible refine (Ce.calls g s0_0 t180 t181 _ _ y182 t185 t186 t187 w0 _ ?side1 ?side2 ?side3 ?side4 ?side5 A5.o).mono ?_); (case side1 => exact HI0.o); (case side2 => exact HB.o); (case side3 => repeat (exact (Kd.Bb HO184.o).2.2)); (case side4 => exact (Kd.Bb HO184.o).2.1); (case side5 => exact far_slice (Bc.own_ne HI0.o HO184.o (by decide))); rintro e w13 ⟨rfl, hi, hb, hk⟩; refine ⟨_, rfl, ?_⟩; replace BK178 := Aa.k (Am.blk hk (g' := gb178) (o := .cells #[.int .i64 a1_0, .bool a1_1] 25 (0, 0)) (by exact BK178.o) NB178_0.o (by simp)); replace HO184 := Aa.k (Kd.Bv (Kd.R_keep (Bc.apart (show Bc w0 _ g s0_0 t180 t181 from by exact HI0.o) (by exact HO184.o) (by decide)) hk (fun _ h => h.2)) (fun _ h => h.1)); replace HK := Aa.k (Am.trans HK.o hk (.inl rfl)); replace HB := Aa.k (hb); replace HI0 := Aa.k (hi); clear hb hk hi))
 go_ret
 exact ⟨by (rfl), by exact HI0.o, by exact HB.o, by exact HK.o⟩

/-! ### spec_l1Cur_size: function 129 -/
def Fg.f (s0_0 : List Int) (s0_1 : Int) (s0_2 : Int) : Option (Int × Int × Int) := (Ch.f s0_0 s0_1 s0_2 40).bind fun bt193 => (if bt193.1 = true then ((Ce.f s0_0 bt193.2.1 bt193.2.2 (([1, 2, 24, 25, 0, (-1), 4611686018427387904] : List Int))).bind fun bt199 => (some (bt199.1, bt199.2.1, bt199.2.2))) else ((Ce.f s0_0 bt193.2.1 bt193.2.2 (([5, 6, 4, 8, 3, 10, 7, 13, 24, 2] : List Int))).bind fun bt205 => (some (bt205.1, bt205.2.1, bt205.2.2))))
set_option maxHeartbeats 8000000 in
set_option maxRecDepth 100000 in
theorem Fg.calls (g : Nat) (s0_0 : List Int) (s0_1 : Int) (s0_2 : Int) (r1 : Int) (r2 : Int) (r3 : Int) (w0 w : World) (hI : Bc w0 w g s0_0 s0_1 s0_2) (hB : Below w0.heap.size w0 w) (h : Fg.f s0_0 s0_1 s0_2 = some (r1, r2, r3)) :
  Calls Try.prog 129 #[.pointer (some ⟨g, 0, none⟩)] w fun e w' => e = .returned (.int .i64 r1) ∧ Bc w0 w' g s0_0 r2 r3 ∧ Below w0.heap.size w0 w' ∧ Am w w' g none := by
 have HI0 := Aa.k hI
 have HK := Aa.k (Am.refl w g none)
 have HL := Aa.k hB.size
 clear hI
 have HW0 := Aa.k hB.size
 have HB := Aa.k hB
 clear hB
 have H : ((Ch.f s0_0 s0_1 s0_2 40).bind fun bt193 => (if bt193.1 = true then ((Ce.f s0_0 bt193.2.1 bt193.2.2 (([1, 2, 24, 25, 0, (-1), 4611686018427387904] : List Int))).bind fun bt199 => (some (bt199.1, bt199.2.1, bt199.2.2))) else ((Ce.f s0_0 bt193.2.1 bt193.2.2 (([5, 6, 4, 8, 3, 10, 7, 13, 24, 2] : List Int))).bind fun bt205 => (some (bt205.1, bt205.2.1, bt205.2.2))))) = some (r1, r2, r3) := h
 clear h
 obtain ⟨⟨t193, t194, t195⟩, A20, H⟩ := bindS_ H
 try dsimp only at H
 have A2 := Aa.k A20
 clear A20
 by_cases c3 : t193 = true
 ·subst c3
  rw [if_pos rfl] at H
  obtain ⟨y196, hy196⟩ : ∃ y_ : List Int, y_ = (([1, 2, 24, 25, 0, (-1), 4611686018427387904] : List Int)) := ⟨_, rfl⟩
  replace H : ((Ce.f s0_0 t194 t195 y196).bind fun bt199 => (some (bt199.1, bt199.2.1, bt199.2.2))) = some (r1, r2, r3) := by (rw [hy196]; exact H)
  have Ny196 := Aa.k hy196
  clear hy196
  obtain ⟨⟨t199, t200, t201⟩, A40, H⟩ := bindS_ H
  try dsimp only at H
  have A4 := Aa.k A40
  clear A40
  simp only [Option.some.injEq, Prod.mk.injEq] at H
  obtain ⟨rfl, rfl, rfl⟩ := H
  go_enter Try.func129, Try.ntmps129
  go_wp2_with (first | ((with_reducible refine Aj (f := 110) rfl ?_); refine Bf (some 4) rfl rfl Try.func110 (by kernel_rfl) rfl #[.pointer (some ⟨g, 0, none⟩), .int .i64 40] rfl (by (try simp only [mT_, mC_, mN_]); rfl) ?_; (with_reducible refine (Ch.calls g s0_0 s0_1 s0_2 40 true t194 t195 w0 _ ?side1 ?side2 A2.o).mono ?_); (case side1 => exact HI0.o); (case side2 => exact HB.o); rintro e w5 ⟨rfl, hi, hb, hk⟩; refine ⟨_, rfl, ?_⟩; replace HK := Aa.k (Am.trans HK.o hk (.inl rfl)); replace HB := Aa.k (hb); replace HI0 := Aa.k (hi); clear hb hk hi) | ((with_reducible refine Be (N := 6) rfl ?_); refine Kd.R_lit (Kd.int .i64) _ 3 ?hg (N := 6) ?hd (xs := ([1, 2, 24, 25, 0, (-1), 4611686018427387904] : List Int)) (inner := [.int .i64 1, .int .i64 2, .int .i64 24, .int .i64 25, .int .i64 0, .int .i64 (-1), .int .i64 4611686018427387904]) (ok := fun _ => True) (okp := fun _ => True) ?hr ?hp (fun _ hk => hk) trivial (Below.refl _ _) (Nat.le_refl _) (by simp) ?_; (case hd => rfl); (case hg => rfl); (case hr => (go_simp; done)); (case hp => exact (Reps.one (show Kd.M (Kd.int .i64) _ _ _ 1 [.int .i64 1] from rfl) (Reps.one (show Kd.M (Kd.int .i64) _ _ _ 2 [.int .i64 2] from rfl) (Reps.one (show Kd.M (Kd.int .i64) _ _ _ 24 [.int .i64 24] from rfl) (Reps.one (show Kd.M (Kd.int .i64) _ _ _ 25 [.int .i64 25] from rfl) (Reps.one (show Kd.M (Kd.int .i64) _ _ _ 0 [.int .i64 0] from rfl) (Reps.one (show Kd.M (Kd.int .i64) _ _ _ (-1) [.int .i64 (-1)] from rfl) (Reps.one (show Kd.M (Kd.int .i64) _ _ _ 4611686018427387904 [.int .i64 4611686018427387904] from rfl) (Reps.none _ _))))))))); intro v197 w6 ho7 hb hg_ hnew_; clear hg_ hnew_; ((rw [← Ny196.o] at ho7)); have HO198 := Aa.k (Kd.Ct ho7 (Cj (w := w) (g := g) (row := none) HK.o)); replace HI0 := Aa.k (Bc.below HI0.o hb); replace HK := Aa.k (Am.trans HK.o (Am.of_below hb g none) (.inl rfl)); replace HB := Aa.k (Ad HB.o hb); clear hb ho7; obtain ⟨Ao8, co8, eo8⟩ := Kd.Cx HO198.o; subst eo8) | ((with_reducible refine Aj (f := 88) rfl ?_); refine Bf (some 7) rfl rfl Try.func88 (by kernel_rfl) rfl #[.pointer (some ⟨g, 0, none⟩), .slice Ao8 y196.length co8] rfl (by (try simp only [mT_, mC_, mN_]); rfl) ?_; (with_reducible refine (Ce.calls g s0_0 t194 t195 _ _ y196 t199 t200 t201 w0 _ ?side1 ?side2 ?side3 ?side4 ?side5 A4.o).mono ?_); (case side1 => exact HI0.o); (case side2 => exact HB.o); (case side3 => repeat (exact (Kd.Bb HO198.o).2.2)); (case side4 => exact (Kd.Bb HO198.o).2.1); (case side5 => exact far_slice (Bc.own_ne HI0.o HO198.o (by decide))); rintro e w9 ⟨rfl, hi, hb, hk⟩; refine ⟨_, rfl, ?_⟩; replace HO198 := Aa.k (Kd.Bv (Kd.R_keep (Bc.apart (show Bc w0 _ g s0_0 t194 t195 from by exact HI0.o) (by exact HO198.o) (by decide)) hk (fun _ h => h.2)) (fun _ h => h.1)); replace HK := Aa.k (Am.trans HK.o hk (.inl rfl)); replace HB := Aa.k (hb); replace HI0 := Aa.k (hi); clear hb hk hi))
  go_ret
  exact ⟨by (rfl), by exact HI0.o, by exact HB.o, by exact HK.o⟩
 replace c3 := Bool.eq_false_iff.mpr c3
 subst c3
 rw [if_neg (show ¬ (false = true) by decide)] at H
 obtain ⟨y202, hy202⟩ : ∃ y_ : List Int, y_ = (([5, 6, 4, 8, 3, 10, 7, 13, 24, 2] : List Int)) := ⟨_, rfl⟩
 replace H : ((Ce.f s0_0 t194 t195 y202).bind fun bt205 => (some (bt205.1, bt205.2.1, bt205.2.2))) = some (r1, r2, r3) := by (rw [hy202]; exact H)
 have Ny202 := Aa.k hy202
 clear hy202
 obtain ⟨⟨t205, t206, t207⟩, A100, H⟩ := bindS_ H
 try dsimp only at H
 have A10 := Aa.k A100
 clear A100
 simp only [Option.some.injEq, Prod.mk.injEq] at H
 obtain ⟨rfl, rfl, rfl⟩ := H
 go_enter Try.func129, Try.ntmps129
 go_wp2_with (first | ((with_reducible refine Aj (f := 110) rfl ?_); refine Bf (some 4) rfl rfl Try.func110 (by kernel_rfl) rfl #[.pointer (some ⟨g, 0, none⟩), .int .i64 40] rfl (by (try simp only [mT_, mC_, mN_]); rfl) ?_; (with_reducible refine (Ch.calls g s0_0 s0_1 s0_2 40 false t194 t195 w0 _ ?side1 ?side2 A2.o).mono ?_); (case side1 => exact HI0.o); (case side2 => exact HB.o); rintro e w11 ⟨rfl, hi, hb, hk⟩; refine ⟨_, rfl, ?_⟩; replace HK := Aa.k (Am.trans HK.o hk (.inl rfl)); replace HB := Aa.k (hb); replace HI0 := Aa.k (hi); clear hb hk hi) | ((with_reducible refine Be (N := 9) rfl ?_); refine Kd.R_lit (Kd.int .i64) _ 3 ?hg (N := 9) ?hd (xs := ([5, 6, 4, 8, 3, 10, 7, 13, 24, 2] : List Int)) (inner := [.int .i64 5, .int .i64 6, .int .i64 4, .int .i64 8, .int .i64 3, .int .i64 10, .int .i64 7, .int .i64 13, .int .i64 24, .int .i64 2]) (ok := fun _ => True) (okp := fun _ => True) ?hr ?hp (fun _ hk => hk) trivial (Below.refl _ _) (Nat.le_refl _) (by simp) ?_; (case hd => rfl); (case hg => rfl); (case hr => (go_simp; done)); (case hp => exact (Reps.one (show Kd.M (Kd.int .i64) _ _ _ 5 [.int .i64 5] from rfl) (Reps.one (show Kd.M (Kd.int .i64) _ _ _ 6 [.int .i64 6] from rfl) (Reps.one (show Kd.M (Kd.int .i64) _ _ _ 4 [.int .i64 4] from rfl) (Reps.one (show Kd.M (Kd.int .i64) _ _ _ 8 [.int .i64 8] from rfl) (Reps.one (show Kd.M (Kd.int .i64) _ _ _ 3 [.int .i64 3] from rfl) (Reps.one (show Kd.M (Kd.int .i64) _ _ _ 10 [.int .i64 10] from rfl) (Reps.one (show Kd.M (Kd.int .i64) _ _ _ 7 [.int .i64 7] from rfl) (Reps.one (show Kd.M (Kd.int .i64) _ _ _ 13 [.int .i64 13] from rfl) (Reps.one (show Kd.M (Kd.int .i64) _ _ _ 24 [.int .i64 24] from rfl) (Reps.one (show Kd.M (Kd.int .i64) _ _ _ 2 [.int .i64 2] from rfl) (Reps.none _ _)))))))))))); intro v203 w12 ho13 hb hg_ hnew_; clear hg_ hnew_; ((rw [← Ny202.o] at ho13)); have HO204 := Aa.k (Kd.Ct ho13 (Cj (w := w) (g := g) (row := none) HK.o)); replace HI0 := Aa.k (Bc.below HI0.o hb); replace HK := Aa.k (Am.trans HK.o (Am.of_below hb g none) (.inl rfl)); replace HB := Aa.k (Ad HB.o hb); clear hb ho13; obtain ⟨Ao14, co14, eo14⟩ := Kd.Cx HO204.o; subst eo14) | ((with_reducible refine Aj (f := 88) rfl ?_); refine Bf (some 10) rfl rfl Try.func88 (by kernel_rfl) rfl #[.pointer (some ⟨g, 0, none⟩), .slice Ao14 y202.length co14] rfl (by (try simp only [mT_, mC_, mN_]); rfl) ?_; (with_reducible refine (Ce.calls g s0_0 t194 t195 _ _ y202 t205 t206 t207 w0 _ ?side1 ?side2 ?side3 ?side4 ?side5 A10.o).mono ?_); (case side1 => exact HI0.o); (case side2 => exact HB.o); (case side3 => repeat (exact (Kd.Bb HO204.o).2.2)); (case side4 => exact (Kd.Bb HO204.o).2.1); (case side5 => exact far_slice (Bc.own_ne HI0.o HO204.o (by decide))); rintro e w15 ⟨rfl, hi, hb, hk⟩; refine ⟨_, rfl, ?_⟩; replace HO204 := Aa.k (Kd.Bv (Kd.R_keep (Bc.apart (show Bc w0 _ g s0_0 t194 t195 from by exact HI0.o) (by exact HO204.o) (by decide)) hk (fun _ h => h.2)) (fun _ h => h.1)); replace HK := Aa.k (Am.trans HK.o hk (.inl rfl)); replace HB := Aa.k (hb); replace HI0 := Aa.k (hi); clear hb hk hi))
 go_ret
 exact ⟨by (rfl), by exact HI0.o, by exact HB.o, by exact HK.o⟩

/-! ### spec_l1Cur_line: function 111 -/
def Fu.f (s0_0 : List Int) (s0_1 : Int) (s0_2 : Int) : Option (Int × Bool × Int × Int) := (Fg.f s0_0 s0_1 s0_2).bind fun bt209 => (some (bt209.1, false, bt209.2.1, bt209.2.2))
set_option maxHeartbeats 8000000 in
set_option maxRecDepth 100000 in
theorem Fu.calls (g : Nat) (s0_0 : List Int) (s0_1 : Int) (s0_2 : Int) (r1 : Int) (r2 : Bool) (r3 : Int) (r4 : Int) (w0 w : World) (hI : Bc w0 w g s0_0 s0_1 s0_2) (hB : Below w0.heap.size w0 w) (h : Fu.f s0_0 s0_1 s0_2 = some (r1, r2, r3, r4)) :
  Calls Try.prog 111 #[.pointer (some ⟨g, 0, none⟩)] w fun e w' => e = .returned (.agg #[.int .i64 r1, .bool r2]) ∧ Bc w0 w' g s0_0 r3 r4 ∧ Below w0.heap.size w0 w' ∧ Am w w' g none := by
 have hu25 := Try.underlying25
 have HI0 := Aa.k hI
 have HK := Aa.k (Am.refl w g none)
 have HL := Aa.k hB.size
 clear hI
 have HW0 := Aa.k hB.size
 have HB := Aa.k hB
 clear hB
 have H : ((Fg.f s0_0 s0_1 s0_2).bind fun bt209 => (some (bt209.1, false, bt209.2.1, bt209.2.2))) = some (r1, r2, r3, r4) := h
 clear h
 obtain ⟨⟨t209, t210, t211⟩, A20, H⟩ := bindS_ H
 try dsimp only at H
 have A2 := Aa.k A20
 clear A20
 simp only [Option.some.injEq, Prod.mk.injEq] at H
 obtain ⟨rfl, rfl, rfl, rfl⟩ := H
 go_enter Try.func111, Try.ntmps111
 go_wp2_with (first | ((with_reducible refine Be (N := 2) rfl ?_); refine Bo ?hg (N := 2) ?hd (cs := #[.int .i64 0, .bool false]) (t := 25) ?hr ?_; (case hd => rfl); (case hg => rfl); (case hr => (go_simp; done)); intro gb208 hg w3 hbox hb; replace HB := Aa.k (Ad HB.o hb); have BK208 := Aa.k (hbox); have GW208 := Aa.k ((by rw [hg]; exact (Cj (w := w) (g := g) (row := none) HK.o) : w.heap.size ≤ gb208)); have GE208 := Aa.k ((Nat.le_trans HW0.o (by rw [hg]; exact (Cj (w := w) (g := g) (row := none) HK.o) : w.heap.size ≤ gb208) : w0.heap.size ≤ gb208)); replace HK := Aa.k (Am.trans HK.o (Am.of_below hb g none) (.inl rfl)); have NB0_208 := Aa.k ((by rw [hg]; exact Nat.ne_of_lt (Bc.lt (show Bc w0 _ g s0_0 s0_1 s0_2 from by exact HI0.o)) : g ≠ gb208)); have NB208_0 := Aa.k ((by rw [hg]; exact Nat.ne_of_gt (Bc.lt (show Bc w0 _ g s0_0 s0_1 s0_2 from by exact HI0.o)) : gb208 ≠ g)); replace HI0 := Aa.k (Bc.below HI0.o hb); clear hb hbox hg) | ((with_reducible refine Aj (f := 129) rfl ?_); refine Bf (some 4) rfl rfl Try.func129 (by kernel_rfl) rfl #[.pointer (some ⟨g, 0, none⟩)] rfl (by (try simp only [mT_, mC_, mN_]); rfl) ?_; (with_reducible refine (Fg.calls g s0_0 s0_1 s0_2 t209 t210 t211 w0 _ ?side1 ?side2 A2.o).mono ?_); (case side1 => exact HI0.o); (case side2 => exact HB.o); rintro e w4 ⟨rfl, hi, hb, hk⟩; refine ⟨_, rfl, ?_⟩; replace BK208 := Aa.k (Am.blk hk (g' := gb208) (o := .cells #[.int .i64 0, .bool false] 25 (0, 0)) (by exact BK208.o) NB208_0.o (by simp)); replace HK := Aa.k (Am.trans HK.o hk (.inl rfl)); replace HB := Aa.k (hb); replace HI0 := Aa.k (hi); clear hb hk hi; have hnb5 := NB208_0.o; have hnc5 := NB0_208.o; have hcz6_0 := Bj BK208.o; have hcz6_1 := Bn BK208.o; have hfz6_0 := Ac BK208.o 0; have hfz6_1 := Ac BK208.o 1))
 refine bodyPost_ret (results_cell_row rfl _ _ gb208 25 #[.int .i64 t209, .bool false] (0, 0) _ rfl (by refine Cr (cs := #[.int .i64 t209, .bool false]) ?_ 1 _ rfl; refine Cr (cs := #[.int .i64 0, .bool false]) ?_ 0 _ rfl; exact BK208.o) Try.underlying25 rfl (by kernel_rfl)) rfl ?_
 exact ⟨by (rfl), by repeat ((with_reducible first | exact HI0.o | refine Bc.far ?_ NB0_208.o _)), by repeat ((with_reducible first | exact HB.o | refine Bz ?_ GE208.o)), by repeat ((with_reducible first | exact HK.o | refine keep_far ?_ GW208.o _))⟩

/-! ### spec_l1Cur_ring: function 112 -/
def spec_l1Cur_ring.f (s0_0 : List Int) (s0_1 : Int) (s0_2 : Int) : Option (Int × Bool × Int × Int) := (Fg.f s0_0 s0_1 s0_2).bind fun bt213 => (if bt213.1 = 2 then ((Ch.f s0_0 bt213.2.1 bt213.2.2 4).bind fun bt217 => (if bt217.1 = true then (some (bt213.1, true, bt217.2.1, bt217.2.2)) else (some (3, true, bt217.2.1, bt217.2.2)))) else (some (bt213.1, true, bt213.2.1, bt213.2.2)))
set_option maxHeartbeats 8000000 in
set_option maxRecDepth 100000 in
theorem spec_l1Cur_ring.calls (g : Nat) (s0_0 : List Int) (s0_1 : Int) (s0_2 : Int) (r1 : Int) (r2 : Bool) (r3 : Int) (r4 : Int) (w0 w : World) (hI : Bc w0 w g s0_0 s0_1 s0_2) (hB : Below w0.heap.size w0 w) (h : spec_l1Cur_ring.f s0_0 s0_1 s0_2 = some (r1, r2, r3, r4)) :
  Calls Try.prog 112 #[.pointer (some ⟨g, 0, none⟩)] w fun e w' => e = .returned (.agg #[.int .i64 r1, .bool r2]) ∧ Bc w0 w' g s0_0 r3 r4 ∧ Below w0.heap.size w0 w' ∧ Am w w' g none := by
 have hu25 := Try.underlying25
 have HI0 := Aa.k hI
 have HK := Aa.k (Am.refl w g none)
 have HL := Aa.k hB.size
 clear hI
 have HW0 := Aa.k hB.size
 have HB := Aa.k hB
 clear hB
 have H : ((Fg.f s0_0 s0_1 s0_2).bind fun bt213 => (if bt213.1 = 2 then ((Ch.f s0_0 bt213.2.1 bt213.2.2 4).bind fun bt217 => (if bt217.1 = true then (some (bt213.1, true, bt217.2.1, bt217.2.2)) else (some (3, true, bt217.2.1, bt217.2.2)))) else (some (bt213.1, true, bt213.2.1, bt213.2.2)))) = some (r1, r2, r3, r4) := h
 clear h
 obtain ⟨⟨t213, t214, t215⟩, A20, H⟩ := bindS_ H
 try dsimp only at H
 have A2 := Aa.k A20
 clear A20
 by_cases c3 : t213 = 2
 rotate_left
 ·rw [if_neg c3] at H
  have c3b0 : (t213 == 2) = false := beq_eq_false_iff_ne.mpr c3
  have c3b1 : (t213 != 2) = true := bne_iff_ne.mpr c3
  simp only [Option.some.injEq, Prod.mk.injEq] at H
  obtain ⟨rfl, rfl, rfl, rfl⟩ := H
  go_enter Try.func112, Try.ntmps112
  go_wp2_with (first | ((with_reducible refine Be (N := 2) rfl ?_); refine Bo ?hg (N := 2) ?hd (cs := #[.int .i64 0, .bool false]) (t := 25) ?hr ?_; (case hd => rfl); (case hg => rfl); (case hr => (go_simp; done)); intro gb212 hg w26 hbox hb; replace HB := Aa.k (Ad HB.o hb); have BK212 := Aa.k (hbox); have GW212 := Aa.k ((by rw [hg]; exact (Cj (w := w) (g := g) (row := none) HK.o) : w.heap.size ≤ gb212)); have GE212 := Aa.k ((Nat.le_trans HW0.o (by rw [hg]; exact (Cj (w := w) (g := g) (row := none) HK.o) : w.heap.size ≤ gb212) : w0.heap.size ≤ gb212)); replace HK := Aa.k (Am.trans HK.o (Am.of_below hb g none) (.inl rfl)); have NB0_212 := Aa.k ((by rw [hg]; exact Nat.ne_of_lt (Bc.lt (show Bc w0 _ g s0_0 s0_1 s0_2 from by exact HI0.o)) : g ≠ gb212)); have NB212_0 := Aa.k ((by rw [hg]; exact Nat.ne_of_gt (Bc.lt (show Bc w0 _ g s0_0 s0_1 s0_2 from by exact HI0.o)) : gb212 ≠ g)); replace HI0 := Aa.k (Bc.below HI0.o hb); clear hb hbox hg) | ((with_reducible refine Aj (f := 129) rfl ?_); refine Bf (some 5) rfl rfl Try.func129 (by kernel_rfl) rfl #[.pointer (some ⟨g, 0, none⟩)] rfl (by (try simp only [mT_, mC_, mN_]); rfl) ?_; (with_reducible refine (Fg.calls g s0_0 s0_1 s0_2 t213 t214 t215 w0 _ ?side1 ?side2 A2.o).mono ?_); (case side1 => exact HI0.o); (case side2 => exact HB.o); rintro e w27 ⟨rfl, hi, hb, hk⟩; refine ⟨_, rfl, ?_⟩; replace BK212 := Aa.k (Am.blk hk (g' := gb212) (o := .cells #[.int .i64 0, .bool false] 25 (0, 0)) (by exact BK212.o) NB212_0.o (by simp)); replace HK := Aa.k (Am.trans HK.o hk (.inl rfl)); replace HB := Aa.k (hb); replace HI0 := Aa.k (hi); clear hb hk hi) | ((with_reducible refine Be (N := 3) rfl ?_); refine Bo ?hg (N := 3) ?hd (cs := #[.int .i64 0, .bool false]) (t := 25) ?hr ?_; (case hd => rfl); (case hg => rfl); (case hr => (go_simp; done)); intro gb216 hg w28 hbox hb; replace HB := Aa.k (Ad HB.o hb); have BK216 := Aa.k (hbox); have GW216 := Aa.k ((by rw [hg]; exact (Cj (w := w) (g := g) (row := none) HK.o) : w.heap.size ≤ gb216)); have GE216 := Aa.k ((Nat.le_trans HW0.o (by rw [hg]; exact (Cj (w := w) (g := g) (row := none) HK.o) : w.heap.size ≤ gb216) : w0.heap.size ≤ gb216)); replace HK := Aa.k (Am.trans HK.o (Am.of_below hb g none) (.inl rfl)); have NB212_216 := Aa.k ((by rw [hg]; exact Nat.ne_of_lt (Ca (g := gb212) (o := .cells #[.int .i64 0, .bool false] 25 (0, 0)) (by exact BK212.o)) : gb212 ≠ gb216)); have NB216_212 := Aa.k ((by rw [hg]; exact Nat.ne_of_gt (Ca (g := gb212) (o := .cells #[.int .i64 0, .bool false] 25 (0, 0)) (by exact BK212.o)) : gb216 ≠ gb212)); replace BK212 := Aa.k (Ae (g := gb212) (o := .cells #[.int .i64 0, .bool false] 25 (0, 0)) (by exact BK212.o) hb); have NB0_216 := Aa.k ((by rw [hg]; exact Nat.ne_of_lt (Bc.lt (show Bc w0 _ g s0_0 t214 t215 from by exact HI0.o)) : g ≠ gb216)); have NB216_0 := Aa.k ((by rw [hg]; exact Nat.ne_of_gt (Bc.lt (show Bc w0 _ g s0_0 t214 t215 from by exact HI0.o)) : gb216 ≠ g)); replace HI0 := Aa.k (Bc.below HI0.o hb); clear hb hbox hg; have hnb29 := NB216_212.o; have hnc29 := NB212_216.o; have hnb30 := NB216_0.o; have hnc30 := NB0_216.o; have hcz31_0 := Bj BK216.o; have hcz31_1 := Bn BK216.o; have hfz31_0 := Ac BK216.o 0; have hfz31_1 := Ac BK216.o 1; have hnb32 := NB212_0.o; have hnc32 := NB0_212.o; have hcz33_0 := Bj BK212.o; have hcz33_1 := Bn BK212.o; have hfz33_0 := Ac BK212.o 0; have hfz33_1 := Ac BK212.o 1))
  refine bodyPost_ret (results_cell_row rfl _ _ gb212 25 #[.int .i64 t213, .bool true] (0, 0) _ rfl (by refine Cr (cs := #[.int .i64 t213, .bool false]) ?_ 1 _ rfl; refine Cr (cs := #[.int .i64 0, .bool false]) ?_ 0 _ rfl; refine Cb ?_ NB212_216.o _; refine Cb ?_ NB212_216.o _; exact BK212.o) Try.underlying25 rfl (by kernel_rfl)) rfl ?_
  exact ⟨by (rfl), by repeat ((with_reducible first | exact HI0.o | refine Bc.far ?_ NB0_212.o _ | refine Bc.far ?_ NB0_216.o _)), by repeat ((with_reducible first | exact HB.o | refine Bz ?_ GE212.o | refine Bz ?_ GE216.o)), by repeat ((with_reducible first | exact HK.o | refine keep_far ?_ GW212.o _ | refine keep_far ?_ GW216.o _))⟩
 rw [if_pos c3] at H
 have c3b0 : (t213 == 2) = true := beq_iff_eq.mpr c3
 have c3b1 : (t213 != 2) = false := bne_eq_false_iff_eq.mpr c3
 clear c3
 obtain ⟨⟨t217, t218, t219⟩, A40, H⟩ := bindS_ H
 try dsimp only at H
 have A4 := Aa.k A40
 clear A40
 by_cases c5 : t217 = true
 ·subst c5
  rw [if_pos rfl] at H
  simp only [Option.some.injEq, Prod.mk.injEq] at H
  obtain ⟨rfl, rfl, rfl, rfl⟩ := H
  go_enter Try.func112, Try.ntmps112
  go_wp2_with (first | ((with_reducible refine Be (N := 2) rfl ?_); refine Bo ?hg (N := 2) ?hd (cs := #[.int .i64 0, .bool false]) (t := 25) ?hr ?_; (case hd => rfl); (case hg => rfl); (case hr => (go_simp; done)); intro gb212 hg w6 hbox hb; replace HB := Aa.k (Ad HB.o hb); have BK212 := Aa.k (hbox); have GW212 := Aa.k ((by rw [hg]; exact (Cj (w := w) (g := g) (row := none) HK.o) : w.heap.size ≤ gb212)); have GE212 := Aa.k ((Nat.le_trans HW0.o (by rw [hg]; exact (Cj (w := w) (g := g) (row := none) HK.o) : w.heap.size ≤ gb212) : w0.heap.size ≤ gb212)); replace HK := Aa.k (Am.trans HK.o (Am.of_below hb g none) (.inl rfl)); have NB0_212 := Aa.k ((by rw [hg]; exact Nat.ne_of_lt (Bc.lt (show Bc w0 _ g s0_0 s0_1 s0_2 from by exact HI0.o)) : g ≠ gb212)); have NB212_0 := Aa.k ((by rw [hg]; exact Nat.ne_of_gt (Bc.lt (show Bc w0 _ g s0_0 s0_1 s0_2 from by exact HI0.o)) : gb212 ≠ g)); replace HI0 := Aa.k (Bc.below HI0.o hb); clear hb hbox hg) | ((with_reducible refine Aj (f := 129) rfl ?_); refine Bf (some 5) rfl rfl Try.func129 (by kernel_rfl) rfl #[.pointer (some ⟨g, 0, none⟩)] rfl (by (try simp only [mT_, mC_, mN_]); rfl) ?_; (with_reducible refine (Fg.calls g s0_0 s0_1 s0_2 t213 t214 t215 w0 _ ?side1 ?side2 A2.o).mono ?_); (case side1 => exact HI0.o); (case side2 => exact HB.o); rintro e w7 ⟨rfl, hi, hb, hk⟩; refine ⟨_, rfl, ?_⟩; replace BK212 := Aa.k (Am.blk hk (g' := gb212) (o := .cells #[.int .i64 0, .bool false] 25 (0, 0)) (by exact BK212.o) NB212_0.o (by simp)); replace HK := Aa.k (Am.trans HK.o hk (.inl rfl)); replace HB := Aa.k (hb); replace HI0 := Aa.k (hi); clear hb hk hi) | ((with_reducible refine Be (N := 3) rfl ?_); refine Bo ?hg (N := 3) ?hd (cs := #[.int .i64 0, .bool false]) (t := 25) ?hr ?_; (case hd => rfl); (case hg => rfl); (case hr => (go_simp; done)); intro gb216 hg w8 hbox hb; replace HB := Aa.k (Ad HB.o hb); have BK216 := Aa.k (hbox); have GW216 := Aa.k ((by rw [hg]; exact (Cj (w := w) (g := g) (row := none) HK.o) : w.heap.size ≤ gb216)); have GE216 := Aa.k ((Nat.le_trans HW0.o (by rw [hg]; exact (Cj (w := w) (g := g) (row := none) HK.o) : w.heap.size ≤ gb216) : w0.heap.size ≤ gb216)); replace HK := Aa.k (Am.trans HK.o (Am.of_below hb g none) (.inl rfl)); have NB212_216 := Aa.k ((by rw [hg]; exact Nat.ne_of_lt (Ca (g := gb212) (o := .cells #[.int .i64 0, .bool false] 25 (0, 0)) (by exact BK212.o)) : gb212 ≠ gb216)); have NB216_212 := Aa.k ((by rw [hg]; exact Nat.ne_of_gt (Ca (g := gb212) (o := .cells #[.int .i64 0, .bool false] 25 (0, 0)) (by exact BK212.o)) : gb216 ≠ gb212)); replace BK212 := Aa.k (Ae (g := gb212) (o := .cells #[.int .i64 0, .bool false] 25 (0, 0)) (by exact BK212.o) hb); have NB0_216 := Aa.k ((by rw [hg]; exact Nat.ne_of_lt (Bc.lt (show Bc w0 _ g s0_0 t214 t215 from by exact HI0.o)) : g ≠ gb216)); have NB216_0 := Aa.k ((by rw [hg]; exact Nat.ne_of_gt (Bc.lt (show Bc w0 _ g s0_0 t214 t215 from by exact HI0.o)) : gb216 ≠ g)); replace HI0 := Aa.k (Bc.below HI0.o hb); clear hb hbox hg; have hnb9 := NB216_212.o; have hnc9 := NB212_216.o; have hnb10 := NB216_0.o; have hnc10 := NB0_216.o; have hcz11_0 := Bj BK216.o; have hcz11_1 := Bn BK216.o; have hfz11_0 := Ac BK216.o 0; have hfz11_1 := Ac BK216.o 1) | (go_at_call 110; (with_reducible refine (Ch.calls g s0_0 t214 t215 4 true t218 t219 w0 _ ?side1 ?side2 A4.o).mono ?_); (case side1 => repeat ((with_reducible first | exact HI0.o | refine Bc.far ?_ NB0_216.o _))); (case side2 => repeat ((with_reducible first | exact HB.o | refine Bz ?_ GE216.o))); rintro e w12 ⟨rfl, hi, hb, hk⟩; replace BK212 := Aa.k (Am.blk hk (g' := gb212) (o := .cells #[.int .i64 0, .bool false] 25 (0, 0)) (by refine Cb ?_ NB212_216.o _; refine Cb ?_ NB212_216.o _; exact BK212.o) NB212_0.o (by simp)); replace BK216 := Aa.k (Am.blk hk (g' := gb216) (o := .cells #[.int .i64 t213, .bool true] 25 (0, 0)) (by refine Cr (cs := #[.int .i64 t213, .bool false]) ?_ 1 _ rfl; refine Cr (cs := #[.int .i64 0, .bool false]) ?_ 0 _ rfl; exact BK216.o) NB216_0.o (by simp)); replace HK := Aa.k (Am.trans (by repeat ((with_reducible first | exact HK.o | refine keep_far ?_ GW216.o _))) hk (.inl rfl)); replace HB := Aa.k (hb); replace HI0 := Aa.k (hi); clear hb hk hi; have hcz13_0 := Bj BK216.o; have hcz13_1 := Bn BK216.o; have hfz13_0 := Ac BK216.o 0; have hfz13_1 := Ac BK216.o 1; have hnb14 := NB212_0.o; have hnc14 := NB0_212.o; have hcz15_0 := Bj BK212.o; have hcz15_1 := Bn BK212.o; have hfz15_0 := Ac BK212.o 0; have hfz15_1 := Ac BK212.o 1))
  refine bodyPost_ret (results_cell_row rfl _ _ gb212 25 #[.int .i64 t213, .bool true] (0, 0) _ rfl (by refine Cr (cs := #[.int .i64 t213, .bool false]) ?_ 1 _ rfl; refine Cr (cs := #[.int .i64 0, .bool false]) ?_ 0 _ rfl; exact BK212.o) Try.underlying25 rfl (by kernel_rfl)) rfl ?_
  exact ⟨by (rfl), by repeat ((with_reducible first | exact HI0.o | refine Bc.far ?_ NB0_212.o _)), by repeat ((with_reducible first | exact HB.o | refine Bz ?_ GE212.o)), by repeat ((with_reducible first | exact HK.o | refine keep_far ?_ GW212.o _))⟩
 replace c5 := Bool.eq_false_iff.mpr c5
 subst c5
 rw [if_neg (show ¬ (false = true) by decide)] at H
 simp only [Option.some.injEq, Prod.mk.injEq] at H
 obtain ⟨rfl, rfl, rfl, rfl⟩ := H
 go_enter Try.func112, Try.ntmps112
 go_wp2_with (first | ((with_reducible refine Be (N := 2) rfl ?_); refine Bo ?hg (N := 2) ?hd (cs := #[.int .i64 0, .bool false]) (t := 25) ?hr ?_; (case hd => rfl); (case hg => rfl); (case hr => (go_simp; done)); intro gb212 hg w16 hbox hb; replace HB := Aa.k (Ad HB.o hb); have BK212 := Aa.k (hbox); have GW212 := Aa.k ((by rw [hg]; exact (Cj (w := w) (g := g) (row := none) HK.o) : w.heap.size ≤ gb212)); have GE212 := Aa.k ((Nat.le_trans HW0.o (by rw [hg]; exact (Cj (w := w) (g := g) (row := none) HK.o) : w.heap.size ≤ gb212) : w0.heap.size ≤ gb212)); replace HK := Aa.k (Am.trans HK.o (Am.of_below hb g none) (.inl rfl)); have NB0_212 := Aa.k ((by rw [hg]; exact Nat.ne_of_lt (Bc.lt (show Bc w0 _ g s0_0 s0_1 s0_2 from by exact HI0.o)) : g ≠ gb212)); have NB212_0 := Aa.k ((by rw [hg]; exact Nat.ne_of_gt (Bc.lt (show Bc w0 _ g s0_0 s0_1 s0_2 from by exact HI0.o)) : gb212 ≠ g)); replace HI0 := Aa.k (Bc.below HI0.o hb); clear hb hbox hg) | ((with_reducible refine Aj (f := 129) rfl ?_); refine Bf (some 5) rfl rfl Try.func129 (by kernel_rfl) rfl #[.pointer (some ⟨g, 0, none⟩)] rfl (by (try simp only [mT_, mC_, mN_]); rfl) ?_; (with_reducible refine (Fg.calls g s0_0 s0_1 s0_2 t213 t214 t215 w0 _ ?side1 ?side2 A2.o).mono ?_); (case side1 => exact HI0.o); (case side2 => exact HB.o); rintro e w17 ⟨rfl, hi, hb, hk⟩; refine ⟨_, rfl, ?_⟩; replace BK212 := Aa.k (Am.blk hk (g' := gb212) (o := .cells #[.int .i64 0, .bool false] 25 (0, 0)) (by exact BK212.o) NB212_0.o (by simp)); replace HK := Aa.k (Am.trans HK.o hk (.inl rfl)); replace HB := Aa.k (hb); replace HI0 := Aa.k (hi); clear hb hk hi) | ((with_reducible refine Be (N := 3) rfl ?_); refine Bo ?hg (N := 3) ?hd (cs := #[.int .i64 0, .bool false]) (t := 25) ?hr ?_; (case hd => rfl); (case hg => rfl); (case hr => (go_simp; done)); intro gb216 hg w18 hbox hb; replace HB := Aa.k (Ad HB.o hb); have BK216 := Aa.k (hbox); have GW216 := Aa.k ((by rw [hg]; exact (Cj (w := w) (g := g) (row := none) HK.o) : w.heap.size ≤ gb216)); have GE216 := Aa.k ((Nat.le_trans HW0.o (by rw [hg]; exact (Cj (w := w) (g := g) (row := none) HK.o) : w.heap.size ≤ gb216) : w0.heap.size ≤ gb216)); replace HK := Aa.k (Am.trans HK.o (Am.of_below hb g none) (.inl rfl)); have NB212_216 := Aa.k ((by rw [hg]; exact Nat.ne_of_lt (Ca (g := gb212) (o := .cells #[.int .i64 0, .bool false] 25 (0, 0)) (by exact BK212.o)) : gb212 ≠ gb216)); have NB216_212 := Aa.k ((by rw [hg]; exact Nat.ne_of_gt (Ca (g := gb212) (o := .cells #[.int .i64 0, .bool false] 25 (0, 0)) (by exact BK212.o)) : gb216 ≠ gb212)); replace BK212 := Aa.k (Ae (g := gb212) (o := .cells #[.int .i64 0, .bool false] 25 (0, 0)) (by exact BK212.o) hb); have NB0_216 := Aa.k ((by rw [hg]; exact Nat.ne_of_lt (Bc.lt (show Bc w0 _ g s0_0 t214 t215 from by exact HI0.o)) : g ≠ gb216)); have NB216_0 := Aa.k ((by rw [hg]; exact Nat.ne_of_gt (Bc.lt (show Bc w0 _ g s0_0 t214 t215 from by exact HI0.o)) : gb216 ≠ g)); replace HI0 := Aa.k (Bc.below HI0.o hb); clear hb hbox hg; have hnb19 := NB216_212.o; have hnc19 := NB212_216.o; have hnb20 := NB216_0.o; have hnc20 := NB0_216.o; have hcz21_0 := Bj BK216.o; have hcz21_1 := Bn BK216.o; have hfz21_0 := Ac BK216.o 0; have hfz21_1 := Ac BK216.o 1) | (go_at_call 110; (with_reducible refine (Ch.calls g s0_0 t214 t215 4 false t218 t219 w0 _ ?side1 ?side2 A4.o).mono ?_); (case side1 => repeat ((with_reducible first | exact HI0.o | refine Bc.far ?_ NB0_216.o _))); (case side2 => repeat ((with_reducible first | exact HB.o | refine Bz ?_ GE216.o))); rintro e w22 ⟨rfl, hi, hb, hk⟩; replace BK212 := Aa.k (Am.blk hk (g' := gb212) (o := .cells #[.int .i64 0, .bool false] 25 (0, 0)) (by refine Cb ?_ NB212_216.o _; refine Cb ?_ NB212_216.o _; exact BK212.o) NB212_0.o (by simp)); replace BK216 := Aa.k (Am.blk hk (g' := gb216) (o := .cells #[.int .i64 t213, .bool true] 25 (0, 0)) (by refine Cr (cs := #[.int .i64 t213, .bool false]) ?_ 1 _ rfl; refine Cr (cs := #[.int .i64 0, .bool false]) ?_ 0 _ rfl; exact BK216.o) NB216_0.o (by simp)); replace HK := Aa.k (Am.trans (by repeat ((with_reducible first | exact HK.o | refine keep_far ?_ GW216.o _))) hk (.inl rfl)); replace HB := Aa.k (hb); replace HI0 := Aa.k (hi); clear hb hk hi; have hcz23_0 := Bj BK216.o; have hcz23_1 := Bn BK216.o; have hfz23_0 := Ac BK216.o 0; have hfz23_1 := Ac BK216.o 1; have hnb24 := NB212_0.o; have hnc24 := NB0_212.o; have hcz25_0 := Bj BK212.o; have hcz25_1 := Bn BK212.o; have hfz25_0 := Ac BK212.o 0; have hfz25_1 := Ac BK212.o 1))
 refine bodyPost_ret (results_cell_row rfl _ _ gb212 25 #[.int .i64 3, .bool true] (0, 0) _ rfl (by refine Cr (cs := #[.int .i64 3, .bool false]) ?_ 1 _ rfl; refine Cr (cs := #[.int .i64 0, .bool false]) ?_ 0 _ rfl; refine Cb ?_ NB212_216.o _; exact BK212.o) Try.underlying25 rfl (by kernel_rfl)) rfl ?_
 exact ⟨by (rfl), by repeat ((with_reducible first | exact HI0.o | refine Bc.far ?_ NB0_212.o _ | refine Bc.far ?_ NB0_216.o _)), by repeat ((with_reducible first | exact HB.o | refine Bz ?_ GE212.o | refine Bz ?_ GE216.o)), by repeat ((with_reducible first | exact HK.o | refine keep_far ?_ GW212.o _ | refine keep_far ?_ GW216.o _))⟩

/-! ### spec_l1Cur_road: function 59 -/
def spec_l1Cur_road.f (s0_0 : List Int) (s0_1 : Int) (s0_2 : Int) : Option (Int × Bool × Int × Int) := (Ch.f s0_0 s0_1 s0_2 2).bind fun bt221 => (if bt221.1 = true then ((Fu.f s0_0 bt221.2.1 bt221.2.2).bind fun bt224 => (some (bt224.1, bt224.2.1, bt224.2.2.1, bt224.2.2.2))) else ((spec_l1Cur_ring.f s0_0 bt221.2.1 bt221.2.2).bind fun bt228 => (some (bt228.1, bt228.2.1, bt228.2.2.1, bt228.2.2.2))))
set_option maxHeartbeats 8000000 in
set_option maxRecDepth 100000 in
theorem spec_l1Cur_road.calls (g : Nat) (s0_0 : List Int) (s0_1 : Int) (s0_2 : Int) (r1 : Int) (r2 : Bool) (r3 : Int) (r4 : Int) (w0 w : World) (hI : Bc w0 w g s0_0 s0_1 s0_2) (hB : Below w0.heap.size w0 w) (h : spec_l1Cur_road.f s0_0 s0_1 s0_2 = some (r1, r2, r3, r4)) :
  Calls Try.prog 59 #[.pointer (some ⟨g, 0, none⟩)] w fun e w' => e = .returned (.agg #[.int .i64 r1, .bool r2]) ∧ Bc w0 w' g s0_0 r3 r4 ∧ Below w0.heap.size w0 w' ∧ Am w w' g none := by
 have hu25 := Try.underlying25
 have HI0 := Aa.k hI
 have HK := Aa.k (Am.refl w g none)
 have HL := Aa.k hB.size
 clear hI
 have HW0 := Aa.k hB.size
 have HB := Aa.k hB
 clear hB
 have H : ((Ch.f s0_0 s0_1 s0_2 2).bind fun bt221 => (if bt221.1 = true then ((Fu.f s0_0 bt221.2.1 bt221.2.2).bind fun bt224 => (some (bt224.1, bt224.2.1, bt224.2.2.1, bt224.2.2.2))) else ((spec_l1Cur_ring.f s0_0 bt221.2.1 bt221.2.2).bind fun bt228 => (some (bt228.1, bt228.2.1, bt228.2.2.1, bt228.2.2.2))))) = some (r1, r2, r3, r4) := h
 clear h
 obtain ⟨⟨t221, t222, t223⟩, A20, H⟩ := bindS_ H
 try dsimp only at H
 have A2 := Aa.k A20
 clear A20
 by_cases c3 : t221 = true
 ·subst c3
  rw [if_pos rfl] at H
  obtain ⟨⟨t224, t225, t226, t227⟩, A40, H⟩ := bindS_ H
  try dsimp only at H
  have A4 := Aa.k A40
  clear A40
  simp only [Option.some.injEq, Prod.mk.injEq] at H
  obtain ⟨rfl, rfl, rfl, rfl⟩ := H
  go_enter Try.func59, Try.ntmps59
  go_wp2_with (first | ((with_reducible refine Be (N := 2) rfl ?_); refine Bo ?hg (N := 2) ?hd (cs := #[.int .i64 0, .bool false]) (t := 25) ?hr ?_; (case hd => rfl); (case hg => rfl); (case hr => (go_simp; done)); intro gb220 hg w5 hbox hb; replace HB := Aa.k (Ad HB.o hb); have BK220 := Aa.k (hbox); have GW220 := Aa.k ((by rw [hg]; exact (Cj (w := w) (g := g) (row := none) HK.o) : w.heap.size ≤ gb220)); have GE220 := Aa.k ((Nat.le_trans HW0.o (by rw [hg]; exact (Cj (w := w) (g := g) (row := none) HK.o) : w.heap.size ≤ gb220) : w0.heap.size ≤ gb220)); replace HK := Aa.k (Am.trans HK.o (Am.of_below hb g none) (.inl rfl)); have NB0_220 := Aa.k ((by rw [hg]; exact Nat.ne_of_lt (Bc.lt (show Bc w0 _ g s0_0 s0_1 s0_2 from by exact HI0.o)) : g ≠ gb220)); have NB220_0 := Aa.k ((by rw [hg]; exact Nat.ne_of_gt (Bc.lt (show Bc w0 _ g s0_0 s0_1 s0_2 from by exact HI0.o)) : gb220 ≠ g)); replace HI0 := Aa.k (Bc.below HI0.o hb); clear hb hbox hg) | ((with_reducible refine Aj (f := 110) rfl ?_); refine Bf (some 4) rfl rfl Try.func110 (by kernel_rfl) rfl #[.pointer (some ⟨g, 0, none⟩), .int .i64 2] rfl (by (try simp only [mT_, mC_, mN_]); rfl) ?_; (with_reducible refine (Ch.calls g s0_0 s0_1 s0_2 2 true t222 t223 w0 _ ?side1 ?side2 A2.o).mono ?_); (case side1 => exact HI0.o); (case side2 => exact HB.o); rintro e w6 ⟨rfl, hi, hb, hk⟩; refine ⟨_, rfl, ?_⟩; replace BK220 := Aa.k (Am.blk hk (g' := gb220) (o := .cells #[.int .i64 0, .bool false] 25 (0, 0)) (by exact BK220.o) NB220_0.o (by simp)); replace HK := Aa.k (Am.trans HK.o hk (.inl rfl)); replace HB := Aa.k (hb); replace HI0 := Aa.k (hi); clear hb hk hi) | ((with_reducible refine Aj (f := 111) rfl ?_); refine Bf (some 6) rfl rfl Try.func111 (by kernel_rfl) rfl #[.pointer (some ⟨g, 0, none⟩)] rfl (by (try simp only [mT_, mC_, mN_]); rfl) ?_; (with_reducible refine (Fu.calls g s0_0 t222 t223 t224 t225 t226 t227 w0 _ ?side1 ?side2 A4.o).mono ?_); (case side1 => exact HI0.o); (case side2 => exact HB.o); rintro e w7 ⟨rfl, hi, hb, hk⟩; refine ⟨_, rfl, ?_⟩; replace BK220 := Aa.k (Am.blk hk (g' := gb220) (o := .cells #[.int .i64 0, .bool false] 25 (0, 0)) (by exact BK220.o) NB220_0.o (by simp)); replace HK := Aa.k (Am.trans HK.o hk (.inl rfl)); replace HB := Aa.k (hb); replace HI0 := Aa.k (hi); clear hb hk hi; have hnb8 := NB220_0.o; have hnc8 := NB0_220.o; have hcz9_0 := Bj BK220.o; have hcz9_1 := Bn BK220.o; have hfz9_0 := Ac BK220.o 0; have hfz9_1 := Ac BK220.o 1))
  refine bodyPost_ret (results_cell_row rfl _ _ gb220 25 #[.int .i64 t224, .bool t225] (0, 0) _ rfl (by refine Cr (cs := #[.int .i64 t224, .bool false]) ?_ 1 _ rfl; refine Cr (cs := #[.int .i64 0, .bool false]) ?_ 0 _ rfl; exact BK220.o) Try.underlying25 rfl (by kernel_rfl)) rfl ?_
  exact ⟨by (rfl), by repeat ((with_reducible first | exact HI0.o | refine Bc.far ?_ NB0_220.o _)), by repeat ((with_reducible first | exact HB.o | refine Bz ?_ GE220.o)), by repeat ((with_reducible first | exact HK.o | refine keep_far ?_ GW220.o _))⟩
 replace c3 := Bool.eq_false_iff.mpr c3
 subst c3
 rw [if_neg (show ¬ (false = true) by decide)] at H
 obtain ⟨⟨t228, t229, t230, t231⟩, A100, H⟩ := bindS_ H
 try dsimp only at H
 have A10 := Aa.k A100
 clear A100
 simp only [Option.some.injEq, Prod.mk.injEq] at H
 obtain ⟨rfl, rfl, rfl, rfl⟩ := H
 go_enter Try.func59, Try.ntmps59
 go_wp2_with (first | ((with_reducible refine Be (N := 2) rfl ?_); refine Bo ?hg (N := 2) ?hd (cs := #[.int .i64 0, .bool false]) (t := 25) ?hr ?_; (case hd => rfl); (case hg => rfl); (case hr => (go_simp; done)); intro gb220 hg w11 hbox hb; replace HB := Aa.k (Ad HB.o hb); have BK220 := Aa.k (hbox); have GW220 := Aa.k ((by rw [hg]; exact (Cj (w := w) (g := g) (row := none) HK.o) : w.heap.size ≤ gb220)); have GE220 := Aa.k ((Nat.le_trans HW0.o (by rw [hg]; exact (Cj (w := w) (g := g) (row := none) HK.o) : w.heap.size ≤ gb220) : w0.heap.size ≤ gb220)); replace HK := Aa.k (Am.trans HK.o (Am.of_below hb g none) (.inl rfl)); have NB0_220 := Aa.k ((by rw [hg]; exact Nat.ne_of_lt (Bc.lt (show Bc w0 _ g s0_0 s0_1 s0_2 from by exact HI0.o)) : g ≠ gb220)); have NB220_0 := Aa.k ((by rw [hg]; exact Nat.ne_of_gt (Bc.lt (show Bc w0 _ g s0_0 s0_1 s0_2 from by exact HI0.o)) : gb220 ≠ g)); replace HI0 := Aa.k (Bc.below HI0.o hb); clear hb hbox hg) | ((with_reducible refine Aj (f := 110) rfl ?_); refine Bf (some 4) rfl rfl Try.func110 (by kernel_rfl) rfl #[.pointer (some ⟨g, 0, none⟩), .int .i64 2] rfl (by (try simp only [mT_, mC_, mN_]); rfl) ?_; (with_reducible refine (Ch.calls g s0_0 s0_1 s0_2 2 false t222 t223 w0 _ ?side1 ?side2 A2.o).mono ?_); (case side1 => exact HI0.o); (case side2 => exact HB.o); rintro e w12 ⟨rfl, hi, hb, hk⟩; refine ⟨_, rfl, ?_⟩; replace BK220 := Aa.k (Am.blk hk (g' := gb220) (o := .cells #[.int .i64 0, .bool false] 25 (0, 0)) (by exact BK220.o) NB220_0.o (by simp)); replace HK := Aa.k (Am.trans HK.o hk (.inl rfl)); replace HB := Aa.k (hb); replace HI0 := Aa.k (hi); clear hb hk hi) | ((with_reducible refine Aj (f := 112) rfl ?_); refine Bf (some 8) rfl rfl Try.func112 (by kernel_rfl) rfl #[.pointer (some ⟨g, 0, none⟩)] rfl (by (try simp only [mT_, mC_, mN_]); rfl) ?_; (with_reducible refine (spec_l1Cur_ring.calls g s0_0 t222 t223 t228 t229 t230 t231 w0 _ ?side1 ?side2 A10.o).mono ?_); (case side1 => exact HI0.o); (case side2 => exact HB.o); rintro e w13 ⟨rfl, hi, hb, hk⟩; refine ⟨_, rfl, ?_⟩; replace BK220 := Aa.k (Am.blk hk (g' := gb220) (o := .cells #[.int .i64 0, .bool false] 25 (0, 0)) (by exact BK220.o) NB220_0.o (by simp)); replace HK := Aa.k (Am.trans HK.o hk (.inl rfl)); replace HB := Aa.k (hb); replace HI0 := Aa.k (hi); clear hb hk hi; have hnb14 := NB220_0.o; have hnc14 := NB0_220.o; have hcz15_0 := Bj BK220.o; have hcz15_1 := Bn BK220.o; have hfz15_0 := Ac BK220.o 0; have hfz15_1 := Ac BK220.o 1))
 refine bodyPost_ret (results_cell_row rfl _ _ gb220 25 #[.int .i64 t228, .bool t229] (0, 0) _ rfl (by refine Cr (cs := #[.int .i64 t228, .bool false]) ?_ 1 _ rfl; refine Cr (cs := #[.int .i64 0, .bool false]) ?_ 0 _ rfl; exact BK220.o) Try.underlying25 rfl (by kernel_rfl)) rfl ?_
 exact ⟨by (rfl), by repeat ((with_reducible first | exact HI0.o | refine Bc.far ?_ NB0_220.o _)), by repeat ((with_reducible first | exact HB.o | refine Bz ?_ GE220.o)), by repeat ((with_reducible first | exact HK.o | refine keep_far ?_ GW220.o _))⟩

/-! ### spec_l1Cur_linePlace: function 72 -/
def Eb.f (s0_0 : List Int) (s0_1 : Int) (s0_2 : Int) : Option (Int × Bool × Int × Int × Int) := (Fu.f s0_0 s0_1 s0_2).bind fun bt233 => ((Ch.f s0_0 bt233.2.2.1 bt233.2.2.2 24).bind fun bt238 => (if bt238.1 = true then ((spec_l1Cur_road.f s0_0 bt238.2.1 bt238.2.2).bind fun bt241 => ((Eg.f s0_0 bt241.2.2.1 bt241.2.2.2 bt241.1 bt241.2.1).bind fun bt245 => (some (bt241.1, bt241.2.1, bt245.1, bt245.2.1, bt245.2.2)))) else ((Eg.f s0_0 bt238.2.1 bt238.2.2 bt233.1 bt233.2.1).bind fun bt248 => (some (bt233.1, bt233.2.1, bt248.1, bt248.2.1, bt248.2.2)))))
set_option maxHeartbeats 8000000 in
set_option maxRecDepth 100000 in
theorem Eb.calls (g : Nat) (s0_0 : List Int) (s0_1 : Int) (s0_2 : Int) (r1 : Int) (r2 : Bool) (r3 : Int) (r4 : Int) (r5 : Int) (w0 w : World) (hI : Bc w0 w g s0_0 s0_1 s0_2) (hB : Below w0.heap.size w0 w) (h : Eb.f s0_0 s0_1 s0_2 = some (r1, r2, r3, r4, r5)) :
  Calls Try.prog 72 #[.pointer (some ⟨g, 0, none⟩)] w fun e w' => e = .returned (.tuple #[.agg #[.int .i64 r1, .bool r2], .int .i64 r3]) ∧ Bc w0 w' g s0_0 r4 r5 ∧ Below w0.heap.size w0 w' ∧ Am w w' g none := by
 have hu25 := Try.underlying25
 have HI0 := Aa.k hI
 have HK := Aa.k (Am.refl w g none)
 have HL := Aa.k hB.size
 clear hI
 have HW0 := Aa.k hB.size
 have HB := Aa.k hB
 clear hB
 have H : ((Fu.f s0_0 s0_1 s0_2).bind fun bt233 => ((Ch.f s0_0 bt233.2.2.1 bt233.2.2.2 24).bind fun bt238 => (if bt238.1 = true then ((spec_l1Cur_road.f s0_0 bt238.2.1 bt238.2.2).bind fun bt241 => ((Eg.f s0_0 bt241.2.2.1 bt241.2.2.2 bt241.1 bt241.2.1).bind fun bt245 => (some (bt241.1, bt241.2.1, bt245.1, bt245.2.1, bt245.2.2)))) else ((Eg.f s0_0 bt238.2.1 bt238.2.2 bt233.1 bt233.2.1).bind fun bt248 => (some (bt233.1, bt233.2.1, bt248.1, bt248.2.1, bt248.2.2)))))) = some (r1, r2, r3, r4, r5) := h
 clear h
 obtain ⟨⟨t233, t234, t235, t236⟩, A20, H⟩ := bindS_ H
 try dsimp only at H
 have A2 := Aa.k A20
 clear A20
 obtain ⟨⟨t238, t239, t240⟩, A30, H⟩ := bindS_ H
 try dsimp only at H
 have A3 := Aa.k A30
 clear A30
 by_cases c4 : t238 = true
 rotate_left
 ·replace c4 := Bool.eq_false_iff.mpr c4
  subst c4
  rw [if_neg (show ¬ (false = true) by decide)] at H
  obtain ⟨⟨t248, t249, t250⟩, A210, H⟩ := bindS_ H
  try dsimp only at H
  have A21 := Aa.k A210
  clear A210
  simp only [Option.some.injEq, Prod.mk.injEq] at H
  obtain ⟨rfl, rfl, rfl, rfl, rfl⟩ := H
  go_enter Try.func72, Try.ntmps72
  try go_wp2_with (first | ((with_reducible refine Be (N := 2) rfl ?_); refine Bo ?hg (N := 2) ?hd (cs := #[.int .i64 0, .bool false]) (t := 25) ?hr ?_; (case hd => rfl); (case hg => rfl); (case hr => (go_simp; done)); intro gb232 hg w22 hbox hb; replace HB := Aa.k (Ad HB.o hb); have BK232 := Aa.k (hbox); have GW232 := Aa.k ((by rw [hg]; exact (Cj (w := w) (g := g) (row := none) HK.o) : w.heap.size ≤ gb232)); have GE232 := Aa.k ((Nat.le_trans HW0.o (by rw [hg]; exact (Cj (w := w) (g := g) (row := none) HK.o) : w.heap.size ≤ gb232) : w0.heap.size ≤ gb232)); replace HK := Aa.k (Am.trans HK.o (Am.of_below hb g none) (.inl rfl)); have NB0_232 := Aa.k ((by rw [hg]; exact Nat.ne_of_lt (Bc.lt (show Bc w0 _ g s0_0 s0_1 s0_2 from by exact HI0.o)) : g ≠ gb232)); have NB232_0 := Aa.k ((by rw [hg]; exact Nat.ne_of_gt (Bc.lt (show Bc w0 _ g s0_0 s0_1 s0_2 from by exact HI0.o)) : gb232 ≠ g)); replace HI0 := Aa.k (Bc.below HI0.o hb); clear hb hbox hg) | ((with_reducible refine Aj (f := 111) rfl ?_); refine Bf (some 6) rfl rfl Try.func111 (by kernel_rfl) rfl #[.pointer (some ⟨g, 0, none⟩)] rfl (by (try simp only [mT_, mC_, mN_]); rfl) ?_; (with_reducible refine (Fu.calls g s0_0 s0_1 s0_2 t233 t234 t235 t236 w0 _ ?side1 ?side2 A2.o).mono ?_); (case side1 => exact HI0.o); (case side2 => exact HB.o); rintro e w23 ⟨rfl, hi, hb, hk⟩; refine ⟨_, rfl, ?_⟩; replace BK232 := Aa.k (Am.blk hk (g' := gb232) (o := .cells #[.int .i64 0, .bool false] 25 (0, 0)) (by exact BK232.o) NB232_0.o (by simp)); replace HK := Aa.k (Am.trans HK.o hk (.inl rfl)); replace HB := Aa.k (hb); replace HI0 := Aa.k (hi); clear hb hk hi) | ((with_reducible refine Be (N := 4) rfl ?_); refine Bo ?hg (N := 4) ?hd (cs := #[.int .i64 0, .bool false]) (t := 25) ?hr ?_; (case hd => rfl); (case hg => rfl); (case hr => (go_simp; done)); intro gb237 hg w24 hbox hb; replace HB := Aa.k (Ad HB.o hb); have BK237 := Aa.k (hbox); have GW237 := Aa.k ((by rw [hg]; exact (Cj (w := w) (g := g) (row := none) HK.o) : w.heap.size ≤ gb237)); have GE237 := Aa.k ((Nat.le_trans HW0.o (by rw [hg]; exact (Cj (w := w) (g := g) (row := none) HK.o) : w.heap.size ≤ gb237) : w0.heap.size ≤ gb237)); replace HK := Aa.k (Am.trans HK.o (Am.of_below hb g none) (.inl rfl)); have NB232_237 := Aa.k ((by rw [hg]; exact Nat.ne_of_lt (Ca (g := gb232) (o := .cells #[.int .i64 0, .bool false] 25 (0, 0)) (by exact BK232.o)) : gb232 ≠ gb237)); have NB237_232 := Aa.k ((by rw [hg]; exact Nat.ne_of_gt (Ca (g := gb232) (o := .cells #[.int .i64 0, .bool false] 25 (0, 0)) (by exact BK232.o)) : gb237 ≠ gb232)); replace BK232 := Aa.k (Ae (g := gb232) (o := .cells #[.int .i64 0, .bool false] 25 (0, 0)) (by exact BK232.o) hb); have NB0_237 := Aa.k ((by rw [hg]; exact Nat.ne_of_lt (Bc.lt (show Bc w0 _ g s0_0 t235 t236 from by exact HI0.o)) : g ≠ gb237)); have NB237_0 := Aa.k ((by rw [hg]; exact Nat.ne_of_gt (Bc.lt (show Bc w0 _ g s0_0 t235 t236 from by exact HI0.o)) : gb237 ≠ g)); replace HI0 := Aa.k (Bc.below HI0.o hb); clear hb hbox hg; have hnb25 := NB237_232.o; have hnc25 := NB232_237.o; have hnb26 := NB237_0.o; have hnc26 := NB0_237.o; have hcz27_0 := Bj BK237.o; have hcz27_1 := Bn BK237.o; have hfz27_0 := Ac BK237.o 0; have hfz27_1 := Ac BK237.o 1) | ((with_reducible refine Aj (f := 110) rfl ?_); refine Bf (some 8) rfl rfl Try.func110 (by kernel_rfl) rfl #[.pointer (some ⟨g, 0, none⟩), .int .i64 24] rfl (by (try simp only [mT_, mC_, mN_]); rfl) ?_; (with_reducible refine (Ch.calls g s0_0 t235 t236 24 false t239 t240 w0 _ ?side1 ?side2 A3.o).mono ?_); (case side1 => repeat ((with_reducible first | exact HI0.o | refine Bc.far ?_ NB0_237.o _))); (case side2 => repeat ((with_reducible first | exact HB.o | refine Bz ?_ GE237.o))); rintro e w28 ⟨rfl, hi, hb, hk⟩; refine ⟨_, rfl, ?_⟩; replace BK232 := Aa.k (Am.blk hk (g' := gb232) (o := .cells #[.int .i64 0, .bool false] 25 (0, 0)) (by refine Cb ?_ NB232_237.o _; refine Cb ?_ NB232_237.o _; exact BK232.o) NB232_0.o (by simp)); replace BK237 := Aa.k (Am.blk hk (g' := gb237) (o := .cells #[.int .i64 t233, .bool t234] 25 (0, 0)) (by refine Cr (cs := #[.int .i64 t233, .bool false]) ?_ 1 _ rfl; refine Cr (cs := #[.int .i64 0, .bool false]) ?_ 0 _ rfl; exact BK237.o) NB237_0.o (by simp)); replace HK := Aa.k (Am.trans (by repeat ((with_reducible first | exact HK.o | refine keep_far ?_ GW237.o _))) hk (.inl rfl)); replace HB := Aa.k (hb); replace HI0 := Aa.k (hi); clear hb hk hi))
  replace BK232 := Aa.k (Dt BK232.o)
  replace BK237 := Aa.k (Dt BK237.o)
  replace HI0 := Aa.k (Bc.drew HI0.o)
  replace HK := Aa.k (keep_drew HK.o)
  replace HB := Aa.k (Cf HB.o)
  refine Fp (n := 6) (S := fun w' => w'.cell? ⟨gb237, 0, none⟩ = some (.int .i64 t233) ∧ w'.cell? ⟨gb237, 1, none⟩ = some (.bool t234)) (ds := []) #[N_,N_,N_,N_,N_,N_] (by kernel_rfl) rfl rfl ⟨(Aw BK237.o 0).trans rfl, (Aw BK237.o 1).trans rfl⟩ (fun hHeld => ?_)
  generalize w28.drew = w29 at BK232 BK237 HI0 HK HB hHeld ⊢
  refine Ei (i := 1) (N := some 12) (v := ?_) (a' := ?_) #[N_,Y_,N_,N_,N_,N_] rfl rfl (by kernel_rfl) (fun _ _ _ h => h) (Or.inl ⟨by rfl, ?_⟩) ?_ ?_
  rotate_left
  ·intro w'
   go_simp
   rfl
  rotate_left
  ·simp only [Act.put, sT_, sZ_, sS_, Ah, Ai]
   rfl
  refine En (i := 0) (N := some 11) (v := ?_) (a' := ?_) #[Y_,Y_,N_,N_,N_,N_] rfl rfl (by kernel_rfl) (fun _ _ _ h => h) (Or.inl ⟨by rfl, ?_⟩) hHeld ?_ ?_
  rotate_left
  ·rintro w' ⟨s0, s1⟩
   go_simp
   rfl
  rotate_left
  ·simp only [Act.put, sT_, sZ_, sS_, Ah, Ai]
   rfl
  refine En (i := 2) (N := some 13) (v := ?_) (a' := ?_) #[Y_,Y_,Y_,N_,N_,N_] rfl rfl (by kernel_rfl) (fun _ _ _ h => h) (Or.inl ⟨by rfl, ?_⟩) hHeld ?_ ?_
  rotate_left
  ·rintro w' ⟨s0, s1⟩
   go_simp
   rfl
  rotate_left
  ·simp only [Act.put, sT_, sZ_, sS_, Ah, Ai]
   rfl
  refine one_ (i := 3) (N := some 14) #[Y_,Y_,Y_,Y_,N_,N_] rfl rfl (by kernel_rfl) (by decide) (fun K hK => ?_)
  refine goes_ Try.func60 (by kernel_rfl) rfl #[.pointer (some ⟨g, 0, none⟩), .agg #[.int .i64 t233, .bool t234]] (by rfl) rfl rfl (by (try simp only [mT_, mC_, mN_]); rfl) ?_
  refine (Eg.calls g s0_0 t239 t240 t233 t234 t248 t249 t250 w0 _ ?side1 ?side2 A21.o).mono ?_
  (case side1 => exact HI0.o)
  (case side2 => exact HB.o)
  rintro e w30 ⟨rfl, hi, hb, hk⟩
  refine ⟨_, rfl, ?_⟩
  replace BK232 := Aa.k (Am.blk hk (g' := gb232) (o := .cells #[.int .i64 0, .bool false] 25 (0, 0)) (by exact BK232.o) NB232_0.o (by simp))
  replace BK237 := Aa.k (Am.blk hk (g' := gb237) (o := .cells #[.int .i64 t233, .bool t234] 25 (0, 0)) (by exact BK237.o) NB237_0.o (by simp))
  replace HK := Aa.k (Am.trans HK.o hk (.inl rfl))
  replace HB := Aa.k (hb)
  replace HI0 := Aa.k (hi)
  clear hb
  clear hk
  clear hi
  refine hK.out _ _ ⟨(Aw BK237.o 0).trans rfl, (Aw BK237.o 1).trans rfl⟩ (fun hHeld => ?_)
  clear hK K
  refine Es (a' := ?_) ?_ ?_
  rotate_left
  ·show Act.put _ (some 14) _ = _
   simp only [Act.put, sT_, sZ_, sS_, Ah, Ai]
   rfl
  refine one_ (i := 4) (N := none) #[Y_,Y_,Y_,Y_,Y_,N_] rfl rfl (by kernel_rfl) (by decide) (fun K hK => ?_)
  have hs31 : w30.cell? ⟨gb232, 0, none⟩ = some (.int .i64 0) := (Aw BK232.o 0).trans rfl
  have hfs31 := Ac BK232.o 0
  have hns31_1 := NB237_232.o
  have hms31_1 := NB232_237.o
  have hs32 : w30.cell? ⟨gb232, 1, none⟩ = some (.bool false) := (Aw BK232.o 1).trans rfl
  have hfs32 := Ac BK232.o 1
  have hns32_1 := NB237_232.o
  have hms32_1 := NB232_237.o
  refine skip_ (w1 := ?_) (by rfl) rfl ?_ ?_
  rotate_left
  ·go_simp
   rfl
  refine hK.out _ _ ⟨((cell_far (p := ⟨gb232, _, none⟩) NB237_232.o _).trans (((cell_far (p := ⟨gb232, _, none⟩) NB237_232.o _).trans (hHeld.1)))), ((cell_far (p := ⟨gb232, _, none⟩) NB237_232.o _).trans (((cell_far (p := ⟨gb232, _, none⟩) NB237_232.o _).trans (hHeld.2))))⟩ (fun hHeld => ?_)
  clear hK K
  refine Ei (i := 5) (N := some 3) (v := ?_) (a' := ?_) #[Y_,Y_,Y_,Y_,Y_,Y_] rfl rfl (by kernel_rfl) (fun _ _ _ h => h) (Or.inl ⟨by rfl, ?_⟩) ?_ ?_
  rotate_left
  ·intro w'
   go_simp
   rfl
  rotate_left
  ·simp only [Act.put, sT_, sZ_, sS_, Ah, Ai]
   rfl
  refine done_ (by kernel_rfl) ?_
  try go_wp2
  refine bodyPost_ret (results_ct rfl _ _ gb232 25 #[.int .i64 t233, .bool t234] (0, 0) _ rfl (by refine Cr (cs := #[.int .i64 t233, .bool false]) ?_ 1 _ rfl; refine Cr (cs := #[.int .i64 0, .bool false]) ?_ 0 _ rfl; exact BK232.o) Try.underlying25 rfl (by kernel_rfl)) rfl ?_
  exact ⟨by (rfl), by repeat ((with_reducible first | exact HI0.o | refine Bc.far ?_ NB0_232.o _)), by repeat ((with_reducible first | exact HB.o | refine Bz ?_ GE232.o)), by repeat ((with_reducible first | exact HK.o | refine keep_far ?_ GW232.o _))⟩
 subst c4
 rw [if_pos rfl] at H
 obtain ⟨⟨t241, t242, t243, t244⟩, A50, H⟩ := bindS_ H
 try dsimp only at H
 have A5 := Aa.k A50
 clear A50
 obtain ⟨⟨t245, t246, t247⟩, A60, H⟩ := bindS_ H
 try dsimp only at H
 have A6 := Aa.k A60
 clear A60
 simp only [Option.some.injEq, Prod.mk.injEq] at H
 obtain ⟨rfl, rfl, rfl, rfl, rfl⟩ := H
 go_enter Try.func72, Try.ntmps72
 try go_wp2_with (first | ((with_reducible refine Be (N := 2) rfl ?_); refine Bo ?hg (N := 2) ?hd (cs := #[.int .i64 0, .bool false]) (t := 25) ?hr ?_; (case hd => rfl); (case hg => rfl); (case hr => (go_simp; done)); intro gb232 hg w7 hbox hb; replace HB := Aa.k (Ad HB.o hb); have BK232 := Aa.k (hbox); have GW232 := Aa.k ((by rw [hg]; exact (Cj (w := w) (g := g) (row := none) HK.o) : w.heap.size ≤ gb232)); have GE232 := Aa.k ((Nat.le_trans HW0.o (by rw [hg]; exact (Cj (w := w) (g := g) (row := none) HK.o) : w.heap.size ≤ gb232) : w0.heap.size ≤ gb232)); replace HK := Aa.k (Am.trans HK.o (Am.of_below hb g none) (.inl rfl)); have NB0_232 := Aa.k ((by rw [hg]; exact Nat.ne_of_lt (Bc.lt (show Bc w0 _ g s0_0 s0_1 s0_2 from by exact HI0.o)) : g ≠ gb232)); have NB232_0 := Aa.k ((by rw [hg]; exact Nat.ne_of_gt (Bc.lt (show Bc w0 _ g s0_0 s0_1 s0_2 from by exact HI0.o)) : gb232 ≠ g)); replace HI0 := Aa.k (Bc.below HI0.o hb); clear hb hbox hg) | ((with_reducible refine Aj (f := 111) rfl ?_); refine Bf (some 6) rfl rfl Try.func111 (by kernel_rfl) rfl #[.pointer (some ⟨g, 0, none⟩)] rfl (by (try simp only [mT_, mC_, mN_]); rfl) ?_; (with_reducible refine (Fu.calls g s0_0 s0_1 s0_2 t233 t234 t235 t236 w0 _ ?side1 ?side2 A2.o).mono ?_); (case side1 => exact HI0.o); (case side2 => exact HB.o); rintro e w8 ⟨rfl, hi, hb, hk⟩; refine ⟨_, rfl, ?_⟩; replace BK232 := Aa.k (Am.blk hk (g' := gb232) (o := .cells #[.int .i64 0, .bool false] 25 (0, 0)) (by exact BK232.o) NB232_0.o (by simp)); replace HK := Aa.k (Am.trans HK.o hk (.inl rfl)); replace HB := Aa.k (hb); replace HI0 := Aa.k (hi); clear hb hk hi) | ((with_reducible refine Be (N := 4) rfl ?_); refine Bo ?hg (N := 4) ?hd (cs := #[.int .i64 0, .bool false]) (t := 25) ?hr ?_; (case hd => rfl); (case hg => rfl); (case hr => (go_simp; done)); intro gb237 hg w9 hbox hb; replace HB := Aa.k (Ad HB.o hb); have BK237 := Aa.k (hbox); have GW237 := Aa.k ((by rw [hg]; exact (Cj (w := w) (g := g) (row := none) HK.o) : w.heap.size ≤ gb237)); have GE237 := Aa.k ((Nat.le_trans HW0.o (by rw [hg]; exact (Cj (w := w) (g := g) (row := none) HK.o) : w.heap.size ≤ gb237) : w0.heap.size ≤ gb237)); replace HK := Aa.k (Am.trans HK.o (Am.of_below hb g none) (.inl rfl)); have NB232_237 := Aa.k ((by rw [hg]; exact Nat.ne_of_lt (Ca (g := gb232) (o := .cells #[.int .i64 0, .bool false] 25 (0, 0)) (by exact BK232.o)) : gb232 ≠ gb237)); have NB237_232 := Aa.k ((by rw [hg]; exact Nat.ne_of_gt (Ca (g := gb232) (o := .cells #[.int .i64 0, .bool false] 25 (0, 0)) (by exact BK232.o)) : gb237 ≠ gb232)); replace BK232 := Aa.k (Ae (g := gb232) (o := .cells #[.int .i64 0, .bool false] 25 (0, 0)) (by exact BK232.o) hb); have NB0_237 := Aa.k ((by rw [hg]; exact Nat.ne_of_lt (Bc.lt (show Bc w0 _ g s0_0 t235 t236 from by exact HI0.o)) : g ≠ gb237)); have NB237_0 := Aa.k ((by rw [hg]; exact Nat.ne_of_gt (Bc.lt (show Bc w0 _ g s0_0 t235 t236 from by exact HI0.o)) : gb237 ≠ g)); replace HI0 := Aa.k (Bc.below HI0.o hb); clear hb hbox hg; have hnb10 := NB237_232.o; have hnc10 := NB232_237.o; have hnb11 := NB237_0.o; have hnc11 := NB0_237.o; have hcz12_0 := Bj BK237.o; have hcz12_1 := Bn BK237.o; have hfz12_0 := Ac BK237.o 0; have hfz12_1 := Ac BK237.o 1) | ((with_reducible refine Aj (f := 110) rfl ?_); refine Bf (some 8) rfl rfl Try.func110 (by kernel_rfl) rfl #[.pointer (some ⟨g, 0, none⟩), .int .i64 24] rfl (by (try simp only [mT_, mC_, mN_]); rfl) ?_; (with_reducible refine (Ch.calls g s0_0 t235 t236 24 true t239 t240 w0 _ ?side1 ?side2 A3.o).mono ?_); (case side1 => repeat ((with_reducible first | exact HI0.o | refine Bc.far ?_ NB0_237.o _))); (case side2 => repeat ((with_reducible first | exact HB.o | refine Bz ?_ GE237.o))); rintro e w13 ⟨rfl, hi, hb, hk⟩; refine ⟨_, rfl, ?_⟩; replace BK232 := Aa.k (Am.blk hk (g' := gb232) (o := .cells #[.int .i64 0, .bool false] 25 (0, 0)) (by refine Cb ?_ NB232_237.o _; refine Cb ?_ NB232_237.o _; exact BK232.o) NB232_0.o (by simp)); replace BK237 := Aa.k (Am.blk hk (g' := gb237) (o := .cells #[.int .i64 t233, .bool t234] 25 (0, 0)) (by refine Cr (cs := #[.int .i64 t233, .bool false]) ?_ 1 _ rfl; refine Cr (cs := #[.int .i64 0, .bool false]) ?_ 0 _ rfl; exact BK237.o) NB237_0.o (by simp)); replace HK := Aa.k (Am.trans (by repeat ((with_reducible first | exact HK.o | refine keep_far ?_ GW237.o _))) hk (.inl rfl)); replace HB := Aa.k (hb); replace HI0 := Aa.k (hi); clear hb hk hi) | ((with_reducible refine Aj (f := 59) rfl ?_); refine Bf (some 10) rfl rfl Try.func59 (by kernel_rfl) rfl #[.pointer (some ⟨g, 0, none⟩)] rfl (by (try simp only [mT_, mC_, mN_]); rfl) ?_; (with_reducible refine (spec_l1Cur_road.calls g s0_0 t239 t240 t241 t242 t243 t244 w0 _ ?side1 ?side2 A5.o).mono ?_); (case side1 => exact HI0.o); (case side2 => exact HB.o); rintro e w14 ⟨rfl, hi, hb, hk⟩; refine ⟨_, rfl, ?_⟩; replace BK232 := Aa.k (Am.blk hk (g' := gb232) (o := .cells #[.int .i64 0, .bool false] 25 (0, 0)) (by exact BK232.o) NB232_0.o (by simp)); replace BK237 := Aa.k (Am.blk hk (g' := gb237) (o := .cells #[.int .i64 t233, .bool t234] 25 (0, 0)) (by exact BK237.o) NB237_0.o (by simp)); replace HK := Aa.k (Am.trans HK.o hk (.inl rfl)); replace HB := Aa.k (hb); replace HI0 := Aa.k (hi); clear hb hk hi; have hcz15_0 := Bj BK237.o; have hcz15_1 := Bn BK237.o; have hfz15_0 := Ac BK237.o 0; have hfz15_1 := Ac BK237.o 1))
 have n0_ : Aa (((w14.setCell ⟨gb237, 0, none⟩ (.int .i64 t241)).setCell ⟨gb237, 1, none⟩ (.bool t242)).heap[gb232]? = some (.cells #[.int .i64 0, .bool false] 25 (0, 0))) := ⟨by refine Cb ?_ NB232_237.o _; refine Cb ?_ NB232_237.o _; exact BK232.o⟩
 have n1_ : Aa (((w14.setCell ⟨gb237, 0, none⟩ (.int .i64 t241)).setCell ⟨gb237, 1, none⟩ (.bool t242)).heap[gb237]? = some (.cells #[.int .i64 t241, .bool t242] 25 (0, 0))) := ⟨by refine Cr (cs := #[.int .i64 t241, .bool t234]) ?_ 1 _ rfl; refine Cr (cs := #[.int .i64 t233, .bool t234]) ?_ 0 _ rfl; exact BK237.o⟩
 have n2_ : Aa (Bc w0 ((w14.setCell ⟨gb237, 0, none⟩ (.int .i64 t241)).setCell ⟨gb237, 1, none⟩ (.bool t242)) g s0_0 t243 t244) := ⟨by repeat ((with_reducible first | exact HI0.o | refine Bc.far ?_ NB0_237.o _))⟩
 have n3_ : Aa (Am w ((w14.setCell ⟨gb237, 0, none⟩ (.int .i64 t241)).setCell ⟨gb237, 1, none⟩ (.bool t242)) g none) := ⟨by repeat ((with_reducible first | exact HK.o | refine keep_far ?_ GW237.o _))⟩
 have n4_ : Aa (Below w0.heap.size w0 ((w14.setCell ⟨gb237, 0, none⟩ (.int .i64 t241)).setCell ⟨gb237, 1, none⟩ (.bool t242))) := ⟨by repeat ((with_reducible first | exact HB.o | refine Bz ?_ GE237.o))⟩
 clear BK232
 clear BK237
 clear HI0
 clear HK
 clear HB
 generalize ((w14.setCell ⟨gb237, 0, none⟩ (.int .i64 t241)).setCell ⟨gb237, 1, none⟩ (.bool t242)) = w16 at n0_ n1_ n2_ n3_ n4_ ⊢
 have BK232 := n0_
 have BK237 := n1_
 have HI0 := n2_
 have HK := n3_
 have HB := n4_
 clear n0_ n1_ n2_ n3_ n4_
 replace BK232 := Aa.k (Dt BK232.o)
 replace BK237 := Aa.k (Dt BK237.o)
 replace HI0 := Aa.k (Bc.drew HI0.o)
 replace HK := Aa.k (keep_drew HK.o)
 replace HB := Aa.k (Cf HB.o)
 refine Fp (n := 6) (S := fun w' => w'.cell? ⟨gb237, 0, none⟩ = some (.int .i64 t241) ∧ w'.cell? ⟨gb237, 1, none⟩ = some (.bool t242)) (ds := []) #[N_,N_,N_,N_,N_,N_] (by kernel_rfl) rfl rfl ⟨(Aw BK237.o 0).trans rfl, (Aw BK237.o 1).trans rfl⟩ (fun hHeld => ?_)
 generalize w16.drew = w17 at BK232 BK237 HI0 HK HB hHeld ⊢
 refine Ei (i := 1) (N := some 12) (v := ?_) (a' := ?_) #[N_,Y_,N_,N_,N_,N_] rfl rfl (by kernel_rfl) (fun _ _ _ h => h) (Or.inl ⟨by rfl, ?_⟩) ?_ ?_
 rotate_left
 ·intro w'
  go_simp
  rfl
 rotate_left
 ·simp only [Act.put, sT_, sZ_, sS_, Ah, Ai]
  rfl
 refine En (i := 0) (N := some 11) (v := ?_) (a' := ?_) #[Y_,Y_,N_,N_,N_,N_] rfl rfl (by kernel_rfl) (fun _ _ _ h => h) (Or.inl ⟨by rfl, ?_⟩) hHeld ?_ ?_
 rotate_left
 ·rintro w' ⟨s0, s1⟩
  go_simp
  rfl
 rotate_left
 ·simp only [Act.put, sT_, sZ_, sS_, Ah, Ai]
  rfl
 refine En (i := 2) (N := some 13) (v := ?_) (a' := ?_) #[Y_,Y_,Y_,N_,N_,N_] rfl rfl (by kernel_rfl) (fun _ _ _ h => h) (Or.inl ⟨by rfl, ?_⟩) hHeld ?_ ?_
 rotate_left
 ·rintro w' ⟨s0, s1⟩
  go_simp
  rfl
 rotate_left
 ·simp only [Act.put, sT_, sZ_, sS_, Ah, Ai]
  rfl
 refine one_ (i := 3) (N := some 14) #[Y_,Y_,Y_,Y_,N_,N_] rfl rfl (by kernel_rfl) (by decide) (fun K hK => ?_)
 refine goes_ Try.func60 (by kernel_rfl) rfl #[.pointer (some ⟨g, 0, none⟩), .agg #[.int .i64 t241, .bool t242]] (by rfl) rfl rfl (by (try simp only [mT_, mC_, mN_]); rfl) ?_
 refine (Eg.calls g s0_0 t243 t244 t241 t242 t245 t246 t247 w0 _ ?side1 ?side2 A6.o).mono ?_
 (case side1 => exact HI0.o)
 (case side2 => exact HB.o)
 rintro e w18 ⟨rfl, hi, hb, hk⟩
 refine ⟨_, rfl, ?_⟩
 replace BK232 := Aa.k (Am.blk hk (g' := gb232) (o := .cells #[.int .i64 0, .bool false] 25 (0, 0)) (by exact BK232.o) NB232_0.o (by simp))
 replace BK237 := Aa.k (Am.blk hk (g' := gb237) (o := .cells #[.int .i64 t241, .bool t242] 25 (0, 0)) (by exact BK237.o) NB237_0.o (by simp))
 replace HK := Aa.k (Am.trans HK.o hk (.inl rfl))
 replace HB := Aa.k (hb)
 replace HI0 := Aa.k (hi)
 clear hb
 clear hk
 clear hi
 refine hK.out _ _ ⟨(Aw BK237.o 0).trans rfl, (Aw BK237.o 1).trans rfl⟩ (fun hHeld => ?_)
 clear hK K
 refine Es (a' := ?_) ?_ ?_
 rotate_left
 ·show Act.put _ (some 14) _ = _
  simp only [Act.put, sT_, sZ_, sS_, Ah, Ai]
  rfl
 refine one_ (i := 4) (N := none) #[Y_,Y_,Y_,Y_,Y_,N_] rfl rfl (by kernel_rfl) (by decide) (fun K hK => ?_)
 have hs19 : w18.cell? ⟨gb232, 0, none⟩ = some (.int .i64 0) := (Aw BK232.o 0).trans rfl
 have hfs19 := Ac BK232.o 0
 have hns19_1 := NB237_232.o
 have hms19_1 := NB232_237.o
 have hs20 : w18.cell? ⟨gb232, 1, none⟩ = some (.bool false) := (Aw BK232.o 1).trans rfl
 have hfs20 := Ac BK232.o 1
 have hns20_1 := NB237_232.o
 have hms20_1 := NB232_237.o
 refine skip_ (w1 := ?_) (by rfl) rfl ?_ ?_
 rotate_left
 ·go_simp
  rfl
 refine hK.out _ _ ⟨((cell_far (p := ⟨gb232, _, none⟩) NB237_232.o _).trans (((cell_far (p := ⟨gb232, _, none⟩) NB237_232.o _).trans (hHeld.1)))), ((cell_far (p := ⟨gb232, _, none⟩) NB237_232.o _).trans (((cell_far (p := ⟨gb232, _, none⟩) NB237_232.o _).trans (hHeld.2))))⟩ (fun hHeld => ?_)
 clear hK K
 refine Ei (i := 5) (N := some 3) (v := ?_) (a' := ?_) #[Y_,Y_,Y_,Y_,Y_,Y_] rfl rfl (by kernel_rfl) (fun _ _ _ h => h) (Or.inl ⟨by rfl, ?_⟩) ?_ ?_
 rotate_left
 ·intro w'
  go_simp
  rfl
 rotate_left
 ·simp only [Act.put, sT_, sZ_, sS_, Ah, Ai]
  rfl
 refine done_ (by kernel_rfl) ?_
 try go_wp2
 refine bodyPost_ret (results_ct rfl _ _ gb232 25 #[.int .i64 t241, .bool t242] (0, 0) _ rfl (by refine Cr (cs := #[.int .i64 t241, .bool false]) ?_ 1 _ rfl; refine Cr (cs := #[.int .i64 0, .bool false]) ?_ 0 _ rfl; exact BK232.o) Try.underlying25 rfl (by kernel_rfl)) rfl ?_
 exact ⟨by (rfl), by repeat ((with_reducible first | exact HI0.o | refine Bc.far ?_ NB0_232.o _)), by repeat ((with_reducible first | exact HB.o | refine Bz ?_ GE232.o)), by repeat ((with_reducible first | exact HK.o | refine keep_far ?_ GW232.o _))⟩

end Go.Proofs.Ytogflbocmiogpaa.PFnBestSearch
