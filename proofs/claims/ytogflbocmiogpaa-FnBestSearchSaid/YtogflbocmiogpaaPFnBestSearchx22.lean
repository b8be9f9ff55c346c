-- Written for this claim by this session's turned copy of the printer.
import Derived.Test.YtogflbocmiogpaaPFnBestSearchx0
import Derived.Test.YtogflbocmiogpaaPFnBestSearchx1
import Derived.Test.YtogflbocmiogpaaPFnBestSearchx9
import Derived.Test.YtogflbocmiogpaaPFnBestSearchx11
import Derived.Test.YtogflbocmiogpaaPFnBestSearchx14
import Derived.Test.YtogflbocmiogpaaPFnBestSearchx16
import Derived.Test.YtogflbocmiogpaaPFnBestSearchx17
import Derived.Test.YtogflbocmiogpaaPFnBestSearchx19
import Derived.Test.YtogflbocmiogpaaPFnBestSearchx20
import Derived.Test.YtogflbocmiogpaaPFnBestSearchx21
import Derived.ChangeKeysEq
namespace Go.Proofs.Ytogflbocmiogpaa.PFnBestSearch
open Go.RowKit Go.Proofs.YtogflbocmiogpaaW.PrintWords Go.Proofs.YtogflbocmiogpaaW.PrintLast Go.Proofs.YtogflbocmiogpaaW.PrintMore
open List renaming setIfInBounds_toArray → sT_, set_cons_zero → sZ_, set_cons_succ → sS_, map_toArray → mT_, map_cons → mC_, map_nil → mN_
open Bool renaming true → Y_, false → N_
attribute [local go_sem] max2_int min2_int max_two min_two Fj Fh max_four min_four   -- for this text's walks alone
set_option maxRecDepth 100000 in
theorem eqA56 (d : Nat) (w : World) (a b c e : Int) : (Op.equalIn (d + 2) 56 (.agg #[.int .i64 a, .int .i64 b]) (.agg #[.int .i64 c, .int .i64 e])).run Try.prog w = .ok (a == c && b == e) w := by
 obtain ⟨i, hi, _⟩ := Option.map_eq_some_iff.mp info3
 rw [Go.run_equalIn_array w (d + 1) _ _ Try.underlying56 hi]
 have e1 : (part 3 #[Value.int .i64 a, Value.int .i64 b] (0 * Try.prog.cellsOf 3)).run Try.prog w = .ok (.int .i64 a) w := by go_simp
 have e2 : (part 3 #[Value.int .i64 c, Value.int .i64 e] (0 * Try.prog.cellsOf 3)).run Try.prog w = .ok (.int .i64 c) w := by go_simp
 have hc : Try.prog.cellsOf 3 = 1 := by kernel_rfl
 have e3 : (part 3 #[Value.int .i64 a, Value.int .i64 b] (1 * Try.prog.cellsOf 3)).run Try.prog w = .ok (.int .i64 b) w := by rw [hc]; go_simp
 have e4 : (part 3 #[Value.int .i64 c, Value.int .i64 e] (1 * Try.prog.cellsOf 3)).run Try.prog w = .ok (.int .i64 e) w := by rw [hc]; go_simp
 have e5 : (Op.equalIn (d + 1) 3 (.int .i64 a) (.int .i64 c)).run Try.prog w = .ok (a == c) w := by go_simp
 have e6 : (Op.equalIn (d + 1) 3 (.int .i64 b) (.int .i64 e)).run Try.prog w = .ok (b == e) w := by go_simp
 show (Op.eqItems (d + 1) 3 _ _ _ [0, 1]).run _ w = _
 simp only [Op.eqItems, Sem.run_bind, e1, e2, e5, Result.andThen_ok]
 cases h : (a == c)
 ·simp
 ·simp only [Bool.not_true, Bool.false_eq_true, if_false, Sem.run_bind, e3, e4, e6, Result.andThen_ok]
  cases h2 : (b == e) <;> simp
attribute [local go_sem high] eqA56
set_option linter.unusedVariables false
set_option linter.unusedSimpArgs false

/-! ### laws_FnBestSearch: function 5 -/
mutual
def Ao.j0 : Nat → Int → Int → List Int → Bool → List (List Int) → List Int → List Int → Bool → Int → Bool → Int → Bool → Option (Bool)
 | 0, _, _, _, _, _, _, _, _, _, _, _, _ => none
 | k + 1, x4, x5, x6, x7, x10, x21, x22, x23, x9004000, x9004001, x9021000, x9021001 => if x23 = true then ((Cn.f k x9021000 x9021001 x22).bind fun bt545 => (if bt545.2 = true then ((Cg.f k bt545.1 x21).bind fun t549 => (if t549 = true then (Ao.j1 k x4 x5 x6 x7 x10 x9004000 x9004001) else (none))) else (none))) else (Ao.j1 k x4 x5 x6 x7 x10 x9004000 x9004001)
def Ao.j1 : Nat → Int → Int → List Int → Bool → List (List Int) → Int → Bool → Option (Bool)
 | 0, _, _, _, _, _, _, _ => none
 | k + 1, x4, x5, x6, x7, x10, x9004000, x9004001 => if x7 = true then ((Bw.f k x9004000 x9004001 x4 x6 x5).bind fun bt550 => ((Cn.f k x9004000 x9004001 x6).bind fun bt554 => ((Bw.f k x9004000 x9004001 (wrap64 ((wrap64 (x9004000 - 1)) - x4)) bt554.1 x5).bind fun bt558 => (if bt550.2.2 = true then (if bt554.2 = true then (if bt558.2.2 = true then (if bt558.1 = bt550.1 then (if bt558.2.1 = bt550.2.1 then (Ao.l0 k x4 x5 x6 x10 false 0 x9004000 x9004001 bt550.1 bt550.2.1) else (none)) else (none)) else (none)) else (none)) else (none))))) else (some true)
def Ao.l0 : Nat → Int → Int → List Int → List (List Int) → Bool → Int → Int → Bool → Int → Int → Option (Bool)
 | 0, _, _, _, _, _, _, _, _, _, _ => none
 | k + 1, x4, x5, x6, x10, x38, x39, x9004000, x9004001, x9033000, x9033001 => if x39 < (x10.length : Int) then (if 0 ≤ x39 then ((Fw.f k x9004000 x9004001 x4 (Ez x10 x39)).bind fun bt563 => ((Bw.f k x9004000 x9004001 x4 (Ez x10 x39) x5).bind fun bt566 => (if bt563.2 = true then (if bt566.2.2 = true then (if bt563.1 = true then (if (wrap64 (bt566.1 * x9033001)) < (wrap64 (x9033000 * bt566.2.1)) then (none) else (Ao.j3 k x4 x5 x6 x10 x38 x39 x9004000 x9004001 x9033000 x9033001)) else (none)) else (none)) else (none)))) else (none)) else (some x38)
def Ao.j3 : Nat → Int → Int → List Int → List (List Int) → Bool → Int → Int → Bool → Int → Int → Option (Bool)
 | 0, _, _, _, _, _, _, _, _, _, _ => none
 | k + 1, x4, x5, x6, x10, x38, x39, x9004000, x9004001, x9033000, x9033001 => if x38 = true then (Ao.l0 k x4 x5 x6 x10 true (wrap64 (x39 + 1)) x9004000 x9004001 x9033000 x9033001) else (if 0 ≤ x39 then (if x39 < (x10.length : Int) then ((Cg.f k (Ez x10 x39) x6).bind fun t571 => (Ao.l0 k x4 x5 x6 x10 t571 (wrap64 (x39 + 1)) x9004000 x9004001 x9033000 x9033001)) else (none)) else (none))
def Ao.j4 : Nat → Int → Int → List Int → Bool → List (List Int) → List Int → List Int → Bool → Int → Bool → Int → Bool → Option (Bool)
 | 0, _, _, _, _, _, _, _, _, _, _, _, _ => none
 | k + 1, x4, x5, x6, x7, x10, x21, x22, x23, x9004000, x9004001, x9021000, x9021001 => if x23 = true then ((Cn.f k x9021000 x9021001 x22).bind fun bt578 => (if bt578.2 = true then ((Cg.f k bt578.1 x21).bind fun t582 => (if t582 = true then (Ao.j5 k x4 x5 x6 x7 x10 x9004000 x9004001) else (none))) else (none))) else (Ao.j5 k x4 x5 x6 x7 x10 x9004000 x9004001)
def Ao.j5 : Nat → Int → Int → List Int → Bool → List (List Int) → Int → Bool → Option (Bool)
 | 0, _, _, _, _, _, _, _ => none
 | k + 1, x4, x5, x6, x7, x10, x9004000, x9004001 => if x7 = true then ((Bw.f k x9004000 x9004001 x4 x6 x5).bind fun bt583 => ((Cn.f k x9004000 x9004001 x6).bind fun bt587 => ((Bw.f k x9004000 x9004001 (wrap64 ((wrap64 (x9004000 - 1)) - x4)) bt587.1 x5).bind fun bt591 => (if bt583.2.2 = true then (if bt587.2 = true then (if bt591.2.2 = true then (if bt591.1 = bt583.1 then (if bt591.2.1 = bt583.2.1 then (Ao.l0 k x4 x5 x6 x10 false 0 x9004000 x9004001 bt583.1 bt583.2.1) else (none)) else (none)) else (none)) else (none)) else (none))))) else (some true)
end
def Ao.f (k : Nat) (l0 : List Int) : Option (Bool) := (laws_vBig.f l0).bind fun t481 => (if t481 = true then (some true) else ((Ck.f l0).bind fun bt482 => ((Cc.f k bt482.1 bt482.2.1 bt482.2.2.1 bt482.2.2.2).bind fun bt487 => ((Ci.f k bt482.1 bt482.2.1 bt482.2.2.1 bt482.2.2.2).bind fun bt491 => ((impl_AllSearches.f k bt482.1 bt482.2.1 bt482.2.2.1).bind fun bt495 => ((spec_AllSearches.f bt482.1 bt482.2.1 bt482.2.2.1).bind fun bt499 => ((laws_vCut.f l0 1).bind fun t503 => ((Df.f t503).bind fun bt506 => ((Bq.f k bt506.1 bt506.2.1 bt506.2.2).bind fun bt510 => ((Au.f k bt506.1 bt506.2.1 bt506.2.2).bind fun bt514 => ((laws_vCut.f l0 2).bind fun t518 => ((Ff.f k t518).bind fun bt521 => ((Cn.f k bt521.1 bt521.2.1 bt521.2.2).bind fun bt527 => ((Az.f k bt521.1 bt521.2.1 bt521.2.2).bind fun bt531 => (if (bt487.2 != bt491.2) = true then (none) else ((Cg.f k bt487.1 bt491.1).bind fun t535 => (if t535 = true then (if (bt495.2 != bt499.2) = true then (none) else ((Em.f k bt495.1 bt499.1).bind fun t536 => (if t536 = true then (if (bt510.2 != bt514.2) = true then (none) else ((Cg.f k bt510.1 bt514.1).bind fun t537 => (if t537 = true then (if (bt527.2 != bt531.2) = true then (none) else ((Cg.f k bt527.1 bt531.1).bind fun t538 => (if t538 = true then (if bt487.2 = true then (if bt495.2 = true then (if bt510.2 = true then ((Fw.f k bt506.1 bt506.2.1 bt506.2.2 bt510.1).bind fun bt539 => ((Bw.f k bt506.1 bt506.2.1 bt506.2.2 bt510.1 0).bind fun bt541 => (if bt539.2 = true then (if bt541.2.2 = true then (if bt539.1 = true then (if bt541.1 > (wrap64 (9 * bt541.2.1)) then (none) else (Ao.j0 k bt482.2.2.1 bt482.2.2.2 bt487.1 bt487.2 bt495.1 bt521.2.2 bt527.1 bt527.2 bt482.1 bt482.2.1 bt521.1 bt521.2.1)) else (none)) else (none)) else (none)))) else (Ao.j0 k bt482.2.2.1 bt482.2.2.2 bt487.1 bt487.2 bt495.1 bt521.2.2 bt527.1 bt527.2 bt482.1 bt482.2.1 bt521.1 bt521.2.1)) else (none)) else (if bt510.2 = true then ((Fw.f k bt506.1 bt506.2.1 bt506.2.2 bt510.1).bind fun bt572 => ((Bw.f k bt506.1 bt506.2.1 bt506.2.2 bt510.1 0).bind fun bt574 => (if bt572.2 = true then (if bt574.2.2 = true then (if bt572.1 = true then (if bt574.1 > (wrap64 (9 * bt574.2.1)) then (none) else (Ao.j4 k bt482.2.2.1 bt482.2.2.2 bt487.1 bt487.2 bt495.1 bt521.2.2 bt527.1 bt527.2 bt482.1 bt482.2.1 bt521.1 bt521.2.1)) else (none)) else (none)) else (none)))) else (Ao.j4 k bt482.2.2.1 bt482.2.2.2 bt487.1 bt487.2 bt495.1 bt521.2.2 bt527.1 bt527.2 bt482.1 bt482.2.1 bt521.1 bt521.2.1))) else (none)))) else (none)))) else (none)))) else (none))))))))))))))))))
def Ao.T36 : Bool × List (List Nat × List Nat) := (true, [([], []), ([], []), ([], []), ([], []), ([2, 3], [2, 3]), ([4], [4]), ([0, 1, 5], [0, 1, 5]), ([6], [6]), ([7], [7]), ([7], [7]), ([8, 6, 0, 1, 2, 3, 4, 5, 6, 7, 8], [8]), ([9, 10, 0, 1, 2, 3, 4, 5, 6, 7, 8, 9, 10], [9])])
def Ao.B36 : List Nat := [0, 0, 0, 0, 12, 28, 63, 127, 255, 255, 511, 2047]
theorem Ao.tab36 : rtab .any (opsOf Try.f5 36) = Ao.T36 := by kernel_rfl
theorem Ao.bits36 : waitsOk Ao.T36.2 Ao.B36 = true := by kernel_rfl
def Ao.T37 : Bool × List (List Nat × List Nat) := (true, [([], []), ([], []), ([], []), ([], []), ([2, 3], [2, 3]), ([4], [4]), ([], []), ([0, 1, 5, 6], [0, 1, 5, 6]), ([7], [7]), ([8], [8]), ([8], [8]), ([], []), ([11, 9, 7, 0, 1, 2, 3, 4, 5, 6, 7, 8, 9, 11], [9, 11]), ([10, 12, 0, 1, 2, 3, 4, 5, 6, 7, 8, 9, 10, 11, 12], [10])])
def Ao.B37 : List Nat := [0, 0, 0, 0, 12, 28, 0, 127, 255, 511, 511, 0, 3071, 8191]
theorem Ao.tab37 : rtab .any (opsOf Try.f5 37) = Ao.T37 := by kernel_rfl
theorem Ao.bits37 : waitsOk Ao.T37.2 Ao.B37 = true := by kernel_rfl
set_option maxHeartbeats 8000000 in
set_option maxRecDepth 100000 in
theorem Ao.calls (k : Nat) (A0 : Option Addr) (c0 : Nat) (l0 : List Int) (r : Bool) (w : World) (hr0 : Kd.C (Kd.int .u8) w A0 l0.length l0) (hc0 : l0.length ≤ c0) (h : Ao.f k l0 = some r) :
  Calls Try.prog 5 #[.slice A0 l0.length c0] w fun e w' => e = .returned (.bool r) ∧ Below w.heap.size w w' := by
 have hu25 := Try.underlying25
 have hu56 := Try.underlying56
 have HR0 := Aa.k hr0
 have HC0 := Aa.k hc0
 clear hr0 hc0
 have HB := Aa.k (Below.refl w.heap.size w)
 have H : ((laws_vBig.f l0).bind fun t481 => (if t481 = true then (some true) else ((Ck.f l0).bind fun bt482 => ((Cc.f k bt482.1 bt482.2.1 bt482.2.2.1 bt482.2.2.2).bind fun bt487 => ((Ci.f k bt482.1 bt482.2.1 bt482.2.2.1 bt482.2.2.2).bind fun bt491 => ((impl_AllSearches.f k bt482.1 bt482.2.1 bt482.2.2.1).bind fun bt495 => ((spec_AllSearches.f bt482.1 bt482.2.1 bt482.2.2.1).bind fun bt499 => ((laws_vCut.f l0 1).bind fun t503 => ((Df.f t503).bind fun bt506 => ((Bq.f k bt506.1 bt506.2.1 bt506.2.2).bind fun bt510 => ((Au.f k bt506.1 bt506.2.1 bt506.2.2).bind fun bt514 => ((laws_vCut.f l0 2).bind fun t518 => ((Ff.f k t518).bind fun bt521 => ((Cn.f k bt521.1 bt521.2.1 bt521.2.2).bind fun bt527 => ((Az.f k bt521.1 bt521.2.1 bt521.2.2).bind fun bt531 => (if (bt487.2 != bt491.2) = true then (none) else ((Cg.f k bt487.1 bt491.1).bind fun t535 => (if t535 = true then (if (bt495.2 != bt499.2) = true then (none) else ((Em.f k bt495.1 bt499.1).bind fun t536 => (if t536 = true then (if (bt510.2 != bt514.2) = true then (none) else ((Cg.f k bt510.1 bt514.1).bind fun t537 => (if t537 = true then (if (bt527.2 != bt531.2) = true then (none) else ((Cg.f k bt527.1 bt531.1).bind fun t538 => (if t538 = true then (if bt487.2 = true then (if bt495.2 = true then (if bt510.2 = true then ((Fw.f k bt506.1 bt506.2.1 bt506.2.2 bt510.1).bind fun bt539 => ((Bw.f k bt506.1 bt506.2.1 bt506.2.2 bt510.1 0).bind fun bt541 => (if bt539.2 = true then (if bt541.2.2 = true then (if bt539.1 = true then (if bt541.1 > (wrap64 (9 * bt541.2.1)) then (none) else (Ao.j0 k bt482.2.2.1 bt482.2.2.2 bt487.1 bt487.2 bt495.1 bt521.2.2 bt527.1 bt527.2 bt482.1 bt482.2.1 bt521.1 bt521.2.1)) else (none)) else (none)) else (none)))) else (Ao.j0 k bt482.2.2.1 bt482.2.2.2 bt487.1 bt487.2 bt495.1 bt521.2.2 bt527.1 bt527.2 bt482.1 bt482.2.1 bt521.1 bt521.2.1)) else (none)) else (if bt510.2 = true then ((Fw.f k bt506.1 bt506.2.1 bt506.2.2 bt510.1).bind fun bt572 => ((Bw.f k bt506.1 bt506.2.1 bt506.2.2 bt510.1 0).bind fun bt574 => (if bt572.2 = true then (if bt574.2.2 = true then (if bt572.1 = true then (if bt574.1 > (wrap64 (9 * bt574.2.1)) then (none) else (Ao.j4 k bt482.2.2.1 bt482.2.2.2 bt487.1 bt487.2 bt495.1 bt521.2.2 bt527.1 bt527.2 bt482.1 bt482.2.1 bt521.1 bt521.2.1)) else (none)) else (none)) else (none)))) else (Ao.j4 k bt482.2.2.1 bt482.2.2.2 bt487.1 bt487.2 bt495.1 bt521.2.2 bt527.1 bt527.2 bt482.1 bt482.2.1 bt521.1 bt521.2.1))) else (none)))) else (none)))) else (none)))) else (none))))))))))))))))))) = some r := h
 clear h
 obtain ⟨t481, A20, H⟩ := bindS_ H
 try dsimp only at H
 have A2 := Aa.k A20
 clear A20
 by_cases c3 : t481 = true
 ·subst c3
  rw [if_pos rfl] at H
  obtain rfl := Option.some.inj H
  go_enter Try.func5, Try.ntmps5
  go_wp2_with (((refine Aj (f := 21) rfl ?_); refine Bf (some 45) rfl rfl Try.func21 (by kernel_rfl) rfl #[.slice A0 l0.length c0] rfl (by (try simp only [mT_, mC_, mN_]); rfl) ?_; (refine (laws_vBig.calls _ _ l0 true _ ?side1 ?side2 A2.o).mono ?_); (case side1 => exact HR0.o); (case side2 => exact HC0.o); rintro e w' ⟨rfl, ⟨nd, rfl⟩⟩; refine ⟨_, rfl, ?_⟩))
  go_ret
  exact ⟨by (rfl), by repeat ((with_reducible first | exact HB.o | apply Bh))⟩
 replace c3 := Bool.eq_false_iff.mpr c3
 subst c3
 rw [if_neg (show ¬ (false = true) by decide)] at H
 obtain ⟨⟨t482, t483, t484, t485⟩, A40, H⟩ := bindS_ H
 try dsimp only at H
 have A4 := Aa.k A40
 clear A40
 obtain ⟨⟨t487, t490⟩, A50, H⟩ := bindS_ H
 try dsimp only at H
 have A5 := Aa.k A50
 clear A50
 obtain ⟨⟨t491, t494⟩, A60, H⟩ := bindS_ H
 try dsimp only at H
 have A6 := Aa.k A60
 clear A60
 obtain ⟨⟨t495, t498⟩, A70, H⟩ := bindS_ H
 try dsimp only at H
 have A7 := Aa.k A70
 clear A70
 obtain ⟨⟨t499, t502⟩, A80, H⟩ := bindS_ H
 try dsimp only at H
 have A8 := Aa.k A80
 clear A80
 obtain ⟨t503, A90, H⟩ := bindS_ H
 try dsimp only at H
 have A9 := Aa.k A90
 clear A90
 obtain ⟨⟨t506, t507, t508⟩, A100, H⟩ := bindS_ H
 try dsimp only at H
 have A10 := Aa.k A100
 clear A100
 obtain ⟨⟨t510, t513⟩, A110, H⟩ := bindS_ H
 try dsimp only at H
 have A11 := Aa.k A110
 clear A110
 obtain ⟨⟨t514, t517⟩, A120, H⟩ := bindS_ H
 try dsimp only at H
 have A12 := Aa.k A120
 clear A120
 obtain ⟨t518, A130, H⟩ := bindS_ H
 try dsimp only at H
 have A13 := Aa.k A130
 clear A130
 obtain ⟨⟨t521, t522, t523⟩, A140, H⟩ := bindS_ H
 try dsimp only at H
 have A14 := Aa.k A140
 clear A140
 obtain ⟨⟨t527, t530⟩, A150, H⟩ := bindS_ H
 try dsimp only at H
 have A15 := Aa.k A150
 clear A150
 obtain ⟨⟨t531, t534⟩, A160, H⟩ := bindS_ H
 try dsimp only at H
 have A16 := Aa.k A160
 clear A160
 by_cases c17 : (t490 != t494) = true
 ·rw [if_pos c17] at H
  exact absurd H (by simp)
 rw [if_neg c17] at H
 have c17b0 : (t490 != t494) = false := by simpa using c17
 (try (have c17b1 : decide (t490 = t494) = true := by simpa using c17))
 (try (have c17b2 : (t490 == t494) = true := by simpa using c17))
 clear c17
 obtain ⟨t535, A180, H⟩ := bindS_ H
 try dsimp only at H
 have A18 := Aa.k A180
 clear A180
 by_cases c19 : t535 = true
 rotate_left
 ·replace c19 := Bool.eq_false_iff.mpr c19
  subst c19
  rw [if_neg (show ¬ (false = true) by decide)] at H
  exact absurd H (by simp)
 subst c19
 rw [if_pos rfl] at H
 by_cases c20 : (t498 != t502) = true
 ·rw [if_pos c20] at H
  exact absurd H (by simp)
 rw [if_neg c20] at H
 have c20b0 : (t498 != t502) = false := by simpa using c20
 (try (have c20b1 : decide (t498 = t502) = true := by simpa using c20))
 (try (have c20b2 : (t498 == t502) = true := by simpa using c20))
 clear c20
 obtain ⟨t536, A210, H⟩ := bindS_ H
 try dsimp only at H
 have A21 := Aa.k A210
 clear A210
 by_cases c22 : t536 = true
 rotate_left
 ·replace c22 := Bool.eq_false_iff.mpr c22
  subst c22
  rw [if_neg (show ¬ (false = true) by decide)] at H
  exact absurd H (by simp)
 subst c22
 rw [if_pos rfl] at H
 by_cases c23 : (t513 != t517) = true
 ·rw [if_pos c23] at H
  exact absurd H (by simp)
 rw [if_neg c23] at H
 have c23b0 : (t513 != t517) = false := by simpa using c23
 (try (have c23b1 : decide (t513 = t517) = true := by simpa using c23))
 (try (have c23b2 : (t513 == t517) = true := by simpa using c23))
 clear c23
 obtain ⟨t537, A240, H⟩ := bindS_ H
 try dsimp only at H
 have A24 := Aa.k A240
 clear A240
 by_cases c25 : t537 = true
 rotate_left
 ·replace c25 := Bool.eq_false_iff.mpr c25
  subst c25
  rw [if_neg (show ¬ (false = true) by decide)] at H
  exact absurd H (by simp)
 subst c25
 rw [if_pos rfl] at H
 by_cases c26 : (t530 != t534) = true
 ·rw [if_pos c26] at H
  exact absurd H (by simp)
 rw [if_neg c26] at H
 have c26b0 : (t530 != t534) = false := by simpa using c26
 (try (have c26b1 : decide (t530 = t534) = true := by simpa using c26))
 (try (have c26b2 : (t530 == t534) = true := by simpa using c26))
 clear c26
 obtain ⟨t538, A270, H⟩ := bindS_ H
 try dsimp only at H
 have A27 := Aa.k A270
 clear A270
 by_cases c28 : t538 = true
 rotate_left
 ·replace c28 := Bool.eq_false_iff.mpr c28
  subst c28
  rw [if_neg (show ¬ (false = true) by decide)] at H
  exact absurd H (by simp)
 subst c28
 rw [if_pos rfl] at H
 by_cases c29 : t490 = true
 rotate_left
 ·replace c29 := Bool.eq_false_iff.mpr c29
  subst c29
  rw [if_neg (show ¬ (false = true) by decide)] at H
  have HC160 := Aa.k H
  clear H
  as_aux_lemma =>
  go_enter Try.func5, Try.ntmps5
  go_upto_if 163 with (first | ((with_reducible refine Aj (f := 21) rfl ?_); refine Bf (some 45) rfl rfl Try.func21 (by kernel_rfl) rfl #[.slice A0 l0.length c0] rfl (by (try simp only [mT_, mC_, mN_]); rfl) ?_; (with_reducible refine (laws_vBig.calls _ _ l0 false _ ?side1 ?side2 A2.o).mono ?_); (case side1 => exact HR0.o); (case side2 => exact HC0.o); rintro e w' ⟨rfl, ⟨nd, rfl⟩⟩; refine ⟨_, rfl, ?_⟩) | ((with_reducible refine Aj (f := 30) rfl ?_); refine Bf (some 48) rfl rfl Try.func30 (by kernel_rfl) rfl #[.slice A0 l0.length c0] rfl (by (try simp only [mT_, mC_, mN_]); rfl) ?_; (with_reducible refine (Ck.calls _ _ l0 t482 t483 t484 t485 _ ?side1 ?side2 A4.o).mono ?_); (case side1 => exact HR0.o); (case side2 => exact HC0.o); rintro e w161 ⟨rfl, hb⟩; refine ⟨_, rfl, ?_⟩; replace HB := Aa.k (Ad (by repeat ((with_reducible first | exact HB.o | apply Bh))) hb); (try clear hb); (try clear hb2); (try clear hk); (try clear hi)) | ((with_reducible refine Be (N := 3) rfl ?_); refine Bo ?hg (N := 3) ?hd (cs := #[.int .i64 0, .bool false]) (t := 25) ?hr ?_; (case hd => rfl); (case hg => rfl); (case hr => (go_simp; done)); intro gb9003 hg w162 hbox hb; have BK9003 := Aa.k (hbox); have GW9003 := Aa.k ((by rw [hg]; exact (Af HB.o) : w.heap.size ≤ gb9003)); have GE9003 := Aa.k ((by rw [hg]; exact (Af HB.o) : w.heap.size ≤ gb9003)); replace HB := Aa.k (Ad HB.o hb); clear hb hbox hg; have hcz163_0 := Bj BK9003.o; have hcz163_1 := Bn BK9003.o; have hfz163_0 := Ac BK9003.o 0; have hfz163_1 := Ac BK9003.o 1) | ((with_reducible refine Aj (f := 31) rfl ?_); refine Bf (some 56) rfl rfl Try.func31 (by kernel_rfl) rfl #[.agg #[.int .i64 t482, .bool t483], .int .i64 t484, .int .i64 t485] rfl (by (try simp only [mT_, mC_, mN_]); rfl) ?_; (with_reducible refine (Cc.calls k t482 t483 t484 t485 t487 false _ A5.o).mono ?_); rintro e w164 ⟨v488, rfl, ho0, hb⟩; refine ⟨_, rfl, ?_⟩; have HO489 := Aa.k (Kd.Ct ho0 (Af (by repeat ((with_reducible first | exact HB.o | refine Bz ?_ GE9003.o))))); replace BK9003 := Aa.k (Ae (g := gb9003) (o := .cells #[.int .i64 t482, .bool t483] 25 (0, 0)) (by refine Cr (cs := #[.int .i64 t482, .bool false]) ?_ 1 _ rfl; refine Cr (cs := #[.int .i64 0, .bool false]) ?_ 0 _ rfl; exact BK9003.o) hb); replace HB := Aa.k (Ad (by repeat ((with_reducible first | exact HB.o | refine Bz ?_ GE9003.o))) hb); (try clear hb); (try clear hb2); (try clear hk); (try clear hi); (try clear ho0); have hcz165_0 := Bj BK9003.o; have hcz165_1 := Bn BK9003.o; have hfz165_0 := Ac BK9003.o 0; have hfz165_1 := Ac BK9003.o 1) | ((with_reducible refine Aj (f := 32) rfl ?_); refine Bf (some 63) rfl rfl Try.func32 (by kernel_rfl) rfl #[.agg #[.int .i64 t482, .bool t483], .int .i64 t484, .int .i64 t485] rfl (by (try simp only [mT_, mC_, mN_]); rfl) ?_; (with_reducible refine (Ci.calls k t482 t483 t484 t485 t491 t494 _ A6.o).mono ?_); rintro e w166 ⟨v492, rfl, ho0, hb⟩; refine ⟨_, rfl, ?_⟩; have HO493 := Aa.k (Kd.Ct (Kd.Dz ho0 (Kd.R_lt (by exact HO489.o))) (Af HB.o)); replace HO489 := Aa.k (Kd.Cw (by exact HO489.o) (Kd.Cy ho0) hb); replace BK9003 := Aa.k (Ae (g := gb9003) (o := .cells #[.int .i64 t482, .bool t483] 25 (0, 0)) (by exact BK9003.o) hb); replace HB := Aa.k (Ad HB.o hb); (try clear hb); (try clear hb2); (try clear hk); (try clear hi); (try clear ho0); have hcz167_0 := Bj BK9003.o; have hcz167_1 := Bn BK9003.o; have hfz167_0 := Ac BK9003.o 0; have hfz167_1 := Ac BK9003.o 1) | ((with_reducible refine Aj (f := 29) rfl ?_); refine Bf (some 69) rfl rfl Try.func29 (by kernel_rfl) rfl #[.agg #[.int .i64 t482, .bool t483], .int .i64 t484] rfl (by (try simp only [mT_, mC_, mN_]); rfl) ?_; (with_reducible refine (impl_AllSearches.calls k t482 t483 t484 t495 t498 _ A7.o).mono ?_); rintro e w168 ⟨v496, rfl, ho0, hb⟩; refine ⟨_, rfl, ?_⟩; have HO497 := Aa.k (Kd.S_lower (Kd.S_new' (Kd.S_new' ho0 (Kd.R_lt (by exact HO489.o))) (Kd.R_lt (by exact HO493.o))) (Af HB.o)); replace HO489 := Aa.k (Kd.Ba (by exact HO489.o) hb); replace HO493 := Aa.k (Kd.Ba (by exact HO493.o) hb); replace BK9003 := Aa.k (Ae (g := gb9003) (o := .cells #[.int .i64 t482, .bool t483] 25 (0, 0)) (by exact BK9003.o) hb); replace HB := Aa.k (Ad HB.o hb); (try clear hb); (try clear hb2); (try clear hk); (try clear hi); (try clear ho0); have hcz169_0 := Bj BK9003.o; have hcz169_1 := Bn BK9003.o; have hfz169_0 := Ac BK9003.o 0; have hfz169_1 := Ac BK9003.o 1) | ((with_reducible refine Aj (f := 33) rfl ?_); refine Bf (some 75) rfl rfl Try.func33 (by kernel_rfl) rfl #[.agg #[.int .i64 t482, .bool t483], .int .i64 t484] rfl (by (try simp only [mT_, mC_, mN_]); rfl) ?_; (with_reducible refine (spec_AllSearches.calls t482 t483 t484 t499 t502 _ A8.o).mono ?_); rintro e w170 ⟨v500, rfl, ho0, hb⟩; refine ⟨_, rfl, ?_⟩; have HO501 := Aa.k (Kd.S_lower (Kd.S_new' (Kd.S_new' (Kd.S_new' ho0 (Kd.R_lt (by exact HO489.o))) (Kd.R_lt (by exact HO493.o))) (Kd.S_lt (by exact HO497.o))) (Af HB.o)); replace HO489 := Aa.k (Kd.Ba (by exact HO489.o) hb); replace HO493 := Aa.k (Kd.Ba (by exact HO493.o) hb); replace HO497 := Aa.k (Kd.Fv (by exact HO497.o) (Kd.S_base ho0) hb); replace BK9003 := Aa.k (Ae (g := gb9003) (o := .cells #[.int .i64 t482, .bool t483] 25 (0, 0)) (by exact BK9003.o) hb); replace HB := Aa.k (Ad HB.o hb); (try clear hb); (try clear hb2); (try clear hk); (try clear hi); (try clear ho0)) | ((with_reducible refine Aj (f := 26) rfl ?_); refine Bf (some 80) rfl rfl Try.func26 (by kernel_rfl) rfl #[.slice A0 l0.length c0, .int .i64 1] rfl (by (try simp only [mT_, mC_, mN_]); rfl) ?_; (with_reducible refine (laws_vCut.calls _ _ l0 1 t503 _ ?side1 ?side2 A9.o).mono ?_); (case side1 => repeat (exact (Kd.Dx HR0.o HB.o))); (case side2 => exact HC0.o); rintro e w171 ⟨v504, rfl, ho0, hb⟩; refine ⟨_, rfl, ?_⟩; replace HO489 := Aa.k (Kd.Ba (by exact HO489.o) hb); replace HO493 := Aa.k (Kd.Ba (by exact HO493.o) hb); replace HO497 := Aa.k (Kd.Du (by exact HO497.o) hb); replace HO501 := Aa.k (Kd.Du (by exact HO501.o) hb); have HO505 := Aa.k (Kd.Ct ho0 (Af HB.o)); replace BK9003 := Aa.k (Ae (g := gb9003) (o := .cells #[.int .i64 t482, .bool t483] 25 (0, 0)) (by exact BK9003.o) hb); replace HB := Aa.k (Ad HB.o hb); (try clear hb); (try clear hb2); (try clear hk); (try clear hi); (try clear ho0); obtain ⟨Ao172, co172, eo172⟩ := Kd.Cx HO505.o; subst eo172) | ((with_reducible refine Aj (f := 34) rfl ?_); refine Bf (some 81) rfl rfl Try.func34 (by kernel_rfl) rfl #[.slice Ao172 t503.length co172] rfl (by (try simp only [mT_, mC_, mN_]); rfl) ?_; (with_reducible refine (Df.calls _ _ t503 t506 t507 t508 _ ?side1 ?side2 A10.o).mono ?_); (case side1 => repeat (exact (Kd.Bb HO505.o).2.2)); (case side2 => exact (Kd.Bb HO505.o).2.1); rintro e w173 ⟨rfl, hb⟩; refine ⟨_, rfl, ?_⟩; replace HO489 := Aa.k (Kd.Ba (by exact HO489.o) hb); replace HO493 := Aa.k (Kd.Ba (by exact HO493.o) hb); replace HO497 := Aa.k (Kd.Du (by exact HO497.o) hb); replace HO501 := Aa.k (Kd.Du (by exact HO501.o) hb); replace HO505 := Aa.k (Kd.Ba (by exact HO505.o) hb); replace BK9003 := Aa.k (Ae (g := gb9003) (o := .cells #[.int .i64 t482, .bool t483] 25 (0, 0)) (by exact BK9003.o) hb); replace HB := Aa.k (Ad HB.o hb); (try clear hb); (try clear hb2); (try clear hk); (try clear hi)) | ((with_reducible refine Be (N := 14) rfl ?_); refine Bo ?hg (N := 14) ?hd (cs := #[.int .i64 0, .bool false]) (t := 25) ?hr ?_; (case hd => rfl); (case hg => rfl); (case hr => (go_simp; done)); intro gb9014 hg w174 hbox hb; replace HO489 := Aa.k (Kd.Ba (by exact HO489.o) hb); replace HO493 := Aa.k (Kd.Ba (by exact HO493.o) hb); replace HO497 := Aa.k (Kd.Du (by exact HO497.o) hb); replace HO501 := Aa.k (Kd.Du (by exact HO501.o) hb); replace HO505 := Aa.k (Kd.Ba (by exact HO505.o) hb); have BK9014 := Aa.k (hbox); have GW9014 := Aa.k ((by rw [hg]; exact (Af HB.o) : w.heap.size ≤ gb9014)); have GE9014 := Aa.k ((by rw [hg]; exact (Af HB.o) : w.heap.size ≤ gb9014)); replace HB := Aa.k (Ad HB.o hb); have NB9003_9014 := Aa.k ((by rw [hg]; exact Nat.ne_of_lt (Ca (g := gb9003) (o := .cells #[.int .i64 t482, .bool t483] 25 (0, 0)) (by exact BK9003.o)) : gb9003 ≠ gb9014)); have NB9014_9003 := Aa.k ((by rw [hg]; exact Nat.ne_of_gt (Ca (g := gb9003) (o := .cells #[.int .i64 t482, .bool t483] 25 (0, 0)) (by exact BK9003.o)) : gb9014 ≠ gb9003)); replace BK9003 := Aa.k (Ae (g := gb9003) (o := .cells #[.int .i64 t482, .bool t483] 25 (0, 0)) (by exact BK9003.o) hb); clear hb hbox hg; have hnb175 := NB9014_9003.o; have hnc175 := NB9003_9014.o; have hcz176_0 := Bj BK9014.o; have hcz176_1 := Bn BK9014.o; have hfz176_0 := Ac BK9014.o 0; have hfz176_1 := Ac BK9014.o 1) | ((with_reducible refine Aj (f := 35) rfl ?_); refine Bf (some 87) rfl rfl Try.func35 (by kernel_rfl) rfl #[.agg #[.int .i64 t506, .bool t507], .int .i64 t508] rfl (by (try simp only [mT_, mC_, mN_]); rfl) ?_; (with_reducible refine (Bq.calls k t506 t507 t508 t510 t513 _ A11.o).mono ?_); rintro e w177 ⟨v511, rfl, ho0, hb⟩; refine ⟨_, rfl, ?_⟩; replace HO497 := Aa.k (Kd.Fv (by exact (Kd.S_mono (Kd.S_far (p := ⟨gb9014, 1, none⟩) (Kd.S_far (p := ⟨gb9014, 0, none⟩) (Kd.S_types HO497.o BK9014.o (by decide)) (fun _ hk => hk.2) (.int .i64 t506)) (fun _ hk => hk.2) (.bool t507)) (fun _ h_ => h_.1))) (Kd.Cy ho0) hb); replace HO501 := Aa.k (Kd.Fv (by exact (Kd.S_mono (Kd.S_far (p := ⟨gb9014, 1, none⟩) (Kd.S_far (p := ⟨gb9014, 0, none⟩) (Kd.S_types HO501.o BK9014.o (by decide)) (fun _ hk => hk.2) (.int .i64 t506)) (fun _ hk => hk.2) (.bool t507)) (fun _ h_ => h_.1))) (Kd.Cy ho0) hb); replace HO505 := Aa.k (Kd.Ba (by exact (Kd.Bv (Kd.Dc (p := ⟨gb9014, 1, none⟩) (Kd.Dc (p := ⟨gb9014, 0, none⟩) (Kd.Dh HO505.o BK9014.o (by decide)) (fun _ hk => hk.2) (.int .i64 t506)) (fun _ hk => hk.2) (.bool t507)) (fun _ h_ => h_.1))) hb); have HO512 := Aa.k (Kd.Ct (Kd.Dz (Kd.Dz ho0 (Kd.R_lt (by exact (Kd.Bv (Kd.Dc (p := ⟨gb9014, 1, none⟩) (Kd.Dc (p := ⟨gb9014, 0, none⟩) (Kd.Dh HO489.o BK9014.o (by decide)) (fun _ hk => hk.2) (.int .i64 t506)) (fun _ hk => hk.2) (.bool t507)) (fun _ h_ => h_.1))))) (Kd.R_lt (by exact (Kd.Bv (Kd.Dc (p := ⟨gb9014, 1, none⟩) (Kd.Dc (p := ⟨gb9014, 0, none⟩) (Kd.Dh HO493.o BK9014.o (by decide)) (fun _ hk => hk.2) (.int .i64 t506)) (fun _ hk => hk.2) (.bool t507)) (fun _ h_ => h_.1))))) (Af (by repeat ((with_reducible first | exact HB.o | refine Bz ?_ GE9014.o))))); replace HO489 := Aa.k (Kd.Cw (by exact (Kd.Bv (Kd.Dc (p := ⟨gb9014, 1, none⟩) (Kd.Dc (p := ⟨gb9014, 0, none⟩) (Kd.Dh HO489.o BK9014.o (by decide)) (fun _ hk => hk.2) (.int .i64 t506)) (fun _ hk => hk.2) (.bool t507)) (fun _ h_ => h_.1))) (Kd.Cy ho0) hb); replace HO493 := Aa.k (Kd.Cw (by exact (Kd.Bv (Kd.Dc (p := ⟨gb9014, 1, none⟩) (Kd.Dc (p := ⟨gb9014, 0, none⟩) (Kd.Dh HO493.o BK9014.o (by decide)) (fun _ hk => hk.2) (.int .i64 t506)) (fun _ hk => hk.2) (.bool t507)) (fun _ h_ => h_.1))) (Kd.Cy ho0) hb); replace BK9003 := Aa.k (Ae (g := gb9003) (o := .cells #[.int .i64 t482, .bool t483] 25 (0, 0)) (by refine Cb ?_ NB9003_9014.o _; refine Cb ?_ NB9003_9014.o _; exact BK9003.o) hb); replace BK9014 := Aa.k (Ae (g := gb9014) (o := .cells #[.int .i64 t506, .bool t507] 25 (0, 0)) (by refine Cr (cs := #[.int .i64 t506, .bool false]) ?_ 1 _ rfl; refine Cr (cs := #[.int .i64 0, .bool false]) ?_ 0 _ rfl; exact BK9014.o) hb); replace HB := Aa.k (Ad (by repeat ((with_reducible first | exact HB.o | refine Bz ?_ GE9014.o))) hb); (try clear hb); (try clear hb2); (try clear hk); (try clear hi); (try clear ho0); have hcz178_0 := Bj BK9014.o; have hcz178_1 := Bn BK9014.o; have hfz178_0 := Ac BK9014.o 0; have hfz178_1 := Ac BK9014.o 1) | ((with_reducible refine Aj (f := 36) rfl ?_); refine Bf (some 93) rfl rfl Try.func36 (by kernel_rfl) rfl #[.agg #[.int .i64 t506, .bool t507], .int .i64 t508] rfl (by (try simp only [mT_, mC_, mN_]); rfl) ?_; (with_reducible refine (Au.calls k t506 t507 t508 t514 t517 _ A12.o).mono ?_); rintro e w179 ⟨v515, rfl, ho0, hb⟩; refine ⟨_, rfl, ?_⟩; replace HO497 := Aa.k (Kd.Fv (by exact HO497.o) (Kd.Cy ho0) hb); replace HO501 := Aa.k (Kd.Fv (by exact HO501.o) (Kd.Cy ho0) hb); replace HO505 := Aa.k (Kd.Ba (by exact HO505.o) hb); have HO516 := Aa.k (Kd.Ct (Kd.Dz (Kd.Dz (Kd.Dz ho0 (Kd.R_lt (by exact HO489.o))) (Kd.R_lt (by exact HO493.o))) (Kd.R_lt (by exact HO512.o))) (Af HB.o)); replace HO489 := Aa.k (Kd.Cw (by exact HO489.o) (Kd.Cy ho0) hb); replace HO493 := Aa.k (Kd.Cw (by exact HO493.o) (Kd.Cy ho0) hb); replace HO512 := Aa.k (Kd.Cw (by exact HO512.o) (Kd.Cy ho0) hb); replace BK9003 := Aa.k (Ae (g := gb9003) (o := .cells #[.int .i64 t482, .bool t483] 25 (0, 0)) (by exact BK9003.o) hb); replace BK9014 := Aa.k (Ae (g := gb9014) (o := .cells #[.int .i64 t506, .bool t507] 25 (0, 0)) (by exact BK9014.o) hb); replace HB := Aa.k (Ad HB.o hb); (try clear hb); (try clear hb2); (try clear hk); (try clear hi); (try clear ho0)) | ((with_reducible refine Aj (f := 26) rfl ?_); refine Bf (some 98) rfl rfl Try.func26 (by kernel_rfl) rfl #[.slice A0 l0.length c0, .int .i64 2] rfl (by (try simp only [mT_, mC_, mN_]); rfl) ?_; (with_reducible refine (laws_vCut.calls _ _ l0 2 t518 _ ?side1 ?side2 A13.o).mono ?_); (case side1 => repeat (exact (Kd.Dx HR0.o HB.o))); (case side2 => exact HC0.o); rintro e w180 ⟨v519, rfl, ho0, hb⟩; refine ⟨_, rfl, ?_⟩; replace HO489 := Aa.k (Kd.Ba (by exact HO489.o) hb); replace HO493 := Aa.k (Kd.Ba (by exact HO493.o) hb); replace HO497 := Aa.k (Kd.Du (by exact HO497.o) hb); replace HO501 := Aa.k (Kd.Du (by exact HO501.o) hb); replace HO512 := Aa.k (Kd.Ba (by exact HO512.o) hb); replace HO516 := Aa.k (Kd.Ba (by exact HO516.o) hb); have HO520 := Aa.k (Kd.Ct (Kd.Dz ho0 (Kd.R_lt (by exact HO505.o))) (Af HB.o)); replace HO505 := Aa.k (Kd.Cw (by exact HO505.o) (Kd.Cy ho0) hb); replace BK9003 := Aa.k (Ae (g := gb9003) (o := .cells #[.int .i64 t482, .bool t483] 25 (0, 0)) (by exact BK9003.o) hb); replace BK9014 := Aa.k (Ae (g := gb9014) (o := .cells #[.int .i64 t506, .bool t507] 25 (0, 0)) (by exact BK9014.o) hb); replace HB := Aa.k (Ad HB.o hb); (try clear hb); (try clear hb2); (try clear hk); (try clear hi); (try clear ho0); obtain ⟨Ao181, co181, eo181⟩ := Kd.Cx HO520.o; subst eo181) | ((with_reducible refine Aj (f := 37) rfl ?_); refine Bf (some 99) rfl rfl Try.func37 (by kernel_rfl) rfl #[.slice Ao181 t518.length co181] rfl (by (try simp only [mT_, mC_, mN_]); rfl) ?_; (with_reducible refine (Ff.calls k _ _ t518 t521 t522 t523 _ ?side1 ?side2 A14.o).mono ?_); (case side1 => repeat (exact (Kd.Bb HO520.o).2.2)); (case side2 => exact (Kd.Bb HO520.o).2.1); rintro e w182 ⟨v524, rfl, ho0, hb⟩; refine ⟨_, rfl, ?_⟩; replace HO497 := Aa.k (Kd.Fv (by exact HO497.o) (Kd.Cy ho0) hb); replace HO501 := Aa.k (Kd.Fv (by exact HO501.o) (Kd.Cy ho0) hb); replace HO505 := Aa.k (Kd.Ba (by exact HO505.o) hb); replace HO520 := Aa.k (Kd.Ba (by exact HO520.o) hb); have HO525 := Aa.k (Kd.Ct (Kd.Dz (Kd.Dz (Kd.Dz (Kd.Dz ho0 (Kd.R_lt (by exact HO489.o))) (Kd.R_lt (by exact HO493.o))) (Kd.R_lt (by exact HO512.o))) (Kd.R_lt (by exact HO516.o))) (Af HB.o)); replace HO489 := Aa.k (Kd.Cw (by exact HO489.o) (Kd.Cy ho0) hb); replace HO493 := Aa.k (Kd.Cw (by exact HO493.o) (Kd.Cy ho0) hb); replace HO512 := Aa.k (Kd.Cw (by exact HO512.o) (Kd.Cy ho0) hb); replace HO516 := Aa.k (Kd.Cw (by exact HO516.o) (Kd.Cy ho0) hb); replace BK9003 := Aa.k (Ae (g := gb9003) (o := .cells #[.int .i64 t482, .bool t483] 25 (0, 0)) (by exact BK9003.o) hb); replace BK9014 := Aa.k (Ae (g := gb9014) (o := .cells #[.int .i64 t506, .bool t507] 25 (0, 0)) (by exact BK9014.o) hb); replace HB := Aa.k (Ad HB.o hb); (try clear hb); (try clear hb2); (try clear hk); (try clear hi); (try clear ho0)) | ((with_reducible refine Be (N := 20) rfl ?_); refine Bo ?hg (N := 20) ?hd (cs := #[.int .i64 0, .bool false]) (t := 25) ?hr ?_; (case hd => rfl); (case hg => rfl); (case hr => (go_simp; done)); intro gb9020 hg w183 hbox hb; replace HO489 := Aa.k (Kd.Ba (by exact HO489.o) hb); replace HO493 := Aa.k (Kd.Ba (by exact HO493.o) hb); replace HO497 := Aa.k (Kd.Du (by exact HO497.o) hb); replace HO501 := Aa.k (Kd.Du (by exact HO501.o) hb); replace HO505 := Aa.k (Kd.Ba (by exact HO505.o) hb); replace HO512 := Aa.k (Kd.Ba (by exact HO512.o) hb); replace HO516 := Aa.k (Kd.Ba (by exact HO516.o) hb); replace HO520 := Aa.k (Kd.Ba (by exact HO520.o) hb); replace HO525 := Aa.k (Kd.Ba (by exact HO525.o) hb); have BK9020 := Aa.k (hbox); have GW9020 := Aa.k ((by rw [hg]; exact (Af HB.o) : w.heap.size ≤ gb9020)); have GE9020 := Aa.k ((by rw [hg]; exact (Af HB.o) : w.heap.size ≤ gb9020)); replace HB := Aa.k (Ad HB.o hb); have NB9003_9020 := Aa.k ((by rw [hg]; exact Nat.ne_of_lt (Ca (g := gb9003) (o := .cells #[.int .i64 t482, .bool t483] 25 (0, 0)) (by exact BK9003.o)) : gb9003 ≠ gb9020)); have NB9020_9003 := Aa.k ((by rw [hg]; exact Nat.ne_of_gt (Ca (g := gb9003) (o := .cells #[.int .i64 t482, .bool t483] 25 (0, 0)) (by exact BK9003.o)) : gb9020 ≠ gb9003)); replace BK9003 := Aa.k (Ae (g := gb9003) (o := .cells #[.int .i64 t482, .bool t483] 25 (0, 0)) (by exact BK9003.o) hb); have NB9014_9020 := Aa.k ((by rw [hg]; exact Nat.ne_of_lt (Ca (g := gb9014) (o := .cells #[.int .i64 t506, .bool t507] 25 (0, 0)) (by exact BK9014.o)) : gb9014 ≠ gb9020)); have NB9020_9014 := Aa.k ((by rw [hg]; exact Nat.ne_of_gt (Ca (g := gb9014) (o := .cells #[.int .i64 t506, .bool t507] 25 (0, 0)) (by exact BK9014.o)) : gb9020 ≠ gb9014)); replace BK9014 := Aa.k (Ae (g := gb9014) (o := .cells #[.int .i64 t506, .bool t507] 25 (0, 0)) (by exact BK9014.o) hb); clear hb hbox hg; have hnb184 := NB9020_9003.o; have hnc184 := NB9003_9020.o; have hnb185 := NB9020_9014.o; have hnc185 := NB9014_9020.o; have hcz186_0 := Bj BK9020.o; have hcz186_1 := Bn BK9020.o; have hfz186_0 := Ac BK9020.o 0; have hfz186_1 := Ac BK9020.o 1; obtain ⟨Ao187, co187, eo187⟩ := Kd.Cx HO525.o; subst eo187) | ((with_reducible refine Aj (f := 38) rfl ?_); refine Bf (some 105) rfl rfl Try.func38 (by kernel_rfl) rfl #[.agg #[.int .i64 t521, .bool t522], .slice Ao187 t523.length co187] rfl (by (try simp only [mT_, mC_, mN_]); rfl) ?_; (with_reducible refine (Cn.calls k t521 t522 _ _ t523 t527 t530 _ ?side1 ?side2 A15.o).mono ?_); (case side1 => refine (Kd.Bb (e := 3) (base := w.heap.size) (ok := fun k_ => ((((True ∧ some k_ ≠ (v488 : Value).ownBlock) ∧ some k_ ≠ (v492 : Value).ownBlock) ∧ some k_ ≠ (v511 : Value).ownBlock) ∧ some k_ ≠ (v515 : Value).ownBlock)) (n := t523.length) (c := co187) ?_).2.2; exact (by exact (Kd.Bv (Kd.Dc (p := ⟨gb9020, 1, none⟩) (Kd.Dc (p := ⟨gb9020, 0, none⟩) (Kd.Dh HO525.o BK9020.o (by decide)) (fun _ hk => hk.2) (.int .i64 t521)) (fun _ hk => hk.2) (.bool t522)) (fun _ h_ => h_.1)))); (case side2 => exact (Kd.Bb HO525.o).2.1); rintro e w188 ⟨v528, rfl, ho0, hb⟩; refine ⟨_, rfl, ?_⟩; replace HO497 := Aa.k (Kd.Fv (by exact (Kd.S_mono (Kd.S_far (p := ⟨gb9020, 1, none⟩) (Kd.S_far (p := ⟨gb9020, 0, none⟩) (Kd.S_types HO497.o BK9020.o (by decide)) (fun _ hk => hk.2) (.int .i64 t521)) (fun _ hk => hk.2) (.bool t522)) (fun _ h_ => h_.1))) (Kd.Cy ho0) hb); replace HO501 := Aa.k (Kd.Fv (by exact (Kd.S_mono (Kd.S_far (p := ⟨gb9020, 1, none⟩) (Kd.S_far (p := ⟨gb9020, 0, none⟩) (Kd.S_types HO501.o BK9020.o (by decide)) (fun _ hk => hk.2) (.int .i64 t521)) (fun _ hk => hk.2) (.bool t522)) (fun _ h_ => h_.1))) (Kd.Cy ho0) hb); replace HO505 := Aa.k (Kd.Ba (by exact (Kd.Bv (Kd.Dc (p := ⟨gb9020, 1, none⟩) (Kd.Dc (p := ⟨gb9020, 0, none⟩) (Kd.Dh HO505.o BK9020.o (by decide)) (fun _ hk => hk.2) (.int .i64 t521)) (fun _ hk => hk.2) (.bool t522)) (fun _ h_ => h_.1))) hb); replace HO520 := Aa.k (Kd.Ba (by exact (Kd.Bv (Kd.Dc (p := ⟨gb9020, 1, none⟩) (Kd.Dc (p := ⟨gb9020, 0, none⟩) (Kd.Dh HO520.o BK9020.o (by decide)) (fun _ hk => hk.2) (.int .i64 t521)) (fun _ hk => hk.2) (.bool t522)) (fun _ h_ => h_.1))) hb); have HO529 := Aa.k (Kd.Ct (Kd.Dz (Kd.Dz (Kd.Dz (Kd.Dz (Kd.Dz ho0 (Kd.R_lt (by exact (Kd.Bv (Kd.Dc (p := ⟨gb9020, 1, none⟩) (Kd.Dc (p := ⟨gb9020, 0, none⟩) (Kd.Dh HO489.o BK9020.o (by decide)) (fun _ hk => hk.2) (.int .i64 t521)) (fun _ hk => hk.2) (.bool t522)) (fun _ h_ => h_.1))))) (Kd.R_lt (by exact (Kd.Bv (Kd.Dc (p := ⟨gb9020, 1, none⟩) (Kd.Dc (p := ⟨gb9020, 0, none⟩) (Kd.Dh HO493.o BK9020.o (by decide)) (fun _ hk => hk.2) (.int .i64 t521)) (fun _ hk => hk.2) (.bool t522)) (fun _ h_ => h_.1))))) (Kd.R_lt (by exact (Kd.Bv (Kd.Dc (p := ⟨gb9020, 1, none⟩) (Kd.Dc (p := ⟨gb9020, 0, none⟩) (Kd.Dh HO512.o BK9020.o (by decide)) (fun _ hk => hk.2) (.int .i64 t521)) (fun _ hk => hk.2) (.bool t522)) (fun _ h_ => h_.1))))) (Kd.R_lt (by exact (Kd.Bv (Kd.Dc (p := ⟨gb9020, 1, none⟩) (Kd.Dc (p := ⟨gb9020, 0, none⟩) (Kd.Dh HO516.o BK9020.o (by decide)) (fun _ hk => hk.2) (.int .i64 t521)) (fun _ hk => hk.2) (.bool t522)) (fun _ h_ => h_.1))))) (Kd.R_lt (by exact (Kd.Bv (Kd.Dc (p := ⟨gb9020, 1, none⟩) (Kd.Dc (p := ⟨gb9020, 0, none⟩) (Kd.Dh HO525.o BK9020.o (by decide)) (fun _ hk => hk.2) (.int .i64 t521)) (fun _ hk => hk.2) (.bool t522)) (fun _ h_ => h_.1))))) (Af (by repeat ((with_reducible first | exact HB.o | refine Bz ?_ GE9020.o))))); replace HO489 := Aa.k (Kd.Cw (by exact (Kd.Bv (Kd.Dc (p := ⟨gb9020, 1, none⟩) (Kd.Dc (p := ⟨gb9020, 0, none⟩) (Kd.Dh HO489.o BK9020.o (by decide)) (fun _ hk => hk.2) (.int .i64 t521)) (fun _ hk => hk.2) (.bool t522)) (fun _ h_ => h_.1))) (Kd.Cy ho0) hb); replace HO493 := Aa.k (Kd.Cw (by exact (Kd.Bv (Kd.Dc (p := ⟨gb9020, 1, none⟩) (Kd.Dc (p := ⟨gb9020, 0, none⟩) (Kd.Dh HO493.o BK9020.o (by decide)) (fun _ hk => hk.2) (.int .i64 t521)) (fun _ hk => hk.2) (.bool t522)) (fun _ h_ => h_.1))) (Kd.Cy ho0) hb); replace HO512 := Aa.k (Kd.Cw (by exact (Kd.Bv (Kd.Dc (p := ⟨gb9020, 1, none⟩) (Kd.Dc (p := ⟨gb9020, 0, none⟩) (Kd.Dh HO512.o BK9020.o (by decide)) (fun _ hk => hk.2) (.int .i64 t521)) (fun _ hk => hk.2) (.bool t522)) (fun _ h_ => h_.1))) (Kd.Cy ho0) hb); replace HO516 := Aa.k (Kd.Cw (by exact (Kd.Bv (Kd.Dc (p := ⟨gb9020, 1, none⟩) (Kd.Dc (p := ⟨gb9020, 0, none⟩) (Kd.Dh HO516.o BK9020.o (by decide)) (fun _ hk => hk.2) (.int .i64 t521)) (fun _ hk => hk.2) (.bool t522)) (fun _ h_ => h_.1))) (Kd.Cy ho0) hb); replace HO525 := Aa.k (Kd.Cw (by exact (Kd.Bv (Kd.Dc (p := ⟨gb9020, 1, none⟩) (Kd.Dc (p := ⟨gb9020, 0, none⟩) (Kd.Dh HO525.o BK9020.o (by decide)) (fun _ hk => hk.2) (.int .i64 t521)) (fun _ hk => hk.2) (.bool t522)) (fun _ h_ => h_.1))) (Kd.Cy ho0) hb); replace BK9003 := Aa.k (Ae (g := gb9003) (o := .cells #[.int .i64 t482, .bool t483] 25 (0, 0)) (by refine Cb ?_ NB9003_9020.o _; refine Cb ?_ NB9003_9020.o _; exact BK9003.o) hb); replace BK9014 := Aa.k (Ae (g := gb9014) (o := .cells #[.int .i64 t506, .bool t507] 25 (0, 0)) (by refine Cb ?_ NB9014_9020.o _; refine Cb ?_ NB9014_9020.o _; exact BK9014.o) hb); replace BK9020 := Aa.k (Ae (g := gb9020) (o := .cells #[.int .i64 t521, .bool t522] 25 (0, 0)) (by refine Cr (cs := #[.int .i64 t521, .bool false]) ?_ 1 _ rfl; refine Cr (cs := #[.int .i64 0, .bool false]) ?_ 0 _ rfl; exact BK9020.o) hb); replace HB := Aa.k (Ad (by repeat ((with_reducible first | exact HB.o | refine Bz ?_ GE9020.o))) hb); (try clear hb); (try clear hb2); (try clear hk); (try clear hi); (try clear ho0); have hcz189_0 := Bj BK9020.o; have hcz189_1 := Bn BK9020.o; have hfz189_0 := Ac BK9020.o 0; have hfz189_1 := Ac BK9020.o 1) | ((with_reducible refine Aj (f := 39) rfl ?_); refine Bf (some 111) rfl rfl Try.func39 (by kernel_rfl) rfl #[.agg #[.int .i64 t521, .bool t522], .slice Ao187 t523.length co187] rfl (by (try simp only [mT_, mC_, mN_]); rfl) ?_; (with_reducible refine (Az.calls k t521 t522 _ _ t523 t531 t534 _ ?side1 ?side2 A16.o).mono ?_); (case side1 => repeat (exact (Kd.Bb HO525.o).2.2)); (case side2 => exact (Kd.Bb HO525.o).2.1); rintro e w190 ⟨v532, rfl, ho0, hb⟩; refine ⟨_, rfl, ?_⟩; replace HO497 := Aa.k (Kd.Fv (by exact HO497.o) (Kd.Cy ho0) hb); replace HO501 := Aa.k (Kd.Fv (by exact HO501.o) (Kd.Cy ho0) hb); replace HO505 := Aa.k (Kd.Ba (by exact HO505.o) hb); replace HO520 := Aa.k (Kd.Ba (by exact HO520.o) hb); have HO533 := Aa.k (Kd.Ct (Kd.Dz (Kd.Dz (Kd.Dz (Kd.Dz (Kd.Dz (Kd.Dz ho0 (Kd.R_lt (by exact HO489.o))) (Kd.R_lt (by exact HO493.o))) (Kd.R_lt (by exact HO512.o))) (Kd.R_lt (by exact HO516.o))) (Kd.R_lt (by exact HO525.o))) (Kd.R_lt (by exact HO529.o))) (Af HB.o)); replace HO489 := Aa.k (Kd.Cw (by exact HO489.o) (Kd.Cy ho0) hb); replace HO493 := Aa.k (Kd.Cw (by exact HO493.o) (Kd.Cy ho0) hb); replace HO512 := Aa.k (Kd.Cw (by exact HO512.o) (Kd.Cy ho0) hb); replace HO516 := Aa.k (Kd.Cw (by exact HO516.o) (Kd.Cy ho0) hb); replace HO525 := Aa.k (Kd.Cw (by exact HO525.o) (Kd.Cy ho0) hb); replace HO529 := Aa.k (Kd.Cw (by exact HO529.o) (Kd.Cy ho0) hb); replace BK9003 := Aa.k (Ae (g := gb9003) (o := .cells #[.int .i64 t482, .bool t483] 25 (0, 0)) (by exact BK9003.o) hb); replace BK9014 := Aa.k (Ae (g := gb9014) (o := .cells #[.int .i64 t506, .bool t507] 25 (0, 0)) (by exact BK9014.o) hb); replace BK9020 := Aa.k (Ae (g := gb9020) (o := .cells #[.int .i64 t521, .bool t522] 25 (0, 0)) (by exact BK9020.o) hb); replace HB := Aa.k (Ad HB.o hb); (try clear hb); (try clear hb2); (try clear hk); (try clear hi); (try clear ho0); obtain ⟨Ao191, co191, eo191⟩ := Kd.Cx HO489.o; subst eo191; obtain ⟨Ao192, co192, eo192⟩ := Kd.Cx HO493.o; subst eo192) | (go_at_call 40; (with_reducible refine (Cg.calls k _ _ t487 _ _ t491 true _ ?side1 ?side2 ?side3 ?side4 A18.o).mono ?_); (case side1 => repeat (exact (Kd.Bb HO489.o).2.2)); (case side2 => exact (Kd.Bb HO489.o).2.1); (case side3 => repeat (exact (Kd.Bb HO493.o).2.2)); (case side4 => exact (Kd.Bb HO493.o).2.1); rintro e w' ⟨rfl, ⟨nd, rfl⟩⟩; obtain ⟨Ao193, co193, eo193⟩ := Kd.S_slice HO497.o; subst eo193; obtain ⟨Ao194, co194, eo194⟩ := Kd.S_slice HO501.o; subst eo194) | (go_at_call 41; (with_reducible refine (Em.calls k _ _ t495 _ _ t499 true _ ?side1 ?side2 ?side3 ?side4 A21.o).mono ?_); (case side1 => repeat (exact (Kd.S_reads' HO497.o).2.2)); (case side2 => exact (Kd.S_reads' HO497.o).2.1); (case side3 => repeat (exact (Kd.S_reads' HO501.o).2.2)); (case side4 => exact (Kd.S_reads' HO501.o).2.1); rintro e w' ⟨rfl, ⟨nd, rfl⟩⟩; obtain ⟨Ao195, co195, eo195⟩ := Kd.Cx HO512.o; subst eo195; obtain ⟨Ao196, co196, eo196⟩ := Kd.Cx HO516.o; subst eo196) | (go_at_call 40; (with_reducible refine (Cg.calls k _ _ t510 _ _ t514 true _ ?side1 ?side2 ?side3 ?side4 A24.o).mono ?_); (case side1 => repeat (exact (Kd.Bb HO512.o).2.2)); (case side2 => exact (Kd.Bb HO512.o).2.1); (case side3 => repeat (exact (Kd.Bb HO516.o).2.2)); (case side4 => exact (Kd.Bb HO516.o).2.1); rintro e w' ⟨rfl, ⟨nd, rfl⟩⟩; obtain ⟨Ao197, co197, eo197⟩ := Kd.Cx HO529.o; subst eo197; obtain ⟨Ao198, co198, eo198⟩ := Kd.Cx HO533.o; subst eo198) | (go_at_call 40; (with_reducible refine (Cg.calls k _ _ t527 _ _ t531 true _ ?side1 ?side2 ?side3 ?side4 A27.o).mono ?_); (case side1 => repeat (exact (Kd.Bb HO529.o).2.2)); (case side2 => exact (Kd.Bb HO529.o).2.1); (case side3 => repeat (exact (Kd.Bb HO533.o).2.2)); (case side4 => exact (Kd.Bb HO533.o).2.1); rintro e w' ⟨rfl, ⟨nd, rfl⟩⟩))
  (try simp only [Act.put, sT_, sZ_, sS_])
  go_cut [] (fun wc => ∃ (kq : Nat), Aa (Ao.j4 kq t484 t485 t487 false t495 t523 t527 t530 t482 t483 t521 t522 = some r) ∧ Aa (kq ≤ k) ∧ Aa (Kd.R (Kd.int .i64) 3 wc w.heap.size (fun k_ => some k_ ≠ ((.slice Ao187 t523.length co187) : Value).ownBlock ∧ some k_ ≠ ((.slice Ao197 t527.length co197) : Value).ownBlock) (.slice Ao191 t487.length co191) t487) ∧ Aa (Kd.S (Kd.slice 3 (Kd.int .i64)) 30 wc w.heap.size (fun k_ => some k_ ≠ ((.slice Ao191 t487.length co191) : Value).ownBlock ∧ some k_ ≠ ((.slice Ao187 t523.length co187) : Value).ownBlock ∧ some k_ ≠ ((.slice Ao197 t527.length co197) : Value).ownBlock) (.slice Ao193 t495.length co193) t495) ∧ Aa (Kd.R (Kd.int .i64) 3 wc w.heap.size (fun k_ => some k_ ≠ ((.slice Ao191 t487.length co191) : Value).ownBlock ∧ some k_ ≠ ((.slice Ao197 t527.length co197) : Value).ownBlock) (.slice Ao187 t523.length co187) t523) ∧ Aa (Kd.R (Kd.int .i64) 3 wc w.heap.size (fun k_ => some k_ ≠ ((.slice Ao191 t487.length co191) : Value).ownBlock ∧ some k_ ≠ ((.slice Ao187 t523.length co187) : Value).ownBlock) (.slice Ao197 t527.length co197) t527) ∧ Aa (wc.heap[gb9003]? = some (.cells #[.int .i64 t482, .bool t483] 25 (0, 0))) ∧ Aa (wc.heap[gb9014]? = some (.cells #[.int .i64 t506, .bool t507] 25 (0, 0))) ∧ Aa (wc.heap[gb9020]? = some (.cells #[.int .i64 t521, .bool t522] 25 (0, 0))) ∧ Aa (Below w.heap.size w wc))
  case first => as_aux_lemma =>
   have H := HC160.o
   clear HC160
   by_cases c199 : t513 = true
   rotate_left
   ·replace c199 := Bool.eq_false_iff.mpr c199
    subst c199
    rw [if_neg (show ¬ (false = true) by decide)] at H
    have H' := Aa.k H
    clear H
    go_wp2
    go_meet
    case rel => exact ⟨_, H', ⟨by (omega)⟩, ⟨by (with_reducible repeat ((apply Kd.Ee))); exact Kd.Bv HO489.o (fun _ hk => ⟨hk.1.1.2, hk.1.2⟩)⟩, ⟨by (with_reducible repeat ((apply Kd.S_drewN))); exact Kd.S_mono HO497.o (fun _ hk => ⟨hk.1.1.1.1.1.1.1.2, ⟨hk.1.1.2, hk.1.2⟩⟩)⟩, ⟨by (with_reducible repeat ((apply Kd.Ee))); exact Kd.Bv HO525.o (fun _ hk => ⟨hk.1.1.1.1.1.2, hk.1.2⟩)⟩, ⟨by (with_reducible repeat ((apply Kd.Ee))); exact Kd.Bv HO529.o (fun _ hk => ⟨hk.1.1.1.1.1.2, hk.1.2⟩)⟩, ⟨by (with_reducible repeat ((refine Dk ?_ _))); exact BK9003.o⟩, ⟨by (with_reducible repeat ((refine Dk ?_ _))); exact BK9014.o⟩, ⟨by (with_reducible repeat ((refine Dk ?_ _))); exact BK9020.o⟩, ⟨by repeat ((with_reducible first | exact HB.o | apply Bh))⟩⟩
   subst c199
   rw [if_pos rfl] at H
   obtain ⟨⟨t572, t573⟩, A2000, H⟩ := bindS_ H
   try dsimp only at H
   have A200 := Aa.k A2000
   clear A2000
   obtain ⟨⟨t574, t575, t576⟩, A2010, H⟩ := bindS_ H
   try dsimp only at H
   have A201 := Aa.k A2010
   clear A2010
   by_cases c202 : t573 = true
   rotate_left
   ·replace c202 := Bool.eq_false_iff.mpr c202
    subst c202
    rw [if_neg (show ¬ (false = true) by decide)] at H
    exact absurd H (by simp)
   subst c202
   rw [if_pos rfl] at H
   by_cases c203 : t576 = true
   rotate_left
   ·replace c203 := Bool.eq_false_iff.mpr c203
    subst c203
    rw [if_neg (show ¬ (false = true) by decide)] at H
    exact absurd H (by simp)
   subst c203
   rw [if_pos rfl] at H
   by_cases c204 : t572 = true
   rotate_left
   ·replace c204 := Bool.eq_false_iff.mpr c204
    subst c204
    rw [if_neg (show ¬ (false = true) by decide)] at H
    exact absurd H (by simp)
   subst c204
   rw [if_pos rfl] at H
   by_cases c205 : t574 > (wrap64 (9 * t575))
   ·rw [if_pos c205] at H
    exact absurd H (by simp)
   rw [if_neg c205] at H
   have c205b0 : decide ((wrap64 (9 * t575)) < t574) = false := decide_eq_false c205
   clear c205
   ((skip))
   have H' := Aa.k H
   clear H
   have hnb206 := NB9014_9003.o
   have hnc206 := NB9003_9014.o
   have hnb207 := NB9014_9020.o
   have hnc207 := NB9020_9014.o
   have hcz208_0 := Bj BK9014.o
   have hcz208_1 := Bn BK9014.o
   have hfz208_0 := Ac BK9014.o 0
   have hfz208_1 := Ac BK9014.o 1
   go_wp2_with (first | ((with_reducible refine Aj (f := 42) rfl ?_); refine Bf (some 168) rfl rfl Try.func42 (by kernel_rfl) rfl #[.agg #[.int .i64 t506, .bool t507], .int .i64 t508, .slice Ao195 t510.length co195] rfl (by (try simp only [mT_, mC_, mN_]); rfl) ?_; (with_reducible refine (Fw.calls k t506 t507 t508 _ _ t510 true true _ ?side1 ?side2 A200.o).mono ?_); (case side1 => repeat (exact (Kd.Bb HO512.o).2.2)); (case side2 => exact (Kd.Bb HO512.o).2.1); rintro e w209 ⟨rfl, hb⟩; refine ⟨_, rfl, ?_⟩; replace HO489 := Aa.k (Kd.Ba (by (with_reducible repeat ((apply Kd.Ee))); exact HO489.o) hb); replace HO493 := Aa.k (Kd.Ba (by (with_reducible repeat ((apply Kd.Ee))); exact HO493.o) hb); replace HO497 := Aa.k (Kd.Du (by (with_reducible repeat ((apply Kd.S_drewN))); exact HO497.o) hb); replace HO501 := Aa.k (Kd.Du (by (with_reducible repeat ((apply Kd.S_drewN))); exact HO501.o) hb); replace HO505 := Aa.k (Kd.Ba (by (with_reducible repeat ((apply Kd.Ee))); exact HO505.o) hb); replace HO512 := Aa.k (Kd.Ba (by (with_reducible repeat ((apply Kd.Ee))); exact HO512.o) hb); replace HO516 := Aa.k (Kd.Ba (by (with_reducible repeat ((apply Kd.Ee))); exact HO516.o) hb); replace HO520 := Aa.k (Kd.Ba (by (with_reducible repeat ((apply Kd.Ee))); exact HO520.o) hb); replace HO525 := Aa.k (Kd.Ba (by (with_reducible repeat ((apply Kd.Ee))); exact HO525.o) hb); replace HO529 := Aa.k (Kd.Ba (by (with_reducible repeat ((apply Kd.Ee))); exact HO529.o) hb); replace HO533 := Aa.k (Kd.Ba (by (with_reducible repeat ((apply Kd.Ee))); exact HO533.o) hb); replace BK9003 := Aa.k (Ae (g := gb9003) (o := .cells #[.int .i64 t482, .bool t483] 25 (0, 0)) (by (with_reducible repeat ((refine Dk ?_ _))); exact BK9003.o) hb); replace BK9014 := Aa.k (Ae (g := gb9014) (o := .cells #[.int .i64 t506, .bool t507] 25 (0, 0)) (by (with_reducible repeat ((refine Dk ?_ _))); exact BK9014.o) hb); replace BK9020 := Aa.k (Ae (g := gb9020) (o := .cells #[.int .i64 t521, .bool t522] 25 (0, 0)) (by (with_reducible repeat ((refine Dk ?_ _))); exact BK9020.o) hb); replace HB := Aa.k (Ad (by repeat ((with_reducible first | exact HB.o | apply Bh))) hb); (try clear hb); (try clear hb2); (try clear hk); (try clear hi); have hcz210_0 := Bj BK9014.o; have hcz210_1 := Bn BK9014.o; have hfz210_0 := Ac BK9014.o 0; have hfz210_1 := Ac BK9014.o 1) | ((with_reducible refine Aj (f := 43) rfl ?_); refine Bf (some 175) rfl rfl Try.func43 (by kernel_rfl) rfl #[.agg #[.int .i64 t506, .bool t507], .int .i64 t508, .slice Ao195 t510.length co195, .int .i64 0] rfl (by (try simp only [mT_, mC_, mN_]); rfl) ?_; (with_reducible refine (Bw.calls k t506 t507 t508 _ _ t510 0 t574 t575 true _ ?side1 ?side2 A201.o).mono ?_); (case side1 => repeat (exact (Kd.Bb HO512.o).2.2)); (case side2 => exact (Kd.Bb HO512.o).2.1); rintro e w211 ⟨rfl, hb⟩; refine ⟨_, rfl, ?_⟩; replace HO489 := Aa.k (Kd.Ba (by exact HO489.o) hb); replace HO493 := Aa.k (Kd.Ba (by exact HO493.o) hb); replace HO497 := Aa.k (Kd.Du (by exact HO497.o) hb); replace HO501 := Aa.k (Kd.Du (by exact HO501.o) hb); replace HO505 := Aa.k (Kd.Ba (by exact HO505.o) hb); replace HO512 := Aa.k (Kd.Ba (by exact HO512.o) hb); replace HO516 := Aa.k (Kd.Ba (by exact HO516.o) hb); replace HO520 := Aa.k (Kd.Ba (by exact HO520.o) hb); replace HO525 := Aa.k (Kd.Ba (by exact HO525.o) hb); replace HO529 := Aa.k (Kd.Ba (by exact HO529.o) hb); replace HO533 := Aa.k (Kd.Ba (by exact HO533.o) hb); replace BK9003 := Aa.k (Ae (g := gb9003) (o := .cells #[.int .i64 t482, .bool t483] 25 (0, 0)) (by exact BK9003.o) hb); replace BK9014 := Aa.k (Ae (g := gb9014) (o := .cells #[.int .i64 t506, .bool t507] 25 (0, 0)) (by exact BK9014.o) hb); replace BK9020 := Aa.k (Ae (g := gb9020) (o := .cells #[.int .i64 t521, .bool t522] 25 (0, 0)) (by exact BK9020.o) hb); replace HB := Aa.k (Ad HB.o hb); (try clear hb); (try clear hb2); (try clear hk); (try clear hi)) | ((with_reducible refine Be (N := 28) rfl ?_); refine Bo ?hg (N := 28) ?hd (cs := #[.int .i64 0, .int .i64 0]) (t := 56) ?hr ?_; (case hd => rfl); (case hg => rfl); (case hr => (go_simp; done)); intro gb9028 hg w212 hbox hb; replace HO489 := Aa.k (Kd.Ba (by exact HO489.o) hb); replace HO493 := Aa.k (Kd.Ba (by exact HO493.o) hb); replace HO497 := Aa.k (Kd.Du (by exact HO497.o) hb); replace HO501 := Aa.k (Kd.Du (by exact HO501.o) hb); replace HO505 := Aa.k (Kd.Ba (by exact HO505.o) hb); replace HO512 := Aa.k (Kd.Ba (by exact HO512.o) hb); replace HO516 := Aa.k (Kd.Ba (by exact HO516.o) hb); replace HO520 := Aa.k (Kd.Ba (by exact HO520.o) hb); replace HO525 := Aa.k (Kd.Ba (by exact HO525.o) hb); replace HO529 := Aa.k (Kd.Ba (by exact HO529.o) hb); replace HO533 := Aa.k (Kd.Ba (by exact HO533.o) hb); have BK9028 := Aa.k (hbox); have GW9028 := Aa.k ((by rw [hg]; exact (Af HB.o) : w.heap.size ≤ gb9028)); have GE9028 := Aa.k ((by rw [hg]; exact (Af HB.o) : w.heap.size ≤ gb9028)); replace HB := Aa.k (Ad HB.o hb); have NB9003_9028 := Aa.k ((by rw [hg]; exact Nat.ne_of_lt (Ca (g := gb9003) (o := .cells #[.int .i64 t482, .bool t483] 25 (0, 0)) (by exact BK9003.o)) : gb9003 ≠ gb9028)); have NB9028_9003 := Aa.k ((by rw [hg]; exact Nat.ne_of_gt (Ca (g := gb9003) (o := .cells #[.int .i64 t482, .bool t483] 25 (0, 0)) (by exact BK9003.o)) : gb9028 ≠ gb9003)); replace BK9003 := Aa.k (Ae (g := gb9003) (o := .cells #[.int .i64 t482, .bool t483] 25 (0, 0)) (by exact BK9003.o) hb); have NB9014_9028 := Aa.k ((by rw [hg]; exact Nat.ne_of_lt (Ca (g := gb9014) (o := .cells #[.int .i64 t506, .bool t507] 25 (0, 0)) (by exact BK9014.o)) : gb9014 ≠ gb9028)); have NB9028_9014 := Aa.k ((by rw [hg]; exact Nat.ne_of_gt (Ca (g := gb9014) (o := .cells #[.int .i64 t506, .bool t507] 25 (0, 0)) (by exact BK9014.o)) : gb9028 ≠ gb9014)); replace BK9014 := Aa.k (Ae (g := gb9014) (o := .cells #[.int .i64 t506, .bool t507] 25 (0, 0)) (by exact BK9014.o) hb); have NB9020_9028 := Aa.k ((by rw [hg]; exact Nat.ne_of_lt (Ca (g := gb9020) (o := .cells #[.int .i64 t521, .bool t522] 25 (0, 0)) (by exact BK9020.o)) : gb9020 ≠ gb9028)); have NB9028_9020 := Aa.k ((by rw [hg]; exact Nat.ne_of_gt (Ca (g := gb9020) (o := .cells #[.int .i64 t521, .bool t522] 25 (0, 0)) (by exact BK9020.o)) : gb9028 ≠ gb9020)); replace BK9020 := Aa.k (Ae (g := gb9020) (o := .cells #[.int .i64 t521, .bool t522] 25 (0, 0)) (by exact BK9020.o) hb); clear hb hbox hg; have hnb213 := NB9028_9003.o; have hnc213 := NB9003_9028.o; have hnb214 := NB9028_9014.o; have hnc214 := NB9014_9028.o; have hnb215 := NB9028_9020.o; have hnc215 := NB9020_9028.o; have hcz216_0 := Bj BK9028.o; have hcz216_1 := Bn BK9028.o; have hfz216_0 := Ac BK9028.o 0; have hfz216_1 := Ac BK9028.o 1))
   go_meet
   case rel => exact ⟨_, H', ⟨by (omega)⟩, ⟨by exact Kd.Bv (Kd.Dc (p := ⟨gb9028, 1, none⟩) (Kd.Dc (p := ⟨gb9028, 0, none⟩) (Kd.Dh HO489.o BK9028.o (by decide)) (fun _ hk => hk.2) (.int .i64 t574)) (fun _ hk => hk.2) (.int .i64 t575)) (fun _ hk => ⟨hk.1.1.1.2, hk.1.1.2⟩)⟩, ⟨by exact Kd.S_mono (Kd.S_far (p := ⟨gb9028, 1, none⟩) (Kd.S_far (p := ⟨gb9028, 0, none⟩) (Kd.S_types HO497.o BK9028.o (by decide)) (fun _ hk => hk.2) (.int .i64 t574)) (fun _ hk => hk.2) (.int .i64 t575)) (fun _ hk => ⟨hk.1.1.1.1.1.1.1.1.2, ⟨hk.1.1.1.2, hk.1.1.2⟩⟩)⟩, ⟨by exact Kd.Bv (Kd.Dc (p := ⟨gb9028, 1, none⟩) (Kd.Dc (p := ⟨gb9028, 0, none⟩) (Kd.Dh HO525.o BK9028.o (by decide)) (fun _ hk => hk.2) (.int .i64 t574)) (fun _ hk => hk.2) (.int .i64 t575)) (fun _ hk => ⟨hk.1.1.1.1.1.1.2, hk.1.1.2⟩)⟩, ⟨by exact Kd.Bv (Kd.Dc (p := ⟨gb9028, 1, none⟩) (Kd.Dc (p := ⟨gb9028, 0, none⟩) (Kd.Dh HO529.o BK9028.o (by decide)) (fun _ hk => hk.2) (.int .i64 t574)) (fun _ hk => hk.2) (.int .i64 t575)) (fun _ hk => ⟨hk.1.1.1.1.1.1.2, hk.1.1.2⟩)⟩, ⟨by refine Cb ?_ NB9003_9028.o _; refine Cb ?_ NB9003_9028.o _; exact BK9003.o⟩, ⟨by refine Cb ?_ NB9014_9028.o _; refine Cb ?_ NB9014_9028.o _; exact BK9014.o⟩, ⟨by refine Cb ?_ NB9020_9028.o _; refine Cb ?_ NB9020_9028.o _; exact BK9020.o⟩, ⟨by repeat ((with_reducible first | exact HB.o | refine Bz ?_ GE9028.o))⟩⟩
  case rest => as_aux_lemma =>
   clear HC160
   (try clear c1); (try clear c2); (try clear p2); (try clear c3); (try clear c4); (try clear c5); (try clear p5); (try clear q5); (try clear hx5); (try clear p6); (try clear c10); (try clear c12); (try clear c13); (try clear c14); (try clear c15); (try clear c17); (try clear c18); (try clear c19)
   (try clear c20); (try clear c21); (try clear c26); (try clear c29); (try clear c30); (try clear c31); (try clear c32); (try clear c33); (try clear c34); (try clear c35); (try clear c36); (try clear c37); (try clear c38); (try clear c39); (try clear c42); (try clear c43); (try clear c56); (try clear p56)
   (try clear q56); (try clear hx56); (try clear c57); (try clear p57); (try clear q57); (try clear hx57); (try clear p64); (try clear c102); (try clear c103); (try clear c104); (try clear c105); (try clear c106); (try clear c128); (try clear c128b0); (try clear c129); (try clear c132); (try clear c133)
   (try clear c134); (try clear c144); (try clear c145); (try clear c146); (try clear c147); (try clear c148); (try clear c150); (try clear c151); (try clear c152); (try clear c153); (try clear c155); (try clear c155b0); (try clear c156); (try clear c157); (try clear c157b0); (try clear c158)
   (try clear c158b0); (try clear c175); (try clear c184); (try clear c185); (try clear c199); (try clear c202); (try clear c203); (try clear c204); (try clear c205); (try clear c205b0); (try clear c206); (try clear c207); (try clear c213); (try clear c214); (try clear c215); (try clear hcz149_0)
   (try clear hcz149_1); (try clear hcz154_0); (try clear hcz154_1); (try clear hcz163_0); (try clear hcz163_1); (try clear hcz165_0); (try clear hcz165_1); (try clear hcz167_0); (try clear hcz167_1); (try clear hcz169_0); (try clear hcz169_1); (try clear hcz176_0); (try clear hcz176_1); (try clear hcz178_0)
   (try clear hcz178_1); (try clear hcz186_0); (try clear hcz186_1); (try clear hcz189_0); (try clear hcz189_1); (try clear hcz208_0); (try clear hcz208_1); (try clear hcz210_0); (try clear hcz210_1); (try clear hcz216_0); (try clear hcz216_1); (try clear hfz149_0); (try clear hfz149_1); (try clear hfz154_0)
   (try clear hfz154_1); (try clear hfz163_0); (try clear hfz163_1); (try clear hfz165_0); (try clear hfz165_1); (try clear hfz167_0); (try clear hfz167_1); (try clear hfz169_0); (try clear hfz169_1); (try clear hfz176_0); (try clear hfz176_1); (try clear hfz178_0); (try clear hfz178_1); (try clear hfz186_0)
   (try clear hfz186_1); (try clear hfz189_0); (try clear hfz189_1); (try clear hfz208_0); (try clear hfz208_1); (try clear hfz210_0); (try clear hfz210_1); (try clear hfz216_0); (try clear hfz216_1); (try clear hx565_0); (try clear hx570_0); (try clear p2); (try clear p5); (try clear p56); (try clear p565)
   (try clear p570); (try clear p6); (try clear p64); (try clear q5); (try clear q56); (try clear q565); (try clear q570)
   obtain ⟨kq, HA, HJ159, HO_6, HO_10, HO_21, HO_22, BK9003, BK9014, BK9020, HB⟩ := hcut
   cases kq with
   | zero => exact absurd HA.o (by simp [Ao.j4])
   | succ kj159 =>
    have H := HA.o
    clear HA
    simp only [Ao.j4] at H
    have HC217 := Aa.k H
    clear H
    go_upto_if 196 with (fail)
    go_cut [] (fun wc => ∃ (kq : Nat), Aa (Ao.j5 kq t484 t485 t487 false t495 t482 t483 = some r) ∧ Aa (kq ≤ kj159) ∧ Aa (Kd.R (Kd.int .i64) 3 wc w.heap.size (fun _ => True) (.slice Ao191 t487.length co191) t487) ∧ Aa (Kd.S (Kd.slice 3 (Kd.int .i64)) 30 wc w.heap.size (fun k_ => some k_ ≠ ((.slice Ao191 t487.length co191) : Value).ownBlock) (.slice Ao193 t495.length co193) t495) ∧ Aa (wc.heap[gb9003]? = some (.cells #[.int .i64 t482, .bool t483] 25 (0, 0))) ∧ Aa (wc.heap[gb9014]? = some (.cells #[.int .i64 t506, .bool t507] 25 (0, 0))) ∧ Aa (wc.heap[gb9020]? = some (.cells #[.int .i64 t521, .bool t522] 25 (0, 0))) ∧ Aa (Below w.heap.size w wc))
    case first => as_aux_lemma =>
     have H := HC217.o
     clear HC217
     by_cases c218 : t530 = true
     rotate_left
     ·replace c218 := Bool.eq_false_iff.mpr c218
      subst c218
      rw [if_neg (show ¬ (false = true) by decide)] at H
      have H' := Aa.k H
      clear H
      go_wp2
      go_meet
      case rel => exact ⟨_, H', ⟨by have := HJ159.o; (omega)⟩, ⟨by exact Kd.Bv HO_6.o (fun _ hk => trivial)⟩, ⟨by exact Kd.S_mono HO_10.o (fun _ hk => hk.1)⟩, ⟨by exact BK9003.o⟩, ⟨by exact BK9014.o⟩, ⟨by exact BK9020.o⟩, ⟨by exact HB.o⟩⟩
     subst c218
     rw [if_pos rfl] at H
     obtain ⟨⟨t578, t581⟩, A2190, H⟩ := bindS_ H
     try dsimp only at H
     have A219 := Aa.k A2190
     clear A2190
     by_cases c220 : t581 = true
     rotate_left
     ·replace c220 := Bool.eq_false_iff.mpr c220
      subst c220
      rw [if_neg (show ¬ (false = true) by decide)] at H
      exact absurd H (by simp)
     subst c220
     rw [if_pos rfl] at H
     obtain ⟨t582, A2210, H⟩ := bindS_ H
     try dsimp only at H
     have A221 := Aa.k A2210
     clear A2210
     by_cases c222 : t582 = true
     rotate_left
     ·replace c222 := Bool.eq_false_iff.mpr c222
      subst c222
      rw [if_neg (show ¬ (false = true) by decide)] at H
      exact absurd H (by simp)
     subst c222
     rw [if_pos rfl] at H
     have H' := Aa.k H
     clear H
     have hnb223 := NB9020_9003.o
     have hnc223 := NB9003_9020.o
     have hnb224 := NB9020_9014.o
     have hnc224 := NB9014_9020.o
     have hcz225_0 := Bj BK9020.o
     have hcz225_1 := Bn BK9020.o
     have hfz225_0 := Ac BK9020.o 0
     have hfz225_1 := Ac BK9020.o 1
     go_wp2_with (first | ((with_reducible refine Aj (f := 38) rfl ?_); refine Bf (some 200) rfl rfl Try.func38 (by kernel_rfl) rfl #[.agg #[.int .i64 t521, .bool t522], .slice Ao197 t527.length co197] rfl (by (try simp only [mT_, mC_, mN_]); rfl) ?_; (with_reducible refine (Cn.calls kj159 t521 t522 _ _ t527 t578 true _ ?side1 ?side2 A219.o).mono ?_); (case side1 => repeat (exact (Kd.Bb HO_22.o).2.2)); (case side2 => exact (Kd.Bb HO_22.o).2.1); rintro e w226 ⟨v579, rfl, ho0, hb⟩; refine ⟨_, rfl, ?_⟩; replace HO_10 := Aa.k (Kd.Fv (by exact HO_10.o) (Kd.Cy ho0) hb); have HO580 := Aa.k (Kd.Ct (Kd.Dz (Kd.Dz (Kd.Dz ho0 (Kd.R_lt (by exact HO_6.o))) (Kd.R_lt (by exact HO_21.o))) (Kd.R_lt (by exact HO_22.o))) (Af HB.o)); replace HO_6 := Aa.k (Kd.Cw (by exact HO_6.o) (Kd.Cy ho0) hb); replace HO_21 := Aa.k (Kd.Cw (by exact HO_21.o) (Kd.Cy ho0) hb); replace HO_22 := Aa.k (Kd.Cw (by exact HO_22.o) (Kd.Cy ho0) hb); replace BK9003 := Aa.k (Ae (g := gb9003) (o := .cells #[.int .i64 t482, .bool t483] 25 (0, 0)) (by exact BK9003.o) hb); replace BK9014 := Aa.k (Ae (g := gb9014) (o := .cells #[.int .i64 t506, .bool t507] 25 (0, 0)) (by exact BK9014.o) hb); replace BK9020 := Aa.k (Ae (g := gb9020) (o := .cells #[.int .i64 t521, .bool t522] 25 (0, 0)) (by exact BK9020.o) hb); replace HB := Aa.k (Ad HB.o hb); (try clear hb); (try clear hb2); (try clear hk); (try clear hi); (try clear ho0); obtain ⟨Ao227, co227, eo227⟩ := Kd.Cx HO580.o; subst eo227) | (go_at_call 40; (with_reducible refine (Cg.calls kj159 _ _ t578 _ _ t523 true _ ?side1 ?side2 ?side3 ?side4 A221.o).mono ?_); (case side1 => repeat (exact (Kd.Bb HO580.o).2.2)); (case side2 => exact (Kd.Bb HO580.o).2.1); (case side3 => repeat (exact (Kd.Bb HO_21.o).2.2)); (case side4 => exact (Kd.Bb HO_21.o).2.1); rintro e w' ⟨rfl, ⟨nd, rfl⟩⟩))
     go_meet
     case rel => exact ⟨_, H', ⟨by have := HJ159.o; (omega)⟩, ⟨by (with_reducible repeat ((apply Kd.Ee))); exact Kd.Bv HO_6.o (fun _ hk => trivial)⟩, ⟨by (with_reducible repeat ((apply Kd.S_drewN))); exact Kd.S_mono HO_10.o (fun _ hk => hk.1.1)⟩, ⟨by (with_reducible repeat ((refine Dk ?_ _))); exact BK9003.o⟩, ⟨by (with_reducible repeat ((refine Dk ?_ _))); exact BK9014.o⟩, ⟨by (with_reducible repeat ((refine Dk ?_ _))); exact BK9020.o⟩, ⟨by repeat ((with_reducible first | exact HB.o | apply Bh))⟩⟩
    case rest => as_aux_lemma =>
     clear HC217
     (try clear c1); (try clear c2); (try clear p2); (try clear c3); (try clear c4); (try clear c5); (try clear p5); (try clear q5); (try clear hx5); (try clear p6); (try clear c10); (try clear c12); (try clear c13); (try clear c14); (try clear c15); (try clear c17); (try clear c18); (try clear c19)
     (try clear c20); (try clear c21); (try clear c22); (try clear c26); (try clear c29); (try clear c30); (try clear c31); (try clear c32); (try clear c33); (try clear c34); (try clear c35); (try clear c36); (try clear c37); (try clear c38); (try clear c39); (try clear c42); (try clear c43)
     (try clear c56); (try clear p56); (try clear q56); (try clear hx56); (try clear c57); (try clear p57); (try clear q57); (try clear hx57); (try clear p64); (try clear c102); (try clear c103); (try clear c104); (try clear c105); (try clear c106); (try clear c128); (try clear c128b0); (try clear c129)
     (try clear c132); (try clear c133); (try clear c134); (try clear c144); (try clear c145); (try clear c146); (try clear c147); (try clear c148); (try clear c150); (try clear c151); (try clear c152); (try clear c153); (try clear c155); (try clear c155b0); (try clear c156); (try clear c157)
     (try clear c157b0); (try clear c158); (try clear c158b0); (try clear c175); (try clear c184); (try clear c185); (try clear c199); (try clear c202); (try clear c203); (try clear c204); (try clear c205); (try clear c205b0); (try clear c206); (try clear c207); (try clear c213); (try clear c214)
     (try clear c215); (try clear c218); (try clear c220); (try clear c222); (try clear c223); (try clear c224); (try clear hcz149_0); (try clear hcz149_1); (try clear hcz154_0); (try clear hcz154_1); (try clear hcz163_0); (try clear hcz163_1); (try clear hcz165_0); (try clear hcz165_1); (try clear hcz167_0)
     (try clear hcz167_1); (try clear hcz169_0); (try clear hcz169_1); (try clear hcz176_0); (try clear hcz176_1); (try clear hcz178_0); (try clear hcz178_1); (try clear hcz186_0); (try clear hcz186_1); (try clear hcz189_0); (try clear hcz189_1); (try clear hcz208_0); (try clear hcz208_1); (try clear hcz210_0)
     (try clear hcz210_1); (try clear hcz216_0); (try clear hcz216_1); (try clear hcz225_0); (try clear hcz225_1); (try clear hfz149_0); (try clear hfz149_1); (try clear hfz154_0); (try clear hfz154_1); (try clear hfz163_0); (try clear hfz163_1); (try clear hfz165_0); (try clear hfz165_1); (try clear hfz167_0)
     (try clear hfz167_1); (try clear hfz169_0); (try clear hfz169_1); (try clear hfz176_0); (try clear hfz176_1); (try clear hfz178_0); (try clear hfz178_1); (try clear hfz186_0); (try clear hfz186_1); (try clear hfz189_0); (try clear hfz189_1); (try clear hfz208_0); (try clear hfz208_1); (try clear hfz210_0)
     (try clear hfz210_1); (try clear hfz216_0); (try clear hfz216_1); (try clear hfz225_0); (try clear hfz225_1); (try clear hx565_0); (try clear hx570_0); (try clear p2); (try clear p5); (try clear p56); (try clear p565); (try clear p57); (try clear p570); (try clear p6); (try clear p64); (try clear q5)
     (try clear q56); (try clear q565); (try clear q57); (try clear q570)
     obtain ⟨kq, HA, HJ216, HO_6, HO_10, BK9003, BK9014, BK9020, HB⟩ := hcut
     cases kq with
     | zero => exact absurd HA.o (by simp [Ao.j5])
     | succ kj216 =>
      have H := HA.o
      clear HA
      simp only [Ao.j5] at H
      replace H : (some true) = some r := by (exact H)
      obtain rfl := Option.some.inj H
      go_wp2
      go_ret
      exact ⟨by (rfl), by exact HB.o⟩
 subst c29
 rw [if_pos rfl] at H
 by_cases c30 : t498 = true
 rotate_left
 ·replace c30 := Bool.eq_false_iff.mpr c30
  subst c30
  rw [if_neg (show ¬ (false = true) by decide)] at H
  exact absurd H (by simp)
 subst c30
 rw [if_pos rfl] at H
 have HC31 := Aa.k H
 clear H
 as_aux_lemma =>
 go_enter Try.func5, Try.ntmps5
 go_upto_if 163 with (first | ((with_reducible refine Aj (f := 21) rfl ?_); refine Bf (some 45) rfl rfl Try.func21 (by kernel_rfl) rfl #[.slice A0 l0.length c0] rfl (by (try simp only [mT_, mC_, mN_]); rfl) ?_; (with_reducible refine (laws_vBig.calls _ _ l0 false _ ?side1 ?side2 A2.o).mono ?_); (case side1 => exact HR0.o); (case side2 => exact HC0.o); rintro e w' ⟨rfl, ⟨nd, rfl⟩⟩; refine ⟨_, rfl, ?_⟩) | ((with_reducible refine Aj (f := 30) rfl ?_); refine Bf (some 48) rfl rfl Try.func30 (by kernel_rfl) rfl #[.slice A0 l0.length c0] rfl (by (try simp only [mT_, mC_, mN_]); rfl) ?_; (with_reducible refine (Ck.calls _ _ l0 t482 t483 t484 t485 _ ?side1 ?side2 A4.o).mono ?_); (case side1 => exact HR0.o); (case side2 => exact HC0.o); rintro e w32 ⟨rfl, hb⟩; refine ⟨_, rfl, ?_⟩; replace HB := Aa.k (Ad (by repeat ((with_reducible first | exact HB.o | apply Bh))) hb); (try clear hb); (try clear hb2); (try clear hk); (try clear hi)) | ((with_reducible refine Be (N := 3) rfl ?_); refine Bo ?hg (N := 3) ?hd (cs := #[.int .i64 0, .bool false]) (t := 25) ?hr ?_; (case hd => rfl); (case hg => rfl); (case hr => (go_simp; done)); intro gb9003 hg w33 hbox hb; have BK9003 := Aa.k (hbox); have GW9003 := Aa.k ((by rw [hg]; exact (Af HB.o) : w.heap.size ≤ gb9003)); have GE9003 := Aa.k ((by rw [hg]; exact (Af HB.o) : w.heap.size ≤ gb9003)); replace HB := Aa.k (Ad HB.o hb); clear hb hbox hg; have hcz34_0 := Bj BK9003.o; have hcz34_1 := Bn BK9003.o; have hfz34_0 := Ac BK9003.o 0; have hfz34_1 := Ac BK9003.o 1) | ((with_reducible refine Aj (f := 31) rfl ?_); refine Bf (some 56) rfl rfl Try.func31 (by kernel_rfl) rfl #[.agg #[.int .i64 t482, .bool t483], .int .i64 t484, .int .i64 t485] rfl (by (try simp only [mT_, mC_, mN_]); rfl) ?_; (with_reducible refine (Cc.calls k t482 t483 t484 t485 t487 true _ A5.o).mono ?_); rintro e w35 ⟨v488, rfl, ho0, hb⟩; refine ⟨_, rfl, ?_⟩; have HO489 := Aa.k (Kd.Ct ho0 (Af (by repeat ((with_reducible first | exact HB.o | refine Bz ?_ GE9003.o))))); replace BK9003 := Aa.k (Ae (g := gb9003) (o := .cells #[.int .i64 t482, .bool t483] 25 (0, 0)) (by refine Cr (cs := #[.int .i64 t482, .bool false]) ?_ 1 _ rfl; refine Cr (cs := #[.int .i64 0, .bool false]) ?_ 0 _ rfl; exact BK9003.o) hb); replace HB := Aa.k (Ad (by repeat ((with_reducible first | exact HB.o | refine Bz ?_ GE9003.o))) hb); (try clear hb); (try clear hb2); (try clear hk); (try clear hi); (try clear ho0); have hcz36_0 := Bj BK9003.o; have hcz36_1 := Bn BK9003.o; have hfz36_0 := Ac BK9003.o 0; have hfz36_1 := Ac BK9003.o 1) | ((with_reducible refine Aj (f := 32) rfl ?_); refine Bf (some 63) rfl rfl Try.func32 (by kernel_rfl) rfl #[.agg #[.int .i64 t482, .bool t483], .int .i64 t484, .int .i64 t485] rfl (by (try simp only [mT_, mC_, mN_]); rfl) ?_; (with_reducible refine (Ci.calls k t482 t483 t484 t485 t491 t494 _ A6.o).mono ?_); rintro e w37 ⟨v492, rfl, ho0, hb⟩; refine ⟨_, rfl, ?_⟩; have HO493 := Aa.k (Kd.Ct (Kd.Dz ho0 (Kd.R_lt (by exact HO489.o))) (Af HB.o)); replace HO489 := Aa.k (Kd.Cw (by exact HO489.o) (Kd.Cy ho0) hb); replace BK9003 := Aa.k (Ae (g := gb9003) (o := .cells #[.int .i64 t482, .bool t483] 25 (0, 0)) (by exact BK9003.o) hb); replace HB := Aa.k (Ad HB.o hb); (try clear hb); (try clear hb2); (try clear hk); (try clear hi); (try clear ho0); have hcz38_0 := Bj BK9003.o; have hcz38_1 := Bn BK9003.o; have hfz38_0 := Ac BK9003.o 0; have hfz38_1 := Ac BK9003.o 1) | ((with_reducible refine Aj (f := 29) rfl ?_); refine Bf (some 69) rfl rfl Try.func29 (by kernel_rfl) rfl #[.agg #[.int .i64 t482, .bool t483], .int .i64 t484] rfl (by (try simp only [mT_, mC_, mN_]); rfl) ?_; (with_reducible refine (impl_AllSearches.calls k t482 t483 t484 t495 true _ A7.o).mono ?_); rintro e w39 ⟨v496, rfl, ho0, hb⟩; refine ⟨_, rfl, ?_⟩; have HO497 := Aa.k (Kd.S_lower (Kd.S_new' (Kd.S_new' ho0 (Kd.R_lt (by exact HO489.o))) (Kd.R_lt (by exact HO493.o))) (Af HB.o)); replace HO489 := Aa.k (Kd.Ba (by exact HO489.o) hb); replace HO493 := Aa.k (Kd.Ba (by exact HO493.o) hb); replace BK9003 := Aa.k (Ae (g := gb9003) (o := .cells #[.int .i64 t482, .bool t483] 25 (0, 0)) (by exact BK9003.o) hb); replace HB := Aa.k (Ad HB.o hb); (try clear hb); (try clear hb2); (try clear hk); (try clear hi); (try clear ho0); have hcz40_0 := Bj BK9003.o; have hcz40_1 := Bn BK9003.o; have hfz40_0 := Ac BK9003.o 0; have hfz40_1 := Ac BK9003.o 1) | ((with_reducible refine Aj (f := 33) rfl ?_); refine Bf (some 75) rfl rfl Try.func33 (by kernel_rfl) rfl #[.agg #[.int .i64 t482, .bool t483], .int .i64 t484] rfl (by (try simp only [mT_, mC_, mN_]); rfl) ?_; (with_reducible refine (spec_AllSearches.calls t482 t483 t484 t499 t502 _ A8.o).mono ?_); rintro e w41 ⟨v500, rfl, ho0, hb⟩; refine ⟨_, rfl, ?_⟩; have HO501 := Aa.k (Kd.S_lower (Kd.S_new' (Kd.S_new' (Kd.S_new' ho0 (Kd.R_lt (by exact HO489.o))) (Kd.R_lt (by exact HO493.o))) (Kd.S_lt (by exact HO497.o))) (Af HB.o)); replace HO489 := Aa.k (Kd.Ba (by exact HO489.o) hb); replace HO493 := Aa.k (Kd.Ba (by exact HO493.o) hb); replace HO497 := Aa.k (Kd.Fv (by exact HO497.o) (Kd.S_base ho0) hb); replace BK9003 := Aa.k (Ae (g := gb9003) (o := .cells #[.int .i64 t482, .bool t483] 25 (0, 0)) (by exact BK9003.o) hb); replace HB := Aa.k (Ad HB.o hb); (try clear hb); (try clear hb2); (try clear hk); (try clear hi); (try clear ho0)) | ((with_reducible refine Aj (f := 26) rfl ?_); refine Bf (some 80) rfl rfl Try.func26 (by kernel_rfl) rfl #[.slice A0 l0.length c0, .int .i64 1] rfl (by (try simp only [mT_, mC_, mN_]); rfl) ?_; (with_reducible refine (laws_vCut.calls _ _ l0 1 t503 _ ?side1 ?side2 A9.o).mono ?_); (case side1 => repeat (exact (Kd.Dx HR0.o HB.o))); (case side2 => exact HC0.o); rintro e w42 ⟨v504, rfl, ho0, hb⟩; refine ⟨_, rfl, ?_⟩; replace HO489 := Aa.k (Kd.Ba (by exact HO489.o) hb); replace HO493 := Aa.k (Kd.Ba (by exact HO493.o) hb); replace HO497 := Aa.k (Kd.Du (by exact HO497.o) hb); replace HO501 := Aa.k (Kd.Du (by exact HO501.o) hb); have HO505 := Aa.k (Kd.Ct ho0 (Af HB.o)); replace BK9003 := Aa.k (Ae (g := gb9003) (o := .cells #[.int .i64 t482, .bool t483] 25 (0, 0)) (by exact BK9003.o) hb); replace HB := Aa.k (Ad HB.o hb); (try clear hb); (try clear hb2); (try clear hk); (try clear hi); (try clear ho0); obtain ⟨Ao43, co43, eo43⟩ := Kd.Cx HO505.o; subst eo43) | ((with_reducible refine Aj (f := 34) rfl ?_); refine Bf (some 81) rfl rfl Try.func34 (by kernel_rfl) rfl #[.slice Ao43 t503.length co43] rfl (by (try simp only [mT_, mC_, mN_]); rfl) ?_; (with_reducible refine (Df.calls _ _ t503 t506 t507 t508 _ ?side1 ?side2 A10.o).mono ?_); (case side1 => repeat (exact (Kd.Bb HO505.o).2.2)); (case side2 => exact (Kd.Bb HO505.o).2.1); rintro e w44 ⟨rfl, hb⟩; refine ⟨_, rfl, ?_⟩; replace HO489 := Aa.k (Kd.Ba (by exact HO489.o) hb); replace HO493 := Aa.k (Kd.Ba (by exact HO493.o) hb); replace HO497 := Aa.k (Kd.Du (by exact HO497.o) hb); replace HO501 := Aa.k (Kd.Du (by exact HO501.o) hb); replace HO505 := Aa.k (Kd.Ba (by exact HO505.o) hb); replace BK9003 := Aa.k (Ae (g := gb9003) (o := .cells #[.int .i64 t482, .bool t483] 25 (0, 0)) (by exact BK9003.o) hb); replace HB := Aa.k (Ad HB.o hb); (try clear hb); (try clear hb2); (try clear hk); (try clear hi)) | ((with_reducible refine Be (N := 14) rfl ?_); refine Bo ?hg (N := 14) ?hd (cs := #[.int .i64 0, .bool false]) (t := 25) ?hr ?_; (case hd => rfl); (case hg => rfl); (case hr => (go_simp; done)); intro gb9014 hg w45 hbox hb; replace HO489 := Aa.k (Kd.Ba (by exact HO489.o) hb); replace HO493 := Aa.k (Kd.Ba (by exact HO493.o) hb); replace HO497 := Aa.k (Kd.Du (by exact HO497.o) hb); replace HO501 := Aa.k (Kd.Du (by exact HO501.o) hb); replace HO505 := Aa.k (Kd.Ba (by exact HO505.o) hb); have BK9014 := Aa.k (hbox); have GW9014 := Aa.k ((by rw [hg]; exact (Af HB.o) : w.heap.size ≤ gb9014)); have GE9014 := Aa.k ((by rw [hg]; exact (Af HB.o) : w.heap.size ≤ gb9014)); replace HB := Aa.k (Ad HB.o hb); have NB9003_9014 := Aa.k ((by rw [hg]; exact Nat.ne_of_lt (Ca (g := gb9003) (o := .cells #[.int .i64 t482, .bool t483] 25 (0, 0)) (by exact BK9003.o)) : gb9003 ≠ gb9014)); have NB9014_9003 := Aa.k ((by rw [hg]; exact Nat.ne_of_gt (Ca (g := gb9003) (o := .cells #[.int .i64 t482, .bool t483] 25 (0, 0)) (by exact BK9003.o)) : gb9014 ≠ gb9003)); replace BK9003 := Aa.k (Ae (g := gb9003) (o := .cells #[.int .i64 t482, .bool t483] 25 (0, 0)) (by exact BK9003.o) hb); clear hb hbox hg; have hnb46 := NB9014_9003.o; have hnc46 := NB9003_9014.o; have hcz47_0 := Bj BK9014.o; have hcz47_1 := Bn BK9014.o; have hfz47_0 := Ac BK9014.o 0; have hfz47_1 := Ac BK9014.o 1) | ((with_reducible refine Aj (f := 35) rfl ?_); refine Bf (some 87) rfl rfl Try.func35 (by kernel_rfl) rfl #[.agg #[.int .i64 t506, .bool t507], .int .i64 t508] rfl (by (try simp only [mT_, mC_, mN_]); rfl) ?_; (with_reducible refine (Bq.calls k t506 t507 t508 t510 t513 _ A11.o).mono ?_); rintro e w48 ⟨v511, rfl, ho0, hb⟩; refine ⟨_, rfl, ?_⟩; replace HO497 := Aa.k (Kd.Fv (by exact (Kd.S_mono (Kd.S_far (p := ⟨gb9014, 1, none⟩) (Kd.S_far (p := ⟨gb9014, 0, none⟩) (Kd.S_types HO497.o BK9014.o (by decide)) (fun _ hk => hk.2) (.int .i64 t506)) (fun _ hk => hk.2) (.bool t507)) (fun _ h_ => h_.1))) (Kd.Cy ho0) hb); replace HO501 := Aa.k (Kd.Fv (by exact (Kd.S_mono (Kd.S_far (p := ⟨gb9014, 1, none⟩) (Kd.S_far (p := ⟨gb9014, 0, none⟩) (Kd.S_types HO501.o BK9014.o (by decide)) (fun _ hk => hk.2) (.int .i64 t506)) (fun _ hk => hk.2) (.bool t507)) (fun _ h_ => h_.1))) (Kd.Cy ho0) hb); replace HO505 := Aa.k (Kd.Ba (by exact (Kd.Bv (Kd.Dc (p := ⟨gb9014, 1, none⟩) (Kd.Dc (p := ⟨gb9014, 0, none⟩) (Kd.Dh HO505.o BK9014.o (by decide)) (fun _ hk => hk.2) (.int .i64 t506)) (fun _ hk => hk.2) (.bool t507)) (fun _ h_ => h_.1))) hb); have HO512 := Aa.k (Kd.Ct (Kd.Dz (Kd.Dz ho0 (Kd.R_lt (by exact (Kd.Bv (Kd.Dc (p := ⟨gb9014, 1, none⟩) (Kd.Dc (p := ⟨gb9014, 0, none⟩) (Kd.Dh HO489.o BK9014.o (by decide)) (fun _ hk => hk.2) (.int .i64 t506)) (fun _ hk => hk.2) (.bool t507)) (fun _ h_ => h_.1))))) (Kd.R_lt (by exact (Kd.Bv (Kd.Dc (p := ⟨gb9014, 1, none⟩) (Kd.Dc (p := ⟨gb9014, 0, none⟩) (Kd.Dh HO493.o BK9014.o (by decide)) (fun _ hk => hk.2) (.int .i64 t506)) (fun _ hk => hk.2) (.bool t507)) (fun _ h_ => h_.1))))) (Af (by repeat ((with_reducible first | exact HB.o | refine Bz ?_ GE9014.o))))); replace HO489 := Aa.k (Kd.Cw (by exact (Kd.Bv (Kd.Dc (p := ⟨gb9014, 1, none⟩) (Kd.Dc (p := ⟨gb9014, 0, none⟩) (Kd.Dh HO489.o BK9014.o (by decide)) (fun _ hk => hk.2) (.int .i64 t506)) (fun _ hk => hk.2) (.bool t507)) (fun _ h_ => h_.1))) (Kd.Cy ho0) hb); replace HO493 := Aa.k (Kd.Cw (by exact (Kd.Bv (Kd.Dc (p := ⟨gb9014, 1, none⟩) (Kd.Dc (p := ⟨gb9014, 0, none⟩) (Kd.Dh HO493.o BK9014.o (by decide)) (fun _ hk => hk.2) (.int .i64 t506)) (fun _ hk => hk.2) (.bool t507)) (fun _ h_ => h_.1))) (Kd.Cy ho0) hb); replace BK9003 := Aa.k (Ae (g := gb9003) (o := .cells #[.int .i64 t482, .bool t483] 25 (0, 0)) (by refine Cb ?_ NB9003_9014.o _; refine Cb ?_ NB9003_9014.o _; exact BK9003.o) hb); replace BK9014 := Aa.k (Ae (g := gb9014) (o := .cells #[.int .i64 t506, .bool t507] 25 (0, 0)) (by refine Cr (cs := #[.int .i64 t506, .bool false]) ?_ 1 _ rfl; refine Cr (cs := #[.int .i64 0, .bool false]) ?_ 0 _ rfl; exact BK9014.o) hb); replace HB := Aa.k (Ad (by repeat ((with_reducible first | exact HB.o | refine Bz ?_ GE9014.o))) hb); (try clear hb); (try clear hb2); (try clear hk); (try clear hi); (try clear ho0); have hcz49_0 := Bj BK9014.o; have hcz49_1 := Bn BK9014.o; have hfz49_0 := Ac BK9014.o 0; have hfz49_1 := Ac BK9014.o 1) | ((with_reducible refine Aj (f := 36) rfl ?_); refine Bf (some 93) rfl rfl Try.func36 (by kernel_rfl) rfl #[.agg #[.int .i64 t506, .bool t507], .int .i64 t508] rfl (by (try simp only [mT_, mC_, mN_]); rfl) ?_; (with_reducible refine (Au.calls k t506 t507 t508 t514 t517 _ A12.o).mono ?_); rintro e w50 ⟨v515, rfl, ho0, hb⟩; refine ⟨_, rfl, ?_⟩; replace HO497 := Aa.k (Kd.Fv (by exact HO497.o) (Kd.Cy ho0) hb); replace HO501 := Aa.k (Kd.Fv (by exact HO501.o) (Kd.Cy ho0) hb); replace HO505 := Aa.k (Kd.Ba (by exact HO505.o) hb); have HO516 := Aa.k (Kd.Ct (Kd.Dz (Kd.Dz (Kd.Dz ho0 (Kd.R_lt (by exact HO489.o))) (Kd.R_lt (by exact HO493.o))) (Kd.R_lt (by exact HO512.o))) (Af HB.o)); replace HO489 := Aa.k (Kd.Cw (by exact HO489.o) (Kd.Cy ho0) hb); replace HO493 := Aa.k (Kd.Cw (by exact HO493.o) (Kd.Cy ho0) hb); replace HO512 := Aa.k (Kd.Cw (by exact HO512.o) (Kd.Cy ho0) hb); replace BK9003 := Aa.k (Ae (g := gb9003) (o := .cells #[.int .i64 t482, .bool t483] 25 (0, 0)) (by exact BK9003.o) hb); replace BK9014 := Aa.k (Ae (g := gb9014) (o := .cells #[.int .i64 t506, .bool t507] 25 (0, 0)) (by exact BK9014.o) hb); replace HB := Aa.k (Ad HB.o hb); (try clear hb); (try clear hb2); (try clear hk); (try clear hi); (try clear ho0)) | ((with_reducible refine Aj (f := 26) rfl ?_); refine Bf (some 98) rfl rfl Try.func26 (by kernel_rfl) rfl #[.slice A0 l0.length c0, .int .i64 2] rfl (by (try simp only [mT_, mC_, mN_]); rfl) ?_; (with_reducible refine (laws_vCut.calls _ _ l0 2 t518 _ ?side1 ?side2 A13.o).mono ?_); (case side1 => repeat (exact (Kd.Dx HR0.o HB.o))); (case side2 => exact HC0.o); rintro e w51 ⟨v519, rfl, ho0, hb⟩; refine ⟨_, rfl, ?_⟩; replace HO489 := Aa.k (Kd.Ba (by exact HO489.o) hb); replace HO493 := Aa.k (Kd.Ba (by exact HO493.o) hb); replace HO497 := Aa.k (Kd.Du (by exact HO497.o) hb); replace HO501 := Aa.k (Kd.Du (by exact HO501.o) hb); replace HO512 := Aa.k (Kd.Ba (by exact HO512.o) hb); replace HO516 := Aa.k (Kd.Ba (by exact HO516.o) hb); have HO520 := Aa.k (Kd.Ct (Kd.Dz ho0 (Kd.R_lt (by exact HO505.o))) (Af HB.o)); replace HO505 := Aa.k (Kd.Cw (by exact HO505.o) (Kd.Cy ho0) hb); replace BK9003 := Aa.k (Ae (g := gb9003) (o := .cells #[.int .i64 t482, .bool t483] 25 (0, 0)) (by exact BK9003.o) hb); replace BK9014 := Aa.k (Ae (g := gb9014) (o := .cells #[.int .i64 t506, .bool t507] 25 (0, 0)) (by exact BK9014.o) hb); replace HB := Aa.k (Ad HB.o hb); (try clear hb); (try clear hb2); (try clear hk); (try clear hi); (try clear ho0); obtain ⟨Ao52, co52, eo52⟩ := Kd.Cx HO520.o; subst eo52) | ((with_reducible refine Aj (f := 37) rfl ?_); refine Bf (some 99) rfl rfl Try.func37 (by kernel_rfl) rfl #[.slice Ao52 t518.length co52] rfl (by (try simp only [mT_, mC_, mN_]); rfl) ?_; (with_reducible refine (Ff.calls k _ _ t518 t521 t522 t523 _ ?side1 ?side2 A14.o).mono ?_); (case side1 => repeat (exact (Kd.Bb HO520.o).2.2)); (case side2 => exact (Kd.Bb HO520.o).2.1); rintro e w53 ⟨v524, rfl, ho0, hb⟩; refine ⟨_, rfl, ?_⟩; replace HO497 := Aa.k (Kd.Fv (by exact HO497.o) (Kd.Cy ho0) hb); replace HO501 := Aa.k (Kd.Fv (by exact HO501.o) (Kd.Cy ho0) hb); replace HO505 := Aa.k (Kd.Ba (by exact HO505.o) hb); replace HO520 := Aa.k (Kd.Ba (by exact HO520.o) hb); have HO525 := Aa.k (Kd.Ct (Kd.Dz (Kd.Dz (Kd.Dz (Kd.Dz ho0 (Kd.R_lt (by exact HO489.o))) (Kd.R_lt (by exact HO493.o))) (Kd.R_lt (by exact HO512.o))) (Kd.R_lt (by exact HO516.o))) (Af HB.o)); replace HO489 := Aa.k (Kd.Cw (by exact HO489.o) (Kd.Cy ho0) hb); replace HO493 := Aa.k (Kd.Cw (by exact HO493.o) (Kd.Cy ho0) hb); replace HO512 := Aa.k (Kd.Cw (by exact HO512.o) (Kd.Cy ho0) hb); replace HO516 := Aa.k (Kd.Cw (by exact HO516.o) (Kd.Cy ho0) hb); replace BK9003 := Aa.k (Ae (g := gb9003) (o := .cells #[.int .i64 t482, .bool t483] 25 (0, 0)) (by exact BK9003.o) hb); replace BK9014 := Aa.k (Ae (g := gb9014) (o := .cells #[.int .i64 t506, .bool t507] 25 (0, 0)) (by exact BK9014.o) hb); replace HB := Aa.k (Ad HB.o hb); (try clear hb); (try clear hb2); (try clear hk); (try clear hi); (try clear ho0)) | ((with_reducible refine Be (N := 20) rfl ?_); refine Bo ?hg (N := 20) ?hd (cs := #[.int .i64 0, .bool false]) (t := 25) ?hr ?_; (case hd => rfl); (case hg => rfl); (case hr => (go_simp; done)); intro gb9020 hg w54 hbox hb; replace HO489 := Aa.k (Kd.Ba (by exact HO489.o) hb); replace HO493 := Aa.k (Kd.Ba (by exact HO493.o) hb); replace HO497 := Aa.k (Kd.Du (by exact HO497.o) hb); replace HO501 := Aa.k (Kd.Du (by exact HO501.o) hb); replace HO505 := Aa.k (Kd.Ba (by exact HO505.o) hb); replace HO512 := Aa.k (Kd.Ba (by exact HO512.o) hb); replace HO516 := Aa.k (Kd.Ba (by exact HO516.o) hb); replace HO520 := Aa.k (Kd.Ba (by exact HO520.o) hb); replace HO525 := Aa.k (Kd.Ba (by exact HO525.o) hb); have BK9020 := Aa.k (hbox); have GW9020 := Aa.k ((by rw [hg]; exact (Af HB.o) : w.heap.size ≤ gb9020)); have GE9020 := Aa.k ((by rw [hg]; exact (Af HB.o) : w.heap.size ≤ gb9020)); replace HB := Aa.k (Ad HB.o hb); have NB9003_9020 := Aa.k ((by rw [hg]; exact Nat.ne_of_lt (Ca (g := gb9003) (o := .cells #[.int .i64 t482, .bool t483] 25 (0, 0)) (by exact BK9003.o)) : gb9003 ≠ gb9020)); have NB9020_9003 := Aa.k ((by rw [hg]; exact Nat.ne_of_gt (Ca (g := gb9003) (o := .cells #[.int .i64 t482, .bool t483] 25 (0, 0)) (by exact BK9003.o)) : gb9020 ≠ gb9003)); replace BK9003 := Aa.k (Ae (g := gb9003) (o := .cells #[.int .i64 t482, .bool t483] 25 (0, 0)) (by exact BK9003.o) hb); have NB9014_9020 := Aa.k ((by rw [hg]; exact Nat.ne_of_lt (Ca (g := gb9014) (o := .cells #[.int .i64 t506, .bool t507] 25 (0, 0)) (by exact BK9014.o)) : gb9014 ≠ gb9020)); have NB9020_9014 := Aa.k ((by rw [hg]; exact Nat.ne_of_gt (Ca (g := gb9014) (o := .cells #[.int .i64 t506, .bool t507] 25 (0, 0)) (by exact BK9014.o)) : gb9020 ≠ gb9014)); replace BK9014 := Aa.k (Ae (g := gb9014) (o := .cells #[.int .i64 t506, .bool t507] 25 (0, 0)) (by exact BK9014.o) hb); clear hb hbox hg; have hnb55 := NB9020_9003.o; have hnc55 := NB9003_9020.o; have hnb56 := NB9020_9014.o; have hnc56 := NB9014_9020.o; have hcz57_0 := Bj BK9020.o; have hcz57_1 := Bn BK9020.o; have hfz57_0 := Ac BK9020.o 0; have hfz57_1 := Ac BK9020.o 1; obtain ⟨Ao58, co58, eo58⟩ := Kd.Cx HO525.o; subst eo58) | ((with_reducible refine Aj (f := 38) rfl ?_); refine Bf (some 105) rfl rfl Try.func38 (by kernel_rfl) rfl #[.agg #[.int .i64 t521, .bool t522], .slice Ao58 t523.length co58] rfl (by (try simp only [mT_, mC_, mN_]); rfl) ?_; (with_reducible refine (Cn.calls k t521 t522 _ _ t523 t527 t530 _ ?side1 ?side2 A15.o).mono ?_); (case side1 => refine (Kd.Bb (e := 3) (base := w.heap.size) (ok := fun k_ => ((((True ∧ some k_ ≠ (v488 : Value).ownBlock) ∧ some k_ ≠ (v492 : Value).ownBlock) ∧ some k_ ≠ (v511 : Value).ownBlock) ∧ some k_ ≠ (v515 : Value).ownBlock)) (n := t523.length) (c := co58) ?_).2.2; exact (by exact (Kd.Bv (Kd.Dc (p := ⟨gb9020, 1, none⟩) (Kd.Dc (p := ⟨gb9020, 0, none⟩) (Kd.Dh HO525.o BK9020.o (by decide)) (fun _ hk => hk.2) (.int .i64 t521)) (fun _ hk => hk.2) (.bool t522)) (fun _ h_ => h_.1)))); (case side2 => exact (Kd.Bb HO525.o).2.1); rintro e w59 ⟨v528, rfl, ho0, hb⟩; refine ⟨_, rfl, ?_⟩; replace HO497 := Aa.k (Kd.Fv (by exact (Kd.S_mono (Kd.S_far (p := ⟨gb9020, 1, none⟩) (Kd.S_far (p := ⟨gb9020, 0, none⟩) (Kd.S_types HO497.o BK9020.o (by decide)) (fun _ hk => hk.2) (.int .i64 t521)) (fun _ hk => hk.2) (.bool t522)) (fun _ h_ => h_.1))) (Kd.Cy ho0) hb); replace HO501 := Aa.k (Kd.Fv (by exact (Kd.S_mono (Kd.S_far (p := ⟨gb9020, 1, none⟩) (Kd.S_far (p := ⟨gb9020, 0, none⟩) (Kd.S_types HO501.o BK9020.o (by decide)) (fun _ hk => hk.2) (.int .i64 t521)) (fun _ hk => hk.2) (.bool t522)) (fun _ h_ => h_.1))) (Kd.Cy ho0) hb); replace HO505 := Aa.k (Kd.Ba (by exact (Kd.Bv (Kd.Dc (p := ⟨gb9020, 1, none⟩) (Kd.Dc (p := ⟨gb9020, 0, none⟩) (Kd.Dh HO505.o BK9020.o (by decide)) (fun _ hk => hk.2) (.int .i64 t521)) (fun _ hk => hk.2) (.bool t522)) (fun _ h_ => h_.1))) hb); replace HO520 := Aa.k (Kd.Ba (by exact (Kd.Bv (Kd.Dc (p := ⟨gb9020, 1, none⟩) (Kd.Dc (p := ⟨gb9020, 0, none⟩) (Kd.Dh HO520.o BK9020.o (by decide)) (fun _ hk => hk.2) (.int .i64 t521)) (fun _ hk => hk.2) (.bool t522)) (fun _ h_ => h_.1))) hb); have HO529 := Aa.k (Kd.Ct (Kd.Dz (Kd.Dz (Kd.Dz (Kd.Dz (Kd.Dz ho0 (Kd.R_lt (by exact (Kd.Bv (Kd.Dc (p := ⟨gb9020, 1, none⟩) (Kd.Dc (p := ⟨gb9020, 0, none⟩) (Kd.Dh HO489.o BK9020.o (by decide)) (fun _ hk => hk.2) (.int .i64 t521)) (fun _ hk => hk.2) (.bool t522)) (fun _ h_ => h_.1))))) (Kd.R_lt (by exact (Kd.Bv (Kd.Dc (p := ⟨gb9020, 1, none⟩) (Kd.Dc (p := ⟨gb9020, 0, none⟩) (Kd.Dh HO493.o BK9020.o (by decide)) (fun _ hk => hk.2) (.int .i64 t521)) (fun _ hk => hk.2) (.bool t522)) (fun _ h_ => h_.1))))) (Kd.R_lt (by exact (Kd.Bv (Kd.Dc (p := ⟨gb9020, 1, none⟩) (Kd.Dc (p := ⟨gb9020, 0, none⟩) (Kd.Dh HO512.o BK9020.o (by decide)) (fun _ hk => hk.2) (.int .i64 t521)) (fun _ hk => hk.2) (.bool t522)) (fun _ h_ => h_.1))))) (Kd.R_lt (by exact (Kd.Bv (Kd.Dc (p := ⟨gb9020, 1, none⟩) (Kd.Dc (p := ⟨gb9020, 0, none⟩) (Kd.Dh HO516.o BK9020.o (by decide)) (fun _ hk => hk.2) (.int .i64 t521)) (fun _ hk => hk.2) (.bool t522)) (fun _ h_ => h_.1))))) (Kd.R_lt (by exact (Kd.Bv (Kd.Dc (p := ⟨gb9020, 1, none⟩) (Kd.Dc (p := ⟨gb9020, 0, none⟩) (Kd.Dh HO525.o BK9020.o (by decide)) (fun _ hk => hk.2) (.int .i64 t521)) (fun _ hk => hk.2) (.bool t522)) (fun _ h_ => h_.1))))) (Af (by repeat ((with_reducible first | exact HB.o | refine Bz ?_ GE9020.o))))); replace HO489 := Aa.k (Kd.Cw (by exact (Kd.Bv (Kd.Dc (p := ⟨gb9020, 1, none⟩) (Kd.Dc (p := ⟨gb9020, 0, none⟩) (Kd.Dh HO489.o BK9020.o (by decide)) (fun _ hk => hk.2) (.int .i64 t521)) (fun _ hk => hk.2) (.bool t522)) (fun _ h_ => h_.1))) (Kd.Cy ho0) hb); replace HO493 := Aa.k (Kd.Cw (by exact (Kd.Bv (Kd.Dc (p := ⟨gb9020, 1, none⟩) (Kd.Dc (p := ⟨gb9020, 0, none⟩) (Kd.Dh HO493.o BK9020.o (by decide)) (fun _ hk => hk.2) (.int .i64 t521)) (fun _ hk => hk.2) (.bool t522)) (fun _ h_ => h_.1))) (Kd.Cy ho0) hb); replace HO512 := Aa.k (Kd.Cw (by exact (Kd.Bv (Kd.Dc (p := ⟨gb9020, 1, none⟩) (Kd.Dc (p := ⟨gb9020, 0, none⟩) (Kd.Dh HO512.o BK9020.o (by decide)) (fun _ hk => hk.2) (.int .i64 t521)) (fun _ hk => hk.2) (.bool t522)) (fun _ h_ => h_.1))) (Kd.Cy ho0) hb); replace HO516 := Aa.k (Kd.Cw (by exact (Kd.Bv (Kd.Dc (p := ⟨gb9020, 1, none⟩) (Kd.Dc (p := ⟨gb9020, 0, none⟩) (Kd.Dh HO516.o BK9020.o (by decide)) (fun _ hk => hk.2) (.int .i64 t521)) (fun _ hk => hk.2) (.bool t522)) (fun _ h_ => h_.1))) (Kd.Cy ho0) hb); replace HO525 := Aa.k (Kd.Cw (by exact (Kd.Bv (Kd.Dc (p := ⟨gb9020, 1, none⟩) (Kd.Dc (p := ⟨gb9020, 0, none⟩) (Kd.Dh HO525.o BK9020.o (by decide)) (fun _ hk => hk.2) (.int .i64 t521)) (fun _ hk => hk.2) (.bool t522)) (fun _ h_ => h_.1))) (Kd.Cy ho0) hb); replace BK9003 := Aa.k (Ae (g := gb9003) (o := .cells #[.int .i64 t482, .bool t483] 25 (0, 0)) (by refine Cb ?_ NB9003_9020.o _; refine Cb ?_ NB9003_9020.o _; exact BK9003.o) hb); replace BK9014 := Aa.k (Ae (g := gb9014) (o := .cells #[.int .i64 t506, .bool t507] 25 (0, 0)) (by refine Cb ?_ NB9014_9020.o _; refine Cb ?_ NB9014_9020.o _; exact BK9014.o) hb); replace BK9020 := Aa.k (Ae (g := gb9020) (o := .cells #[.int .i64 t521, .bool t522] 25 (0, 0)) (by refine Cr (cs := #[.int .i64 t521, .bool false]) ?_ 1 _ rfl; refine Cr (cs := #[.int .i64 0, .bool false]) ?_ 0 _ rfl; exact BK9020.o) hb); replace HB := Aa.k (Ad (by repeat ((with_reducible first | exact HB.o | refine Bz ?_ GE9020.o))) hb); (try clear hb); (try clear hb2); (try clear hk); (try clear hi); (try clear ho0); have hcz60_0 := Bj BK9020.o; have hcz60_1 := Bn BK9020.o; have hfz60_0 := Ac BK9020.o 0; have hfz60_1 := Ac BK9020.o 1) | ((with_reducible refine Aj (f := 39) rfl ?_); refine Bf (some 111) rfl rfl Try.func39 (by kernel_rfl) rfl #[.agg #[.int .i64 t521, .bool t522], .slice Ao58 t523.length co58] rfl (by (try simp only [mT_, mC_, mN_]); rfl) ?_; (with_reducible refine (Az.calls k t521 t522 _ _ t523 t531 t534 _ ?side1 ?side2 A16.o).mono ?_); (case side1 => repeat (exact (Kd.Bb HO525.o).2.2)); (case side2 => exact (Kd.Bb HO525.o).2.1); rintro e w61 ⟨v532, rfl, ho0, hb⟩; refine ⟨_, rfl, ?_⟩; replace HO497 := Aa.k (Kd.Fv (by exact HO497.o) (Kd.Cy ho0) hb); replace HO501 := Aa.k (Kd.Fv (by exact HO501.o) (Kd.Cy ho0) hb); replace HO505 := Aa.k (Kd.Ba (by exact HO505.o) hb); replace HO520 := Aa.k (Kd.Ba (by exact HO520.o) hb); have HO533 := Aa.k (Kd.Ct (Kd.Dz (Kd.Dz (Kd.Dz (Kd.Dz (Kd.Dz (Kd.Dz ho0 (Kd.R_lt (by exact HO489.o))) (Kd.R_lt (by exact HO493.o))) (Kd.R_lt (by exact HO512.o))) (Kd.R_lt (by exact HO516.o))) (Kd.R_lt (by exact HO525.o))) (Kd.R_lt (by exact HO529.o))) (Af HB.o)); replace HO489 := Aa.k (Kd.Cw (by exact HO489.o) (Kd.Cy ho0) hb); replace HO493 := Aa.k (Kd.Cw (by exact HO493.o) (Kd.Cy ho0) hb); replace HO512 := Aa.k (Kd.Cw (by exact HO512.o) (Kd.Cy ho0) hb); replace HO516 := Aa.k (Kd.Cw (by exact HO516.o) (Kd.Cy ho0) hb); replace HO525 := Aa.k (Kd.Cw (by exact HO525.o) (Kd.Cy ho0) hb); replace HO529 := Aa.k (Kd.Cw (by exact HO529.o) (Kd.Cy ho0) hb); replace BK9003 := Aa.k (Ae (g := gb9003) (o := .cells #[.int .i64 t482, .bool t483] 25 (0, 0)) (by exact BK9003.o) hb); replace BK9014 := Aa.k (Ae (g := gb9014) (o := .cells #[.int .i64 t506, .bool t507] 25 (0, 0)) (by exact BK9014.o) hb); replace BK9020 := Aa.k (Ae (g := gb9020) (o := .cells #[.int .i64 t521, .bool t522] 25 (0, 0)) (by exact BK9020.o) hb); replace HB := Aa.k (Ad HB.o hb); (try clear hb); (try clear hb2); (try clear hk); (try clear hi); (try clear ho0); obtain ⟨Ao62, co62, eo62⟩ := Kd.Cx HO489.o; subst eo62; obtain ⟨Ao63, co63, eo63⟩ := Kd.Cx HO493.o; subst eo63) | (go_at_call 40; (with_reducible refine (Cg.calls k _ _ t487 _ _ t491 true _ ?side1 ?side2 ?side3 ?side4 A18.o).mono ?_); (case side1 => repeat (exact (Kd.Bb HO489.o).2.2)); (case side2 => exact (Kd.Bb HO489.o).2.1); (case side3 => repeat (exact (Kd.Bb HO493.o).2.2)); (case side4 => exact (Kd.Bb HO493.o).2.1); rintro e w' ⟨rfl, ⟨nd, rfl⟩⟩; obtain ⟨Ao64, co64, eo64⟩ := Kd.S_slice HO497.o; subst eo64; obtain ⟨Ao65, co65, eo65⟩ := Kd.S_slice HO501.o; subst eo65) | (go_at_call 41; (with_reducible refine (Em.calls k _ _ t495 _ _ t499 true _ ?side1 ?side2 ?side3 ?side4 A21.o).mono ?_); (case side1 => repeat (exact (Kd.S_reads' HO497.o).2.2)); (case side2 => exact (Kd.S_reads' HO497.o).2.1); (case side3 => repeat (exact (Kd.S_reads' HO501.o).2.2)); (case side4 => exact (Kd.S_reads' HO501.o).2.1); rintro e w' ⟨rfl, ⟨nd, rfl⟩⟩; obtain ⟨Ao66, co66, eo66⟩ := Kd.Cx HO512.o; subst eo66; obtain ⟨Ao67, co67, eo67⟩ := Kd.Cx HO516.o; subst eo67) | (go_at_call 40; (with_reducible refine (Cg.calls k _ _ t510 _ _ t514 true _ ?side1 ?side2 ?side3 ?side4 A24.o).mono ?_); (case side1 => repeat (exact (Kd.Bb HO512.o).2.2)); (case side2 => exact (Kd.Bb HO512.o).2.1); (case side3 => repeat (exact (Kd.Bb HO516.o).2.2)); (case side4 => exact (Kd.Bb HO516.o).2.1); rintro e w' ⟨rfl, ⟨nd, rfl⟩⟩; obtain ⟨Ao68, co68, eo68⟩ := Kd.Cx HO529.o; subst eo68; obtain ⟨Ao69, co69, eo69⟩ := Kd.Cx HO533.o; subst eo69) | (go_at_call 40; (with_reducible refine (Cg.calls k _ _ t527 _ _ t531 true _ ?side1 ?side2 ?side3 ?side4 A27.o).mono ?_); (case side1 => repeat (exact (Kd.Bb HO529.o).2.2)); (case side2 => exact (Kd.Bb HO529.o).2.1); (case side3 => repeat (exact (Kd.Bb HO533.o).2.2)); (case side4 => exact (Kd.Bb HO533.o).2.1); rintro e w' ⟨rfl, ⟨nd, rfl⟩⟩))
 (try simp only [Act.put, sT_, sZ_, sS_])
 go_cut [] (fun wc => ∃ (kq : Nat), Aa (Ao.j0 kq t484 t485 t487 true t495 t523 t527 t530 t482 t483 t521 t522 = some r) ∧ Aa (kq ≤ k) ∧ Aa (Kd.R (Kd.int .i64) 3 wc w.heap.size (fun k_ => some k_ ≠ ((.slice Ao58 t523.length co58) : Value).ownBlock ∧ some k_ ≠ ((.slice Ao68 t527.length co68) : Value).ownBlock) (.slice Ao62 t487.length co62) t487) ∧ Aa (Kd.S (Kd.slice 3 (Kd.int .i64)) 30 wc w.heap.size (fun k_ => some k_ ≠ ((.slice Ao62 t487.length co62) : Value).ownBlock ∧ some k_ ≠ ((.slice Ao58 t523.length co58) : Value).ownBlock ∧ some k_ ≠ ((.slice Ao68 t527.length co68) : Value).ownBlock) (.slice Ao64 t495.length co64) t495) ∧ Aa (Kd.R (Kd.int .i64) 3 wc w.heap.size (fun k_ => some k_ ≠ ((.slice Ao62 t487.length co62) : Value).ownBlock ∧ some k_ ≠ ((.slice Ao68 t527.length co68) : Value).ownBlock) (.slice Ao58 t523.length co58) t523) ∧ Aa (Kd.R (Kd.int .i64) 3 wc w.heap.size (fun k_ => some k_ ≠ ((.slice Ao62 t487.length co62) : Value).ownBlock ∧ some k_ ≠ ((.slice Ao58 t523.length co58) : Value).ownBlock) (.slice Ao68 t527.length co68) t527) ∧ Aa (wc.heap[gb9003]? = some (.cells #[.int .i64 t482, .bool t483] 25 (0, 0))) ∧ Aa (wc.heap[gb9014]? = some (.cells #[.int .i64 t506, .bool t507] 25 (0, 0))) ∧ Aa (wc.heap[gb9020]? = some (.cells #[.int .i64 t521, .bool t522] 25 (0, 0))) ∧ Aa (Below w.heap.size w wc))
 case first => as_aux_lemma =>
  have H := HC31.o
  clear HC31
  by_cases c70 : t513 = true
  rotate_left
  ·replace c70 := Bool.eq_false_iff.mpr c70
   subst c70
   rw [if_neg (show ¬ (false = true) by decide)] at H
   have H' := Aa.k H
   clear H
   go_wp2
   go_meet
   case rel => exact ⟨_, H', ⟨by (omega)⟩, ⟨by (with_reducible repeat ((apply Kd.Ee))); exact Kd.Bv HO489.o (fun _ hk => ⟨hk.1.1.2, hk.1.2⟩)⟩, ⟨by (with_reducible repeat ((apply Kd.S_drewN))); exact Kd.S_mono HO497.o (fun _ hk => ⟨hk.1.1.1.1.1.1.1.2, ⟨hk.1.1.2, hk.1.2⟩⟩)⟩, ⟨by (with_reducible repeat ((apply Kd.Ee))); exact Kd.Bv HO525.o (fun _ hk => ⟨hk.1.1.1.1.1.2, hk.1.2⟩)⟩, ⟨by (with_reducible repeat ((apply Kd.Ee))); exact Kd.Bv HO529.o (fun _ hk => ⟨hk.1.1.1.1.1.2, hk.1.2⟩)⟩, ⟨by (with_reducible repeat ((refine Dk ?_ _))); exact BK9003.o⟩, ⟨by (with_reducible repeat ((refine Dk ?_ _))); exact BK9014.o⟩, ⟨by (with_reducible repeat ((refine Dk ?_ _))); exact BK9020.o⟩, ⟨by repeat ((with_reducible first | exact HB.o | apply Bh))⟩⟩
  subst c70
  rw [if_pos rfl] at H
  obtain ⟨⟨t539, t540⟩, A710, H⟩ := bindS_ H
  try dsimp only at H
  have A71 := Aa.k A710
  clear A710
  obtain ⟨⟨t541, t542, t543⟩, A720, H⟩ := bindS_ H
  try dsimp only at H
  have A72 := Aa.k A720
  clear A720
  by_cases c73 : t540 = true
  rotate_left
  ·replace c73 := Bool.eq_false_iff.mpr c73
   subst c73
   rw [if_neg (show ¬ (false = true) by decide)] at H
   exact absurd H (by simp)
  subst c73
  rw [if_pos rfl] at H
  by_cases c74 : t543 = true
  rotate_left
  ·replace c74 := Bool.eq_false_iff.mpr c74
   subst c74
   rw [if_neg (show ¬ (false = true) by decide)] at H
   exact absurd H (by simp)
  subst c74
  rw [if_pos rfl] at H
  by_cases c75 : t539 = true
  rotate_left
  ·replace c75 := Bool.eq_false_iff.mpr c75
   subst c75
   rw [if_neg (show ¬ (false = true) by decide)] at H
   exact absurd H (by simp)
  subst c75
  rw [if_pos rfl] at H
  by_cases c76 : t541 > (wrap64 (9 * t542))
  ·rw [if_pos c76] at H
   exact absurd H (by simp)
  rw [if_neg c76] at H
  have c76b0 : decide ((wrap64 (9 * t542)) < t541) = false := decide_eq_false c76
  clear c76
  ((skip))
  have H' := Aa.k H
  clear H
  have hnb77 := NB9014_9003.o
  have hnc77 := NB9003_9014.o
  have hnb78 := NB9014_9020.o
  have hnc78 := NB9020_9014.o
  have hcz79_0 := Bj BK9014.o
  have hcz79_1 := Bn BK9014.o
  have hfz79_0 := Ac BK9014.o 0
  have hfz79_1 := Ac BK9014.o 1
  go_wp2_with (first | ((with_reducible refine Aj (f := 42) rfl ?_); refine Bf (some 168) rfl rfl Try.func42 (by kernel_rfl) rfl #[.agg #[.int .i64 t506, .bool t507], .int .i64 t508, .slice Ao66 t510.length co66] rfl (by (try simp only [mT_, mC_, mN_]); rfl) ?_; (with_reducible refine (Fw.calls k t506 t507 t508 _ _ t510 true true _ ?side1 ?side2 A71.o).mono ?_); (case side1 => repeat (exact (Kd.Bb HO512.o).2.2)); (case side2 => exact (Kd.Bb HO512.o).2.1); rintro e w80 ⟨rfl, hb⟩; refine ⟨_, rfl, ?_⟩; replace HO489 := Aa.k (Kd.Ba (by (with_reducible repeat ((apply Kd.Ee))); exact HO489.o) hb); replace HO493 := Aa.k (Kd.Ba (by (with_reducible repeat ((apply Kd.Ee))); exact HO493.o) hb); replace HO497 := Aa.k (Kd.Du (by (with_reducible repeat ((apply Kd.S_drewN))); exact HO497.o) hb); replace HO501 := Aa.k (Kd.Du (by (with_reducible repeat ((apply Kd.S_drewN))); exact HO501.o) hb); replace HO505 := Aa.k (Kd.Ba (by (with_reducible repeat ((apply Kd.Ee))); exact HO505.o) hb); replace HO512 := Aa.k (Kd.Ba (by (with_reducible repeat ((apply Kd.Ee))); exact HO512.o) hb); replace HO516 := Aa.k (Kd.Ba (by (with_reducible repeat ((apply Kd.Ee))); exact HO516.o) hb); replace HO520 := Aa.k (Kd.Ba (by (with_reducible repeat ((apply Kd.Ee))); exact HO520.o) hb); replace HO525 := Aa.k (Kd.Ba (by (with_reducible repeat ((apply Kd.Ee))); exact HO525.o) hb); replace HO529 := Aa.k (Kd.Ba (by (with_reducible repeat ((apply Kd.Ee))); exact HO529.o) hb); replace HO533 := Aa.k (Kd.Ba (by (with_reducible repeat ((apply Kd.Ee))); exact HO533.o) hb); replace BK9003 := Aa.k (Ae (g := gb9003) (o := .cells #[.int .i64 t482, .bool t483] 25 (0, 0)) (by (with_reducible repeat ((refine Dk ?_ _))); exact BK9003.o) hb); replace BK9014 := Aa.k (Ae (g := gb9014) (o := .cells #[.int .i64 t506, .bool t507] 25 (0, 0)) (by (with_reducible repeat ((refine Dk ?_ _))); exact BK9014.o) hb); replace BK9020 := Aa.k (Ae (g := gb9020) (o := .cells #[.int .i64 t521, .bool t522] 25 (0, 0)) (by (with_reducible repeat ((refine Dk ?_ _))); exact BK9020.o) hb); replace HB := Aa.k (Ad (by repeat ((with_reducible first | exact HB.o | apply Bh))) hb); (try clear hb); (try clear hb2); (try clear hk); (try clear hi); have hcz81_0 := Bj BK9014.o; have hcz81_1 := Bn BK9014.o; have hfz81_0 := Ac BK9014.o 0; have hfz81_1 := Ac BK9014.o 1) | ((with_reducible refine Aj (f := 43) rfl ?_); refine Bf (some 175) rfl rfl Try.func43 (by kernel_rfl) rfl #[.agg #[.int .i64 t506, .bool t507], .int .i64 t508, .slice Ao66 t510.length co66, .int .i64 0] rfl (by (try simp only [mT_, mC_, mN_]); rfl) ?_; (with_reducible refine (Bw.calls k t506 t507 t508 _ _ t510 0 t541 t542 true _ ?side1 ?side2 A72.o).mono ?_); (case side1 => repeat (exact (Kd.Bb HO512.o).2.2)); (case side2 => exact (Kd.Bb HO512.o).2.1); rintro e w82 ⟨rfl, hb⟩; refine ⟨_, rfl, ?_⟩; replace HO489 := Aa.k (Kd.Ba (by exact HO489.o) hb); replace HO493 := Aa.k (Kd.Ba (by exact HO493.o) hb); replace HO497 := Aa.k (Kd.Du (by exact HO497.o) hb); replace HO501 := Aa.k (Kd.Du (by exact HO501.o) hb); replace HO505 := Aa.k (Kd.Ba (by exact HO505.o) hb); replace HO512 := Aa.k (Kd.Ba (by exact HO512.o) hb); replace HO516 := Aa.k (Kd.Ba (by exact HO516.o) hb); replace HO520 := Aa.k (Kd.Ba (by exact HO520.o) hb); replace HO525 := Aa.k (Kd.Ba (by exact HO525.o) hb); replace HO529 := Aa.k (Kd.Ba (by exact HO529.o) hb); replace HO533 := Aa.k (Kd.Ba (by exact HO533.o) hb); replace BK9003 := Aa.k (Ae (g := gb9003) (o := .cells #[.int .i64 t482, .bool t483] 25 (0, 0)) (by exact BK9003.o) hb); replace BK9014 := Aa.k (Ae (g := gb9014) (o := .cells #[.int .i64 t506, .bool t507] 25 (0, 0)) (by exact BK9014.o) hb); replace BK9020 := Aa.k (Ae (g := gb9020) (o := .cells #[.int .i64 t521, .bool t522] 25 (0, 0)) (by exact BK9020.o) hb); replace HB := Aa.k (Ad HB.o hb); (try clear hb); (try clear hb2); (try clear hk); (try clear hi)) | ((with_reducible refine Be (N := 28) rfl ?_); refine Bo ?hg (N := 28) ?hd (cs := #[.int .i64 0, .int .i64 0]) (t := 56) ?hr ?_; (case hd => rfl); (case hg => rfl); (case hr => (go_simp; done)); intro gb9028 hg w83 hbox hb; replace HO489 := Aa.k (Kd.Ba (by exact HO489.o) hb); replace HO493 := Aa.k (Kd.Ba (by exact HO493.o) hb); replace HO497 := Aa.k (Kd.Du (by exact HO497.o) hb); replace HO501 := Aa.k (Kd.Du (by exact HO501.o) hb); replace HO505 := Aa.k (Kd.Ba (by exact HO505.o) hb); replace HO512 := Aa.k (Kd.Ba (by exact HO512.o) hb); replace HO516 := Aa.k (Kd.Ba (by exact HO516.o) hb); replace HO520 := Aa.k (Kd.Ba (by exact HO520.o) hb); replace HO525 := Aa.k (Kd.Ba (by exact HO525.o) hb); replace HO529 := Aa.k (Kd.Ba (by exact HO529.o) hb); replace HO533 := Aa.k (Kd.Ba (by exact HO533.o) hb); have BK9028 := Aa.k (hbox); have GW9028 := Aa.k ((by rw [hg]; exact (Af HB.o) : w.heap.size ≤ gb9028)); have GE9028 := Aa.k ((by rw [hg]; exact (Af HB.o) : w.heap.size ≤ gb9028)); replace HB := Aa.k (Ad HB.o hb); have NB9003_9028 := Aa.k ((by rw [hg]; exact Nat.ne_of_lt (Ca (g := gb9003) (o := .cells #[.int .i64 t482, .bool t483] 25 (0, 0)) (by exact BK9003.o)) : gb9003 ≠ gb9028)); have NB9028_9003 := Aa.k ((by rw [hg]; exact Nat.ne_of_gt (Ca (g := gb9003) (o := .cells #[.int .i64 t482, .bool t483] 25 (0, 0)) (by exact BK9003.o)) : gb9028 ≠ gb9003)); replace BK9003 := Aa.k (Ae (g := gb9003) (o := .cells #[.int .i64 t482, .bool t483] 25 (0, 0)) (by exact BK9003.o) hb); have NB9014_9028 := Aa.k ((by rw [hg]; exact Nat.ne_of_lt (Ca (g := gb9014) (o := .cells #[.int .i64 t506, .bool t507] 25 (0, 0)) (by exact BK9014.o)) : gb9014 ≠ gb9028)); have NB9028_9014 := Aa.k ((by rw [hg]; exact Nat.ne_of_gt (Ca (g := gb9014) (o := .cells #[.int .i64 t506, .bool t507] 25 (0, 0)) (by exact BK9014.o)) : gb9028 ≠ gb9014)); replace BK9014 := Aa.k (Ae (g := gb9014) (o := .cells #[.int .i64 t506, .bool t507] 25 (0, 0)) (by exact BK9014.o) hb); have NB9020_9028 := Aa.k ((by rw [hg]; exact Nat.ne_of_lt (Ca (g := gb9020) (o := .cells #[.int .i64 t521, .bool t522] 25 (0, 0)) (by exact BK9020.o)) : gb9020 ≠ gb9028)); have NB9028_9020 := Aa.k ((by rw [hg]; exact Nat.ne_of_gt (Ca (g := gb9020) (o := .cells #[.int .i64 t521, .bool t522] 25 (0, 0)) (by exact BK9020.o)) : gb9028 ≠ gb9020)); replace BK9020 := Aa.k (Ae (g := gb9020) (o := .cells #[.int .i64 t521, .bool t522] 25 (0, 0)) (by exact BK9020.o) hb); clear hb hbox hg; have hnb84 := NB9028_9003.o; have hnc84 := NB9003_9028.o; have hnb85 := NB9028_9014.o; have hnc85 := NB9014_9028.o; have hnb86 := NB9028_9020.o; have hnc86 := NB9020_9028.o; have hcz87_0 := Bj BK9028.o; have hcz87_1 := Bn BK9028.o; have hfz87_0 := Ac BK9028.o 0; have hfz87_1 := Ac BK9028.o 1))
  go_meet
  case rel => exact ⟨_, H', ⟨by (omega)⟩, ⟨by exact Kd.Bv (Kd.Dc (p := ⟨gb9028, 1, none⟩) (Kd.Dc (p := ⟨gb9028, 0, none⟩) (Kd.Dh HO489.o BK9028.o (by decide)) (fun _ hk => hk.2) (.int .i64 t541)) (fun _ hk => hk.2) (.int .i64 t542)) (fun _ hk => ⟨hk.1.1.1.2, hk.1.1.2⟩)⟩, ⟨by exact Kd.S_mono (Kd.S_far (p := ⟨gb9028, 1, none⟩) (Kd.S_far (p := ⟨gb9028, 0, none⟩) (Kd.S_types HO497.o BK9028.o (by decide)) (fun _ hk => hk.2) (.int .i64 t541)) (fun _ hk => hk.2) (.int .i64 t542)) (fun _ hk => ⟨hk.1.1.1.1.1.1.1.1.2, ⟨hk.1.1.1.2, hk.1.1.2⟩⟩)⟩, ⟨by exact Kd.Bv (Kd.Dc (p := ⟨gb9028, 1, none⟩) (Kd.Dc (p := ⟨gb9028, 0, none⟩) (Kd.Dh HO525.o BK9028.o (by decide)) (fun _ hk => hk.2) (.int .i64 t541)) (fun _ hk => hk.2) (.int .i64 t542)) (fun _ hk => ⟨hk.1.1.1.1.1.1.2, hk.1.1.2⟩)⟩, ⟨by exact Kd.Bv (Kd.Dc (p := ⟨gb9028, 1, none⟩) (Kd.Dc (p := ⟨gb9028, 0, none⟩) (Kd.Dh HO529.o BK9028.o (by decide)) (fun _ hk => hk.2) (.int .i64 t541)) (fun _ hk => hk.2) (.int .i64 t542)) (fun _ hk => ⟨hk.1.1.1.1.1.1.2, hk.1.1.2⟩)⟩, ⟨by refine Cb ?_ NB9003_9028.o _; refine Cb ?_ NB9003_9028.o _; exact BK9003.o⟩, ⟨by refine Cb ?_ NB9014_9028.o _; refine Cb ?_ NB9014_9028.o _; exact BK9014.o⟩, ⟨by refine Cb ?_ NB9020_9028.o _; refine Cb ?_ NB9020_9028.o _; exact BK9020.o⟩, ⟨by repeat ((with_reducible first | exact HB.o | refine Bz ?_ GE9028.o))⟩⟩
 case rest => as_aux_lemma =>
  clear HC31
  (try clear c1); (try clear c2); (try clear p2); (try clear c3); (try clear c4); (try clear c5); (try clear p6); (try clear c7); (try clear c8); (try clear c17); (try clear c17b0); (try clear c17b1); (try clear c17b2); (try clear c19); (try clear c20); (try clear c20b0); (try clear c20b1)
  (try clear c20b2); (try clear c21); (try clear c22); (try clear c23); (try clear c23b0); (try clear c23b1); (try clear c23b2); (try clear c25); (try clear c26); (try clear c26b0); (try clear c26b1); (try clear c26b2); (try clear c28); (try clear c29); (try clear c30); (try clear c31); (try clear c32)
  (try clear c33); (try clear c34); (try clear c35); (try clear c36); (try clear c37); (try clear c38); (try clear c39); (try clear c42); (try clear c43); (try clear c46); (try clear c55); (try clear c56); (try clear p64); (try clear c70); (try clear c73); (try clear c74); (try clear c75)
  (try clear c76); (try clear c76b0); (try clear c77); (try clear c78); (try clear c84); (try clear c85); (try clear c86); (try clear hcz34_0); (try clear hcz34_1); (try clear hcz36_0); (try clear hcz36_1); (try clear hcz38_0); (try clear hcz38_1); (try clear hcz40_0); (try clear hcz40_1)
  (try clear hcz47_0); (try clear hcz47_1); (try clear hcz49_0); (try clear hcz49_1); (try clear hcz57_0); (try clear hcz57_1); (try clear hcz60_0); (try clear hcz60_1); (try clear hcz79_0); (try clear hcz79_1); (try clear hcz81_0); (try clear hcz81_1); (try clear hcz87_0); (try clear hcz87_1)
  (try clear hfz34_0); (try clear hfz34_1); (try clear hfz36_0); (try clear hfz36_1); (try clear hfz38_0); (try clear hfz38_1); (try clear hfz40_0); (try clear hfz40_1); (try clear hfz47_0); (try clear hfz47_1); (try clear hfz49_0); (try clear hfz49_1); (try clear hfz57_0); (try clear hfz57_1)
  (try clear hfz60_0); (try clear hfz60_1); (try clear hfz79_0); (try clear hfz79_1); (try clear hfz81_0); (try clear hfz81_1); (try clear hfz87_0); (try clear hfz87_1)
  obtain ⟨kq, HA, HJ30, HO_6, HO_10, HO_21, HO_22, BK9003, BK9014, BK9020, HB⟩ := hcut
  cases kq with
  | zero => exact absurd HA.o (by simp [Ao.j0])
  | succ kj30 =>
   have H := HA.o
   clear HA
   simp only [Ao.j0] at H
   have HC88 := Aa.k H
   clear H
   go_upto_if 196 with (fail)
   go_cut [] (fun wc => ∃ (kq : Nat), Aa (Ao.j1 kq t484 t485 t487 true t495 t482 t483 = some r) ∧ Aa (kq ≤ kj30) ∧ Aa (Kd.R (Kd.int .i64) 3 wc w.heap.size (fun _ => True) (.slice Ao62 t487.length co62) t487) ∧ Aa (Kd.S (Kd.slice 3 (Kd.int .i64)) 30 wc w.heap.size (fun k_ => some k_ ≠ ((.slice Ao62 t487.length co62) : Value).ownBlock) (.slice Ao64 t495.length co64) t495) ∧ Aa (wc.heap[gb9003]? = some (.cells #[.int .i64 t482, .bool t483] 25 (0, 0))) ∧ Aa (wc.heap[gb9014]? = some (.cells #[.int .i64 t506, .bool t507] 25 (0, 0))) ∧ Aa (wc.heap[gb9020]? = some (.cells #[.int .i64 t521, .bool t522] 25 (0, 0))) ∧ Aa (Below w.heap.size w wc))
   case first => as_aux_lemma =>
    have H := HC88.o
    clear HC88
    by_cases c89 : t530 = true
    rotate_left
    ·replace c89 := Bool.eq_false_iff.mpr c89
     subst c89
     rw [if_neg (show ¬ (false = true) by decide)] at H
     have H' := Aa.k H
     clear H
     go_wp2
     go_meet
     case rel => exact ⟨_, H', ⟨by have := HJ30.o; (omega)⟩, ⟨by exact Kd.Bv HO_6.o (fun _ hk => trivial)⟩, ⟨by exact Kd.S_mono HO_10.o (fun _ hk => hk.1)⟩, ⟨by exact BK9003.o⟩, ⟨by exact BK9014.o⟩, ⟨by exact BK9020.o⟩, ⟨by exact HB.o⟩⟩
    subst c89
    rw [if_pos rfl] at H
    obtain ⟨⟨t545, t548⟩, A900, H⟩ := bindS_ H
    try dsimp only at H
    have A90 := Aa.k A900
    clear A900
    by_cases c91 : t548 = true
    rotate_left
    ·replace c91 := Bool.eq_false_iff.mpr c91
     subst c91
     rw [if_neg (show ¬ (false = true) by decide)] at H
     exact absurd H (by simp)
    subst c91
    rw [if_pos rfl] at H
    obtain ⟨t549, A920, H⟩ := bindS_ H
    try dsimp only at H
    have A92 := Aa.k A920
    clear A920
    by_cases c93 : t549 = true
    rotate_left
    ·replace c93 := Bool.eq_false_iff.mpr c93
     subst c93
     rw [if_neg (show ¬ (false = true) by decide)] at H
     exact absurd H (by simp)
    subst c93
    rw [if_pos rfl] at H
    have H' := Aa.k H
    clear H
    have hnb94 := NB9020_9003.o
    have hnc94 := NB9003_9020.o
    have hnb95 := NB9020_9014.o
    have hnc95 := NB9014_9020.o
    have hcz96_0 := Bj BK9020.o
    have hcz96_1 := Bn BK9020.o
    have hfz96_0 := Ac BK9020.o 0
    have hfz96_1 := Ac BK9020.o 1
    go_wp2_with (first | ((with_reducible refine Aj (f := 38) rfl ?_); refine Bf (some 200) rfl rfl Try.func38 (by kernel_rfl) rfl #[.agg #[.int .i64 t521, .bool t522], .slice Ao68 t527.length co68] rfl (by (try simp only [mT_, mC_, mN_]); rfl) ?_; (with_reducible refine (Cn.calls kj30 t521 t522 _ _ t527 t545 true _ ?side1 ?side2 A90.o).mono ?_); (case side1 => repeat (exact (Kd.Bb HO_22.o).2.2)); (case side2 => exact (Kd.Bb HO_22.o).2.1); rintro e w97 ⟨v546, rfl, ho0, hb⟩; refine ⟨_, rfl, ?_⟩; replace HO_10 := Aa.k (Kd.Fv (by exact HO_10.o) (Kd.Cy ho0) hb); have HO547 := Aa.k (Kd.Ct (Kd.Dz (Kd.Dz (Kd.Dz ho0 (Kd.R_lt (by exact HO_6.o))) (Kd.R_lt (by exact HO_21.o))) (Kd.R_lt (by exact HO_22.o))) (Af HB.o)); replace HO_6 := Aa.k (Kd.Cw (by exact HO_6.o) (Kd.Cy ho0) hb); replace HO_21 := Aa.k (Kd.Cw (by exact HO_21.o) (Kd.Cy ho0) hb); replace HO_22 := Aa.k (Kd.Cw (by exact HO_22.o) (Kd.Cy ho0) hb); replace BK9003 := Aa.k (Ae (g := gb9003) (o := .cells #[.int .i64 t482, .bool t483] 25 (0, 0)) (by exact BK9003.o) hb); replace BK9014 := Aa.k (Ae (g := gb9014) (o := .cells #[.int .i64 t506, .bool t507] 25 (0, 0)) (by exact BK9014.o) hb); replace BK9020 := Aa.k (Ae (g := gb9020) (o := .cells #[.int .i64 t521, .bool t522] 25 (0, 0)) (by exact BK9020.o) hb); replace HB := Aa.k (Ad HB.o hb); (try clear hb); (try clear hb2); (try clear hk); (try clear hi); (try clear ho0); obtain ⟨Ao98, co98, eo98⟩ := Kd.Cx HO547.o; subst eo98) | (go_at_call 40; (with_reducible refine (Cg.calls kj30 _ _ t545 _ _ t523 true _ ?side1 ?side2 ?side3 ?side4 A92.o).mono ?_); (case side1 => repeat (exact (Kd.Bb HO547.o).2.2)); (case side2 => exact (Kd.Bb HO547.o).2.1); (case side3 => repeat (exact (Kd.Bb HO_21.o).2.2)); (case side4 => exact (Kd.Bb HO_21.o).2.1); rintro e w' ⟨rfl, ⟨nd, rfl⟩⟩))
    go_meet
    case rel => exact ⟨_, H', ⟨by have := HJ30.o; (omega)⟩, ⟨by (with_reducible repeat ((apply Kd.Ee))); exact Kd.Bv HO_6.o (fun _ hk => trivial)⟩, ⟨by (with_reducible repeat ((apply Kd.S_drewN))); exact Kd.S_mono HO_10.o (fun _ hk => hk.1.1)⟩, ⟨by (with_reducible repeat ((refine Dk ?_ _))); exact BK9003.o⟩, ⟨by (with_reducible repeat ((refine Dk ?_ _))); exact BK9014.o⟩, ⟨by (with_reducible repeat ((refine Dk ?_ _))); exact BK9020.o⟩, ⟨by repeat ((with_reducible first | exact HB.o | apply Bh))⟩⟩
   case rest => as_aux_lemma =>
    clear HC88
    (try clear c1); (try clear c2); (try clear p2); (try clear c3); (try clear c4); (try clear c5); (try clear p6); (try clear c7); (try clear c8); (try clear c9); (try clear c17); (try clear c17b0); (try clear c17b1); (try clear c17b2); (try clear c19); (try clear c20); (try clear c20b0)
    (try clear c20b1); (try clear c20b2); (try clear c21); (try clear c22); (try clear c23); (try clear c23b0); (try clear c23b1); (try clear c23b2); (try clear c25); (try clear c26); (try clear c26b0); (try clear c26b1); (try clear c26b2); (try clear c28); (try clear c29); (try clear c30)
    (try clear c31); (try clear c32); (try clear c33); (try clear c34); (try clear c35); (try clear c36); (try clear c37); (try clear c38); (try clear c39); (try clear c42); (try clear c43); (try clear c46); (try clear c55); (try clear c56); (try clear p64); (try clear c70); (try clear c73)
    (try clear c74); (try clear c75); (try clear c76); (try clear c76b0); (try clear c77); (try clear c78); (try clear c84); (try clear c85); (try clear c86); (try clear c89); (try clear c91); (try clear c93); (try clear c94); (try clear c95); (try clear hcz34_0); (try clear hcz34_1); (try clear hcz36_0)
    (try clear hcz36_1); (try clear hcz38_0); (try clear hcz38_1); (try clear hcz40_0); (try clear hcz40_1); (try clear hcz47_0); (try clear hcz47_1); (try clear hcz49_0); (try clear hcz49_1); (try clear hcz57_0); (try clear hcz57_1); (try clear hcz60_0); (try clear hcz60_1); (try clear hcz79_0)
    (try clear hcz79_1); (try clear hcz81_0); (try clear hcz81_1); (try clear hcz87_0); (try clear hcz87_1); (try clear hcz96_0); (try clear hcz96_1); (try clear hfz34_0); (try clear hfz34_1); (try clear hfz36_0); (try clear hfz36_1); (try clear hfz38_0); (try clear hfz38_1); (try clear hfz40_0)
    (try clear hfz40_1); (try clear hfz47_0); (try clear hfz47_1); (try clear hfz49_0); (try clear hfz49_1); (try clear hfz57_0); (try clear hfz57_1); (try clear hfz60_0); (try clear hfz60_1); (try clear hfz79_0); (try clear hfz79_1); (try clear hfz81_0); (try clear hfz81_1); (try clear hfz87_0)
    (try clear hfz87_1); (try clear hfz96_0); (try clear hfz96_1); (try clear p2); (try clear p6); (try clear p64)
    obtain ⟨kq, HA, HJ87, HO_6, HO_10, BK9003, BK9014, BK9020, HB⟩ := hcut
    cases kq with
    | zero => exact absurd HA.o (by simp [Ao.j1])
    | succ kj87 =>
     have H := HA.o
     clear HA
     simp only [Ao.j1] at H
     replace H : ((Bw.f kj87 t482 t483 t484 t487 t485).bind fun bt550 => ((Cn.f kj87 t482 t483 t487).bind fun bt554 => ((Bw.f kj87 t482 t483 (wrap64 ((wrap64 (t482 - 1)) - t484)) bt554.1 t485).bind fun bt558 => (if bt550.2.2 = true then (if bt554.2 = true then (if bt558.2.2 = true then (if bt558.1 = bt550.1 then (if bt558.2.1 = bt550.2.1 then (Ao.l0 kj87 t484 t485 t487 t495 false 0 t482 t483 bt550.1 bt550.2.1) else (none)) else (none)) else (none)) else (none)) else (none))))) = some r := by (exact H)
     obtain ⟨⟨t550, t551, t552⟩, A990, H⟩ := bindS_ H
     try dsimp only at H
     have A99 := Aa.k A990
     clear A990
     obtain ⟨⟨t554, t557⟩, A1000, H⟩ := bindS_ H
     try dsimp only at H
     have A100 := Aa.k A1000
     clear A1000
     obtain ⟨⟨t558, t559, t560⟩, A1010, H⟩ := bindS_ H
     try dsimp only at H
     have A101 := Aa.k A1010
     clear A1010
     by_cases c102 : t552 = true
     rotate_left
     ·replace c102 := Bool.eq_false_iff.mpr c102
      subst c102
      rw [if_neg (show ¬ (false = true) by decide)] at H
      exact absurd H (by simp)
     subst c102
     rw [if_pos rfl] at H
     by_cases c103 : t557 = true
     rotate_left
     ·replace c103 := Bool.eq_false_iff.mpr c103
      subst c103
      rw [if_neg (show ¬ (false = true) by decide)] at H
      exact absurd H (by simp)
     subst c103
     rw [if_pos rfl] at H
     by_cases c104 : t560 = true
     rotate_left
     ·replace c104 := Bool.eq_false_iff.mpr c104
      subst c104
      rw [if_neg (show ¬ (false = true) by decide)] at H
      exact absurd H (by simp)
     subst c104
     rw [if_pos rfl] at H
     by_cases c105 : t558 = t550
     rotate_left
     ·rw [if_neg c105] at H
      exact absurd H (by simp)
     rw [if_pos c105] at H
     have c105b0 : (t558 == t550) = true := beq_iff_eq.mpr c105
     have c105b1 : (t558 != t550) = false := bne_eq_false_iff_eq.mpr c105
     clear c105
     by_cases c106 : t559 = t551
     rotate_left
     ·rw [if_neg c106] at H
      exact absurd H (by simp)
     rw [if_pos c106] at H
     have c106b0 : (t559 == t551) = true := beq_iff_eq.mpr c106
     have c106b1 : (t559 != t551) = false := bne_eq_false_iff_eq.mpr c106
     clear c106
     have H' := Aa.k H
     clear H
     have hnb107 := NB9003_9014.o
     have hnc107 := NB9014_9003.o
     have hnb108 := NB9003_9020.o
     have hnc108 := NB9020_9003.o
     have hcz109_0 := Bj BK9003.o
     have hcz109_1 := Bn BK9003.o
     have hfz109_0 := Ac BK9003.o 0
     have hfz109_1 := Ac BK9003.o 1
     go_wp2_with (first | ((with_reducible refine Aj (f := 43) rfl ?_); refine Bf (some 218) rfl rfl Try.func43 (by kernel_rfl) rfl #[.agg #[.int .i64 t482, .bool t483], .int .i64 t484, .slice Ao62 t487.length co62, .int .i64 t485] rfl (by (try simp only [mT_, mC_, mN_]); rfl) ?_; (with_reducible refine (Bw.calls kj87 t482 t483 t484 _ _ t487 t485 t550 t551 true _ ?side1 ?side2 A99.o).mono ?_); (case side1 => repeat (exact (Kd.Bb HO_6.o).2.2)); (case side2 => exact (Kd.Bb HO_6.o).2.1); rintro e w110 ⟨rfl, hb⟩; refine ⟨_, rfl, ?_⟩; replace HO_6 := Aa.k (Kd.Ba (by exact HO_6.o) hb); replace HO_10 := Aa.k (Kd.Du (by exact HO_10.o) hb); replace BK9003 := Aa.k (Ae (g := gb9003) (o := .cells #[.int .i64 t482, .bool t483] 25 (0, 0)) (by exact BK9003.o) hb); replace BK9014 := Aa.k (Ae (g := gb9014) (o := .cells #[.int .i64 t506, .bool t507] 25 (0, 0)) (by exact BK9014.o) hb); replace BK9020 := Aa.k (Ae (g := gb9020) (o := .cells #[.int .i64 t521, .bool t522] 25 (0, 0)) (by exact BK9020.o) hb); replace HB := Aa.k (Ad HB.o hb); (try clear hb); (try clear hb2); (try clear hk); (try clear hi)) | ((with_reducible refine Be (N := 32) rfl ?_); refine Bo ?hg (N := 32) ?hd (cs := #[.int .i64 0, .int .i64 0]) (t := 56) ?hr ?_; (case hd => rfl); (case hg => rfl); (case hr => (go_simp; done)); intro gb9032 hg w111 hbox hb; replace HO_6 := Aa.k (Kd.Ba (by exact HO_6.o) hb); replace HO_10 := Aa.k (Kd.Du (by exact HO_10.o) hb); have BK9032 := Aa.k (hbox); have GW9032 := Aa.k ((by rw [hg]; exact (Af HB.o) : w.heap.size ≤ gb9032)); have GE9032 := Aa.k ((by rw [hg]; exact (Af HB.o) : w.heap.size ≤ gb9032)); replace HB := Aa.k (Ad HB.o hb); have NB9003_9032 := Aa.k ((by rw [hg]; exact Nat.ne_of_lt (Ca (g := gb9003) (o := .cells #[.int .i64 t482, .bool t483] 25 (0, 0)) (by exact BK9003.o)) : gb9003 ≠ gb9032)); have NB9032_9003 := Aa.k ((by rw [hg]; exact Nat.ne_of_gt (Ca (g := gb9003) (o := .cells #[.int .i64 t482, .bool t483] 25 (0, 0)) (by exact BK9003.o)) : gb9032 ≠ gb9003)); replace BK9003 := Aa.k (Ae (g := gb9003) (o := .cells #[.int .i64 t482, .bool t483] 25 (0, 0)) (by exact BK9003.o) hb); have NB9014_9032 := Aa.k ((by rw [hg]; exact Nat.ne_of_lt (Ca (g := gb9014) (o := .cells #[.int .i64 t506, .bool t507] 25 (0, 0)) (by exact BK9014.o)) : gb9014 ≠ gb9032)); have NB9032_9014 := Aa.k ((by rw [hg]; exact Nat.ne_of_gt (Ca (g := gb9014) (o := .cells #[.int .i64 t506, .bool t507] 25 (0, 0)) (by exact BK9014.o)) : gb9032 ≠ gb9014)); replace BK9014 := Aa.k (Ae (g := gb9014) (o := .cells #[.int .i64 t506, .bool t507] 25 (0, 0)) (by exact BK9014.o) hb); have NB9020_9032 := Aa.k ((by rw [hg]; exact Nat.ne_of_lt (Ca (g := gb9020) (o := .cells #[.int .i64 t521, .bool t522] 25 (0, 0)) (by exact BK9020.o)) : gb9020 ≠ gb9032)); have NB9032_9020 := Aa.k ((by rw [hg]; exact Nat.ne_of_gt (Ca (g := gb9020) (o := .cells #[.int .i64 t521, .bool t522] 25 (0, 0)) (by exact BK9020.o)) : gb9032 ≠ gb9020)); replace BK9020 := Aa.k (Ae (g := gb9020) (o := .cells #[.int .i64 t521, .bool t522] 25 (0, 0)) (by exact BK9020.o) hb); clear hb hbox hg; have hnb112 := NB9032_9003.o; have hnc112 := NB9003_9032.o; have hnb113 := NB9032_9014.o; have hnc113 := NB9014_9032.o; have hnb114 := NB9032_9020.o; have hnc114 := NB9020_9032.o; have hcz115_0 := Bj BK9032.o; have hcz115_1 := Bn BK9032.o; have hfz115_0 := Ac BK9032.o 0; have hfz115_1 := Ac BK9032.o 1; have hcz116_0 := Bj BK9003.o; have hcz116_1 := Bn BK9003.o; have hfz116_0 := Ac BK9003.o 0; have hfz116_1 := Ac BK9003.o 1) | ((with_reducible refine Aj (f := 38) rfl ?_); refine Bf (some 224) rfl rfl Try.func38 (by kernel_rfl) rfl #[.agg #[.int .i64 t482, .bool t483], .slice Ao62 t487.length co62] rfl (by (try simp only [mT_, mC_, mN_]); rfl) ?_; (with_reducible refine (Cn.calls kj87 t482 t483 _ _ t487 t554 true _ ?side1 ?side2 A100.o).mono ?_); (case side1 => refine (Kd.Bb (e := 3) (base := w.heap.size) (ok := fun k_ => True) (n := t487.length) (c := co62) ?_).2.2; exact (by exact (Kd.Bv (Kd.Dc (p := ⟨gb9032, 1, none⟩) (Kd.Dc (p := ⟨gb9032, 0, none⟩) (Kd.Dh HO_6.o BK9032.o (by decide)) (fun _ hk => hk.2) (.int .i64 t550)) (fun _ hk => hk.2) (.int .i64 t551)) (fun _ h_ => h_.1)))); (case side2 => exact (Kd.Bb HO_6.o).2.1); rintro e w117 ⟨v555, rfl, ho0, hb⟩; refine ⟨_, rfl, ?_⟩; replace HO_10 := Aa.k (Kd.Fv (by exact (Kd.S_mono (Kd.S_far (p := ⟨gb9032, 1, none⟩) (Kd.S_far (p := ⟨gb9032, 0, none⟩) (Kd.S_types HO_10.o BK9032.o (by decide)) (fun _ hk => hk.2) (.int .i64 t550)) (fun _ hk => hk.2) (.int .i64 t551)) (fun _ h_ => h_.1))) (Kd.Cy ho0) hb); have HO556 := Aa.k (Kd.Ct (Kd.Dz ho0 (Kd.R_lt (by exact (Kd.Bv (Kd.Dc (p := ⟨gb9032, 1, none⟩) (Kd.Dc (p := ⟨gb9032, 0, none⟩) (Kd.Dh HO_6.o BK9032.o (by decide)) (fun _ hk => hk.2) (.int .i64 t550)) (fun _ hk => hk.2) (.int .i64 t551)) (fun _ h_ => h_.1))))) (Af (by repeat ((with_reducible first | exact HB.o | refine Bz ?_ GE9032.o))))); replace HO_6 := Aa.k (Kd.Cw (by exact (Kd.Bv (Kd.Dc (p := ⟨gb9032, 1, none⟩) (Kd.Dc (p := ⟨gb9032, 0, none⟩) (Kd.Dh HO_6.o BK9032.o (by decide)) (fun _ hk => hk.2) (.int .i64 t550)) (fun _ hk => hk.2) (.int .i64 t551)) (fun _ h_ => h_.1))) (Kd.Cy ho0) hb); replace BK9003 := Aa.k (Ae (g := gb9003) (o := .cells #[.int .i64 t482, .bool t483] 25 (0, 0)) (by refine Cb ?_ NB9003_9032.o _; refine Cb ?_ NB9003_9032.o _; exact BK9003.o) hb); replace BK9014 := Aa.k (Ae (g := gb9014) (o := .cells #[.int .i64 t506, .bool t507] 25 (0, 0)) (by refine Cb ?_ NB9014_9032.o _; refine Cb ?_ NB9014_9032.o _; exact BK9014.o) hb); replace BK9020 := Aa.k (Ae (g := gb9020) (o := .cells #[.int .i64 t521, .bool t522] 25 (0, 0)) (by refine Cb ?_ NB9020_9032.o _; refine Cb ?_ NB9020_9032.o _; exact BK9020.o) hb); replace BK9032 := Aa.k (Ae (g := gb9032) (o := .cells #[.int .i64 t550, .int .i64 t551] 56 (0, 0)) (by refine Cr (cs := #[.int .i64 t550, .int .i64 0]) ?_ 1 _ rfl; refine Cr (cs := #[.int .i64 0, .int .i64 0]) ?_ 0 _ rfl; exact BK9032.o) hb); replace HB := Aa.k (Ad (by repeat ((with_reducible first | exact HB.o | refine Bz ?_ GE9032.o))) hb); (try clear hb); (try clear hb2); (try clear hk); (try clear hi); (try clear ho0); have hcz118_0 := Bj BK9003.o; have hcz118_1 := Bn BK9003.o; have hfz118_0 := Ac BK9003.o 0; have hfz118_1 := Ac BK9003.o 1; obtain ⟨Ao119, co119, eo119⟩ := Kd.Cx HO556.o; subst eo119) | ((with_reducible refine Aj (f := 43) rfl ?_); refine Bf (some 236) rfl rfl Try.func43 (by kernel_rfl) rfl #[.agg #[.int .i64 t482, .bool t483], .int .i64 (wrap64 ((wrap64 (t482 - 1)) - t484)), .slice Ao119 t554.length co119, .int .i64 t485] rfl (by (try simp only [mT_, mC_, mN_]); rfl) ?_; (with_reducible refine (Bw.calls kj87 t482 t483 (wrap64 ((wrap64 (t482 - 1)) - t484)) _ _ t554 t485 t558 t559 true _ ?side1 ?side2 A101.o).mono ?_); (case side1 => repeat (exact (Kd.Bb HO556.o).2.2)); (case side2 => exact (Kd.Bb HO556.o).2.1); rintro e w120 ⟨rfl, hb⟩; refine ⟨_, rfl, ?_⟩; replace HO_6 := Aa.k (Kd.Ba (by exact HO_6.o) hb); replace HO_10 := Aa.k (Kd.Du (by exact HO_10.o) hb); replace HO556 := Aa.k (Kd.Ba (by exact HO556.o) hb); replace BK9003 := Aa.k (Ae (g := gb9003) (o := .cells #[.int .i64 t482, .bool t483] 25 (0, 0)) (by exact BK9003.o) hb); replace BK9014 := Aa.k (Ae (g := gb9014) (o := .cells #[.int .i64 t506, .bool t507] 25 (0, 0)) (by exact BK9014.o) hb); replace BK9020 := Aa.k (Ae (g := gb9020) (o := .cells #[.int .i64 t521, .bool t522] 25 (0, 0)) (by exact BK9020.o) hb); replace BK9032 := Aa.k (Ae (g := gb9032) (o := .cells #[.int .i64 t550, .int .i64 t551] 56 (0, 0)) (by exact BK9032.o) hb); replace HB := Aa.k (Ad HB.o hb); (try clear hb); (try clear hb2); (try clear hk); (try clear hi)) | ((with_reducible refine Be (N := 36) rfl ?_); refine Bo ?hg (N := 36) ?hd (cs := #[.int .i64 0, .int .i64 0]) (t := 56) ?hr ?_; (case hd => rfl); (case hg => rfl); (case hr => (go_simp; done)); intro gb9036 hg w121 hbox hb; replace HO_6 := Aa.k (Kd.Ba (by exact HO_6.o) hb); replace HO_10 := Aa.k (Kd.Du (by exact HO_10.o) hb); replace HO556 := Aa.k (Kd.Ba (by exact HO556.o) hb); have BK9036 := Aa.k (hbox); have GW9036 := Aa.k ((by rw [hg]; exact (Af HB.o) : w.heap.size ≤ gb9036)); have GE9036 := Aa.k ((by rw [hg]; exact (Af HB.o) : w.heap.size ≤ gb9036)); replace HB := Aa.k (Ad HB.o hb); have NB9003_9036 := Aa.k ((by rw [hg]; exact Nat.ne_of_lt (Ca (g := gb9003) (o := .cells #[.int .i64 t482, .bool t483] 25 (0, 0)) (by exact BK9003.o)) : gb9003 ≠ gb9036)); have NB9036_9003 := Aa.k ((by rw [hg]; exact Nat.ne_of_gt (Ca (g := gb9003) (o := .cells #[.int .i64 t482, .bool t483] 25 (0, 0)) (by exact BK9003.o)) : gb9036 ≠ gb9003)); replace BK9003 := Aa.k (Ae (g := gb9003) (o := .cells #[.int .i64 t482, .bool t483] 25 (0, 0)) (by exact BK9003.o) hb); have NB9014_9036 := Aa.k ((by rw [hg]; exact Nat.ne_of_lt (Ca (g := gb9014) (o := .cells #[.int .i64 t506, .bool t507] 25 (0, 0)) (by exact BK9014.o)) : gb9014 ≠ gb9036)); have NB9036_9014 := Aa.k ((by rw [hg]; exact Nat.ne_of_gt (Ca (g := gb9014) (o := .cells #[.int .i64 t506, .bool t507] 25 (0, 0)) (by exact BK9014.o)) : gb9036 ≠ gb9014)); replace BK9014 := Aa.k (Ae (g := gb9014) (o := .cells #[.int .i64 t506, .bool t507] 25 (0, 0)) (by exact BK9014.o) hb); have NB9020_9036 := Aa.k ((by rw [hg]; exact Nat.ne_of_lt (Ca (g := gb9020) (o := .cells #[.int .i64 t521, .bool t522] 25 (0, 0)) (by exact BK9020.o)) : gb9020 ≠ gb9036)); have NB9036_9020 := Aa.k ((by rw [hg]; exact Nat.ne_of_gt (Ca (g := gb9020) (o := .cells #[.int .i64 t521, .bool t522] 25 (0, 0)) (by exact BK9020.o)) : gb9036 ≠ gb9020)); replace BK9020 := Aa.k (Ae (g := gb9020) (o := .cells #[.int .i64 t521, .bool t522] 25 (0, 0)) (by exact BK9020.o) hb); have NB9032_9036 := Aa.k ((by rw [hg]; exact Nat.ne_of_lt (Ca (g := gb9032) (o := .cells #[.int .i64 t550, .int .i64 t551] 56 (0, 0)) (by exact BK9032.o)) : gb9032 ≠ gb9036)); have NB9036_9032 := Aa.k ((by rw [hg]; exact Nat.ne_of_gt (Ca (g := gb9032) (o := .cells #[.int .i64 t550, .int .i64 t551] 56 (0, 0)) (by exact BK9032.o)) : gb9036 ≠ gb9032)); replace BK9032 := Aa.k (Ae (g := gb9032) (o := .cells #[.int .i64 t550, .int .i64 t551] 56 (0, 0)) (by exact BK9032.o) hb); clear hb hbox hg; have hnb122 := NB9036_9003.o; have hnc122 := NB9003_9036.o; have hnb123 := NB9036_9014.o; have hnc123 := NB9014_9036.o; have hnb124 := NB9036_9020.o; have hnc124 := NB9020_9036.o; have hnb125 := NB9036_9032.o; have hnc125 := NB9032_9036.o; have hcz126_0 := Bj BK9036.o; have hcz126_1 := Bn BK9036.o; have hfz126_0 := Ac BK9036.o 0; have hfz126_1 := Ac BK9036.o 1; have hcz127_0 := Bj BK9032.o; have hcz127_1 := Bn BK9032.o; have hfz127_0 := Ac BK9032.o 0; have hfz127_1 := Ac BK9032.o 1))
     go_loopg [38, 39] kj87 (fun kq v38 v39 w' => ∃ (x38_3 : Bool) (x39_3 : Int), v38 = .bool x38_3 ∧ v39 = .int .i64 x39_3 ∧ Aa (Ao.l0 kq t484 t485 t487 t495 x38_3 x39_3 t482 t483 t550 t551 = some r) ∧ Aa (kq ≤ kj87) ∧ Aa (Kd.R (Kd.int .i64) 3 w' w.heap.size (fun _ => True) (.slice Ao62 t487.length co62) t487) ∧ Aa (Kd.S (Kd.slice 3 (Kd.int .i64)) 30 w' w.heap.size (fun k_ => some k_ ≠ ((.slice Ao62 t487.length co62) : Value).ownBlock) (.slice Ao64 t495.length co64) t495) ∧ Aa (w'.heap[gb9003]? = some (.cells #[.int .i64 t482, .bool t483] 25 (0, 0))) ∧ Aa (w'.heap[gb9014]? = some (.cells #[.int .i64 t506, .bool t507] 25 (0, 0))) ∧ Aa (w'.heap[gb9020]? = some (.cells #[.int .i64 t521, .bool t522] 25 (0, 0))) ∧ Aa (w'.heap[gb9032]? = some (.cells #[.int .i64 t550, .int .i64 t551] 56 (0, 0))) ∧ Aa (w'.heap[gb9036]? = some (.cells #[.int .i64 t558, .int .i64 t559] 56 (0, 0))) ∧ Aa (Below w.heap.size w w'))
     case atStart => exact ⟨(false), (0), (by (rfl)), (by (rfl)), H', ⟨Nat.le_refl _⟩, ⟨by exact Kd.Bv (Kd.Dc (p := ⟨gb9036, 1, none⟩) (Kd.Dc (p := ⟨gb9036, 0, none⟩) (Kd.Dh HO_6.o BK9036.o (by decide)) (fun _ hk => hk.2) (.int .i64 t558)) (fun _ hk => hk.2) (.int .i64 t559)) (fun _ hk => trivial)⟩, ⟨by exact Kd.S_mono (Kd.S_far (p := ⟨gb9036, 1, none⟩) (Kd.S_far (p := ⟨gb9036, 0, none⟩) (Kd.S_types HO_10.o BK9036.o (by decide)) (fun _ hk => hk.2) (.int .i64 t558)) (fun _ hk => hk.2) (.int .i64 t559)) (fun _ hk => hk.1.1)⟩, ⟨by refine Cb ?_ NB9003_9036.o _; refine Cb ?_ NB9003_9036.o _; exact BK9003.o⟩, ⟨by refine Cb ?_ NB9014_9036.o _; refine Cb ?_ NB9014_9036.o _; exact BK9014.o⟩, ⟨by refine Cb ?_ NB9020_9036.o _; refine Cb ?_ NB9020_9036.o _; exact BK9020.o⟩, ⟨by refine Cb ?_ NB9032_9036.o _; refine Cb ?_ NB9032_9036.o _; exact BK9032.o⟩, ⟨by refine Cr (cs := #[.int .i64 t558, .int .i64 0]) ?_ 1 _ rfl; refine Cr (cs := #[.int .i64 0, .int .i64 0]) ?_ 0 _ rfl; exact BK9036.o⟩, ⟨by repeat ((with_reducible first | exact HB.o | refine Bz ?_ GE9036.o))⟩⟩
     case round => as_aux_lemma =>
      clear H'
      (try clear c1); (try clear c2); (try clear p2); (try clear c3); (try clear c4); (try clear c5); (try clear p6); (try clear c7); (try clear c8); (try clear c9); (try clear c10); (try clear c11); (try clear c12); (try clear c17); (try clear c17b0); (try clear c17b1); (try clear c17b2)
      (try clear c19); (try clear c20); (try clear c20b0); (try clear c20b1); (try clear c20b2); (try clear c21); (try clear c22); (try clear c23); (try clear c23b0); (try clear c23b1); (try clear c23b2); (try clear c25); (try clear c26); (try clear c26b0); (try clear c26b1); (try clear c26b2)
      (try clear c28); (try clear c29); (try clear c30); (try clear c31); (try clear c32); (try clear c33); (try clear c34); (try clear c35); (try clear c36); (try clear c37); (try clear c38); (try clear c39); (try clear c42); (try clear c43); (try clear c46); (try clear c55); (try clear c56)
      (try clear p64); (try clear c70); (try clear c73); (try clear c74); (try clear c75); (try clear c76); (try clear c76b0); (try clear c77); (try clear c78); (try clear c84); (try clear c85); (try clear c86); (try clear c89); (try clear c91); (try clear c93); (try clear c94); (try clear c95)
      (try clear c102); (try clear c103); (try clear c104); (try clear c105); (try clear c105b0); (try clear c105b1); (try clear c106); (try clear c106b0); (try clear c106b1); (try clear c107); (try clear c108); (try clear c112); (try clear c113); (try clear c114); (try clear c122); (try clear c123)
      (try clear c124); (try clear c125); (try clear hcz109_0); (try clear hcz109_1); (try clear hcz115_0); (try clear hcz115_1); (try clear hcz116_0); (try clear hcz116_1); (try clear hcz118_0); (try clear hcz118_1); (try clear hcz126_0); (try clear hcz126_1); (try clear hcz127_0); (try clear hcz127_1)
      (try clear hcz34_0); (try clear hcz34_1); (try clear hcz36_0); (try clear hcz36_1); (try clear hcz38_0); (try clear hcz38_1); (try clear hcz40_0); (try clear hcz40_1); (try clear hcz47_0); (try clear hcz47_1); (try clear hcz49_0); (try clear hcz49_1); (try clear hcz57_0); (try clear hcz57_1)
      (try clear hcz60_0); (try clear hcz60_1); (try clear hcz79_0); (try clear hcz79_1); (try clear hcz81_0); (try clear hcz81_1); (try clear hcz87_0); (try clear hcz87_1); (try clear hcz96_0); (try clear hcz96_1); (try clear hfz109_0); (try clear hfz109_1); (try clear hfz115_0); (try clear hfz115_1)
      (try clear hfz116_0); (try clear hfz116_1); (try clear hfz118_0); (try clear hfz118_1); (try clear hfz126_0); (try clear hfz126_1); (try clear hfz127_0); (try clear hfz127_1); (try clear hfz34_0); (try clear hfz34_1); (try clear hfz36_0); (try clear hfz36_1); (try clear hfz38_0)
      (try clear hfz38_1); (try clear hfz40_0); (try clear hfz40_1); (try clear hfz47_0); (try clear hfz47_1); (try clear hfz49_0); (try clear hfz49_1); (try clear hfz57_0); (try clear hfz57_1); (try clear hfz60_0); (try clear hfz60_1); (try clear hfz79_0); (try clear hfz79_1); (try clear hfz81_0)
      (try clear hfz81_1); (try clear hfz87_0); (try clear hfz87_1); (try clear hfz96_0); (try clear hfz96_1); (try clear p2); (try clear p6); (try clear p64)
      obtain ⟨x38_3, x39_3, rfl, rfl, HA, HK3, HO_6, HO_10, BK9003, BK9014, BK9020, BK9032, BK9036, HB⟩ := hrel
      cases gk with
      | zero => exact absurd HA.o (by simp [Ao.l0])
      | succ k3 =>
       have H := HA.o
       clear HA
       simp only [Ao.l0] at H
       by_cases c128 : x39_3 < (t495.length : Int)
       rotate_left
       ·rw [if_neg c128] at H
        have c128b0 : decide (x39_3 < (t495.length : Int)) = false := decide_eq_false c128
        clear c128
        obtain rfl := Option.some.inj H
        go_wp2
        go_ret
        exact ⟨by (rfl), by exact HB.o⟩
       rw [if_pos c128] at H
       have c128b0 : decide (x39_3 < (t495.length : Int)) = true := decide_eq_true c128
       clear c128
       by_cases c129 : 0 ≤ x39_3
       rotate_left
       ·rw [if_neg c129] at H
        exact absurd H (by simp)
       rw [if_pos c129] at H
       have c129b0 : decide (0 ≤ x39_3) = true := decide_eq_true c129
       clear c129
       obtain ⟨⟨t563, t564⟩, A1300, H⟩ := bindS_ H
       try dsimp only at H
       have A130 := Aa.k A1300
       clear A1300
       obtain ⟨⟨t566, t567, t568⟩, A1310, H⟩ := bindS_ H
       try dsimp only at H
       have A131 := Aa.k A1310
       clear A1310
       by_cases c132 : t564 = true
       rotate_left
       ·replace c132 := Bool.eq_false_iff.mpr c132
        subst c132
        rw [if_neg (show ¬ (false = true) by decide)] at H
        exact absurd H (by simp)
       subst c132
       rw [if_pos rfl] at H
       by_cases c133 : t568 = true
       rotate_left
       ·replace c133 := Bool.eq_false_iff.mpr c133
        subst c133
        rw [if_neg (show ¬ (false = true) by decide)] at H
        exact absurd H (by simp)
       subst c133
       rw [if_pos rfl] at H
       by_cases c134 : t563 = true
       rotate_left
       ·replace c134 := Bool.eq_false_iff.mpr c134
        subst c134
        rw [if_neg (show ¬ (false = true) by decide)] at H
        exact absurd H (by simp)
       subst c134
       rw [if_pos rfl] at H
       have HC135 := Aa.k H
       clear H
       try go_wp2
       replace HO_6 := Aa.k (Kd.R_drew HO_6.o)
       replace HO_10 := Aa.k (Kd.S_drew HO_10.o)
       replace BK9003 := Aa.k (Dt BK9003.o)
       replace BK9014 := Aa.k (Dt BK9014.o)
       replace BK9020 := Aa.k (Dt BK9020.o)
       replace BK9032 := Aa.k (Dt BK9032.o)
       replace BK9036 := Aa.k (Dt BK9036.o)
       replace HB := Aa.k (Cf HB.o)
       have p562 : 0 ≤ (x39_3 : Int) := of_decide_eq_true (by (assumption))
       have q562 : x39_3 < (t495.length : Int) := of_decide_eq_true (by (assumption))
       obtain ⟨ad562, A562_0, c562_0, e562, hx562_0, hl562_0, hi562_0⟩ := at_L4 (Kd.S_reads' HO_10.o).2.2 x39_3 p562 q562
       cases e562
       obtain ⟨ce562, hce562, hMe562, hcc562⟩ := Kd.S_get HO_10.o [] x39_3 p562 (by (exact q562))
       obtain ⟨ve562_0, rfl, ge562_0⟩ := hMe562
       have hv562_0 := hcc562 0 _ rfl
       rw [Nat.add_zero, show ((Kd.slice 3 (Kd.int .i64))).sz = 1 from rfl, Nat.mul_one] at hv562_0
       replace hv562_0 := Option.some.inj (hv562_0.symm.trans hx562_0)
       rw [hv562_0] at ge562_0
       have HL562_0 := Aa.k (show Kd.R (Kd.int .i64) 3 _ _ _ _ (Ez t495 x39_3) from ge562_0)
       clear hv562_0 ge562_0
       clear hcc562 hce562
       have HR562_0 := Aa.k hi562_0
       have HC562_0 := Aa.k hl562_0
       clear hi562_0 hl562_0
       replace p562 := eq_true p562
       replace q562 := eq_true q562
       refine Fp (n := 12) (S := fun w' => w'.cell? ⟨gb9003, 0, none⟩ = some (.int .i64 t482) ∧ w'.cell? ⟨gb9003, 1, none⟩ = some (.bool t483) ∧ w'.cell? (ad562.add (x39_3).toNat) = some (.slice A562_0 (Ez t495 x39_3).length c562_0)) (ds := []) #[N_,N_,N_,N_,N_,N_,N_,N_,N_,N_,N_,N_] (by kernel_rfl) rfl rfl ⟨(Aw BK9003.o 0).trans rfl, (Aw BK9003.o 1).trans rfl, hx562_0⟩ (fun hHeld => ?_); refine Dv Ao.tab36 Ao.bits36 (fun HT_ HW_ => ?_)
       generalize wr.drew = w136 at HO_6 HO_10 BK9003 BK9014 BK9020 BK9032 BK9036 HB HL562_0 HR562_0 hx562_0 hHeld ⊢
       apply pq_ 1 262 #[N_,Y_,N_,N_,N_,N_,N_,N_,N_,N_,N_,N_] HT_ rfl rfl (by kernel_rfl) (fun _ _ _ h => h) (by rfl)
       ·intro w'; go_simp; rfl
       ·simp only [Act.put, sT_, sZ_, sS_, Ah, Ai]; rfl
       apply pq_ 2 263 #[N_,Y_,Y_,N_,N_,N_,N_,N_,N_,N_,N_,N_] HT_ rfl rfl (by kernel_rfl) (fun _ _ _ h => h) (by rfl)
       ·intro w'; go_simp; rfl
       ·simp only [Act.put, sT_, sZ_, sS_, Ah, Ai]; rfl
       apply pq_ 3 264 #[N_,Y_,Y_,Y_,N_,N_,N_,N_,N_,N_,N_,N_] HT_ rfl rfl (by kernel_rfl) (fun _ _ _ h => h) (by rfl)
       ·intro w'; go_simp; rfl
       ·simp only [Act.put, sT_, sZ_, sS_, Ah, Ai]; rfl
       apply pq_ 4 265 #[N_,Y_,Y_,Y_,Y_,N_,N_,N_,N_,N_,N_,N_] HT_ rfl rfl (by kernel_rfl) (fun _ _ _ h => h) (by rfl)
       ·intro w'; go_simp; rfl
       ·simp only [Act.put, sT_, sZ_, sS_, Ah, Ai]; rfl
       refine En (i := 0) (N := some 261) (v := ?_) (a' := ?_) #[Y_,Y_,Y_,Y_,Y_,N_,N_,N_,N_,N_,N_,N_] rfl rfl (Cm HT_.o HW_.o (by kernel_rfl)) (fun _ _ _ h => h) (Or.inl ⟨by rfl, ?_⟩) hHeld ?_ ?_
       rotate_left
       ·rintro w' ⟨s0, s1, s2⟩
        go_simp
        rfl
       rotate_left
       ·simp only [Act.put, sT_, sZ_, sS_, Ah, Ai]
        rfl
       refine En (i := 5) (N := some 266) (v := ?_) (a' := ?_) #[Y_,Y_,Y_,Y_,Y_,Y_,N_,N_,N_,N_,N_,N_] rfl rfl (Cm HT_.o HW_.o (by kernel_rfl)) (fun _ _ _ h => h) (Or.inl ⟨by rfl, ?_⟩) hHeld ?_ ?_
       rotate_left
       ·rintro w' ⟨s0, s1, s2⟩
        go_simp
        rfl
       rotate_left
       ·simp only [Act.put, sT_, sZ_, sS_, Ah, Ai]
        rfl
       refine one_ (i := 6) (N := some 267) #[Y_,Y_,Y_,Y_,Y_,Y_,Y_,N_,N_,N_,N_,N_] rfl rfl (Ej HT_.o (by kernel_rfl)) (by decide) (fun K hK => ?_)
       refine goes_ Try.func42 (by kernel_rfl) rfl #[.agg #[.int .i64 t482, .bool t483], .int .i64 t484, .slice A562_0 (Ez t495 x39_3).length c562_0] (by rfl) rfl rfl (by (try simp only [mT_, mC_, mN_]); rfl) ?_
       refine (Fw.calls k3 t482 t483 t484 _ _ (Ez t495 x39_3) true true _ ?side1 ?side2 A130.o).mono ?_
       (case side1 => repeat ((exact (by exact HR562_0.o))))
       (case side2 => exact HC562_0.o)
       rintro e w137 ⟨rfl, hb⟩
       have HS2_ := (hb.cell (World.block_lt_of_cell? _ _ (hHeld.2.2))).trans (hHeld.2.2)
       refine ⟨_, rfl, ?_⟩
       replace HO_6 := Aa.k (Kd.Ba (by exact HO_6.o) hb)
       replace HO_10 := Aa.k (Kd.Du (by exact HO_10.o) hb)
       replace HL562_0 := Aa.k (Kd.Ba (by exact HL562_0.o) hb)
       replace BK9003 := Aa.k (Ae (g := gb9003) (o := .cells #[.int .i64 t482, .bool t483] 25 (0, 0)) (by exact BK9003.o) hb)
       replace BK9014 := Aa.k (Ae (g := gb9014) (o := .cells #[.int .i64 t506, .bool t507] 25 (0, 0)) (by exact BK9014.o) hb)
       replace BK9020 := Aa.k (Ae (g := gb9020) (o := .cells #[.int .i64 t521, .bool t522] 25 (0, 0)) (by exact BK9020.o) hb)
       replace BK9032 := Aa.k (Ae (g := gb9032) (o := .cells #[.int .i64 t550, .int .i64 t551] 56 (0, 0)) (by exact BK9032.o) hb)
       replace BK9036 := Aa.k (Ae (g := gb9036) (o := .cells #[.int .i64 t558, .int .i64 t559] 56 (0, 0)) (by exact BK9036.o) hb)
       replace HR562_0 := Aa.k (Kd.Dx (by exact HR562_0.o) hb)
       replace HB := Aa.k (Ad HB.o hb)
       (try clear hb)
       (try clear hb2)
       (try clear hk)
       (try clear hi)
       refine hK.out _ _ ⟨(Aw BK9003.o 0).trans rfl, (Aw BK9003.o 1).trans rfl, HS2_⟩ (fun hHeld => ?_)
       clear hK K
       refine Es (a' := ?_) ?_ ?_
       rotate_left
       ·show Act.put _ (some 267) _ = _
        simp only [Act.put, sT_, sZ_, sS_, Ah, Ai]
        rfl
       apply pq_ 7 260 #[Y_,Y_,Y_,Y_,Y_,Y_,Y_,Y_,N_,N_,N_,N_] HT_ rfl rfl (by kernel_rfl) (fun _ _ _ h => h) (by rfl)
       ·intro w'; go_simp; rfl
       ·simp only [Act.put, sT_, sZ_, sS_, Ah, Ai]; rfl
       apply pq_ 8 268 #[Y_,Y_,Y_,Y_,Y_,Y_,Y_,Y_,Y_,N_,N_,N_] HT_ rfl rfl (by kernel_rfl) (fun _ _ _ h => h) (by rfl)
       ·intro w'; go_simp; rfl
       ·simp only [Act.put, sT_, sZ_, sS_, Ah, Ai]; rfl
       apply pq_ 9 269 #[Y_,Y_,Y_,Y_,Y_,Y_,Y_,Y_,Y_,Y_,N_,N_] HT_ rfl rfl (by kernel_rfl) (fun _ _ _ h => h) (by rfl)
       ·intro w'; go_simp; rfl
       ·simp only [Act.put, sT_, sZ_, sS_, Ah, Ai]; rfl
       apply pq_ 10 40 #[Y_,Y_,Y_,Y_,Y_,Y_,Y_,Y_,Y_,Y_,Y_,N_] HT_ rfl rfl (by kernel_rfl) (fun _ _ _ h => h) (by rfl)
       ·intro w'; go_simp; rfl
       ·simp only [Act.put, sT_, sZ_, sS_, Ah, Ai]; rfl
       apply pq_ 11 41 #[Y_,Y_,Y_,Y_,Y_,Y_,Y_,Y_,Y_,Y_,Y_,Y_] HT_ rfl rfl (by kernel_rfl) (fun _ _ _ h => h) (by rfl)
       ·intro w'; go_simp; rfl
       ·simp only [Act.put, sT_, sZ_, sS_, Ah, Ai]; rfl
       refine done_ (Fa HT_.o (by kernel_rfl)) ?_
       try go_wp2
       replace HO_6 := Aa.k (Kd.R_drew HO_6.o)
       replace HO_10 := Aa.k (Kd.S_drew HO_10.o)
       replace HL562_0 := Aa.k (Kd.R_drew HL562_0.o)
       replace BK9003 := Aa.k (Dt BK9003.o)
       replace BK9014 := Aa.k (Dt BK9014.o)
       replace BK9020 := Aa.k (Dt BK9020.o)
       replace BK9032 := Aa.k (Dt BK9032.o)
       replace BK9036 := Aa.k (Dt BK9036.o)
       replace HR562_0 := Aa.k (Kd.C_drew HR562_0.o)
       replace HB := Aa.k (Cf HB.o)
       have p565 : 0 ≤ (x39_3 : Int) := of_decide_eq_true (by (assumption))
       have q565 : x39_3 < (t495.length : Int) := of_decide_eq_true (by (assumption))
       obtain ⟨ad565, A565_0, c565_0, e565, hx565_0, hl565_0, hi565_0⟩ := at_L4 (Kd.S_reads' HO_10.o).2.2 x39_3 p565 q565
       obtain rfl : ad562 = ad565 := (by injection e565)
       obtain ⟨ce565, hce565, hMe565, hcc565⟩ := Kd.S_get HO_10.o [] x39_3 p565 (by (exact q565))
       obtain ⟨ve565_0, rfl, ge565_0⟩ := hMe565
       have hv565_0 := hcc565 0 _ rfl
       rw [Nat.add_zero, show ((Kd.slice 3 (Kd.int .i64))).sz = 1 from rfl, Nat.mul_one] at hv565_0
       replace hv565_0 := Option.some.inj (hv565_0.symm.trans hx565_0)
       rw [hv565_0] at ge565_0
       have HL565_0 := Aa.k (show Kd.R (Kd.int .i64) 3 _ _ _ _ (Ez t495 x39_3) from ge565_0)
       clear hv565_0 ge565_0
       clear hcc565 hce565
       have HR565_0 := Aa.k hi565_0
       have HC565_0 := Aa.k hl565_0
       clear hi565_0 hl565_0
       replace p565 := eq_true p565
       replace q565 := eq_true q565
       refine Fp (n := 14) (S := fun w' => w'.cell? ⟨gb9003, 0, none⟩ = some (.int .i64 t482) ∧ w'.cell? ⟨gb9003, 1, none⟩ = some (.bool t483) ∧ w'.cell? (ad562.add (x39_3).toNat) = some (.slice A565_0 (Ez t495 x39_3).length c565_0)) (ds := []) #[N_,N_,N_,N_,N_,N_,N_,N_,N_,N_,N_,N_,N_,N_] (by kernel_rfl) rfl rfl ⟨(Aw BK9003.o 0).trans rfl, (Aw BK9003.o 1).trans rfl, hx565_0⟩ (fun hHeld => ?_); refine Dv Ao.tab37 Ao.bits37 (fun HT_ HW_ => ?_)
       generalize w137.drew = w138 at HO_6 HO_10 HL562_0 BK9003 BK9014 BK9020 BK9032 BK9036 HR562_0 HB HL565_0 HR565_0 hx565_0 hHeld ⊢
       apply pq_ 1 272 #[N_,Y_,N_,N_,N_,N_,N_,N_,N_,N_,N_,N_,N_,N_] HT_ rfl rfl (by kernel_rfl) (fun _ _ _ h => h) (by rfl)
       ·intro w'; go_simp; rfl
       ·simp only [Act.put, sT_, sZ_, sS_, Ah, Ai]; rfl
       apply pq_ 2 273 #[N_,Y_,Y_,N_,N_,N_,N_,N_,N_,N_,N_,N_,N_,N_] HT_ rfl rfl (by kernel_rfl) (fun _ _ _ h => h) (by rfl)
       ·intro w'; go_simp; rfl
       ·simp only [Act.put, sT_, sZ_, sS_, Ah, Ai]; rfl
       apply pq_ 3 274 #[N_,Y_,Y_,Y_,N_,N_,N_,N_,N_,N_,N_,N_,N_,N_] HT_ rfl rfl (by kernel_rfl) (fun _ _ _ h => h) (by rfl)
       ·intro w'; go_simp; rfl
       ·simp only [Act.put, sT_, sZ_, sS_, Ah, Ai]; rfl
       apply pq_ 4 275 #[N_,Y_,Y_,Y_,Y_,N_,N_,N_,N_,N_,N_,N_,N_,N_] HT_ rfl rfl (by kernel_rfl) (fun _ _ _ h => h) (by rfl)
       ·intro w'; go_simp; rfl
       ·simp only [Act.put, sT_, sZ_, sS_, Ah, Ai]; rfl
       apply pq_ 6 277 #[N_,Y_,Y_,Y_,Y_,N_,Y_,N_,N_,N_,N_,N_,N_,N_] HT_ rfl rfl (by kernel_rfl) (fun _ _ _ h => h) (by rfl)
       ·intro w'; go_simp; rfl
       ·simp only [Act.put, sT_, sZ_, sS_, Ah, Ai]; rfl
       refine En (i := 0) (N := some 271) (v := ?_) (a' := ?_) #[Y_,Y_,Y_,Y_,Y_,N_,Y_,N_,N_,N_,N_,N_,N_,N_] rfl rfl (Cm HT_.o HW_.o (by kernel_rfl)) (fun _ _ _ h => h) (Or.inl ⟨by rfl, ?_⟩) hHeld ?_ ?_
       rotate_left
       ·rintro w' ⟨s0, s1, s2⟩
        go_simp
        rfl
       rotate_left
       ·simp only [Act.put, sT_, sZ_, sS_, Ah, Ai]
        rfl
       refine En (i := 5) (N := some 276) (v := ?_) (a' := ?_) #[Y_,Y_,Y_,Y_,Y_,Y_,Y_,N_,N_,N_,N_,N_,N_,N_] rfl rfl (Cm HT_.o HW_.o (by kernel_rfl)) (fun _ _ _ h => h) (Or.inl ⟨by rfl, ?_⟩) hHeld ?_ ?_
       rotate_left
       ·rintro w' ⟨s0, s1, s2⟩
        go_simp
        rfl
       rotate_left
       ·simp only [Act.put, sT_, sZ_, sS_, Ah, Ai]
        rfl
       refine join_ (σ := Nat) 2 #[Y_,Y_,Y_,Y_,Y_,Y_,Y_,Y_,Y_,Y_,Y_,Y_,N_,N_] (fun s_ => [(278, .tuple #[.agg #[.int .i64 t566, .int .i64 t567], .bool true]), (42, .pointer (some ⟨s_, 0, none⟩)), (270, .tuple #[.agg #[.int .i64 t566, .int .i64 t567], .bool true]), (279, .agg #[.int .i64 t566, .int .i64 t567]), (280, .bool true)]) (fun s_ w' => (w'.cell? ⟨gb9003, 0, none⟩ = some (.int .i64 t482) ∧ w'.cell? ⟨gb9003, 1, none⟩ = some (.bool t483) ∧ w'.cell? (ad562.add (x39_3).toNat) = some (.slice A565_0 (Ez t495 x39_3).length c565_0)) ∧ (Kd.R (Kd.int .i64) 3 w' w.heap.size (fun k_ => some k_ ≠ (.slice (some ad562) t495.length co64 : Value).ownBlock ∧ some k_ ≠ (.slice Ao62 t487.length co62 : Value).ownBlock) (.slice A562_0 (Ez t495 x39_3).length c562_0) (Ez t495 x39_3)) ∧ (Kd.R (Kd.int .i64) 3 w' w.heap.size (fun k_ => some k_ ≠ (.slice (some ad562) t495.length co64 : Value).ownBlock ∧ some k_ ≠ (.slice Ao62 t487.length co62 : Value).ownBlock) (.slice A565_0 (Ez t495 x39_3).length c565_0) (Ez t495 x39_3)) ∧ (Kd.S (Kd.slice 3 (Kd.int .i64)) 30 w' w.heap.size (fun k_ => some k_ ≠ (.slice Ao62 t487.length co62 : Value).ownBlock) (.slice (some ad562) t495.length co64) t495) ∧ (Kd.R (Kd.int .i64) 3 w' w.heap.size (fun _ => True) (.slice Ao62 t487.length co62) t487) ∧ (w'.heap[gb9003]? = some (.cells #[.int .i64 t482, .bool t483] 25 (0, 0))) ∧ (w'.heap[gb9014]? = some (.cells #[.int .i64 t506, .bool t507] 25 (0, 0))) ∧ (w'.heap[gb9020]? = some (.cells #[.int .i64 t521, .bool t522] 25 (0, 0))) ∧ (w'.heap[gb9032]? = some (.cells #[.int .i64 t550, .int .i64 t551] 56 (0, 0))) ∧ (w'.heap[gb9036]? = some (.cells #[.int .i64 t558, .int .i64 t559] 56 (0, 0))) ∧ (w'.heap[s_]? = some (.cells #[.int .i64 0, .int .i64 0] 56 (0, 0))) ∧ (w.heap.size ≤ s_) ∧ (w.heap.size ≤ s_) ∧ (gb9003 ≠ s_) ∧ (s_ ≠ gb9003) ∧ (gb9014 ≠ s_) ∧ (s_ ≠ gb9014) ∧ (gb9020 ≠ s_) ∧ (s_ ≠ gb9020) ∧ (gb9032 ≠ s_) ∧ (s_ ≠ gb9032) ∧ (gb9036 ≠ s_) ∧ (s_ ≠ gb9036) ∧ (Below w.heap.size w w')) ?_ ?_
       rotate_left
       ·intro hCont
        refine two_ (i := 7) (j := 11) (Ni := some 278) (Nj := some 42) #[Y_,Y_,Y_,Y_,Y_,Y_,Y_,Y_,N_,N_,N_,N_,N_,N_] #[Y_,Y_,Y_,Y_,Y_,Y_,Y_,N_,N_,N_,N_,Y_,N_,N_] rfl rfl rfl rfl (two_of HT_.o (by kernel_rfl)) (by decide) (by decide) (fun K hK => ?_) (fun K hK => ?_)
        ·skip
         refine goes_ Try.func43 (by kernel_rfl) rfl #[.agg #[.int .i64 t482, .bool t483], .int .i64 t484, .slice A565_0 (Ez t495 x39_3).length c565_0, .int .i64 t485] (by rfl) rfl rfl (by (try simp only [mT_, mC_, mN_]); rfl) ?_
         refine (Bw.calls k3 t482 t483 t484 _ _ (Ez t495 x39_3) t485 t566 t567 true _ ?side1 ?side2 A131.o).mono ?_
         (case side1 => repeat ((exact (by exact HR565_0.o))))
         (case side2 => exact HC565_0.o)
         rintro e w139 ⟨rfl, hb⟩
         have HS2_ := (hb.cell (World.block_lt_of_cell? _ _ (hHeld.2.2))).trans (hHeld.2.2)
         refine ⟨_, rfl, ?_⟩
         replace HO_6 := Aa.k (Kd.Ba (by exact HO_6.o) hb)
         replace HO_10 := Aa.k (Kd.Du (by exact HO_10.o) hb)
         replace HL562_0 := Aa.k (Kd.Ba (by exact HL562_0.o) hb)
         replace HL565_0 := Aa.k (Kd.Ba (by exact HL565_0.o) hb)
         replace BK9003 := Aa.k (Ae (g := gb9003) (o := .cells #[.int .i64 t482, .bool t483] 25 (0, 0)) (by exact BK9003.o) hb)
         replace BK9014 := Aa.k (Ae (g := gb9014) (o := .cells #[.int .i64 t506, .bool t507] 25 (0, 0)) (by exact BK9014.o) hb)
         replace BK9020 := Aa.k (Ae (g := gb9020) (o := .cells #[.int .i64 t521, .bool t522] 25 (0, 0)) (by exact BK9020.o) hb)
         replace BK9032 := Aa.k (Ae (g := gb9032) (o := .cells #[.int .i64 t550, .int .i64 t551] 56 (0, 0)) (by exact BK9032.o) hb)
         replace BK9036 := Aa.k (Ae (g := gb9036) (o := .cells #[.int .i64 t558, .int .i64 t559] 56 (0, 0)) (by exact BK9036.o) hb)
         replace HR562_0 := Aa.k (Kd.Dx (by exact HR562_0.o) hb)
         replace HR565_0 := Aa.k (Kd.Dx (by exact HR565_0.o) hb)
         replace HB := Aa.k (Ad HB.o hb)
         (try clear hb)
         (try clear hb2)
         (try clear hk)
         (try clear hi)
         refine hK.out _ _ ⟨(Aw BK9003.o 0).trans rfl, (Aw BK9003.o 1).trans rfl, HS2_⟩ (fun hHeld => ?_)
         clear hK K
         refine Es (a' := ?_) ?_ ?_
         rotate_left
         ·show Act.put _ (some 278) _ = _
          simp only [Act.put, sT_, sZ_, sS_, Ah, Ai]
          rfl
         apply pq_ 8 270 #[Y_,Y_,Y_,Y_,Y_,Y_,Y_,Y_,Y_,N_,N_,N_,N_,N_] HT_ rfl rfl (by kernel_rfl) (fun _ _ _ h => h) (by rfl)
         ·intro w'; go_simp; rfl
         ·simp only [Act.put, sT_, sZ_, sS_, Ah, Ai]; rfl
         apply pq_ 9 279 #[Y_,Y_,Y_,Y_,Y_,Y_,Y_,Y_,Y_,Y_,N_,N_,N_,N_] HT_ rfl rfl (by kernel_rfl) (fun _ _ _ h => h) (by rfl)
         ·intro w'; go_simp; rfl
         ·simp only [Act.put, sT_, sZ_, sS_, Ah, Ai]; rfl
         apply pq_ 10 280 #[Y_,Y_,Y_,Y_,Y_,Y_,Y_,Y_,Y_,Y_,Y_,N_,N_,N_] HT_ rfl rfl (by kernel_rfl) (fun _ _ _ h => h) (by rfl)
         ·intro w'; go_simp; rfl
         ·simp only [Act.put, sT_, sZ_, sS_, Ah, Ai]; rfl
         refine one_ (i := 11) (N := some 42) #[Y_,Y_,Y_,Y_,Y_,Y_,Y_,Y_,Y_,Y_,Y_,Y_,N_,N_] rfl rfl (Ej HT_.o (by kernel_rfl)) (by decide) (fun K hK => ?_)
         refine box_step ?hg (N := 42) ?hd (cs := #[.int .i64 0, .int .i64 0]) (t := 56) ?hr ?_; (case hd => rfl); (case hg => rfl); (case hr => (go_simp; done))
         intro gb9042 hg w140 hbox hb
         have HS2_ := (hb.cell (World.block_lt_of_cell? _ _ (hHeld.2.2))).trans (hHeld.2.2)
         replace HO_6 := Aa.k (Kd.Ba (by exact HO_6.o) hb)
         replace HO_10 := Aa.k (Kd.Du (by exact HO_10.o) hb)
         replace HL562_0 := Aa.k (Kd.Ba (by exact HL562_0.o) hb)
         replace HL565_0 := Aa.k (Kd.Ba (by exact HL565_0.o) hb)
         replace HR562_0 := Aa.k (Kd.Dx (by exact HR562_0.o) hb)
         replace HR565_0 := Aa.k (Kd.Dx (by exact HR565_0.o) hb)
         have BK9042 := Aa.k (hbox)
         have GW9042 := Aa.k ((by rw [hg]; exact (Af HB.o) : w.heap.size ≤ gb9042))
         have GE9042 := Aa.k ((by rw [hg]; exact (Af HB.o) : w.heap.size ≤ gb9042))
         replace HB := Aa.k (Ad HB.o hb)
         have NB9003_9042 := Aa.k ((by rw [hg]; exact Nat.ne_of_lt (Ca (g := gb9003) (o := .cells #[.int .i64 t482, .bool t483] 25 (0, 0)) (by exact BK9003.o)) : gb9003 ≠ gb9042))
         have NB9042_9003 := Aa.k ((by rw [hg]; exact Nat.ne_of_gt (Ca (g := gb9003) (o := .cells #[.int .i64 t482, .bool t483] 25 (0, 0)) (by exact BK9003.o)) : gb9042 ≠ gb9003))
         replace BK9003 := Aa.k (Ae (g := gb9003) (o := .cells #[.int .i64 t482, .bool t483] 25 (0, 0)) (by exact BK9003.o) hb)
         have NB9014_9042 := Aa.k ((by rw [hg]; exact Nat.ne_of_lt (Ca (g := gb9014) (o := .cells #[.int .i64 t506, .bool t507] 25 (0, 0)) (by exact BK9014.o)) : gb9014 ≠ gb9042))
         have NB9042_9014 := Aa.k ((by rw [hg]; exact Nat.ne_of_gt (Ca (g := gb9014) (o := .cells #[.int .i64 t506, .bool t507] 25 (0, 0)) (by exact BK9014.o)) : gb9042 ≠ gb9014))
         replace BK9014 := Aa.k (Ae (g := gb9014) (o := .cells #[.int .i64 t506, .bool t507] 25 (0, 0)) (by exact BK9014.o) hb)
         have NB9020_9042 := Aa.k ((by rw [hg]; exact Nat.ne_of_lt (Ca (g := gb9020) (o := .cells #[.int .i64 t521, .bool t522] 25 (0, 0)) (by exact BK9020.o)) : gb9020 ≠ gb9042))
         have NB9042_9020 := Aa.k ((by rw [hg]; exact Nat.ne_of_gt (Ca (g := gb9020) (o := .cells #[.int .i64 t521, .bool t522] 25 (0, 0)) (by exact BK9020.o)) : gb9042 ≠ gb9020))
         replace BK9020 := Aa.k (Ae (g := gb9020) (o := .cells #[.int .i64 t521, .bool t522] 25 (0, 0)) (by exact BK9020.o) hb)
         have NB9032_9042 := Aa.k ((by rw [hg]; exact Nat.ne_of_lt (Ca (g := gb9032) (o := .cells #[.int .i64 t550, .int .i64 t551] 56 (0, 0)) (by exact BK9032.o)) : gb9032 ≠ gb9042))
         have NB9042_9032 := Aa.k ((by rw [hg]; exact Nat.ne_of_gt (Ca (g := gb9032) (o := .cells #[.int .i64 t550, .int .i64 t551] 56 (0, 0)) (by exact BK9032.o)) : gb9042 ≠ gb9032))
         replace BK9032 := Aa.k (Ae (g := gb9032) (o := .cells #[.int .i64 t550, .int .i64 t551] 56 (0, 0)) (by exact BK9032.o) hb)
         have NB9036_9042 := Aa.k ((by rw [hg]; exact Nat.ne_of_lt (Ca (g := gb9036) (o := .cells #[.int .i64 t558, .int .i64 t559] 56 (0, 0)) (by exact BK9036.o)) : gb9036 ≠ gb9042))
         have NB9042_9036 := Aa.k ((by rw [hg]; exact Nat.ne_of_gt (Ca (g := gb9036) (o := .cells #[.int .i64 t558, .int .i64 t559] 56 (0, 0)) (by exact BK9036.o)) : gb9042 ≠ gb9036))
         replace BK9036 := Aa.k (Ae (g := gb9036) (o := .cells #[.int .i64 t558, .int .i64 t559] 56 (0, 0)) (by exact BK9036.o) hb)
         clear hb hbox hg
         refine hK.out _ _ ⟨(Aw BK9003.o 0).trans rfl, (Aw BK9003.o 1).trans rfl, HS2_⟩ (fun hHeld => ?_)
         clear hK K
         refine Es (a' := ?_) ?_ ?_
         rotate_left
         ·show Act.put _ (some 42) _ = _
          simp only [Act.put, sT_, sZ_, sS_, Ah, Ai]
          rfl
         exact Es (by simp only [putAll, Act.put, sT_, sZ_, sS_]) (hCont (gb9042) _ ⟨hHeld, (by exact Kd.Bv HL562_0.o (fun _ hk => ⟨hk.2, hk.1⟩)), (by exact Kd.Bv HL565_0.o (fun _ hk => ⟨hk.2, hk.1⟩)), (by exact HO_10.o), (by exact HO_6.o), (by exact BK9003.o), (by exact BK9014.o), (by exact BK9020.o), (by exact BK9032.o), (by exact BK9036.o), (by exact BK9042.o), GW9042.o, GE9042.o, NB9003_9042.o, NB9042_9003.o, NB9014_9042.o, NB9042_9014.o, NB9020_9042.o, NB9042_9020.o, NB9032_9042.o, NB9042_9032.o, NB9036_9042.o, NB9042_9036.o, HB.o⟩)
        ·skip
         refine box_step ?hg (N := 42) ?hd (cs := #[.int .i64 0, .int .i64 0]) (t := 56) ?hr ?_; (case hd => rfl); (case hg => rfl); (case hr => (go_simp; done))
         intro gb9042 hg w139 hbox hb
         have HS2_ := (hb.cell (World.block_lt_of_cell? _ _ (hHeld.2.2))).trans (hHeld.2.2)
         replace HO_6 := Aa.k (Kd.Ba (by exact HO_6.o) hb)
         replace HO_10 := Aa.k (Kd.Du (by exact HO_10.o) hb)
         replace HL562_0 := Aa.k (Kd.Ba (by exact HL562_0.o) hb)
         replace HL565_0 := Aa.k (Kd.Ba (by exact HL565_0.o) hb)
         replace HR562_0 := Aa.k (Kd.Dx (by exact HR562_0.o) hb)
         replace HR565_0 := Aa.k (Kd.Dx (by exact HR565_0.o) hb)
         have BK9042 := Aa.k (hbox)
         have GW9042 := Aa.k ((by rw [hg]; exact (Af HB.o) : w.heap.size ≤ gb9042))
         have GE9042 := Aa.k ((by rw [hg]; exact (Af HB.o) : w.heap.size ≤ gb9042))
         replace HB := Aa.k (Ad HB.o hb)
         have NB9003_9042 := Aa.k ((by rw [hg]; exact Nat.ne_of_lt (Ca (g := gb9003) (o := .cells #[.int .i64 t482, .bool t483] 25 (0, 0)) (by exact BK9003.o)) : gb9003 ≠ gb9042))
         have NB9042_9003 := Aa.k ((by rw [hg]; exact Nat.ne_of_gt (Ca (g := gb9003) (o := .cells #[.int .i64 t482, .bool t483] 25 (0, 0)) (by exact BK9003.o)) : gb9042 ≠ gb9003))
         replace BK9003 := Aa.k (Ae (g := gb9003) (o := .cells #[.int .i64 t482, .bool t483] 25 (0, 0)) (by exact BK9003.o) hb)
         have NB9014_9042 := Aa.k ((by rw [hg]; exact Nat.ne_of_lt (Ca (g := gb9014) (o := .cells #[.int .i64 t506, .bool t507] 25 (0, 0)) (by exact BK9014.o)) : gb9014 ≠ gb9042))
         have NB9042_9014 := Aa.k ((by rw [hg]; exact Nat.ne_of_gt (Ca (g := gb9014) (o := .cells #[.int .i64 t506, .bool t507] 25 (0, 0)) (by exact BK9014.o)) : gb9042 ≠ gb9014))
         replace BK9014 := Aa.k (Ae (g := gb9014) (o := .cells #[.int .i64 t506, .bool t507] 25 (0, 0)) (by exact BK9014.o) hb)
         have NB9020_9042 := Aa.k ((by rw [hg]; exact Nat.ne_of_lt (Ca (g := gb9020) (o := .cells #[.int .i64 t521, .bool t522] 25 (0, 0)) (by exact BK9020.o)) : gb9020 ≠ gb9042))
         have NB9042_9020 := Aa.k ((by rw [hg]; exact Nat.ne_of_gt (Ca (g := gb9020) (o := .cells #[.int .i64 t521, .bool t522] 25 (0, 0)) (by exact BK9020.o)) : gb9042 ≠ gb9020))
         replace BK9020 := Aa.k (Ae (g := gb9020) (o := .cells #[.int .i64 t521, .bool t522] 25 (0, 0)) (by exact BK9020.o) hb)
         have NB9032_9042 := Aa.k ((by rw [hg]; exact Nat.ne_of_lt (Ca (g := gb9032) (o := .cells #[.int .i64 t550, .int .i64 t551] 56 (0, 0)) (by exact BK9032.o)) : gb9032 ≠ gb9042))
         have NB9042_9032 := Aa.k ((by rw [hg]; exact Nat.ne_of_gt (Ca (g := gb9032) (o := .cells #[.int .i64 t550, .int .i64 t551] 56 (0, 0)) (by exact BK9032.o)) : gb9042 ≠ gb9032))
         replace BK9032 := Aa.k (Ae (g := gb9032) (o := .cells #[.int .i64 t550, .int .i64 t551] 56 (0, 0)) (by exact BK9032.o) hb)
         have NB9036_9042 := Aa.k ((by rw [hg]; exact Nat.ne_of_lt (Ca (g := gb9036) (o := .cells #[.int .i64 t558, .int .i64 t559] 56 (0, 0)) (by exact BK9036.o)) : gb9036 ≠ gb9042))
         have NB9042_9036 := Aa.k ((by rw [hg]; exact Nat.ne_of_gt (Ca (g := gb9036) (o := .cells #[.int .i64 t558, .int .i64 t559] 56 (0, 0)) (by exact BK9036.o)) : gb9042 ≠ gb9036))
         replace BK9036 := Aa.k (Ae (g := gb9036) (o := .cells #[.int .i64 t558, .int .i64 t559] 56 (0, 0)) (by exact BK9036.o) hb)
         clear hb hbox hg
         refine hK.out _ _ ⟨(Aw BK9003.o 0).trans rfl, (Aw BK9003.o 1).trans rfl, HS2_⟩ (fun hHeld => ?_)
         clear hK K
         refine Es (a' := ?_) ?_ ?_
         rotate_left
         ·show Act.put _ (some 42) _ = _
          simp only [Act.put, sT_, sZ_, sS_, Ah, Ai]
          rfl
         refine one_ (i := 7) (N := some 278) #[Y_,Y_,Y_,Y_,Y_,Y_,Y_,Y_,N_,N_,N_,Y_,N_,N_] rfl rfl (Ej HT_.o (by kernel_rfl)) (by decide) (fun K hK => ?_)
         refine goes_ Try.func43 (by kernel_rfl) rfl #[.agg #[.int .i64 t482, .bool t483], .int .i64 t484, .slice A565_0 (Ez t495 x39_3).length c565_0, .int .i64 t485] (by rfl) rfl rfl (by (try simp only [mT_, mC_, mN_]); rfl) ?_
         refine (Bw.calls k3 t482 t483 t484 _ _ (Ez t495 x39_3) t485 t566 t567 true _ ?side1 ?side2 A131.o).mono ?_
         (case side1 => repeat ((exact (by exact HR565_0.o))))
         (case side2 => exact HC565_0.o)
         rintro e w140 ⟨rfl, hb⟩
         have HS2_ := (hb.cell (World.block_lt_of_cell? _ _ (hHeld.2.2))).trans (hHeld.2.2)
         refine ⟨_, rfl, ?_⟩
         replace HO_6 := Aa.k (Kd.Ba (by exact HO_6.o) hb)
         replace HO_10 := Aa.k (Kd.Du (by exact HO_10.o) hb)
         replace HL562_0 := Aa.k (Kd.Ba (by exact HL562_0.o) hb)
         replace HL565_0 := Aa.k (Kd.Ba (by exact HL565_0.o) hb)
         replace BK9003 := Aa.k (Ae (g := gb9003) (o := .cells #[.int .i64 t482, .bool t483] 25 (0, 0)) (by exact BK9003.o) hb)
         replace BK9014 := Aa.k (Ae (g := gb9014) (o := .cells #[.int .i64 t506, .bool t507] 25 (0, 0)) (by exact BK9014.o) hb)
         replace BK9020 := Aa.k (Ae (g := gb9020) (o := .cells #[.int .i64 t521, .bool t522] 25 (0, 0)) (by exact BK9020.o) hb)
         replace BK9032 := Aa.k (Ae (g := gb9032) (o := .cells #[.int .i64 t550, .int .i64 t551] 56 (0, 0)) (by exact BK9032.o) hb)
         replace BK9036 := Aa.k (Ae (g := gb9036) (o := .cells #[.int .i64 t558, .int .i64 t559] 56 (0, 0)) (by exact BK9036.o) hb)
         replace HR562_0 := Aa.k (Kd.Dx (by exact HR562_0.o) hb)
         replace HR565_0 := Aa.k (Kd.Dx (by exact HR565_0.o) hb)
         replace BK9042 := Aa.k (Ae (g := gb9042) (o := .cells #[.int .i64 0, .int .i64 0] 56 (0, 0)) (by exact BK9042.o) hb)
         replace HB := Aa.k (Ad HB.o hb)
         (try clear hb)
         (try clear hb2)
         (try clear hk)
         (try clear hi)
         refine hK.out _ _ ⟨(Aw BK9003.o 0).trans rfl, (Aw BK9003.o 1).trans rfl, HS2_⟩ (fun hHeld => ?_)
         clear hK K
         refine Es (a' := ?_) ?_ ?_
         rotate_left
         ·show Act.put _ (some 278) _ = _
          simp only [Act.put, sT_, sZ_, sS_, Ah, Ai]
          rfl
         apply pq_ 8 270 #[Y_,Y_,Y_,Y_,Y_,Y_,Y_,Y_,Y_,N_,N_,Y_,N_,N_] HT_ rfl rfl (by kernel_rfl) (fun _ _ _ h => h) (by rfl)
         ·intro w'; go_simp; rfl
         ·simp only [Act.put, sT_, sZ_, sS_, Ah, Ai]; rfl
         apply pq_ 9 279 #[Y_,Y_,Y_,Y_,Y_,Y_,Y_,Y_,Y_,Y_,N_,Y_,N_,N_] HT_ rfl rfl (by kernel_rfl) (fun _ _ _ h => h) (by rfl)
         ·intro w'; go_simp; rfl
         ·simp only [Act.put, sT_, sZ_, sS_, Ah, Ai]; rfl
         apply pq_ 10 280 #[Y_,Y_,Y_,Y_,Y_,Y_,Y_,Y_,Y_,Y_,Y_,Y_,N_,N_] HT_ rfl rfl (by kernel_rfl) (fun _ _ _ h => h) (by rfl)
         ·intro w'; go_simp; rfl
         ·simp only [Act.put, sT_, sZ_, sS_, Ah, Ai]; rfl
         exact Es (by simp only [putAll, Act.put, sT_, sZ_, sS_]) (hCont (gb9042) _ ⟨hHeld, (by exact Kd.Bv HL562_0.o (fun _ hk => ⟨hk.2, hk.1⟩)), (by exact Kd.Bv HL565_0.o (fun _ hk => ⟨hk.2, hk.1⟩)), (by exact HO_10.o), (by exact HO_6.o), (by exact BK9003.o), (by exact BK9014.o), (by exact BK9020.o), (by exact BK9032.o), (by exact BK9036.o), (by exact BK9042.o), GW9042.o, GE9042.o, NB9003_9042.o, NB9042_9003.o, NB9014_9042.o, NB9042_9014.o, NB9020_9042.o, NB9042_9020.o, NB9032_9042.o, NB9042_9032.o, NB9036_9042.o, NB9042_9036.o, HB.o⟩)
       rintro gb9042 w141 ⟨hS_, h0_, h1_, h2_, h3_, h4_, h5_, h6_, h7_, h8_, h9_, h10_, h11_, h12_, h13_, h14_, h15_, h16_, h17_, h18_, h19_, h20_, h21_, h22_⟩
       have n0_ : Aa (Kd.R (Kd.int .i64) 3 w141 w.heap.size (fun k_ => some k_ ≠ (.slice (some ad562) t495.length co64 : Value).ownBlock ∧ some k_ ≠ (.slice Ao62 t487.length co62 : Value).ownBlock) (.slice A562_0 (Ez t495 x39_3).length c562_0) (Ez t495 x39_3)) := ⟨h0_⟩
       have n1_ : Aa (Kd.R (Kd.int .i64) 3 w141 w.heap.size (fun k_ => some k_ ≠ (.slice (some ad562) t495.length co64 : Value).ownBlock ∧ some k_ ≠ (.slice Ao62 t487.length co62 : Value).ownBlock) (.slice A565_0 (Ez t495 x39_3).length c565_0) (Ez t495 x39_3)) := ⟨h1_⟩
       have n2_ : Aa (Kd.S (Kd.slice 3 (Kd.int .i64)) 30 w141 w.heap.size (fun k_ => some k_ ≠ (.slice Ao62 t487.length co62 : Value).ownBlock) (.slice (some ad562) t495.length co64) t495) := ⟨h2_⟩
       have n3_ : Aa (Kd.R (Kd.int .i64) 3 w141 w.heap.size (fun _ => True) (.slice Ao62 t487.length co62) t487) := ⟨h3_⟩
       have n4_ : Aa (w141.heap[gb9003]? = some (.cells #[.int .i64 t482, .bool t483] 25 (0, 0))) := ⟨h4_⟩
       have n5_ : Aa (w141.heap[gb9014]? = some (.cells #[.int .i64 t506, .bool t507] 25 (0, 0))) := ⟨h5_⟩
       have n6_ : Aa (w141.heap[gb9020]? = some (.cells #[.int .i64 t521, .bool t522] 25 (0, 0))) := ⟨h6_⟩
       have n7_ : Aa (w141.heap[gb9032]? = some (.cells #[.int .i64 t550, .int .i64 t551] 56 (0, 0))) := ⟨h7_⟩
       have n8_ : Aa (w141.heap[gb9036]? = some (.cells #[.int .i64 t558, .int .i64 t559] 56 (0, 0))) := ⟨h8_⟩
       have n9_ : Aa (w141.heap[gb9042]? = some (.cells #[.int .i64 0, .int .i64 0] 56 (0, 0))) := ⟨h9_⟩
       have n10_ : Aa (w.heap.size ≤ gb9042) := ⟨h10_⟩
       have n11_ : Aa (w.heap.size ≤ gb9042) := ⟨h11_⟩
       have n12_ : Aa (gb9003 ≠ gb9042) := ⟨h12_⟩
       have n13_ : Aa (gb9042 ≠ gb9003) := ⟨h13_⟩
       have n14_ : Aa (gb9014 ≠ gb9042) := ⟨h14_⟩
       have n15_ : Aa (gb9042 ≠ gb9014) := ⟨h15_⟩
       have n16_ : Aa (gb9020 ≠ gb9042) := ⟨h16_⟩
       have n17_ : Aa (gb9042 ≠ gb9020) := ⟨h17_⟩
       have n18_ : Aa (gb9032 ≠ gb9042) := ⟨h18_⟩
       have n19_ : Aa (gb9042 ≠ gb9032) := ⟨h19_⟩
       have n20_ : Aa (gb9036 ≠ gb9042) := ⟨h20_⟩
       have n21_ : Aa (gb9042 ≠ gb9036) := ⟨h21_⟩
       have n22_ : Aa (Below w.heap.size w w141) := ⟨h22_⟩
       clear HO_6
       clear HO_10
       clear HL562_0
       clear BK9003
       clear BK9014
       clear BK9020
       clear BK9032
       clear BK9036
       clear HR562_0
       clear HB
       clear h0_ h1_ h2_ h3_ h4_ h5_ h6_ h7_ h8_ h9_ h10_ h11_ h12_ h13_ h14_ h15_ h16_ h17_ h18_ h19_ h20_ h21_ h22_
       have HL562_0 := n0_
       have HL565_0 := n1_
       have HO_10 := n2_
       have HO_6 := n3_
       have BK9003 := n4_
       have BK9014 := n5_
       have BK9020 := n6_
       have BK9032 := n7_
       have BK9036 := n8_
       have BK9042 := n9_
       have GW9042 := n10_
       have GE9042 := n11_
       have NB9003_9042 := n12_
       have NB9042_9003 := n13_
       have NB9014_9042 := n14_
       have NB9042_9014 := n15_
       have NB9020_9042 := n16_
       have NB9042_9020 := n17_
       have NB9032_9042 := n18_
       have NB9042_9032 := n19_
       have NB9036_9042 := n20_
       have NB9042_9036 := n21_
       have HB := n22_
       clear n0_ n1_ n2_ n3_ n4_ n5_ n6_ n7_ n8_ n9_ n10_ n11_ n12_ n13_ n14_ n15_ n16_ n17_ n18_ n19_ n20_ n21_ n22_
       have hHeld : w141.cell? ⟨gb9003, 0, none⟩ = some (.int .i64 t482) ∧ w141.cell? ⟨gb9003, 1, none⟩ = some (.bool t483) ∧ w141.cell? (ad562.add (x39_3).toNat) = some (.slice A565_0 (Ez t495 x39_3).length c565_0) := hS_
       refine Es (a' := ?_) ?_ ?_
       rotate_left
       ·simp only [putAll, Act.put, sT_, sZ_, sS_]
        rfl
       refine one_ (i := 12) (N := none) #[Y_,Y_,Y_,Y_,Y_,Y_,Y_,Y_,Y_,Y_,Y_,Y_,Y_,N_] rfl rfl (Ej HT_.o (by kernel_rfl)) (by decide) (fun K hK => ?_)
       have hs142 : w141.cell? ⟨gb9042, 0, none⟩ = some (.int .i64 0) := (Aw BK9042.o 0).trans rfl
       have hfs142 := Ac BK9042.o 0
       have hns142_0 := NB9003_9042.o
       have hns142_1 := NB9014_9042.o
       have hns142_2 := NB9020_9042.o
       have hns142_3 := NB9032_9042.o
       have hns142_4 := NB9036_9042.o
       have hms142_0 := NB9042_9003.o
       have hms142_1 := NB9042_9014.o
       have hms142_2 := NB9042_9020.o
       have hms142_3 := NB9042_9032.o
       have hms142_4 := NB9042_9036.o
       have hs143 : w141.cell? ⟨gb9042, 1, none⟩ = some (.int .i64 0) := (Aw BK9042.o 1).trans rfl
       have hfs143 := Ac BK9042.o 1
       have hns143_0 := NB9003_9042.o
       have hns143_1 := NB9014_9042.o
       have hns143_2 := NB9020_9042.o
       have hns143_3 := NB9032_9042.o
       have hns143_4 := NB9036_9042.o
       have hms143_0 := NB9042_9003.o
       have hms143_1 := NB9042_9014.o
       have hms143_2 := NB9042_9020.o
       have hms143_3 := NB9042_9032.o
       have hms143_4 := NB9042_9036.o
       refine skip_ (w1 := ?_) (by rfl) rfl ?_ ?_
       rotate_left
       ·go_simp
        rfl
       refine hK.out _ _ ⟨((cell_far (p := ⟨gb9042, _, none⟩) NB9003_9042.o _).trans (((cell_far (p := ⟨gb9042, _, none⟩) NB9003_9042.o _).trans (hHeld.1)))), ((cell_far (p := ⟨gb9042, _, none⟩) NB9003_9042.o _).trans (((cell_far (p := ⟨gb9042, _, none⟩) NB9003_9042.o _).trans (hHeld.2.1)))), ((cell_far (p := ⟨gb9042, _, none⟩) (by (rw [add_block]; exact Kd.own_blk (Kd.S_ne HO_10.o BK9042.o (by decide)))) _).trans (((cell_far (p := ⟨gb9042, _, none⟩) (by (rw [add_block]; exact Kd.own_blk (Kd.S_ne HO_10.o BK9042.o (by decide)))) _).trans (hHeld.2.2))))⟩ (fun hHeld => ?_)
       clear hK K
       apply pq_ 13 43 #[Y_,Y_,Y_,Y_,Y_,Y_,Y_,Y_,Y_,Y_,Y_,Y_,Y_,Y_] HT_ rfl rfl (by kernel_rfl) (fun _ _ _ h => h) (by rfl)
       ·intro w'; go_simp; rfl
       ·simp only [Act.put, sT_, sZ_, sS_, Ah, Ai]; rfl
       refine done_ (Fa HT_.o (by kernel_rfl)) ?_
       have hnb144 := NB9042_9003.o
       have hnc144 := NB9003_9042.o
       have hnb145 := NB9042_9014.o
       have hnc145 := NB9014_9042.o
       have hnb146 := NB9042_9020.o
       have hnc146 := NB9020_9042.o
       have hnb147 := NB9042_9032.o
       have hnc147 := NB9032_9042.o
       have hnb148 := NB9042_9036.o
       have hnc148 := NB9036_9042.o
       have hcz149_0 := Bj BK9042.o
       have hcz149_1 := Bn BK9042.o
       have hfz149_0 := Ac BK9042.o 0
       have hfz149_1 := Ac BK9042.o 1
       have hnb150 := NB9032_9003.o
       have hnc150 := NB9003_9032.o
       have hnb151 := NB9032_9014.o
       have hnc151 := NB9014_9032.o
       have hnb152 := NB9032_9020.o
       have hnc152 := NB9020_9032.o
       have hnb153 := NB9032_9036.o
       have hnc153 := NB9036_9032.o
       have hcz154_0 := Bj BK9032.o
       have hcz154_1 := Bn BK9032.o
       have hfz154_0 := Ac BK9032.o 0
       have hfz154_1 := Ac BK9032.o 1
       go_upto_if 303 with (fail)
       go_cut [] (fun wc => ∃ (kq : Nat), Aa (Ao.j3 kq t484 t485 t487 t495 x38_3 x39_3 t482 t483 t550 t551 = some r) ∧ Aa (kq ≤ k3) ∧ Aa (Kd.R (Kd.int .i64) 3 wc w.heap.size (fun _ => True) (.slice Ao62 t487.length co62) t487) ∧ Aa (Kd.S (Kd.slice 3 (Kd.int .i64)) 30 wc w.heap.size (fun k_ => some k_ ≠ ((.slice Ao62 t487.length co62) : Value).ownBlock) (.slice (some ad562) t495.length co64) t495) ∧ Aa (wc.heap[gb9003]? = some (.cells #[.int .i64 t482, .bool t483] 25 (0, 0))) ∧ Aa (wc.heap[gb9014]? = some (.cells #[.int .i64 t506, .bool t507] 25 (0, 0))) ∧ Aa (wc.heap[gb9020]? = some (.cells #[.int .i64 t521, .bool t522] 25 (0, 0))) ∧ Aa (wc.heap[gb9032]? = some (.cells #[.int .i64 t550, .int .i64 t551] 56 (0, 0))) ∧ Aa (wc.heap[gb9036]? = some (.cells #[.int .i64 t558, .int .i64 t559] 56 (0, 0))) ∧ Aa (wc.heap[gb9042]? = some (.cells #[.int .i64 t566, .int .i64 t567] 56 (0, 0))) ∧ Aa (Below w.heap.size w wc))
       case first => as_aux_lemma =>
        have H := HC135.o
        clear HC135
        by_cases c155 : (wrap64 (t566 * t551)) < (wrap64 (t550 * t567))
        ·rw [if_pos c155] at H
         exact absurd H (by simp)
        rw [if_neg c155] at H
        have c155b0 : decide ((wrap64 (t566 * t551)) < (wrap64 (t550 * t567))) = false := decide_eq_false c155
        clear c155
        ((rw [c155b0]))
        have H' := Aa.k H
        clear H
        go_wp2
        go_meet
        case rel => exact ⟨_, H', ⟨by have := HJ30.o; have := HJ87.o; have := HK3.o; (omega)⟩, ⟨by exact Kd.Bv (Kd.Dc (p := ⟨gb9042, 1, none⟩) (Kd.Dc (p := ⟨gb9042, 0, none⟩) (Kd.Dh HO_6.o BK9042.o (by decide)) (fun _ hk => hk.2) (.int .i64 t566)) (fun _ hk => hk.2) (.int .i64 t567)) (fun _ hk => trivial)⟩, ⟨by exact Kd.S_mono (Kd.S_far (p := ⟨gb9042, 1, none⟩) (Kd.S_far (p := ⟨gb9042, 0, none⟩) (Kd.S_types HO_10.o BK9042.o (by decide)) (fun _ hk => hk.2) (.int .i64 t566)) (fun _ hk => hk.2) (.int .i64 t567)) (fun _ hk => hk.1)⟩, ⟨by refine Cb ?_ NB9003_9042.o _; refine Cb ?_ NB9003_9042.o _; exact BK9003.o⟩, ⟨by refine Cb ?_ NB9014_9042.o _; refine Cb ?_ NB9014_9042.o _; exact BK9014.o⟩, ⟨by refine Cb ?_ NB9020_9042.o _; refine Cb ?_ NB9020_9042.o _; exact BK9020.o⟩, ⟨by refine Cb ?_ NB9032_9042.o _; refine Cb ?_ NB9032_9042.o _; exact BK9032.o⟩, ⟨by refine Cb ?_ NB9036_9042.o _; refine Cb ?_ NB9036_9042.o _; exact BK9036.o⟩, ⟨by refine Cr (cs := #[.int .i64 t566, .int .i64 0]) ?_ 1 _ rfl; refine Cr (cs := #[.int .i64 0, .int .i64 0]) ?_ 0 _ rfl; exact BK9042.o⟩, ⟨by repeat ((with_reducible first | exact HB.o | refine Bz ?_ GE9042.o))⟩⟩
       case rest => as_aux_lemma =>
        clear HC135
        (try clear c1); (try clear p2); (try clear c4); (try clear c5); (try clear p5); (try clear q5); (try clear hx5); (try clear p6); (try clear c14); (try clear c15); (try clear c43); (try clear c56); (try clear p56); (try clear q56); (try clear hx56); (try clear p64); (try clear c144)
        (try clear c145); (try clear c146); (try clear c147); (try clear c148); (try clear c150); (try clear c151); (try clear c152); (try clear c153); (try clear c155); (try clear c155b0); (try clear hcz149_0); (try clear hcz149_1); (try clear hcz154_0); (try clear hcz154_1); (try clear hfz149_0)
        (try clear hfz149_1); (try clear hfz154_0); (try clear hfz154_1); (try clear hx565_0); (try clear p565); (try clear q565)
        obtain ⟨kq, HA, HJ134, HO_6, HO_10, BK9003, BK9014, BK9020, BK9032, BK9036, BK9042, HB⟩ := hcut
        cases kq with
        | zero => exact absurd HA.o (by simp [Ao.j3])
        | succ kj134 =>
         have H := HA.o
         clear HA
         simp only [Ao.j3] at H
         by_cases c156 : x38_3 = true
         ·subst c156
          rw [if_pos rfl] at H
          have H' := Aa.k H
          clear H
          go_wp2
          go_roundg kj134
          case measure => have := HJ30.o; have := HJ87.o; have := HK3.o; have := HJ134.o; omega
          case rel => exact ⟨(true), (wrap64 (x39_3 + 1)), (by (rfl)), (by (rfl)), H', ⟨by have := HJ30.o; have := HJ87.o; have := HK3.o; have := HJ134.o; omega⟩, ⟨by exact HO_6.o⟩, ⟨by exact HO_10.o⟩, ⟨by exact BK9003.o⟩, ⟨by exact BK9014.o⟩, ⟨by exact BK9020.o⟩, ⟨by exact BK9032.o⟩, ⟨by exact BK9036.o⟩, ⟨by exact HB.o⟩⟩
         replace c156 := Bool.eq_false_iff.mpr c156
         subst c156
         rw [if_neg (show ¬ (false = true) by decide)] at H
         by_cases c157 : 0 ≤ x39_3
         rotate_left
         ·rw [if_neg c157] at H
          exact absurd H (by simp)
         rw [if_pos c157] at H
         have c157b0 : decide (0 ≤ x39_3) = true := decide_eq_true c157
         clear c157
         by_cases c158 : x39_3 < (t495.length : Int)
         rotate_left
         ·rw [if_neg c158] at H
          exact absurd H (by simp)
         rw [if_pos c158] at H
         have c158b0 : decide (x39_3 < (t495.length : Int)) = true := decide_eq_true c158
         clear c158
         obtain ⟨t571, A1590, H⟩ := bindS_ H
         try dsimp only at H
         have A159 := Aa.k A1590
         clear A1590
         have H' := Aa.k H
         clear H
         have p570 : 0 ≤ (x39_3 : Int) := of_decide_eq_true (by (assumption))
         have q570 : x39_3 < (t495.length : Int) := of_decide_eq_true (by (assumption))
         obtain ⟨ad570, A570_0, c570_0, e570, hx570_0, hl570_0, hi570_0⟩ := at_L4 (Kd.S_reads' HO_10.o).2.2 x39_3 p570 q570
         obtain rfl : ad562 = ad570 := (by injection e570)
         obtain ⟨ce570, hce570, hMe570, hcc570⟩ := Kd.S_get HO_10.o [] x39_3 p570 (by (exact q570))
         obtain ⟨ve570_0, rfl, ge570_0⟩ := hMe570
         have hv570_0 := hcc570 0 _ rfl
         rw [Nat.add_zero, show ((Kd.slice 3 (Kd.int .i64))).sz = 1 from rfl, Nat.mul_one] at hv570_0
         replace hv570_0 := Option.some.inj (hv570_0.symm.trans hx570_0)
         rw [hv570_0] at ge570_0
         have HL570_0 := Aa.k (show Kd.R (Kd.int .i64) 3 _ _ _ _ (Ez t495 x39_3) from ge570_0)
         clear hv570_0 ge570_0
         clear hcc570 hce570
         have HR570_0 := Aa.k hi570_0
         have HC570_0 := Aa.k hl570_0
         clear hi570_0 hl570_0
         replace p570 := eq_true p570
         replace q570 := eq_true q570
         go_wp2_with ((go_at_call 40; (refine (Cg.calls kj134 _ _ (Ez t495 x39_3) _ _ t487 t571 _ ?side1 ?side2 ?side3 ?side4 A159.o).mono ?_); (case side1 => repeat ((exact (by exact HR570_0.o)))); (case side2 => exact HC570_0.o); (case side3 => repeat (exact (Kd.Bb HO_6.o).2.2)); (case side4 => exact (Kd.Bb HO_6.o).2.1); rintro e w' ⟨rfl, ⟨nd, rfl⟩⟩))
         go_roundg kj134
         case measure => have := HJ30.o; have := HJ87.o; have := HK3.o; have := HJ134.o; omega
         case rel => exact ⟨(t571), (wrap64 (x39_3 + 1)), (by (rfl)), (by (rfl)), H', ⟨by have := HJ30.o; have := HJ87.o; have := HK3.o; have := HJ134.o; omega⟩, ⟨by (with_reducible repeat ((apply Kd.Ee))); exact HO_6.o⟩, ⟨by (with_reducible repeat ((apply Kd.S_drewN))); exact HO_10.o⟩, ⟨by (with_reducible repeat ((refine Dk ?_ _))); exact BK9003.o⟩, ⟨by (with_reducible repeat ((refine Dk ?_ _))); exact BK9014.o⟩, ⟨by (with_reducible repeat ((refine Dk ?_ _))); exact BK9020.o⟩, ⟨by (with_reducible repeat ((refine Dk ?_ _))); exact BK9032.o⟩, ⟨by (with_reducible repeat ((refine Dk ?_ _))); exact BK9036.o⟩, ⟨by repeat ((with_reducible first | exact HB.o | apply Bh))⟩⟩

/-- THE ONE PURE STATEMENT of laws_FnBestSearch: yours. -/
def Ao.Pure : Prop := ∀ (l0 : List Int), l0.length ≤ maxLen → l0.length * 1 ≤ 140737488351232 → (∀ x ∈ l0, (Lit.int .u8 x).wf = true) → ∃ k, Ao.f k l0 = some true
theorem Ao.walk (P : Ao.Pure) (a0 : Option Addr) (len0 cap0 : Nat) (z0 : List Int) (w : World) (w0 : (a0 = none ∧ len0 = 0 ∧ cap0 = 0 ∧ z0 = []) ∨ ∃ x, a0 = some x ∧ len0 ≤ cap0 ∧ cap0 ≤ maxLen ∧ z0.length = cap0 ∧ (∀ i, i < z0.length → w.cell? (x.add i) = some (.int .u8 (z0.getD i 0))) ∧ ∀ n ∈ z0, (Lit.int .u8 n).wf = true) (y0 : len0 * 1 ≤ 140737488351232) :
  Calls Try.prog 5 #[.slice a0 len0 cap0] w fun e w' => e = .returned (.bool true) ∧ Below w.heap.size w w' := by
 obtain ⟨l0, rfl, hr0, hm0, hw0, hc0⟩ := ReadsInt.ofRowC w0
 obtain ⟨k, h⟩ := P l0 hm0 y0 hw0
 refine (Ao.calls k _ _ l0 true w (Kd.C_of_reads (d := (0 : Int)) (h1 := fun _ => rfl) hr0) hc0 h).mono ?_
 rintro e w' ⟨rfl, hd⟩
 exact ⟨rfl, hd⟩

end Go.Proofs.Ytogflbocmiogpaa.PFnBestSearch
