-- Written for this claim by this session's turned copy of the printer.
import Derived.Test.YtogflbocmiogpaaPFnBestSearchx0
namespace Go.Proofs.Ytogflbocmiogpaa.PFnBestSearch
open Go.RowKit Go.Proofs.YtogflbocmiogpaaW.PrintWords Go.Proofs.YtogflbocmiogpaaW.PrintLast Go.Proofs.YtogflbocmiogpaaW.PrintMore
open List renaming map_toArray → mT_, map_cons → mC_, map_nil → mN_
attribute [local go_sem] max2_int min2_int max_two min_two Fj Fh max_four min_four   -- for this text's walks alone
set_option linter.unusedVariables false
set_option linter.unusedSimpArgs false

/-! ### laws_vBig: function 21 -/
def laws_vBig.f (l0 : List Int) : Option (Bool) := some (decide ((l0.length : Int) > 65536))
set_option maxHeartbeats 8000000 in
set_option maxRecDepth 100000 in
theorem laws_vBig.calls (A0 : Option Addr) (c0 : Nat) (l0 : List Int) (r : Bool) (w : World) (hr0 : Kd.C (Kd.int .u8) w A0 l0.length l0) (hc0 : l0.length ≤ c0) (h : laws_vBig.f l0 = some r) :
  Calls Try.prog 21 #[.slice A0 l0.length c0] w fun e w' => e = .returned (.bool r) ∧ Cu w w' := by
 have HR0 := Aa.k hr0
 have HC0 := Aa.k hc0
 clear hr0 hc0
 have H : (some (decide ((l0.length : Int) > 65536))) = some r := h
 clear h
 obtain rfl := Option.some.inj H
 go_enter Try.func21, Try.ntmps21
 go_wp2
 go_ret
 exact ⟨by (rfl), by repeat (exact Cu.refl _)⟩

/-! ### laws_vCut: function 26 -/
def laws_vCut.f (l0 : List Int) (a1 : Int) : Option (List Int) := if a1 > (l0.length : Int) then ((some (([] : List Int) : List Int)).bind fun y101 => (if 0 ≤ (l0.length : Int) then (if (l0.length : Int) ≤ (l0.length : Int) then (if y101.length + ([] : List Int).length < 140737488355328 then ((some (y101 ++ ([] : List Int) : List Int)).bind fun y105 => (if y105.length < 140737488355328 then (some (y105 ++ [((l0.length : Int)) % 256])) else (none))) else (none)) else (none)) else (none))) else ((some (([] : List Int) : List Int)).bind fun y111 => (if 0 ≤ a1 then (if a1 ≤ (l0.length : Int) then (if y111.length + (l0.drop (a1 : Int).toNat).length < 140737488355328 then ((some (y111 ++ (l0.drop (a1 : Int).toNat) : List Int)).bind fun y115 => (if y115.length < 140737488355328 then (some (y115 ++ [(a1) % 256])) else (none))) else (none)) else (none)) else (none)))
set_option maxHeartbeats 8000000 in
set_option maxRecDepth 100000 in
theorem laws_vCut.calls (A0 : Option Addr) (c0 : Nat) (l0 : List Int) (a1 : Int) (r : List Int) (w : World) (hr0 : Kd.C (Kd.int .u8) w A0 l0.length l0) (hc0 : l0.length ≤ c0) (h : laws_vCut.f l0 a1 = some r) :
  Calls Try.prog 26 #[.slice A0 l0.length c0, .int .i64 a1] w fun e w' => ∃ v0_ : Value, e = .returned (v0_) ∧ Kd.R (Kd.int .u8) 5 w' w.heap.size (fun _ => True) v0_ r ∧ Below w.heap.size w w' := by
 have HR0 := Aa.k hr0
 have HC0 := Aa.k hc0
 clear hr0 hc0
 have HB := Aa.k (Below.refl w.heap.size w)
 have H : (if a1 > (l0.length : Int) then ((some (([] : List Int) : List Int)).bind fun y101 => (if 0 ≤ (l0.length : Int) then (if (l0.length : Int) ≤ (l0.length : Int) then (if y101.length + ([] : List Int).length < 140737488355328 then ((some (y101 ++ ([] : List Int) : List Int)).bind fun y105 => (if y105.length < 140737488355328 then (some (y105 ++ [((l0.length : Int)) % 256])) else (none))) else (none)) else (none)) else (none))) else ((some (([] : List Int) : List Int)).bind fun y111 => (if 0 ≤ a1 then (if a1 ≤ (l0.length : Int) then (if y111.length + (l0.drop (a1 : Int).toNat).length < 140737488355328 then ((some (y111 ++ (l0.drop (a1 : Int).toNat) : List Int)).bind fun y115 => (if y115.length < 140737488355328 then (some (y115 ++ [(a1) % 256])) else (none))) else (none)) else (none)) else (none)))) = some r := h
 clear h
 by_cases c3 : a1 > (l0.length : Int)
 ·rw [if_pos c3] at H
  have c3b0 : decide ((l0.length : Int) < a1) = true := decide_eq_true c3
  clear c3
  obtain ⟨y101, hy101⟩ : ∃ y_ : List Int, y_ = (([] : List Int)) := ⟨_, rfl⟩
  replace H : (if 0 ≤ (l0.length : Int) then (if (l0.length : Int) ≤ (l0.length : Int) then (if y101.length + ([] : List Int).length < 140737488355328 then ((some (y101 ++ ([] : List Int) : List Int)).bind fun y105 => (if y105.length < 140737488355328 then (some (y105 ++ [((l0.length : Int)) % 256])) else (none))) else (none)) else (none)) else (none)) = some r := by (have H2_ := (Option.bind_some _ _).symm.trans H; rw [hy101]; exact H2_)
  have Ny101 := Aa.k hy101
  clear hy101
  by_cases c4 : 0 ≤ (l0.length : Int)
  rotate_left
  ·rw [if_neg c4] at H
   exact absurd H (by simp)
  rw [if_pos c4] at H
  have c4b0 := eq_true c4
  have c4b1 : decide (0 ≤ (l0.length : Int)) = true := decide_eq_true c4
  clear c4
  by_cases c5 : (l0.length : Int) ≤ (l0.length : Int)
  rotate_left
  ·rw [if_neg c5] at H
   exact absurd H (by simp)
  rw [if_pos c5] at H
  have c5b0 := eq_true c5
  have c5b1 : decide ((l0.length : Int) ≤ (l0.length : Int)) = true := decide_eq_true c5
  clear c5
  by_cases c6 : y101.length + ([] : List Int).length < 140737488355328
  rotate_left
  ·rw [if_neg c6] at H
   exact absurd H (by simp)
  rw [if_pos c6] at H
  have LMc6 := Aa.k c6
  clear c6
  obtain ⟨y105, hy105⟩ : ∃ y_ : List Int, y_ = (y101 ++ ([] : List Int)) := ⟨_, rfl⟩
  replace H : (if y105.length < 140737488355328 then (some (y105 ++ [((l0.length : Int)) % 256])) else (none)) = some r := by (have H2_ := (Option.bind_some _ _).symm.trans H; rw [hy105]; exact H2_)
  have Ny105 := Aa.k hy105
  clear hy105
  by_cases c7 : y105.length < 140737488355328
  rotate_left
  ·rw [if_neg c7] at H
   exact absurd H (by simp)
  rw [if_pos c7] at H
  have LMc7 := Aa.k c7
  clear c7
  obtain ⟨y108, hy108⟩ : ∃ y_ : List Int, y_ = (y105 ++ [((l0.length : Int)) % 256]) := ⟨_, rfl⟩
  replace H : (some y108) = some r := by (rw [hy108]; exact H)
  have Ny108 := Aa.k hy108
  clear hy108
  obtain rfl := Option.some.inj H
  go_enter Try.func26, Try.ntmps26
  go_wp2_with (first | ((with_reducible refine Be (N := 11) rfl ?_); refine Kd.R_lit (Kd.int .u8) _ 5 ?hg (N := 11) ?hd (xs := ([] : List Int)) (inner := []) (ok := fun _ => True) (okp := fun _ => True) ?hr ?hp (fun _ hk => hk) trivial (Below.refl _ _) (Nat.le_refl _) (by simp) ?_; (case hd => rfl); (case hg => rfl); (case hr => (go_simp; done)); (case hp => exact (Reps.none _ _)); intro v102 w8 ho9 hb hg_ hnew_; clear hg_ hnew_; ((rw [← Ny101.o] at ho9)); have HO103 := Aa.k (Kd.Ct ho9 (Af HB.o)); replace HB := Aa.k (Ad HB.o hb); clear hb ho9; obtain ⟨i010, hi010, _, hsz10, _⟩ := info_parts info5; obtain ⟨A10, hcut10, hA10, hC10⟩ := print_drop_of (P := Try.prog) (Value.int .u8) 0 22 5 .i64 Try.underlying22 hi010 hsz10 A0 c0 l0 (l0.length : Int) (of_decide_eq_true (by (with_reducible assumption))) (of_decide_eq_true (by (with_reducible assumption))) HC0.o; have HR104 := Aa.k (Kd.C_of_reads (h1 := fun _ => rfl) (hA10 _ (Kd.reads_of_C HR0.o))); have HC104 := Aa.k hC10; clear hA10 hC10 hi010 hsz10) | ((with_reducible refine Ef (b := .append) (xs := #[.tmp 11, .tmp 14]) rfl ?_); at_builtin; refine Kd.R_append_rows (Kd.int .u8) (w0 := w) w.heap.size rfl (.tmp 11) (.tmp 14) 22 5 (.int .u8 0) 1 rfl Try.underlying22 info5 rfl (by decide) (by omega) v102 y101 ([] : List Int) _ _ _ (fun _ => True) (fun _ => False) rfl rfl ?aO ?aR (fun _ _ h => h) (fun _ h => h.elim) ?aF ?aB ?aS ?aL ?_; (case aR => exact ⟨rfl, by simp, fun hn_ => absurd hn_ (by simp)⟩); (case aB => exact HB.o); (case aF => exact (fun _ _ => trivial)); (case aO => exact (by exact HO103.o)); (case aS => exact (Af HB.o)); (case aL => have := LMc6.o; (try simp only [List.length_nil] at this); omega); intro v106 w11 ho hb hg hat; rw [← Ny105.o] at ho; replace HB := Aa.k (hb); have HO107 := Aa.k (ho); clear ho hb hg hat) | ((with_reducible refine Ef (b := .append) (xs := #[.tmp 15, .tmp 18]) rfl ?_); at_builtin; refine Kd.R_append (Kd.int .u8) (w0 := w) w.heap.size rfl (.tmp 15) (.tmp 18) 22 5 (.int .u8 0) 1 rfl Try.underlying22 info5 rfl (by decide) (by omega) v106 y105 (((l0.length : Int)) % 256) [.int .u8 (((l0.length : Int)) % 256)] (fun _ => True) (fun _ => False) rfl rfl ?aP (fun _ hk => hk.elim) ?aF ?aO ?aB ?aS ?aL ?_; (case aP => exact rfl); (case aB => exact HB.o); (case aF => exact (fun _ _ => trivial)); (case aO => exact (by exact HO107.o)); (case aS => exact (Af HB.o)); (case aL => have := LMc7.o; omega); intro v109 w12 ho hb hg hat; rw [← Ny108.o] at ho; replace HB := Aa.k (hb); have HO110 := Aa.k (ho); clear ho hb hg hat))
  go_ret
  exact ⟨_, by (rfl), by exact HO110.o, by exact HB.o⟩
 rw [if_neg c3] at H
 have c3b0 : decide ((l0.length : Int) < a1) = false := decide_eq_false c3
 clear c3
 obtain ⟨y111, hy111⟩ : ∃ y_ : List Int, y_ = (([] : List Int)) := ⟨_, rfl⟩
 replace H : (if 0 ≤ a1 then (if a1 ≤ (l0.length : Int) then (if y111.length + (l0.drop (a1 : Int).toNat).length < 140737488355328 then ((some (y111 ++ (l0.drop (a1 : Int).toNat) : List Int)).bind fun y115 => (if y115.length < 140737488355328 then (some (y115 ++ [(a1) % 256])) else (none))) else (none)) else (none)) else (none)) = some r := by (have H2_ := (Option.bind_some _ _).symm.trans H; rw [hy111]; exact H2_)
 have Ny111 := Aa.k hy111
 clear hy111
 by_cases c13 : 0 ≤ a1
 rotate_left
 ·rw [if_neg c13] at H
  exact absurd H (by simp)
 rw [if_pos c13] at H
 have c13b0 := eq_true c13
 have c13b1 : decide (0 ≤ a1) = true := decide_eq_true c13
 clear c13
 by_cases c14 : a1 ≤ (l0.length : Int)
 rotate_left
 ·rw [if_neg c14] at H
  exact absurd H (by simp)
 rw [if_pos c14] at H
 have c14b0 := eq_true c14
 have c14b1 : decide (a1 ≤ (l0.length : Int)) = true := decide_eq_true c14
 clear c14
 by_cases c15 : y111.length + (l0.drop (a1 : Int).toNat).length < 140737488355328
 rotate_left
 ·rw [if_neg c15] at H
  exact absurd H (by simp)
 rw [if_pos c15] at H
 have LMc15 := Aa.k c15
 clear c15
 obtain ⟨y115, hy115⟩ : ∃ y_ : List Int, y_ = (y111 ++ (l0.drop (a1 : Int).toNat)) := ⟨_, rfl⟩
 replace H : (if y115.length < 140737488355328 then (some (y115 ++ [(a1) % 256])) else (none)) = some r := by (have H2_ := (Option.bind_some _ _).symm.trans H; rw [hy115]; exact H2_)
 have Ny115 := Aa.k hy115
 clear hy115
 by_cases c16 : y115.length < 140737488355328
 rotate_left
 ·rw [if_neg c16] at H
  exact absurd H (by simp)
 rw [if_pos c16] at H
 have LMc16 := Aa.k c16
 clear c16
 obtain ⟨y118, hy118⟩ : ∃ y_ : List Int, y_ = (y115 ++ [(a1) % 256]) := ⟨_, rfl⟩
 replace H : (some y118) = some r := by (rw [hy118]; exact H)
 have Ny118 := Aa.k hy118
 clear hy118
 obtain rfl := Option.some.inj H
 go_enter Try.func26, Try.ntmps26
 go_wp2_with (first | ((with_reducible refine Be (N := 11) rfl ?_); refine Kd.R_lit (Kd.int .u8) _ 5 ?hg (N := 11) ?hd (xs := ([] : List Int)) (inner := []) (ok := fun _ => True) (okp := fun _ => True) ?hr ?hp (fun _ hk => hk) trivial (Below.refl _ _) (Nat.le_refl _) (by simp) ?_; (case hd => rfl); (case hg => rfl); (case hr => (go_simp; done)); (case hp => exact (Reps.none _ _)); intro v112 w17 ho18 hb hg_ hnew_; clear hg_ hnew_; ((rw [← Ny111.o] at ho18)); have HO113 := Aa.k (Kd.Ct ho18 (Af HB.o)); replace HB := Aa.k (Ad HB.o hb); clear hb ho18; obtain ⟨i019, hi019, _, hsz19, _⟩ := info_parts info5; obtain ⟨A19, hcut19, hA19, hC19⟩ := print_drop_of (P := Try.prog) (Value.int .u8) 0 22 5 .i64 Try.underlying22 hi019 hsz19 A0 c0 l0 a1 (of_decide_eq_true (by (with_reducible assumption))) (of_decide_eq_true (by (with_reducible assumption))) HC0.o; have HR114 := Aa.k (Kd.C_of_reads (h1 := fun _ => rfl) (hA19 _ (Kd.reads_of_C HR0.o))); have HC114 := Aa.k hC19; clear hA19 hC19 hi019 hsz19) | ((with_reducible refine Ef (b := .append) (xs := #[.tmp 11, .tmp 14]) rfl ?_); at_builtin; refine Kd.R_append_rows (Kd.int .u8) (w0 := w) w.heap.size rfl (.tmp 11) (.tmp 14) 22 5 (.int .u8 0) 1 rfl Try.underlying22 info5 rfl (by decide) (by omega) v112 y111 (l0.drop (a1 : Int).toNat) _ _ _ (fun _ => True) (fun _ => False) rfl rfl ?aO ?aR (fun _ _ h => h) (fun _ h => h.elim) ?aF ?aB ?aS ?aL ?_; (case aR => (rw [← show (l0.drop (a1 : Int).toNat).length = (l0.length - a1.toNat) from List.length_drop]; repeat (exact (Kd.Dx HR114.o HB.o)))); (case aB => exact HB.o); (case aF => exact (fun _ _ => trivial)); (case aO => exact (by exact HO113.o)); (case aS => exact (Af HB.o)); (case aL => have := LMc15.o; have hlx_ := (show (l0.drop (a1 : Int).toNat).length = (l0.length - a1.toNat) from List.length_drop); omega); intro v116 w20 ho hb hg hat; rw [← Ny115.o] at ho; replace HB := Aa.k (hb); have HO117 := Aa.k (ho); clear ho hb hg hat) | ((with_reducible refine Ef (b := .append) (xs := #[.tmp 15, .tmp 18]) rfl ?_); at_builtin; refine Kd.R_append (Kd.int .u8) (w0 := w) w.heap.size rfl (.tmp 15) (.tmp 18) 22 5 (.int .u8 0) 1 rfl Try.underlying22 info5 rfl (by decide) (by omega) v116 y115 ((a1) % 256) [.int .u8 ((a1) % 256)] (fun _ => True) (fun _ => False) rfl rfl ?aP (fun _ hk => hk.elim) ?aF ?aO ?aB ?aS ?aL ?_; (case aP => exact rfl); (case aB => exact HB.o); (case aF => exact (fun _ _ => trivial)); (case aO => exact (by exact HO117.o)); (case aS => exact (Af HB.o)); (case aL => have := LMc16.o; omega); intro v119 w21 ho hb hg hat; rw [← Ny118.o] at ho; replace HB := Aa.k (hb); have HO120 := Aa.k (ho); clear ho hb hg hat))
 go_ret
 exact ⟨_, by (rfl), by exact HO120.o, by exact HB.o⟩

/-! ### impl_within: function 69 -/
def Fe.f (a0 : Int) (a1 : Int) (a2 : Int) : Option (Bool) := if a0 ≥ a1 then (some (decide (a0 ≤ a2))) else (some false)
set_option maxHeartbeats 8000000 in
set_option maxRecDepth 100000 in
theorem Fe.calls (a0 : Int) (a1 : Int) (a2 : Int) (r : Bool) (w : World) (h : Fe.f a0 a1 a2 = some r) :
  Calls Try.prog 69 #[.int .i64 a0, .int .i64 a1, .int .i64 a2] w fun e w' => e = .returned (.bool r) ∧ Cu w w' := by
 have H : (if a0 ≥ a1 then (some (decide (a0 ≤ a2))) else (some false)) = some r := h
 clear h
 by_cases c4 : a0 ≥ a1
 ·rw [if_pos c4] at H
  have c4b0 : decide (a1 ≤ a0) = true := decide_eq_true c4
  clear c4
  obtain rfl := Option.some.inj H
  go_enter Try.func69, Try.ntmps69
  go_wp2
  go_ret
  exact ⟨by (rfl), by repeat (exact Cu.refl _)⟩
 rw [if_neg c4] at H
 have c4b0 : decide (a1 ≤ a0) = false := decide_eq_false c4
 clear c4
 obtain rfl := Option.some.inj H
 go_enter Try.func69, Try.ntmps69
 go_wp2
 go_ret
 exact ⟨by (rfl), by repeat (exact Cu.refl _)⟩

/-! ### impl_IsRoad: function 17 -/
def Ew.f (a0_0 : Int) (a0_1 : Bool) : Option (Bool) := (Fe.f a0_0 2 24).bind fun t122 => (if t122 = true then (if a0_1 = true then (some (decide (a0_0 ≥ 3))) else (some true)) else (some false))
set_option maxHeartbeats 8000000 in
set_option maxRecDepth 100000 in
theorem Ew.calls (a0_0 : Int) (a0_1 : Bool) (r : Bool) (w : World) (h : Ew.f a0_0 a0_1 = some r) :
  Calls Try.prog 17 #[.agg #[.int .i64 a0_0, .bool a0_1]] w fun e w' => e = .returned (.bool r) ∧ Below w.heap.size w w' := by
 have hu25 := Try.underlying25
 have HB := Aa.k (Below.refl w.heap.size w)
 have H : ((Fe.f a0_0 2 24).bind fun t122 => (if t122 = true then (if a0_1 = true then (some (decide (a0_0 ≥ 3))) else (some true)) else (some false))) = some r := h
 clear h
 obtain ⟨t122, A20, H⟩ := bindS_ H
 try dsimp only at H
 have A2 := Aa.k A20
 clear A20
 by_cases c3 : t122 = true
 rotate_left
 ·replace c3 := Bool.eq_false_iff.mpr c3
  subst c3
  rw [if_neg (show ¬ (false = true) by decide)] at H
  obtain rfl := Option.some.inj H
  go_enter Try.func17, Try.ntmps17
  go_wp2_with (first | ((with_reducible refine Be (N := 1) rfl ?_); refine Bo ?hg (N := 1) ?hd (cs := #[.int .i64 a0_0, .bool a0_1]) (t := 25) ?hr ?_; (case hd => rfl); (case hg => rfl); (case hr => (go_simp; done)); intro gb121 hg w9 hbox hb; have BK121 := Aa.k (hbox); have GW121 := Aa.k ((by rw [hg]; exact (Af HB.o) : w.heap.size ≤ gb121)); have GE121 := Aa.k ((by rw [hg]; exact (Af HB.o) : w.heap.size ≤ gb121)); replace HB := Aa.k (Ad HB.o hb); clear hb hbox hg; have hcz10_0 := Bj BK121.o; have hcz10_1 := Bn BK121.o; have hfz10_0 := Ac BK121.o 0; have hfz10_1 := Ac BK121.o 1) | ((with_reducible refine Aj (f := 69) rfl ?_); refine Bf (some 5) rfl rfl Try.func69 (by kernel_rfl) rfl #[.int .i64 a0_0, .int .i64 2, .int .i64 24] rfl (by (try simp only [mT_, mC_, mN_]); rfl) ?_; (with_reducible refine (Fe.calls a0_0 2 24 false _ A2.o).mono ?_); rintro e w' ⟨rfl, ⟨nd, rfl⟩⟩; refine ⟨_, rfl, ?_⟩))
  go_ret
  exact ⟨by (rfl), by repeat ((with_reducible first | exact HB.o | apply Bh))⟩
 subst c3
 rw [if_pos rfl] at H
 by_cases c4 : a0_1 = true
 ·subst c4
  rw [if_pos rfl] at H
  obtain rfl := Option.some.inj H
  go_enter Try.func17, Try.ntmps17
  go_wp2_with (first | ((with_reducible refine Be (N := 1) rfl ?_); refine Bo ?hg (N := 1) ?hd (cs := #[.int .i64 a0_0, .bool true]) (t := 25) ?hr ?_; (case hd => rfl); (case hg => rfl); (case hr => (go_simp; done)); intro gb121 hg w5 hbox hb; have BK121 := Aa.k (hbox); have GW121 := Aa.k ((by rw [hg]; exact (Af HB.o) : w.heap.size ≤ gb121)); have GE121 := Aa.k ((by rw [hg]; exact (Af HB.o) : w.heap.size ≤ gb121)); replace HB := Aa.k (Ad HB.o hb); clear hb hbox hg; have hcz6_0 := Bj BK121.o; have hcz6_1 := Bn BK121.o; have hfz6_0 := Ac BK121.o 0; have hfz6_1 := Ac BK121.o 1) | ((with_reducible refine Aj (f := 69) rfl ?_); refine Bf (some 5) rfl rfl Try.func69 (by kernel_rfl) rfl #[.int .i64 a0_0, .int .i64 2, .int .i64 24] rfl (by (try simp only [mT_, mC_, mN_]); rfl) ?_; (with_reducible refine (Fe.calls a0_0 2 24 true _ A2.o).mono ?_); rintro e w' ⟨rfl, ⟨nd, rfl⟩⟩; refine ⟨_, rfl, ?_⟩))
  go_ret
  exact ⟨by (rfl), by repeat ((with_reducible first | exact HB.o | apply Bh))⟩
 replace c4 := Bool.eq_false_iff.mpr c4
 subst c4
 rw [if_neg (show ¬ (false = true) by decide)] at H
 obtain rfl := Option.some.inj H
 go_enter Try.func17, Try.ntmps17
 go_wp2_with (first | ((with_reducible refine Be (N := 1) rfl ?_); refine Bo ?hg (N := 1) ?hd (cs := #[.int .i64 a0_0, .bool false]) (t := 25) ?hr ?_; (case hd => rfl); (case hg => rfl); (case hr => (go_simp; done)); intro gb121 hg w7 hbox hb; have BK121 := Aa.k (hbox); have GW121 := Aa.k ((by rw [hg]; exact (Af HB.o) : w.heap.size ≤ gb121)); have GE121 := Aa.k ((by rw [hg]; exact (Af HB.o) : w.heap.size ≤ gb121)); replace HB := Aa.k (Ad HB.o hb); clear hb hbox hg; have hcz8_0 := Bj BK121.o; have hcz8_1 := Bn BK121.o; have hfz8_0 := Ac BK121.o 0; have hfz8_1 := Ac BK121.o 1) | ((with_reducible refine Aj (f := 69) rfl ?_); refine Bf (some 5) rfl rfl Try.func69 (by kernel_rfl) rfl #[.int .i64 a0_0, .int .i64 2, .int .i64 24] rfl (by (try simp only [mT_, mC_, mN_]); rfl) ?_; (with_reducible refine (Fe.calls a0_0 2 24 true _ A2.o).mono ?_); rintro e w' ⟨rfl, ⟨nd, rfl⟩⟩; refine ⟨_, rfl, ?_⟩))
 go_ret
 exact ⟨by (rfl), by repeat ((with_reducible first | exact HB.o | apply Bh))⟩

/-! ### impl_allWithin: function 113 -/
def Cs.l0 : Nat → Int → Int → List Int → Int → Int → Option (Bool)
 | 0, _, _, _, _, _ => none
 | k + 1, x1, x2, x9, x10, x11 => if x11 < x10 then (if 0 ≤ x11 then (if x11 < (x9.length : Int) then ((Fe.f (rd x9 x11) x1 x2).bind fun t124 => (if t124 = true then (Cs.l0 k x1 x2 x9 x10 (wrap64 (x11 + 1))) else (some false))) else (none)) else (none)) else (some true)
def Cs.f (k : Nat) (l0 : List Int) (a1 : Int) (a2 : Int) : Option (Bool) := Cs.l0 k a1 a2 l0 (l0.length : Int) 0
theorem Cs.mono_l : ∀ k, (∀ y0 y1 y2 y3 y4, LeO (Cs.l0 k y0 y1 y2 y3 y4) (Cs.l0 (k + 1) y0 y1 y2 y3 y4))
 | 0 => fun _ _ _ _ _ r h => by simp [Cs.l0] at h
 | k + 1 => by
  have ih0 := Cs.mono_l k
  ·intro y0 y1 y2 y3 y4
   unfold Cs.l0
   repeat' first
   | (with_reducible exact ih0 _ _ _ _ _)
   | (with_reducible exact LeO.refl _)
   | (with_reducible refine LeO.ite ?_ ?_)
   | (with_reducible refine LeO.bind ?_ (fun _ => ?_))
theorem Cs.mono : ∀ a0 a1 a2 k, LeO (Cs.f k a0 a1 a2) (Cs.f (k + 1) a0 a1 a2) := by
 intro a0 a1 a2 k
 have ih0 := Cs.mono_l k
 unfold Cs.f
 repeat' (exact ih0 _ _ _ _ _)
set_option maxHeartbeats 8000000 in
set_option maxRecDepth 100000 in
theorem Cs.calls (k : Nat) (A0 : Option Addr) (c0 : Nat) (l0 : List Int) (a1 : Int) (a2 : Int) (r : Bool) (w : World) (hr0 : Kd.C (Kd.int .i64) w A0 l0.length l0) (hc0 : l0.length ≤ c0) (h : Cs.f k l0 a1 a2 = some r) :
  Calls Try.prog 113 #[.slice A0 l0.length c0, .int .i64 a1, .int .i64 a2] w fun e w' => e = .returned (.bool r) ∧ Cu w w' := by
 have HR0 := Aa.k hr0
 have HC0 := Aa.k hc0
 clear hr0 hc0
 have H : (Cs.l0 k a1 a2 l0 (l0.length : Int) 0) = some r := h
 clear h
 have H' := Aa.k H
 clear H
 go_enter Try.func113, Try.ntmps113
 go_wp2
 go_loopg [11] k (fun kq v11 w' => ∃ (x11_1 : Int), v11 = .int .i64 x11_1 ∧ Aa (Cs.l0 kq a1 a2 l0 (l0.length : Int) x11_1 = some r) ∧ Aa (kq ≤ k) ∧ Cu w w')
 case atStart => exact ⟨(0), (by (rfl)), H', ⟨Nat.le_refl _⟩, by repeat (exact Cu.refl _)⟩
 case round =>
  clear H'
  obtain ⟨x11_1, rfl, HA, HK1, ⟨m1, rfl⟩⟩ := hrel
  cases gk with
  | zero => exact absurd HA.o (by simp [Cs.l0])
  | succ k1 =>
   have H := HA.o
   clear HA
   simp only [Cs.l0] at H
   by_cases c4 : x11_1 < (l0.length : Int)
   rotate_left
   ·rw [if_neg c4] at H
    have c4b0 : decide (x11_1 < (l0.length : Int)) = false := decide_eq_false c4
    clear c4
    obtain rfl := Option.some.inj H
    go_wp2
    go_ret
    exact ⟨by (rfl), by repeat (first | exact Cu.refl _ | apply Cu.step)⟩
   rw [if_pos c4] at H
   have c4b0 : decide (x11_1 < (l0.length : Int)) = true := decide_eq_true c4
   clear c4
   by_cases c5 : 0 ≤ x11_1
   rotate_left
   ·rw [if_neg c5] at H
    exact absurd H (by simp)
   rw [if_pos c5] at H
   have c5b0 : decide (0 ≤ x11_1) = true := decide_eq_true c5
   clear c5
   by_cases c6 : x11_1 < (l0.length : Int)
   rotate_left
   ·rw [if_neg c6] at H
    exact absurd H (by simp)
   rw [if_pos c6] at H
   have c6b0 : decide (x11_1 < (l0.length : Int)) = true := decide_eq_true c6
   clear c6
   obtain ⟨t124, A70, H⟩ := bindS_ H
   try dsimp only at H
   have A7 := Aa.k A70
   clear A70
   by_cases c8 : t124 = true
   rotate_left
   ·replace c8 := Bool.eq_false_iff.mpr c8
    subst c8
    rw [if_neg (show ¬ (false = true) by decide)] at H
    obtain rfl := Option.some.inj H
    have p123 : 0 ≤ (x11_1 : Int) := of_decide_eq_true (by (assumption))
    have q123 : x11_1 < (l0.length : Int) := of_decide_eq_true (by (assumption))
    obtain ⟨ad123, e123, hx123_0⟩ := Kd.Eo HR0.o x11_1 p123 q123
    cases e123
    replace p123 := eq_true p123
    replace q123 := eq_true q123
    go_wp2_with (((refine Aj (f := 69) rfl ?_); refine Bf (some 18) rfl rfl Try.func69 (by kernel_rfl) rfl #[.int .i64 (rd l0 x11_1), .int .i64 a1, .int .i64 a2] rfl (by (try simp only [mT_, mC_, mN_]); rfl) ?_; (refine (Fe.calls (rd l0 x11_1) a1 a2 false _ A7.o).mono ?_); rintro e w' ⟨rfl, ⟨nd, rfl⟩⟩; refine ⟨_, rfl, ?_⟩))
    go_ret
    exact ⟨by (rfl), by repeat (first | exact Cu.refl _ | apply Cu.step)⟩
   subst c8
   rw [if_pos rfl] at H
   have H' := Aa.k H
   clear H
   have p123 : 0 ≤ (x11_1 : Int) := of_decide_eq_true (by (assumption))
   have q123 : x11_1 < (l0.length : Int) := of_decide_eq_true (by (assumption))
   obtain ⟨ad123, e123, hx123_0⟩ := Kd.Eo HR0.o x11_1 p123 q123
   cases e123
   replace p123 := eq_true p123
   replace q123 := eq_true q123
   go_wp2_with (((refine Aj (f := 69) rfl ?_); refine Bf (some 18) rfl rfl Try.func69 (by kernel_rfl) rfl #[.int .i64 (rd l0 x11_1), .int .i64 a1, .int .i64 a2] rfl (by (try simp only [mT_, mC_, mN_]); rfl) ?_; (refine (Fe.calls (rd l0 x11_1) a1 a2 true _ A7.o).mono ?_); rintro e w' ⟨rfl, ⟨nd, rfl⟩⟩; refine ⟨_, rfl, ?_⟩))
   go_roundg k1
   case measure => have := HK1.o; omega
   case rel => exact ⟨(wrap64 (x11_1 + 1)), (by (rfl)), H', ⟨by have := HK1.o; omega⟩, by repeat (first | exact Cu.refl _ | apply Cu.step)⟩

/-! ### impl_Road_has: function 61 -/
def Dm.f (k : Nat) (a0_0 : Int) (a0_1 : Bool) (l1 : List Int) : Option (Bool) := (Cs.f k l1 0 (wrap64 (a0_0 - 1))).bind fun t126 => (some t126)
theorem Dm.mono : ∀ a0 a1 a2 k, LeO (Dm.f k a0 a1 a2) (Dm.f (k + 1) a0 a1 a2) := by
 intro a0 a1 a2 k
 unfold Dm.f
 repeat' first
   | (with_reducible exact Cs.mono _ _ _ _)
   | (with_reducible exact LeO.refl _)
   | (with_reducible refine LeO.bind ?_ (fun _ => ?_))
set_option maxHeartbeats 8000000 in
set_option maxRecDepth 100000 in
theorem Dm.calls (k : Nat) (a0_0 : Int) (a0_1 : Bool) (A1 : Option Addr) (c1 : Nat) (l1 : List Int) (r : Bool) (w : World) (hr1 : Kd.C (Kd.int .i64) w A1 l1.length l1) (hc1 : l1.length ≤ c1) (h : Dm.f k a0_0 a0_1 l1 = some r) :
  Calls Try.prog 61 #[.agg #[.int .i64 a0_0, .bool a0_1], .slice A1 l1.length c1] w fun e w' => e = .returned (.bool r) ∧ Below w.heap.size w w' := by
 have hu25 := Try.underlying25
 have HR1 := Aa.k hr1
 have HC1 := Aa.k hc1
 clear hr1 hc1
 have HB := Aa.k (Below.refl w.heap.size w)
 have H : ((Cs.f k l1 0 (wrap64 (a0_0 - 1))).bind fun t126 => (some t126)) = some r := h
 clear h
 obtain ⟨t126, A30, H⟩ := bindS_ H
 try dsimp only at H
 have A3 := Aa.k A30
 clear A30
 obtain rfl := Option.some.inj H
 go_enter Try.func61, Try.ntmps61
 go_wp2_with (first | ((with_reducible refine Be (N := 2) rfl ?_); refine Bo ?hg (N := 2) ?hd (cs := #[.int .i64 a0_0, .bool a0_1]) (t := 25) ?hr ?_; (case hd => rfl); (case hg => rfl); (case hr => (go_simp; done)); intro gb125 hg w4 hbox hb; have BK125 := Aa.k (hbox); have GW125 := Aa.k ((by rw [hg]; exact (Af HB.o) : w.heap.size ≤ gb125)); have GE125 := Aa.k ((by rw [hg]; exact (Af HB.o) : w.heap.size ≤ gb125)); replace HB := Aa.k (Ad HB.o hb); clear hb hbox hg; have hcz5_0 := Bj BK125.o; have hcz5_1 := Bn BK125.o; have hfz5_0 := Ac BK125.o 0; have hfz5_1 := Ac BK125.o 1) | ((with_reducible refine Aj (f := 113) rfl ?_); refine Bf (some 9) rfl rfl Try.func113 (by kernel_rfl) rfl #[.slice A1 l1.length c1, .int .i64 0, .int .i64 (wrap64 (a0_0 - 1))] rfl (by (try simp only [mT_, mC_, mN_]); rfl) ?_; (with_reducible refine (Cs.calls k _ _ l1 0 (wrap64 (a0_0 - 1)) t126 _ ?side1 ?side2 A3.o).mono ?_); (case side1 => repeat (exact (Kd.Dx HR1.o HB.o))); (case side2 => exact HC1.o); rintro e w' ⟨rfl, ⟨nd, rfl⟩⟩; refine ⟨_, rfl, ?_⟩))
 go_ret
 exact ⟨by (rfl), by repeat ((with_reducible first | exact HB.o | apply Bh))⟩

/-! ### impl_isStart: function 82 -/
def Co.f (k : Nat) (a0_0 : Int) (a0_1 : Bool) (a1 : Int) : Option (Bool) := (Ew.f a0_0 a0_1).bind fun t128 => (if t128 = true then (if a0_1 = true then (some false) else ((Dm.f k a0_0 a0_1 (([a1] : List Int))).bind fun t132 => (some t132))) else (some false))
theorem Co.mono : ∀ a0 a1 a2 k, LeO (Co.f k a0 a1 a2) (Co.f (k + 1) a0 a1 a2) := by
 intro a0 a1 a2 k
 unfold Co.f
 repeat' first
   | (with_reducible exact Dm.mono _ _ _ _)
   | (with_reducible exact LeO.refl _)
   | (with_reducible refine LeO.ite ?_ ?_)
   | (with_reducible refine LeO.bind ?_ (fun _ => ?_))
set_option maxHeartbeats 8000000 in
set_option maxRecDepth 100000 in
theorem Co.calls (k : Nat) (a0_0 : Int) (a0_1 : Bool) (a1 : Int) (r : Bool) (w : World) (h : Co.f k a0_0 a0_1 a1 = some r) :
  Calls Try.prog 82 #[.agg #[.int .i64 a0_0, .bool a0_1], .int .i64 a1] w fun e w' => e = .returned (.bool r) ∧ Below w.heap.size w w' := by
 have hu25 := Try.underlying25
 have HB := Aa.k (Below.refl w.heap.size w)
 have H : ((Ew.f a0_0 a0_1).bind fun t128 => (if t128 = true then (if a0_1 = true then (some false) else ((Dm.f k a0_0 a0_1 (([a1] : List Int))).bind fun t132 => (some t132))) else (some false))) = some r := h
 clear h
 obtain ⟨t128, A30, H⟩ := bindS_ H
 try dsimp only at H
 have A3 := Aa.k A30
 clear A30
 by_cases c4 : t128 = true
 rotate_left
 ·replace c4 := Bool.eq_false_iff.mpr c4
  subst c4
  rw [if_neg (show ¬ (false = true) by decide)] at H
  obtain rfl := Option.some.inj H
  go_enter Try.func82, Try.ntmps82
  go_wp2_with (first | ((with_reducible refine Be (N := 2) rfl ?_); (try (refine gate_guard (by rfl) ?_; dsimp only)); refine Bo ?hg (N := 2) ?hd (cs := #[.int .i64 a0_0, .bool a0_1]) (t := 25) ?hr ?_; (case hd => rfl); (case hg => rfl); (case hr => (go_simp; done)); intro gb127 hg w19 hbox hb; have BK127 := Aa.k (hbox); have GW127 := Aa.k ((by rw [hg]; exact (Af HB.o) : w.heap.size ≤ gb127)); have GE127 := Aa.k ((by rw [hg]; exact (Af HB.o) : w.heap.size ≤ gb127)); replace HB := Aa.k (Ad HB.o hb); clear hb hbox hg; have hcz20_0 := Bj BK127.o; have hcz20_1 := Bn BK127.o; have hfz20_0 := Ac BK127.o 0; have hfz20_1 := Ac BK127.o 1) | ((with_reducible refine Aj (f := 17) rfl ?_); refine Bf (some 6) rfl rfl Try.func17 (by kernel_rfl) rfl #[.agg #[.int .i64 a0_0, .bool a0_1]] rfl (by (try simp only [mT_, mC_, mN_]); rfl) ?_; (with_reducible refine (Ew.calls a0_0 a0_1 false _ A3.o).mono ?_); rintro e w21 ⟨rfl, hb⟩; refine ⟨_, rfl, ?_⟩; replace BK127 := Aa.k (Ae (g := gb127) (o := .cells #[.int .i64 a0_0, .bool a0_1] 25 (0, 0)) (by exact BK127.o) hb); replace HB := Aa.k (Ad HB.o hb); clear hb))
  go_ret
  exact ⟨by (rfl), by exact HB.o⟩
 subst c4
 rw [if_pos rfl] at H
 by_cases c5 : a0_1 = true
 ·subst c5
  rw [if_pos rfl] at H
  obtain rfl := Option.some.inj H
  go_enter Try.func82, Try.ntmps82
  go_wp2_with (first | ((with_reducible refine Be (N := 2) rfl ?_); (try (refine gate_guard (by rfl) ?_; dsimp only)); refine Bo ?hg (N := 2) ?hd (cs := #[.int .i64 a0_0, .bool true]) (t := 25) ?hr ?_; (case hd => rfl); (case hg => rfl); (case hr => (go_simp; done)); intro gb127 hg w6 hbox hb; have BK127 := Aa.k (hbox); have GW127 := Aa.k ((by rw [hg]; exact (Af HB.o) : w.heap.size ≤ gb127)); have GE127 := Aa.k ((by rw [hg]; exact (Af HB.o) : w.heap.size ≤ gb127)); replace HB := Aa.k (Ad HB.o hb); clear hb hbox hg; have hcz7_0 := Bj BK127.o; have hcz7_1 := Bn BK127.o; have hfz7_0 := Ac BK127.o 0; have hfz7_1 := Ac BK127.o 1) | ((with_reducible refine Aj (f := 17) rfl ?_); refine Bf (some 6) rfl rfl Try.func17 (by kernel_rfl) rfl #[.agg #[.int .i64 a0_0, .bool true]] rfl (by (try simp only [mT_, mC_, mN_]); rfl) ?_; (with_reducible refine (Ew.calls a0_0 true true _ A3.o).mono ?_); rintro e w8 ⟨rfl, hb⟩; refine ⟨_, rfl, ?_⟩; replace BK127 := Aa.k (Ae (g := gb127) (o := .cells #[.int .i64 a0_0, .bool true] 25 (0, 0)) (by exact BK127.o) hb); replace HB := Aa.k (Ad HB.o hb); clear hb; have hcz9_0 := Bj BK127.o; have hcz9_1 := Bn BK127.o; have hfz9_0 := Ac BK127.o 0; have hfz9_1 := Ac BK127.o 1))
  go_ret
  exact ⟨by (rfl), by exact HB.o⟩
 replace c5 := Bool.eq_false_iff.mpr c5
 subst c5
 rw [if_neg (show ¬ (false = true) by decide)] at H
 obtain ⟨y129, hy129⟩ : ∃ y_ : List Int, y_ = (([a1] : List Int)) := ⟨_, rfl⟩
 replace H : ((Dm.f k a0_0 false y129).bind fun t132 => (some t132)) = some r := by (rw [hy129]; exact H)
 have Ny129 := Aa.k hy129
 clear hy129
 obtain ⟨t132, A100, H⟩ := bindS_ H
 try dsimp only at H
 have A10 := Aa.k A100
 clear A100
 obtain rfl := Option.some.inj H
 go_enter Try.func82, Try.ntmps82
 go_wp2_with (first | ((with_reducible refine Be (N := 2) rfl ?_); (try (refine gate_guard (by rfl) ?_; dsimp only)); refine Bo ?hg (N := 2) ?hd (cs := #[.int .i64 a0_0, .bool false]) (t := 25) ?hr ?_; (case hd => rfl); (case hg => rfl); (case hr => (go_simp; done)); intro gb127 hg w11 hbox hb; have BK127 := Aa.k (hbox); have GW127 := Aa.k ((by rw [hg]; exact (Af HB.o) : w.heap.size ≤ gb127)); have GE127 := Aa.k ((by rw [hg]; exact (Af HB.o) : w.heap.size ≤ gb127)); replace HB := Aa.k (Ad HB.o hb); clear hb hbox hg; have hcz12_0 := Bj BK127.o; have hcz12_1 := Bn BK127.o; have hfz12_0 := Ac BK127.o 0; have hfz12_1 := Ac BK127.o 1) | ((with_reducible refine Aj (f := 17) rfl ?_); refine Bf (some 6) rfl rfl Try.func17 (by kernel_rfl) rfl #[.agg #[.int .i64 a0_0, .bool false]] rfl (by (try simp only [mT_, mC_, mN_]); rfl) ?_; (with_reducible refine (Ew.calls a0_0 false true _ A3.o).mono ?_); rintro e w13 ⟨rfl, hb⟩; refine ⟨_, rfl, ?_⟩; replace BK127 := Aa.k (Ae (g := gb127) (o := .cells #[.int .i64 a0_0, .bool false] 25 (0, 0)) (by exact BK127.o) hb); replace HB := Aa.k (Ad HB.o hb); clear hb; have hcz14_0 := Bj BK127.o; have hcz14_1 := Bn BK127.o; have hfz14_0 := Ac BK127.o 0; have hfz14_1 := Ac BK127.o 1) | ((with_reducible refine Be (N := 15) rfl ?_); (try (refine gate_guard (by rfl) ?_; dsimp only)); refine Kd.R_lit (Kd.int .i64) _ 3 ?hg (N := 15) ?hd (xs := ([a1] : List Int)) (inner := [.int .i64 a1]) (ok := fun _ => True) (okp := fun _ => True) ?hr ?hp (fun _ hk => hk) trivial (Below.refl _ _) (Nat.le_refl _) (by simp) ?_; (case hd => rfl); (case hg => rfl); (case hr => (go_simp; done)); (case hp => exact (Reps.one (show Kd.M (Kd.int .i64) _ _ _ a1 [.int .i64 a1] from rfl) (Reps.none _ _))); intro v130 w15 ho16 hb hg_ hnew_; clear hg_ hnew_; ((rw [← Ny129.o] at ho16)); have HO131 := Aa.k (Kd.Ct ho16 (Af HB.o)); replace BK127 := Aa.k (Ae (g := gb127) (o := .cells #[.int .i64 a0_0, .bool false] 25 (0, 0)) (by exact BK127.o) hb); replace HB := Aa.k (Ad HB.o hb); clear hb ho16; obtain ⟨Ao17, co17, eo17⟩ := Kd.Cx HO131.o; subst eo17) | (go_at_call 61; (with_reducible refine (Dm.calls k a0_0 false _ _ y129 t132 _ ?side1 ?side2 A10.o).mono ?_); (case side1 => repeat (exact (Kd.Bb HO131.o).2.2)); (case side2 => exact (Kd.Bb HO131.o).2.1); rintro e w18 ⟨rfl, hb⟩; replace HO131 := Aa.k (Kd.Ba (by exact HO131.o) hb); replace BK127 := Aa.k (Ae (g := gb127) (o := .cells #[.int .i64 a0_0, .bool false] 25 (0, 0)) (by exact BK127.o) hb); replace HB := Aa.k (Ad HB.o hb); clear hb))
 go_ret
 exact ⟨by (rfl), by exact HB.o⟩

/-! ### spec_l1In: function 100 -/
def Eu.f (a0 : Int) (a1 : Int) (a2 : Int) : Option (Bool) := if a0 ≥ a1 then (some (decide (a0 ≤ a2))) else (some false)
set_option maxHeartbeats 8000000 in
set_option maxRecDepth 100000 in
theorem Eu.calls (a0 : Int) (a1 : Int) (a2 : Int) (r : Bool) (w : World) (h : Eu.f a0 a1 a2 = some r) :
  Calls Try.prog 100 #[.int .i64 a0, .int .i64 a1, .int .i64 a2] w fun e w' => e = .returned (.bool r) ∧ Cu w w' := by
 have H : (if a0 ≥ a1 then (some (decide (a0 ≤ a2))) else (some false)) = some r := h
 clear h
 by_cases c4 : a0 ≥ a1
 ·rw [if_pos c4] at H
  have c4b0 : decide (a1 ≤ a0) = true := decide_eq_true c4
  clear c4
  obtain rfl := Option.some.inj H
  go_enter Try.func100, Try.ntmps100
  go_wp2
  go_ret
  exact ⟨by (rfl), by repeat (exact Cu.refl _)⟩
 rw [if_neg c4] at H
 have c4b0 : decide (a1 ≤ a0) = false := decide_eq_false c4
 clear c4
 obtain rfl := Option.some.inj H
 go_enter Try.func100, Try.ntmps100
 go_wp2
 go_ret
 exact ⟨by (rfl), by repeat (exact Cu.refl _)⟩

end Go.Proofs.Ytogflbocmiogpaa.PFnBestSearch
