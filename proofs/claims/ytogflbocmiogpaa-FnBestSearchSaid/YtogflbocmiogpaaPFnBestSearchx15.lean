-- Written for this claim by this session's turned copy of the printer.
import Derived.Test.YtogflbocmiogpaaPFnBestSearchx0
import Derived.Test.YtogflbocmiogpaaPFnBestSearchx2
namespace Go.Proofs.Ytogflbocmiogpaa.PFnBestSearch
open Go.RowKit Go.Proofs.YtogflbocmiogpaaW.PrintWords Go.Proofs.YtogflbocmiogpaaW.PrintLast Go.Proofs.YtogflbocmiogpaaW.PrintMore
open List renaming map_toArray → mT_, map_cons → mC_, map_nil → mN_
attribute [local go_sem] max2_int min2_int max_two min_two Fj Fh max_four min_four   -- for this text's walks alone
set_option linter.unusedVariables false
set_option linter.unusedSimpArgs false

/-! ### spec_l3Times: function 80 -/
mutual
def Bp.l0 : Nat → List Int → Int → List Int → Int → Int → Int → Int → Int → Option (List Int)
 | 0, _, _, _, _, _, _, _, _ => none
 | k + 1, x2, x3, x9, x10, x11, x12, x13, x14 => if x14 < (x2.length : Int) then (Bp.l1 k x2 x3 x9 x10 x11 x12 x13 x14) else (some x9)
def Bp.l1 : Nat → List Int → Int → List Int → Int → Int → Int → Int → Int → Option (List Int)
 | 0, _, _, _, _, _, _, _, _ => none
 | k + 1, x2, x3, x9, x10, x11, x12, x13, x14 => if 0 ≤ x14 then (if x14 < (x2.length : Int) then (if x13 < (rd x2 x14) then (if 0 ≤ (wrap64 (x13 + 1)) then (if (wrap64 (x13 + 1)) < (x9.length : Int) then (Bp.l1 k x2 x3 (x9.set ((wrap64 (x13 + 1)) : Int).toNat (wrap64 ((wrap64 (x10 + (wrap64 (x13 + 1)))) - x11))) x10 x11 x12 (wrap64 (x13 + 1)) x14) else (none)) else (none)) else (Bp.l2 k x2 x3 x9 x10 x11 x12 x13 x14)) else (none)) else (none)
def Bp.l2 : Nat → List Int → Int → List Int → Int → Int → Int → Int → Int → Option (List Int)
 | 0, _, _, _, _, _, _, _, _ => none
 | k + 1, x2, x3, x9, x10, x11, x12, x13, x14 => if 0 ≤ x14 then (if x14 < (x2.length : Int) then (if x12 > (rd x2 x14) then (if 0 ≤ (wrap64 (x12 - 1)) then (if (wrap64 (x12 - 1)) < (x9.length : Int) then (Bp.l2 k x2 x3 (x9.set ((wrap64 (x12 - 1)) : Int).toNat (wrap64 ((wrap64 (x10 + x11)) - (wrap64 (x12 - 1))))) x10 x11 (wrap64 (x12 - 1)) x13 x14) else (none)) else (none)) else ((Ec.f (wrap64 ((rd x2 x14) - x11)) (wrap64 (x11 - (rd x2 x14)))).bind fun t326 => (Bp.l0 k x2 x3 x9 (wrap64 ((wrap64 (x10 + t326)) + x3)) (rd x2 x14) x12 x13 (wrap64 (x14 + 1))))) else (none)) else (none)
end
def Bp.f (k : Nat) (a0_0 : Int) (a0_1 : Bool) (a1 : Int) (l2 : List Int) (a3 : Int) : Option (List Int) := if 0 ≤ a0_0 then (if (a0_0 : Int).toNat ≤ 35184372088832 then (Bp.l0 k l2 a3 (List.replicate (a0_0 : Int).toNat 0) 0 a1 a1 a1 0) else (none)) else (none)
set_option maxHeartbeats 8000000 in
set_option maxRecDepth 100000 in
theorem Bp.calls (k : Nat) (a0_0 : Int) (a0_1 : Bool) (a1 : Int) (A2 : Option Addr) (c2 : Nat) (l2 : List Int) (a3 : Int) (r : List Int) (w : World) (hr2 : Kd.C (Kd.int .i64) w A2 l2.length l2) (hc2 : l2.length ≤ c2) (h : Bp.f k a0_0 a0_1 a1 l2 a3 = some r) :
  Calls Try.prog 80 #[.agg #[.int .i64 a0_0, .bool a0_1], .int .i64 a1, .slice A2 l2.length c2, .int .i64 a3] w fun e w' => ∃ v0_ : Value, e = .returned (v0_) ∧ Kd.R (Kd.int .i64) 3 w' w.heap.size (fun _ => True) v0_ r ∧ Below w.heap.size w w' := by
 have hu25 := Try.underlying25
 have HR2 := Aa.k hr2
 have HC2 := Aa.k hc2
 clear hr2 hc2
 have HB := Aa.k (Below.refl w.heap.size w)
 have H : (if 0 ≤ a0_0 then (if (a0_0 : Int).toNat ≤ 35184372088832 then (Bp.l0 k l2 a3 (List.replicate (a0_0 : Int).toNat 0) 0 a1 a1 a1 0) else (none)) else (none)) = some r := h
 clear h
 by_cases c5 : 0 ≤ a0_0
 rotate_left
 ·rw [if_neg c5] at H
  exact absurd H (by simp)
 rw [if_pos c5] at H
 have c5b0 := eq_true c5
 have c5b1 : decide (0 ≤ a0_0) = true := decide_eq_true c5
 clear c5
 by_cases c6 : (a0_0 : Int).toNat ≤ 35184372088832
 rotate_left
 ·rw [if_neg c6] at H
  exact absurd H (by simp)
 rw [if_pos c6] at H
 have c6b0 := eq_true c6
 have c6b1 : decide ((a0_0 : Int).toNat ≤ 35184372088832) = true := decide_eq_true c6
 clear c6
 obtain ⟨y317, hy317⟩ : ∃ y_ : List Int, y_ = (List.replicate (a0_0 : Int).toNat 0) := ⟨_, rfl⟩
 replace H : (Bp.l0 k l2 a3 y317 0 a1 a1 a1 0) = some r := by (rw [hy317]; exact H)
 have Ny317 := Aa.k hy317
 clear hy317
 have H' := Aa.k H
 clear H
 go_enter Try.func80, Try.ntmps80
 go_wp2_with (first | ((with_reducible refine Be (N := 4) rfl ?_); refine Bo ?hg (N := 4) ?hd (cs := #[.int .i64 a0_0, .bool a0_1]) (t := 25) ?hr ?_; (case hd => rfl); (case hg => rfl); (case hr => (go_simp; done)); intro gb316 hg w7 hbox hb; have BK316 := Aa.k (hbox); have GW316 := Aa.k ((by rw [hg]; exact (Af HB.o) : w.heap.size ≤ gb316)); have GE316 := Aa.k ((by rw [hg]; exact (Af HB.o) : w.heap.size ≤ gb316)); replace HB := Aa.k (Ad HB.o hb); clear hb hbox hg; have hcz8_0 := Bj BK316.o; have hcz8_1 := Bn BK316.o; have hfz8_0 := Ac BK316.o 0; have hfz8_1 := Ac BK316.o 1) | ((with_reducible refine Be (N := 17) rfl ?_); refine Kd.R_make (Kd.int .i64) _ 3 rfl (N := 17) rfl 30 _ _ rfl a0_0 rfl rfl Try.underlying30 (.int .i64 0) 8 info3 rfl (by decide) (by omega) 0 (ok := fun _ => True) (okp := fun _ => True) rfl (fun _ hk => hk) trivial (of_decide_eq_true (by (with_reducible assumption))) (Nat.le_trans (Nat.mul_le_mul_right _ (of_decide_eq_true (by (with_reducible assumption)) : a0_0.toNat ≤ 35184372088832)) (by omega)) (Below.refl _ _) (Nat.le_refl _) ?_; intro v318 w9 ho10 hb hg_ hnew_; clear hg_ hnew_; ((rw [← Ny317.o] at ho10)); have HO319 := Aa.k (Kd.Ct ho10 (Af HB.o)); replace BK316 := Aa.k (Ae (g := gb316) (o := .cells #[.int .i64 a0_0, .bool a0_1] 25 (0, 0)) (by exact BK316.o) hb); replace HB := Aa.k (Ad HB.o hb); clear hb ho10))
 repeat (go_quiet (fail); try go_wp2_with (fail))
 go_loopg [10, 11, 12, 13, 14] k (fun kq v10 v11 v12 v13 v14 w' => ∃ (x9_1 : List Int) (x10_1 : Int) (x11_1 : Int) (x12_1 : Int) (x13_1 : Int) (x14_1 : Int), v10 = .int .i64 x10_1 ∧ v11 = .int .i64 x11_1 ∧ v12 = .int .i64 x12_1 ∧ v13 = .int .i64 x13_1 ∧ v14 = .int .i64 x14_1 ∧ Aa (Bp.l0 kq l2 a3 x9_1 x10_1 x11_1 x12_1 x13_1 x14_1 = some r) ∧ Aa (kq ≤ k) ∧ Aa (Kd.R (Kd.int .i64) 3 w' w.heap.size (fun _ => True) v318 x9_1) ∧ Aa (w'.heap[gb316]? = some (.cells #[.int .i64 a0_0, .bool a0_1] 25 (0, 0))) ∧ Aa (Below w.heap.size w w'))
 case atStart => exact ⟨(y317), (0), (a1), (a1), (a1), (0), (by (rfl)), (by (rfl)), (by (rfl)), (by (rfl)), (by (rfl)), H', ⟨Nat.le_refl _⟩, ⟨by exact HO319.o⟩, ⟨by exact BK316.o⟩, ⟨by exact HB.o⟩⟩
 case round =>
  clear H'
  clear c5b0 c5b1 c6b0 c6b1 hcz8_0 hcz8_1 hfz8_0 hfz8_1
  obtain ⟨x9_1, x10_1, x11_1, x12_1, x13_1, x14_1, rfl, rfl, rfl, rfl, rfl, HA, HK1, HO_9, BK316, HB⟩ := hrel
  cases gk with
  | zero => exact absurd HA.o (by simp [Bp.l0])
  | succ k1 =>
   have H := HA.o
   clear HA
   simp only [Bp.l0] at H
   by_cases c11 : x14_1 < (l2.length : Int)
   rotate_left
   ·rw [if_neg c11] at H
    have c11b0 : decide (x14_1 < (l2.length : Int)) = false := decide_eq_false c11
    clear c11
    obtain rfl := Option.some.inj H
    go_wp2
    repeat (go_quiet (fail); try go_wp2)
    go_ret
    exact ⟨_, by (rfl), by exact HO_9.o, by exact HB.o⟩
   rw [if_pos c11] at H
   have c11b0 : decide (x14_1 < (l2.length : Int)) = true := decide_eq_true c11
   clear c11
   have H' := Aa.k H
   clear H
   go_wp2
   repeat (go_quiet (fail); try go_wp2)
   go_loopg [13] k1 (fun kq v13 w' => ∃ (x9_2 : List Int) (x13_2 : Int), v13 = .int .i64 x13_2 ∧ Aa (Bp.l1 kq l2 a3 x9_2 x10_1 x11_1 x12_1 x13_2 x14_1 = some r) ∧ Aa (kq ≤ k1) ∧ Aa (Kd.R (Kd.int .i64) 3 w' w.heap.size (fun _ => True) v318 x9_2) ∧ Aa (w'.heap[gb316]? = some (.cells #[.int .i64 a0_0, .bool a0_1] 25 (0, 0))) ∧ Aa (Below w.heap.size w w'))
   case atStart => exact ⟨(x9_1), (x13_1), (by (rfl)), H', ⟨Nat.le_refl _⟩, ⟨by exact HO_9.o⟩, ⟨by exact BK316.o⟩, ⟨by exact HB.o⟩⟩
   case round =>
    clear H'
    clear c11b0
    obtain ⟨x9_2, x13_2, rfl, HA, HK2, HO_9, BK316, HB⟩ := hrel
    cases gk with
    | zero => exact absurd HA.o (by simp [Bp.l1])
    | succ k2 =>
     have H := HA.o
     clear HA
     simp only [Bp.l1] at H
     by_cases c12 : 0 ≤ x14_1
     rotate_left
     ·rw [if_neg c12] at H
      exact absurd H (by simp)
     rw [if_pos c12] at H
     have c12b0 : decide (0 ≤ x14_1) = true := decide_eq_true c12
     clear c12
     by_cases c13 : x14_1 < (l2.length : Int)
     rotate_left
     ·rw [if_neg c13] at H
      exact absurd H (by simp)
     rw [if_pos c13] at H
     have c13b0 : decide (x14_1 < (l2.length : Int)) = true := decide_eq_true c13
     clear c13
     by_cases c14 : x13_2 < (rd l2 x14_1)
     ·rw [if_pos c14] at H
      have c14b0 : decide (x13_2 < (rd l2 x14_1)) = true := decide_eq_true c14
      clear c14
      obtain ⟨ji15, hji15⟩ : ∃ j_ : Int, (wrap64 (x13_2 + 1)) = j_ := ⟨_, rfl⟩
      replace H : (if 0 ≤ (ji15) then (if (ji15) < (x9_2.length : Int) then (Bp.l1 k2 l2 a3 (x9_2.set ((ji15) : Int).toNat (wrap64 ((wrap64 (x10_1 + (ji15))) - x11_1))) x10_1 x11_1 x12_1 ji15 x14_1) else (none)) else (none)) = some r := by (rw [hji15] at H; exact H)
      have hji15w : (IntKind.i64.wrap (x13_2 + 1)) = ji15 := (Ah _).trans hji15
      by_cases c16 : 0 ≤ (ji15)
      rotate_left
      ·rw [if_neg c16] at H
       exact absurd H (by simp)
      rw [if_pos c16] at H
      have c16b0 : decide (0 ≤ (ji15)) = true := decide_eq_true c16
      clear c16
      by_cases c17 : (ji15) < (x9_2.length : Int)
      rotate_left
      ·rw [if_neg c17] at H
       exact absurd H (by simp)
      rw [if_pos c17] at H
      have c17b0 : decide ((ji15) < (x9_2.length : Int)) = true := decide_eq_true c17
      clear c17
      obtain ⟨y321, hy321⟩ : ∃ y_ : List Int, y_ = (x9_2.set ((ji15) : Int).toNat (wrap64 ((wrap64 (x10_1 + (ji15))) - x11_1))) := ⟨_, rfl⟩
      replace H : (Bp.l1 k2 l2 a3 y321 x10_1 x11_1 x12_1 ji15 x14_1) = some r := by (rw [hy321]; exact H)
      have Ny321 := Aa.k hy321
      clear hy321
      have H' := Aa.k H
      clear H
      have p320 : 0 ≤ (x14_1 : Int) := of_decide_eq_true (by (assumption))
      have q320 : x14_1 < (l2.length : Int) := of_decide_eq_true (by (assumption))
      obtain ⟨ad320, e320, hx320_0⟩ := Kd.Eo HR2.o x14_1 p320 q320
      cases e320
      replace hx320_0 := (HB.o.cell (World.block_lt_of_cell? w _ hx320_0)).trans hx320_0
      replace p320 := eq_true p320
      replace q320 := eq_true q320
      have p18 : 0 ≤ ((ji15) : Int) := of_decide_eq_true (by (assumption))
      have q18 : ((ji15) : Int) < ((x9_2.length : Int) : Int) := of_decide_eq_true (by (assumption))
      obtain ⟨go18, co18, eo18, gb18, gl18, cl18, HG18⟩ := Kd.R_form HO_9.o (by omega)
      ((cases eo18))
      have GB18 := Aa.k gb18
      have GG18 := Aa.k HG18
      clear gb18 gl18 HG18
      obtain ⟨hx18_0, hf18_0⟩ := Kd.R_celln 0 HO_9.o ((ji15) : Int) p18 q18
      replace p18 := eq_true p18
      replace q18 := eq_true q18
      have HP19 := Kd.R_putg HO_9.o ((ji15) : Int) (wrap64 ((wrap64 (x10_1 + (ji15))) - x11_1))
      go_wp2_with (((refine gate_store (t := 3) (p := 42) rfl ?_); (try (rw [drewN_self wr]; generalize hq_ : World.drewN wr _ = wr; have HB := Aa.k (below_at hq_ HB.o); clear hq_ HO_9 BK316 HB; have HO_9 := Aa.k (Kd.R_at hq_ HO_9.o); have BK316 := Aa.k (blk_at hq_ BK316.o); (try (have HP19 := Kd.R_putg HO_9.o ((ji15) : Int) (wrap64 ((wrap64 (x10_1 + (ji15))) - x11_1)))))); refine store_event (t := 3) (p := 42) (v := ?vo_w20) (w1 := (wr.setCell ⟨go18, ((ji15) : Int).toNat, none⟩ (.int .i64 (wrap64 ((wrap64 (x10_1 + (ji15))) - x11_1))))) ?hg ?ho ?hn ?hr ?_; (case ho => rfl); (case hg => rfl); (case hn => rfl); (case hr => (go_simp; done)); intro w20 hw; have hg : wr.grownBy w20 (some go18) := (by rw [hw]; exact HP19.2); have hp_ : Kd.R (Kd.int .i64) 3 w20 w.heap.size (fun _ => True) (.slice (some ⟨go18, 0, none⟩) x9_2.length co18) y321 := (by rw [hw, Ny321.o]; exact HP19.1); clear HP19; replace BK316 := Aa.k (Fb (g := gb316) (o := .cells #[.int .i64 a0_0, .bool a0_1] 25 (0, 0)) (by exact BK316.o) hg (Kd.R_ne HO_9.o BK316.o (by decide))); replace HO_9 := Aa.k (hp_); replace HB := Aa.k ((by rw [hw]; exact Bz (HB.o) GB18.o : Below w.heap.size w w20)); clear hg hw hp_))
      repeat (go_quiet (fail); try go_wp2_with (fail))
      go_roundg k2
      case measure => have := HK1.o; have := HK2.o; omega
      case rel => exact ⟨(y321), (ji15), (by (rfl)), H', ⟨by have := HK1.o; have := HK2.o; omega⟩, ⟨by exact HO_9.o⟩, ⟨by exact BK316.o⟩, ⟨by exact HB.o⟩⟩
     rw [if_neg c14] at H
     have c14b0 : decide (x13_2 < (rd l2 x14_1)) = false := decide_eq_false c14
     clear c14
     have H' := Aa.k H
     clear H
     have p320 : 0 ≤ (x14_1 : Int) := of_decide_eq_true (by (assumption))
     have q320 : x14_1 < (l2.length : Int) := of_decide_eq_true (by (assumption))
     obtain ⟨ad320, e320, hx320_0⟩ := Kd.Eo HR2.o x14_1 p320 q320
     cases e320
     replace hx320_0 := (HB.o.cell (World.block_lt_of_cell? w _ hx320_0)).trans hx320_0
     replace p320 := eq_true p320
     replace q320 := eq_true q320
     go_wp2
     repeat (go_quiet (fail); try go_wp2)
     go_loopg [12] k2 (fun kq v12 w' => ∃ (x9_3 : List Int) (x12_3 : Int), v12 = .int .i64 x12_3 ∧ Aa (Bp.l2 kq l2 a3 x9_3 x10_1 x11_1 x12_3 x13_2 x14_1 = some r) ∧ Aa (kq ≤ k2) ∧ Aa (Kd.R (Kd.int .i64) 3 w' w.heap.size (fun _ => True) v318 x9_3) ∧ Aa (w'.heap[gb316]? = some (.cells #[.int .i64 a0_0, .bool a0_1] 25 (0, 0))) ∧ Aa (Below w.heap.size w w'))
     case atStart => exact ⟨(x9_2), (x12_1), (by (rfl)), H', ⟨Nat.le_refl _⟩, ⟨by exact HO_9.o⟩, ⟨by exact BK316.o⟩, ⟨by exact HB.o⟩⟩
     case round =>
      clear H'
      clear c12b0 c13b0 c14b0
      clear hx320_0 p320 q320
      obtain ⟨x9_3, x12_3, rfl, HA, HK3, HO_9, BK316, HB⟩ := hrel
      cases gk with
      | zero => exact absurd HA.o (by simp [Bp.l2])
      | succ k3 =>
       have H := HA.o
       clear HA
       simp only [Bp.l2] at H
       by_cases c21 : 0 ≤ x14_1
       rotate_left
       ·rw [if_neg c21] at H
        exact absurd H (by simp)
       rw [if_pos c21] at H
       have c21b0 : decide (0 ≤ x14_1) = true := decide_eq_true c21
       clear c21
       by_cases c22 : x14_1 < (l2.length : Int)
       rotate_left
       ·rw [if_neg c22] at H
        exact absurd H (by simp)
       rw [if_pos c22] at H
       have c22b0 : decide (x14_1 < (l2.length : Int)) = true := decide_eq_true c22
       clear c22
       by_cases c23 : x12_3 > (rd l2 x14_1)
       rotate_left
       ·rw [if_neg c23] at H
        have c23b0 : decide ((rd l2 x14_1) < x12_3) = false := decide_eq_false c23
        clear c23
        obtain ⟨t326, A300, H⟩ := bindS_ H
        try dsimp only at H
        have A30 := Aa.k A300
        clear A300
        have H' := Aa.k H
        clear H
        have p322 : 0 ≤ (x14_1 : Int) := of_decide_eq_true (by (assumption))
        have q322 : x14_1 < (l2.length : Int) := of_decide_eq_true (by (assumption))
        obtain ⟨ad322, e322, hx322_0⟩ := Kd.Eo HR2.o x14_1 p322 q322
        obtain rfl : ad320 = ad322 := (by injection e322)
        replace hx322_0 := (HB.o.cell (World.block_lt_of_cell? w _ hx322_0)).trans hx322_0
        replace p322 := eq_true p322
        replace q322 := eq_true q322
        have p324 : 0 ≤ (x14_1 : Int) := of_decide_eq_true (by (assumption))
        have q324 : x14_1 < (l2.length : Int) := of_decide_eq_true (by (assumption))
        obtain ⟨ad324, e324, hx324_0⟩ := Kd.Eo HR2.o x14_1 p324 q324
        obtain rfl : ad320 = ad324 := (by injection e324)
        replace hx324_0 := (HB.o.cell (World.block_lt_of_cell? w _ hx324_0)).trans hx324_0
        replace p324 := eq_true p324
        replace q324 := eq_true q324
        have p325 : 0 ≤ (x14_1 : Int) := of_decide_eq_true (by (assumption))
        have q325 : x14_1 < (l2.length : Int) := of_decide_eq_true (by (assumption))
        obtain ⟨ad325, e325, hx325_0⟩ := Kd.Eo HR2.o x14_1 p325 q325
        obtain rfl : ad320 = ad325 := (by injection e325)
        replace hx325_0 := (HB.o.cell (World.block_lt_of_cell? w _ hx325_0)).trans hx325_0
        replace p325 := eq_true p325
        replace q325 := eq_true q325
        go_wp2_with (fail)
        repeat (go_quiet ((go_at_call 86; (try simp only [Ah, Ai]); (refine (Ec.calls (wrap64 ((rd l2 x14_1) - x11_1)) (wrap64 (x11_1 - (rd l2 x14_1))) t326 _ A30.o).mono ?_); rintro e w' ⟨rfl, ⟨nd, rfl⟩⟩; (try (exact ⟨rfl, _, World.drewN_drewN _ _ _⟩)); have p327 : 0 ≤ (x14_1 : Int) := of_decide_eq_true (by (assumption)); have q327 : x14_1 < (l2.length : Int) := of_decide_eq_true (by (assumption)); obtain ⟨ad327, e327, hx327_0⟩ := Kd.Eo HR2.o x14_1 p327 q327; obtain rfl : ad320 = ad327 := (by injection e327); replace hx327_0 := (HB.o.cell (World.block_lt_of_cell? w _ hx327_0)).trans hx327_0; replace p327 := eq_true p327; replace q327 := eq_true q327)); try go_wp2_with (fail))
        go_roundg k3
        case measure => have := HK1.o; have := HK2.o; have := HK3.o; omega
        case rel => exact ⟨(x9_3), (wrap64 ((wrap64 (x10_1 + t326)) + a3)), (rd l2 x14_1), (x12_3), (x13_2), (wrap64 (x14_1 + 1)), (by (simp only [Ah, Ai]; done)), (by (rfl)), (by (rfl)), (by (rfl)), (by (rfl)), H', ⟨by have := HK1.o; have := HK2.o; have := HK3.o; omega⟩, ⟨by (with_reducible repeat ((apply Kd.Ee))); exact HO_9.o⟩, ⟨by (with_reducible repeat ((refine Dk ?_ _))); exact BK316.o⟩, ⟨by repeat ((with_reducible first | exact HB.o | apply Bh))⟩⟩
       rw [if_pos c23] at H
       have c23b0 : decide ((rd l2 x14_1) < x12_3) = true := decide_eq_true c23
       clear c23
       obtain ⟨ji24, hji24⟩ : ∃ j_ : Int, (wrap64 (x12_3 - 1)) = j_ := ⟨_, rfl⟩
       replace H : (if 0 ≤ (ji24) then (if (ji24) < (x9_3.length : Int) then (Bp.l2 k3 l2 a3 (x9_3.set ((ji24) : Int).toNat (wrap64 ((wrap64 (x10_1 + x11_1)) - (ji24)))) x10_1 x11_1 ji24 x13_2 x14_1) else (none)) else (none)) = some r := by (rw [hji24] at H; exact H)
       have hji24w : (IntKind.i64.wrap (x12_3 - 1)) = ji24 := (Ah _).trans hji24
       by_cases c25 : 0 ≤ (ji24)
       rotate_left
       ·rw [if_neg c25] at H
        exact absurd H (by simp)
       rw [if_pos c25] at H
       have c25b0 : decide (0 ≤ (ji24)) = true := decide_eq_true c25
       clear c25
       by_cases c26 : (ji24) < (x9_3.length : Int)
       rotate_left
       ·rw [if_neg c26] at H
        exact absurd H (by simp)
       rw [if_pos c26] at H
       have c26b0 : decide ((ji24) < (x9_3.length : Int)) = true := decide_eq_true c26
       clear c26
       obtain ⟨y323, hy323⟩ : ∃ y_ : List Int, y_ = (x9_3.set ((ji24) : Int).toNat (wrap64 ((wrap64 (x10_1 + x11_1)) - (ji24)))) := ⟨_, rfl⟩
       replace H : (Bp.l2 k3 l2 a3 y323 x10_1 x11_1 ji24 x13_2 x14_1) = some r := by (rw [hy323]; exact H)
       have Ny323 := Aa.k hy323
       clear hy323
       have H' := Aa.k H
       clear H
       have p322 : 0 ≤ (x14_1 : Int) := of_decide_eq_true (by (assumption))
       have q322 : x14_1 < (l2.length : Int) := of_decide_eq_true (by (assumption))
       obtain ⟨ad322, e322, hx322_0⟩ := Kd.Eo HR2.o x14_1 p322 q322
       obtain rfl : ad320 = ad322 := (by injection e322)
       replace hx322_0 := (HB.o.cell (World.block_lt_of_cell? w _ hx322_0)).trans hx322_0
       replace p322 := eq_true p322
       replace q322 := eq_true q322
       have p27 : 0 ≤ ((ji24) : Int) := of_decide_eq_true (by (assumption))
       have q27 : ((ji24) : Int) < ((x9_3.length : Int) : Int) := of_decide_eq_true (by (assumption))
       obtain ⟨go27, co27, eo27, gb27, gl27, cl27, HG27⟩ := Kd.R_form HO_9.o (by omega)
       ((cases eo27))
       have GB27 := Aa.k gb27
       have GG27 := Aa.k HG27
       clear gb27 gl27 HG27
       obtain ⟨hx27_0, hf27_0⟩ := Kd.R_celln 0 HO_9.o ((ji24) : Int) p27 q27
       replace p27 := eq_true p27
       replace q27 := eq_true q27
       have HP28 := Kd.R_putg HO_9.o ((ji24) : Int) (wrap64 ((wrap64 (x10_1 + x11_1)) - (ji24)))
       go_wp2_with (((refine gate_store (t := 3) (p := 58) rfl ?_); (try (rw [drewN_self wr]; generalize hq_ : World.drewN wr _ = wr; have HB := Aa.k (below_at hq_ HB.o); clear hq_ HO_9 BK316 HB; have HO_9 := Aa.k (Kd.R_at hq_ HO_9.o); have BK316 := Aa.k (blk_at hq_ BK316.o); (try (have HP28 := Kd.R_putg HO_9.o ((ji24) : Int) (wrap64 ((wrap64 (x10_1 + x11_1)) - (ji24))))))); refine store_event (t := 3) (p := 58) (v := ?vo_w29) (w1 := (wr.setCell ⟨go27, ((ji24) : Int).toNat, none⟩ (.int .i64 (wrap64 ((wrap64 (x10_1 + x11_1)) - (ji24)))))) ?hg ?ho ?hn ?hr ?_; (case ho => rfl); (case hg => rfl); (case hn => rfl); (case hr => (go_simp; done)); intro w29 hw; have hg : wr.grownBy w29 (some go27) := (by rw [hw]; exact HP28.2); have hp_ : Kd.R (Kd.int .i64) 3 w29 w.heap.size (fun _ => True) (.slice (some ⟨go27, 0, none⟩) x9_3.length co27) y323 := (by rw [hw, Ny323.o]; exact HP28.1); clear HP28; replace BK316 := Aa.k (Fb (g := gb316) (o := .cells #[.int .i64 a0_0, .bool a0_1] 25 (0, 0)) (by exact BK316.o) hg (Kd.R_ne HO_9.o BK316.o (by decide))); replace HO_9 := Aa.k (hp_); replace HB := Aa.k ((by rw [hw]; exact Bz (HB.o) GB27.o : Below w.heap.size w w29)); clear hg hw hp_))
       repeat (go_quiet (fail); try go_wp2_with (fail))
       go_roundg k3
       case measure => have := HK1.o; have := HK2.o; have := HK3.o; omega
       case rel => exact ⟨(y323), (ji24), (by (rfl)), H', ⟨by have := HK1.o; have := HK2.o; have := HK3.o; omega⟩, ⟨by exact HO_9.o⟩, ⟨by exact BK316.o⟩, ⟨by exact HB.o⟩⟩

/-! ### spec_l3Worst: function 94 -/
def Da.l0 : Nat → Int → List Int → Int → Int → Int → Int → Int → Bool → Option (Int × Int × Int)
 | 0, _, _, _, _, _, _, _, _ => none
 | k + 1, x1, x11, x12, x13, x14, x15, x329000, x329001 => if x15 < x329000 then ((Fz.f x329000 x329001 x1 x15).bind fun t332 => (if t332 > 0 then (if 0 ≤ x15 then (if x15 < (x11.length : Int) then (if (wrap64 ((rd x11 x15) * x14)) > (wrap64 (x13 * t332)) then (Da.l0 k x1 x11 x15 (rd x11 x15) t332 (wrap64 (x15 + 1)) x329000 x329001) else (Da.l0 k x1 x11 x12 x13 x14 (wrap64 (x15 + 1)) x329000 x329001)) else (none)) else (none)) else (Da.l0 k x1 x11 x12 x13 x14 (wrap64 (x15 + 1)) x329000 x329001))) else (some (x12, x13, x14))
def Da.f (k : Nat) (a0_0 : Int) (a0_1 : Bool) (a1 : Int) (l2 : List Int) (a3 : Int) : Option (Int × Int × Int) := (Bp.f k a0_0 a0_1 a1 l2 a3).bind fun t329 => (Da.l0 k a1 t329 0 0 1 0 a0_0 a0_1)
set_option maxHeartbeats 8000000 in
set_option maxRecDepth 100000 in
theorem Da.calls (k : Nat) (a0_0 : Int) (a0_1 : Bool) (a1 : Int) (A2 : Option Addr) (c2 : Nat) (l2 : List Int) (a3 : Int) (r1 : Int) (r2 : Int) (r3 : Int) (w : World) (hr2 : Kd.C (Kd.int .i64) w A2 l2.length l2) (hc2 : l2.length ≤ c2) (h : Da.f k a0_0 a0_1 a1 l2 a3 = some (r1, r2, r3)) :
  Calls Try.prog 94 #[.agg #[.int .i64 a0_0, .bool a0_1], .int .i64 a1, .slice A2 l2.length c2, .int .i64 a3] w fun e w' => e = .returned (.tuple #[.int .i64 r1, .int .i64 r2, .int .i64 r3]) ∧ Below w.heap.size w w' := by
 have hu25 := Try.underlying25
 have HR2 := Aa.k hr2
 have HC2 := Aa.k hc2
 clear hr2 hc2
 have HB := Aa.k (Below.refl w.heap.size w)
 have H : ((Bp.f k a0_0 a0_1 a1 l2 a3).bind fun t329 => (Da.l0 k a1 t329 0 0 1 0 a0_0 a0_1)) = some (r1, r2, r3) := h
 clear h
 obtain ⟨t329, A50, H⟩ := bindS_ H
 try dsimp only at H
 have A5 := Aa.k A50
 clear A50
 have H' := Aa.k H
 clear H
 go_enter Try.func94, Try.ntmps94
 go_wp2_with (first | ((with_reducible refine Be (N := 4) rfl ?_); refine Bo ?hg (N := 4) ?hd (cs := #[.int .i64 a0_0, .bool a0_1]) (t := 25) ?hr ?_; (case hd => rfl); (case hg => rfl); (case hr => (go_simp; done)); intro gb328 hg w6 hbox hb; have BK328 := Aa.k (hbox); have GW328 := Aa.k ((by rw [hg]; exact (Af HB.o) : w.heap.size ≤ gb328)); have GE328 := Aa.k ((by rw [hg]; exact (Af HB.o) : w.heap.size ≤ gb328)); replace HB := Aa.k (Ad HB.o hb); clear hb hbox hg; have hcz7_0 := Bj BK328.o; have hcz7_1 := Bn BK328.o; have hfz7_0 := Ac BK328.o 0; have hfz7_1 := Ac BK328.o 1) | ((with_reducible refine Aj (f := 80) rfl ?_); refine Bf (some 21) rfl rfl Try.func80 (by kernel_rfl) rfl #[.agg #[.int .i64 a0_0, .bool a0_1], .int .i64 a1, .slice A2 l2.length c2, .int .i64 a3] rfl (by (try simp only [mT_, mC_, mN_]); rfl) ?_; (with_reducible refine (Bp.calls k a0_0 a0_1 a1 _ _ l2 a3 t329 _ ?side1 ?side2 A5.o).mono ?_); (case side1 => repeat (exact (Kd.Dx HR2.o HB.o))); (case side2 => exact HC2.o); rintro e w8 ⟨v330, rfl, ho0, hb⟩; refine ⟨_, rfl, ?_⟩; have HO331 := Aa.k (Kd.Ct ho0 (Af HB.o)); replace BK328 := Aa.k (Ae (g := gb328) (o := .cells #[.int .i64 a0_0, .bool a0_1] 25 (0, 0)) (by exact BK328.o) hb); replace HB := Aa.k (Ad HB.o hb); clear hb ho0))
 go_loopg [12, 13, 14, 15] k (fun kq v12 v13 v14 v15 w' => ∃ (x12_1 : Int) (x13_1 : Int) (x14_1 : Int) (x15_1 : Int), v12 = .int .i64 x12_1 ∧ v13 = .int .i64 x13_1 ∧ v14 = .int .i64 x14_1 ∧ v15 = .int .i64 x15_1 ∧ Aa (Da.l0 kq a1 t329 x12_1 x13_1 x14_1 x15_1 a0_0 a0_1 = some (r1, r2, r3)) ∧ Aa (kq ≤ k) ∧ Aa (Kd.R (Kd.int .i64) 3 w' w.heap.size (fun _ => True) v330 t329) ∧ Aa (w'.heap[gb328]? = some (.cells #[.int .i64 a0_0, .bool a0_1] 25 (0, 0))) ∧ Aa (Below w.heap.size w w'))
 case atStart => exact ⟨(0), (0), (1), (0), (by (rfl)), (by (rfl)), (by (rfl)), (by (rfl)), H', ⟨Nat.le_refl _⟩, ⟨by exact HO331.o⟩, ⟨by exact BK328.o⟩, ⟨by exact HB.o⟩⟩
 case round =>
  clear H'
  clear hcz7_0 hcz7_1 hfz7_0 hfz7_1
  obtain ⟨x12_1, x13_1, x14_1, x15_1, rfl, rfl, rfl, rfl, HA, HK1, HO_11, BK328, HB⟩ := hrel
  cases gk with
  | zero => exact absurd HA.o (by simp [Da.l0])
  | succ k1 =>
   have H := HA.o
   clear HA
   simp only [Da.l0] at H
   by_cases c9 : x15_1 < a0_0
   rotate_left
   ·rw [if_neg c9] at H
    have c9b0 : decide (x15_1 < a0_0) = false := decide_eq_false c9
    clear c9
    simp only [Option.some.injEq, Prod.mk.injEq] at H
    obtain ⟨rfl, rfl, rfl⟩ := H
    have hcz23_0 := Bj BK328.o
    have hcz23_1 := Bn BK328.o
    have hfz23_0 := Ac BK328.o 0
    have hfz23_1 := Ac BK328.o 1
    go_wp2
    go_ret3
    exact ⟨by (rfl), by exact HB.o⟩
   rw [if_pos c9] at H
   have c9b0 : decide (x15_1 < a0_0) = true := decide_eq_true c9
   clear c9
   obtain ⟨t332, A100, H⟩ := bindS_ H
   try dsimp only at H
   have A10 := Aa.k A100
   clear A100
   by_cases c11 : t332 > 0
   rotate_left
   ·rw [if_neg c11] at H
    have c11b0 : decide (0 < t332) = false := decide_eq_false c11
    clear c11
    have H' := Aa.k H
    clear H
    have hcz21_0 := Bj BK328.o
    have hcz21_1 := Bn BK328.o
    have hfz21_0 := Ac BK328.o 0
    have hfz21_1 := Ac BK328.o 1
    go_wp2_with (((refine Aj (f := 64) rfl ?_); refine Bf (some 31) rfl rfl Try.func64 (by kernel_rfl) rfl #[.agg #[.int .i64 a0_0, .bool a0_1], .int .i64 a1, .int .i64 x15_1] rfl (by (try simp only [mT_, mC_, mN_]); rfl) ?_; (refine (Fz.calls a0_0 a0_1 a1 x15_1 t332 _ A10.o).mono ?_); rintro e w22 ⟨rfl, hb⟩; refine ⟨_, rfl, ?_⟩; replace HO_11 := Aa.k (Kd.Ba (by exact HO_11.o) hb); replace BK328 := Aa.k (Ae (g := gb328) (o := .cells #[.int .i64 a0_0, .bool a0_1] 25 (0, 0)) (by exact BK328.o) hb); replace HB := Aa.k (Ad HB.o hb); clear hb))
    go_roundg k1
    case measure => have := HK1.o; omega
    case rel => exact ⟨(x12_1), (x13_1), (x14_1), (wrap64 (x15_1 + 1)), (by (rfl)), (by (rfl)), (by (rfl)), (by (rfl)), H', ⟨by have := HK1.o; omega⟩, ⟨by exact HO_11.o⟩, ⟨by exact BK328.o⟩, ⟨by exact HB.o⟩⟩
   rw [if_pos c11] at H
   have c11b0 : decide (0 < t332) = true := decide_eq_true c11
   clear c11
   by_cases c12 : 0 ≤ x15_1
   rotate_left
   ·rw [if_neg c12] at H
    exact absurd H (by simp)
   rw [if_pos c12] at H
   have c12b0 : decide (0 ≤ x15_1) = true := decide_eq_true c12
   clear c12
   by_cases c13 : x15_1 < (t329.length : Int)
   rotate_left
   ·rw [if_neg c13] at H
    exact absurd H (by simp)
   rw [if_pos c13] at H
   have c13b0 : decide (x15_1 < (t329.length : Int)) = true := decide_eq_true c13
   clear c13
   by_cases c14 : (wrap64 ((rd t329 x15_1) * x14_1)) > (wrap64 (x13_1 * t332))
   rotate_left
   ·rw [if_neg c14] at H
    have c14b0 : decide ((wrap64 (x13_1 * t332)) < (wrap64 ((rd t329 x15_1) * x14_1))) = false := decide_eq_false c14
    clear c14
    have H' := Aa.k H
    clear H
    have hcz18_0 := Bj BK328.o
    have hcz18_1 := Bn BK328.o
    have hfz18_0 := Ac BK328.o 0
    have hfz18_1 := Ac BK328.o 1
    go_wp2_with (((refine Aj (f := 64) rfl ?_); refine Bf (some 31) rfl rfl Try.func64 (by kernel_rfl) rfl #[.agg #[.int .i64 a0_0, .bool a0_1], .int .i64 a1, .int .i64 x15_1] rfl (by (try simp only [mT_, mC_, mN_]); rfl) ?_; (refine (Fz.calls a0_0 a0_1 a1 x15_1 t332 _ A10.o).mono ?_); rintro e w19 ⟨rfl, hb⟩; refine ⟨_, rfl, ?_⟩; replace HO_11 := Aa.k (Kd.Ba (by exact HO_11.o) hb); replace BK328 := Aa.k (Ae (g := gb328) (o := .cells #[.int .i64 a0_0, .bool a0_1] 25 (0, 0)) (by exact BK328.o) hb); replace HB := Aa.k (Ad HB.o hb); clear hb; obtain ⟨Ao20, co20, eo20⟩ := Kd.Cx HO_11.o; subst eo20; have p333 : 0 ≤ (x15_1 : Int) := of_decide_eq_true (by (assumption)); have q333 : x15_1 < (t329.length : Int) := of_decide_eq_true (by (assumption)); obtain ⟨ad333, e333, hx333_0⟩ := Kd.Eo (Kd.Bb HO_11.o).2.2 x15_1 p333 q333; cases e333; replace p333 := eq_true p333; replace q333 := eq_true q333))
    go_roundg k1
    case measure => have := HK1.o; omega
    case rel => exact ⟨(x12_1), (x13_1), (x14_1), (wrap64 (x15_1 + 1)), (by (rfl)), (by (rfl)), (by (rfl)), (by (rfl)), H', ⟨by have := HK1.o; omega⟩, ⟨by exact HO_11.o⟩, ⟨by exact BK328.o⟩, ⟨by exact HB.o⟩⟩
   rw [if_pos c14] at H
   have c14b0 : decide ((wrap64 (x13_1 * t332)) < (wrap64 ((rd t329 x15_1) * x14_1))) = true := decide_eq_true c14
   clear c14
   have H' := Aa.k H
   clear H
   have hcz15_0 := Bj BK328.o
   have hcz15_1 := Bn BK328.o
   have hfz15_0 := Ac BK328.o 0
   have hfz15_1 := Ac BK328.o 1
   go_wp2_with (((refine Aj (f := 64) rfl ?_); refine Bf (some 31) rfl rfl Try.func64 (by kernel_rfl) rfl #[.agg #[.int .i64 a0_0, .bool a0_1], .int .i64 a1, .int .i64 x15_1] rfl (by (try simp only [mT_, mC_, mN_]); rfl) ?_; (refine (Fz.calls a0_0 a0_1 a1 x15_1 t332 _ A10.o).mono ?_); rintro e w16 ⟨rfl, hb⟩; refine ⟨_, rfl, ?_⟩; replace HO_11 := Aa.k (Kd.Ba (by exact HO_11.o) hb); replace BK328 := Aa.k (Ae (g := gb328) (o := .cells #[.int .i64 a0_0, .bool a0_1] 25 (0, 0)) (by exact BK328.o) hb); replace HB := Aa.k (Ad HB.o hb); clear hb; obtain ⟨Ao17, co17, eo17⟩ := Kd.Cx HO_11.o; subst eo17; have p333 : 0 ≤ (x15_1 : Int) := of_decide_eq_true (by (assumption)); have q333 : x15_1 < (t329.length : Int) := of_decide_eq_true (by (assumption)); obtain ⟨ad333, e333, hx333_0⟩ := Kd.Eo (Kd.Bb HO_11.o).2.2 x15_1 p333 q333; cases e333; replace p333 := eq_true p333; replace q333 := eq_true q333; have p334 : 0 ≤ (x15_1 : Int) := of_decide_eq_true (by (assumption)); have q334 : x15_1 < (t329.length : Int) := of_decide_eq_true (by (assumption)); obtain ⟨ad334, e334, hx334_0⟩ := Kd.Eo (Kd.Bb HO_11.o).2.2 x15_1 p334 q334; obtain rfl : ad333 = ad334 := (by injection e334); replace p334 := eq_true p334; replace q334 := eq_true q334))
   go_roundg k1
   case measure => have := HK1.o; omega
   case rel => exact ⟨(x15_1), (rd t329 x15_1), (t332), (wrap64 (x15_1 + 1)), (by (rfl)), (by (rfl)), (by (rfl)), (by (rfl)), H', ⟨by have := HK1.o; omega⟩, ⟨by exact HO_11.o⟩, ⟨by exact BK328.o⟩, ⟨by exact HB.o⟩⟩

end Go.Proofs.Ytogflbocmiogpaa.PFnBestSearch
