-- Written for this claim by this session's turned copy of the printer.
import Derived.Test.YtogflbocmiogpaaPFnBestSearchx0
import Derived.Test.YtogflbocmiogpaaPFnBestSearchx1
import Derived.Test.YtogflbocmiogpaaPFnBestSearchx4
import Derived.Test.YtogflbocmiogpaaPFnBestSearchx5
import Derived.Test.YtogflbocmiogpaaPFnBestSearchx6
import Derived.Test.YtogflbocmiogpaaPFnBestSearchx8
namespace Go.Proofs.Ytogflbocmiogpaa.PFnBestSearch
open Go.RowKit Go.Proofs.YtogflbocmiogpaaW.PrintWords Go.Proofs.YtogflbocmiogpaaW.PrintLast Go.Proofs.YtogflbocmiogpaaW.PrintMore
open List renaming setIfInBounds_toArray → sT_, set_cons_zero → sZ_, set_cons_succ → sS_, map_toArray → mT_, map_cons → mC_, map_nil → mN_
attribute [local go_sem] max2_int min2_int max_two min_two Fj Fh max_four min_four   -- for this text's walks alone
set_option linter.unusedVariables false
set_option linter.unusedSimpArgs false

/-! ### slices_stableCmpFunc_int: function 130 -/
section
variable {CMP_ : Int → Int → Option Int} {Pq_ : Int → Option Addr} {Nq_ Cq_ : Int → Nat} {wq_ : World} {Gq_ : Nat → Prop}
mutual
def Br.l0 (CMP_ : Int → Int → Option Int) : Nat → List Int → Int → Int → Int → Int → Int → Option (List Int)
 | 0, _, _, _, _, _, _ => none
 | k + 1, x0, x1, x2, x6, x7, x8 => if x8 ≤ x1 then ((Ak.f CMP_ k x0 x7 x8 x2).bind fun t195 => (Br.l0 CMP_ k t195 x1 x2 x6 x8 (wrap64 (x8 + x6)))) else ((Ak.f CMP_ k x0 x7 x1 x2).bind fun t196 => (Br.l1 CMP_ k t196 x1 x2 x6))
def Br.l1 (CMP_ : Int → Int → Option Int) : Nat → List Int → Int → Int → Int → Option (List Int)
 | 0, _, _, _, _ => none
 | k + 1, x0, x1, x2, x6 => if x6 < x1 then (Br.l2 CMP_ k x0 x1 x2 x6 0 (wrap64 (2 * x6))) else (some x0)
def Br.l2 (CMP_ : Int → Int → Option Int) : Nat → List Int → Int → Int → Int → Int → Int → Option (List Int)
 | 0, _, _, _, _, _, _ => none
 | k + 1, x0, x1, x2, x6, x7, x8 => if x8 ≤ x1 then ((Ab.f CMP_ k x0 x7 (wrap64 (x7 + x6)) x8 x2).bind fun t197 => (Br.l2 CMP_ k t197 x1 x2 x6 x8 (wrap64 (x8 + (wrap64 (2 * x6)))))) else (if (wrap64 (x7 + x6)) < x1 then ((Ab.f CMP_ k x0 x7 (wrap64 (x7 + x6)) x1 x2).bind fun t198 => (Br.l1 CMP_ k t198 x1 x2 (wrap64 (x6 * 2)))) else (Br.l1 CMP_ k x0 x1 x2 (wrap64 (x6 * 2))))
end
def Br.f (CMP_ : Int → Int → Option Int) (k : Nat) (l0 : List Int) (a1 : Int) (a2 : Int) : Option (List Int) := Br.l0 CMP_ k l0 a1 a2 20 0 20
set_option maxHeartbeats 8000000 in
set_option maxRecDepth 100000 in
theorem Br.calls (k : Nat) (P0_ : Nat → Prop) (u9000_ : Value) (l0 : List Int) (a1 : Int) (a2 : Int) (r : List Int) (w0 w : World) (hB : Below w0.heap.size w0 w) (ho0 : Kd.R (Dr Pq_ Nq_ Cq_) 30 w w0.heap.size P0_ u9000_ l0) (h : Br.f CMP_ k l0 a1 a2 = some r) (hC_ : slices_CmpAt CMP_ Pq_ Nq_ Cq_ wq_ Gq_) (hW_ : Ep wq_ Gq_ w) (hP_ : ∀ k_, P0_ k_ → Gq_ k_) :
  Calls Try.prog 130 #[u9000_, .int .i64 a1, .func (.func 121) #[] #[]] w fun e w' => e = .returned (.tuple #[]) ∧ Kd.R (Dr Pq_ Nq_ Cq_) 30 w' w0.heap.size (fun k_ => (P0_ k_ ∨ w.heap.size ≤ k_)) u9000_ r ∧ Below w0.heap.size w0 w' ∧ Kept w w' (fun k_ => P0_ k_) := by
 have HCQ := Aa.k hC_
 have HWQ := Aa.k hW_
 have HPQ := Aa.k hP_
 have HGQ := Aa.k (show ∀ k_, (u9000_ : Value).ownBlock = some k_ → Gq_ k_ from fun k_ e_ => hP_ k_ (ho0.1 k_ e_))
 clear hC_ hW_ hP_
 have HO0 := Aa.k (show Kd.R (Dr Pq_ Nq_ Cq_) 30 w w0.heap.size (fun k_ => (P0_ k_ ∨ w.heap.size ≤ k_)) u9000_ l0 from Kd.Bv ho0 (fun k_ hk => (.inl hk)))
 have HK := Aa.k (Kept.refl w (fun k_ => P0_ k_))
 have HW0 := Aa.k hB.size
 have HB := Aa.k hB
 clear hB
 have H : (Br.l0 CMP_ k l0 a1 a2 20 0 20) = some r := h
 clear h
 have H' := Aa.k H
 clear H
 go_enter Try.func130, Try.ntmps130
 go_wp2
 go_loopg [7, 8] k (fun kq v7 v8 w' => ∃ (x0_1 : List Int) (x7_1 : Int) (x8_1 : Int), v7 = .int .i64 x7_1 ∧ v8 = .int .i64 x8_1 ∧ Aa (Br.l0 CMP_ kq x0_1 a1 a2 20 x7_1 x8_1 = some r) ∧ Aa (kq ≤ k) ∧ Aa (Kd.R (Dr Pq_ Nq_ Cq_) 30 w' w0.heap.size (fun k_ => (P0_ k_ ∨ w.heap.size ≤ k_)) u9000_ x0_1) ∧ Aa (Kept w w' (fun k_ => P0_ k_)) ∧ Aa (Below w0.heap.size w0 w'))
 case atStart => exact ⟨(l0), (0), (20), (by (rfl)), (by (rfl)), H', ⟨Nat.le_refl _⟩, ⟨by exact HO0.o⟩, ⟨by exact HK.o⟩, ⟨by exact HB.o⟩⟩
 case round =>
  clear H'
  obtain ⟨x0_1, x7_1, x8_1, rfl, rfl, HA, HK1, HO_0, HK, HB⟩ := hrel
  cases gk with
  | zero => exact absurd HA.o (by simp [Br.l0])
  | succ k1 =>
   have H := HA.o
   clear HA
   simp only [Br.l0] at H
   by_cases c4 : x8_1 ≤ a1
   ·rw [if_pos c4] at H
    have c4b0 : decide (x8_1 ≤ a1) = true := decide_eq_true c4
    clear c4
    obtain ⟨t195, A50, H⟩ := bindS_ H
    try dsimp only at H
    have A5 := Aa.k A50
    clear A50
    have H' := Aa.k H
    clear H
    obtain ⟨Ao6, co6, eo6⟩ := Kd.Cx HO_0.o
    subst eo6
    go_wp2_with (((refine Aj (f := 136) rfl ?_); refine Bf (some 18) rfl rfl Try.func136 (by kernel_rfl) rfl #[.slice Ao6 x0_1.length co6, .int .i64 x7_1, .int .i64 x8_1, .func (.func 121) #[] #[]] rfl (by (try simp only [mT_, mC_, mN_]); rfl) ?_; (refine (Ak.calls (Pq_ := Pq_) (Nq_ := Nq_) (Cq_ := Cq_) k1 (fun k_ => some k_ = (.slice Ao6 x0_1.length co6 : Value).ownBlock) (.slice Ao6 x0_1.length co6) x0_1 x7_1 x8_1 a2 t195 w0 _ ?side1 ?side2 A5.o HCQ.o ?side3 ?side4).mono ?_); (case side3 => exact (Ep.step HWQ.o HK.o HPQ.o)); (case side4 => exact (fun k_ e_ => HGQ.o k_ (by (exact e_.symm)))); (case side1 => exact HB.o); (case side2 => exact Kd.R_tight rfl HO_0.o); rintro e w7 ⟨rfl, hy0, hb, hkp⟩; refine ⟨_, rfl, ?_⟩; have n0_ := Aa.k (Kd.R_reok rfl hy0 (fun k_ e_ => HO_0.o.1 k_ e_)); have n1_ := Aa.k (Kept.then_ (S := (fun k_ => P0_ k_)) HK.o hkp (fun k_ hs_ => (fun e_ => (HO_0.o.1 k_ e_.symm)) hs_)); have n2_ := Aa.k (hb); clear HO_0; clear HK; clear HB; have HO_0 := n0_; have HK := n1_; have HB := n2_; clear n0_ n1_ n2_; clear hb hkp hy0))
    go_roundg k1
    case measure => have := HK1.o; omega
    case rel => exact ⟨(t195), (x8_1), (wrap64 (x8_1 + 20)), (by (rfl)), (by (rfl)), H', ⟨by have := HK1.o; omega⟩, ⟨by exact HO_0.o⟩, ⟨by exact HK.o⟩, ⟨by exact HB.o⟩⟩
   rw [if_neg c4] at H
   have c4b0 : decide (x8_1 ≤ a1) = false := decide_eq_false c4
   clear c4
   obtain ⟨t196, A80, H⟩ := bindS_ H
   try dsimp only at H
   have A8 := Aa.k A80
   clear A80
   have H' := Aa.k H
   clear H
   obtain ⟨Ao9, co9, eo9⟩ := Kd.Cx HO_0.o
   subst eo9
   go_wp2_with (((refine Aj (f := 136) rfl ?_); refine Bf (some 27) rfl rfl Try.func136 (by kernel_rfl) rfl #[.slice Ao9 x0_1.length co9, .int .i64 x7_1, .int .i64 a1, .func (.func 121) #[] #[]] rfl (by (try simp only [mT_, mC_, mN_]); rfl) ?_; (refine (Ak.calls (Pq_ := Pq_) (Nq_ := Nq_) (Cq_ := Cq_) k1 (fun k_ => some k_ = (.slice Ao9 x0_1.length co9 : Value).ownBlock) (.slice Ao9 x0_1.length co9) x0_1 x7_1 a1 a2 t196 w0 _ ?side1 ?side2 A8.o HCQ.o ?side3 ?side4).mono ?_); (case side3 => exact (Ep.step HWQ.o HK.o HPQ.o)); (case side4 => exact (fun k_ e_ => HGQ.o k_ (by (exact e_.symm)))); (case side1 => exact HB.o); (case side2 => exact Kd.R_tight rfl HO_0.o); rintro e w10 ⟨rfl, hy0, hb, hkp⟩; refine ⟨_, rfl, ?_⟩; have n0_ := Aa.k (Kd.R_reok rfl hy0 (fun k_ e_ => HO_0.o.1 k_ e_)); have n1_ := Aa.k (Kept.then_ (S := (fun k_ => P0_ k_)) HK.o hkp (fun k_ hs_ => (fun e_ => (HO_0.o.1 k_ e_.symm)) hs_)); have n2_ := Aa.k (hb); clear HO_0; clear HK; clear HB; have HO_0 := n0_; have HK := n1_; have HB := n2_; clear n0_ n1_ n2_; clear hb hkp hy0))
   simp only [Act.put, sT_, sZ_, sS_]
   go_loopg [6] k1 (fun kq v6 w' => ∃ (x0_2 : List Int) (x6_2 : Int), v6 = .int .i64 x6_2 ∧ Aa (Br.l1 CMP_ kq x0_2 a1 a2 x6_2 = some r) ∧ Aa (kq ≤ k1) ∧ Aa (Kd.R (Dr Pq_ Nq_ Cq_) 30 w' w0.heap.size (fun k_ => (P0_ k_ ∨ w.heap.size ≤ k_)) (.slice Ao9 x0_1.length co9) x0_2) ∧ Aa (Kept w w' (fun k_ => P0_ k_)) ∧ Aa (Below w0.heap.size w0 w'))
   case atStart => exact ⟨(t196), (20), (by (rfl)), H', ⟨Nat.le_refl _⟩, ⟨by exact HO_0.o⟩, ⟨by exact HK.o⟩, ⟨by exact HB.o⟩⟩
   case round =>
    clear H'
    clear c4b0
    obtain ⟨x0_2, x6_2, rfl, HA, HK2, HO_0, HK, HB⟩ := hrel
    have hl0_2 := (Kd.Bb HO_0.o).1
    rw [hl0_2] at HO_0
    (try simp only [hl0_2])
    cases gk with
    | zero => exact absurd HA.o (by simp [Br.l1])
    | succ k2 =>
     have H := HA.o
     clear HA
     simp only [Br.l1] at H
     by_cases c11 : x6_2 < a1
     rotate_left
     ·rw [if_neg c11] at H
      have c11b0 : decide (x6_2 < a1) = false := decide_eq_false c11
      clear c11
      obtain rfl := Option.some.inj H
      go_wp2
      (go_end0)
      exact ⟨by (rfl), (by (exact (by exact HO_0.o))), by exact HB.o, by exact HK.o⟩
     rw [if_pos c11] at H
     have c11b0 : decide (x6_2 < a1) = true := decide_eq_true c11
     clear c11
     have H' := Aa.k H
     clear H
     go_wp2
     go_loopg [7, 8] k2 (fun kq v7 v8 w' => ∃ (x0_3 : List Int) (x7_3 : Int) (x8_3 : Int), v7 = .int .i64 x7_3 ∧ v8 = .int .i64 x8_3 ∧ Aa (Br.l2 CMP_ kq x0_3 a1 a2 x6_2 x7_3 x8_3 = some r) ∧ Aa (kq ≤ k2) ∧ Aa (Kd.R (Dr Pq_ Nq_ Cq_) 30 w' w0.heap.size (fun k_ => (P0_ k_ ∨ w.heap.size ≤ k_)) (.slice Ao9 x0_2.length co9) x0_3) ∧ Aa (Kept w w' (fun k_ => P0_ k_)) ∧ Aa (Below w0.heap.size w0 w'))
     case atStart => exact ⟨(x0_2), (0), (wrap64 (2 * x6_2)), (by (rfl)), (by (rfl)), H', ⟨Nat.le_refl _⟩, ⟨by (try simp only [hl0_2]); exact HO_0.o⟩, ⟨by exact HK.o⟩, ⟨by exact HB.o⟩⟩
     case round =>
      clear H'
      clear c11b0
      obtain ⟨x0_3, x7_3, x8_3, rfl, rfl, HA, HK3, HO_0, HK, HB⟩ := hrel
      have hl0_3 := (Kd.Bb HO_0.o).1
      rw [hl0_3] at HO_0
      (try simp only [hl0_3])
      cases gk with
      | zero => exact absurd HA.o (by simp [Br.l2])
      | succ k3 =>
       have H := HA.o
       clear HA
       simp only [Br.l2] at H
       by_cases c12 : x8_3 ≤ a1
       ·rw [if_pos c12] at H
        have c12b0 : decide (x8_3 ≤ a1) = true := decide_eq_true c12
        clear c12
        obtain ⟨t197, A130, H⟩ := bindS_ H
        try dsimp only at H
        have A13 := Aa.k A130
        clear A130
        have H' := Aa.k H
        clear H
        go_wp2_with (((refine Aj (f := 137) rfl ?_); refine Bf (some 43) rfl rfl Try.func137 (by kernel_rfl) rfl #[.slice Ao9 x0_3.length co9, .int .i64 x7_3, .int .i64 (wrap64 (x7_3 + x6_2)), .int .i64 x8_3, .func (.func 121) #[] #[]] rfl (by (try simp only [mT_, mC_, mN_]); rfl) ?_; (refine (Ab.calls (Pq_ := Pq_) (Nq_ := Nq_) (Cq_ := Cq_) k3 (fun k_ => some k_ = (.slice Ao9 x0_3.length co9 : Value).ownBlock) (.slice Ao9 x0_3.length co9) x0_3 x7_3 (wrap64 (x7_3 + x6_2)) x8_3 a2 t197 w0 _ ?side1 ?side2 A13.o HCQ.o ?side3 ?side4).mono ?_); (case side3 => exact (Ep.step HWQ.o HK.o HPQ.o)); (case side4 => exact (fun k_ e_ => HGQ.o k_ (by (exact slices_ownB e_)))); (case side1 => exact HB.o); (case side2 => exact Kd.R_tight rfl HO_0.o); rintro e w14 ⟨rfl, hy0, hb, hkp⟩; refine ⟨_, rfl, ?_⟩; have n0_ := Aa.k (Kd.R_reok rfl hy0 (fun k_ e_ => HO_0.o.1 k_ e_)); have n1_ := Aa.k (Kept.then_ (S := (fun k_ => P0_ k_)) HK.o hkp (fun k_ hs_ => (fun e_ => (HO_0.o.1 k_ e_.symm)) hs_)); have n2_ := Aa.k (hb); clear HO_0; clear HK; clear HB; have HO_0 := n0_; have HK := n1_; have HB := n2_; clear n0_ n1_ n2_; clear hb hkp hy0))
        (try simp only [← hl0_3])
        go_roundg k3
        case measure => have := HK1.o; have := HK2.o; have := HK3.o; omega
        case rel => exact ⟨(t197), (x8_3), (wrap64 (x8_3 + (wrap64 (2 * x6_2)))), (by (rfl)), (by (rfl)), H', ⟨by have := HK1.o; have := HK2.o; have := HK3.o; omega⟩, ⟨by (try simp only [hl0_2]); (try simp only [hl0_3]); exact HO_0.o⟩, ⟨by exact HK.o⟩, ⟨by exact HB.o⟩⟩
       rw [if_neg c12] at H
       have c12b0 : decide (x8_3 ≤ a1) = false := decide_eq_false c12
       clear c12
       by_cases c15 : (wrap64 (x7_3 + x6_2)) < a1
       rotate_left
       ·rw [if_neg c15] at H
        have c15b0 : decide ((wrap64 (x7_3 + x6_2)) < a1) = false := decide_eq_false c15
        clear c15
        have H' := Aa.k H
        clear H
        go_wp2
        (try simp only [← hl0_2, ← hl0_3])
        go_roundg k3
        case measure => have := HK1.o; have := HK2.o; have := HK3.o; omega
        case rel => exact ⟨(x0_3), (wrap64 (x6_2 * 2)), (by (rfl)), H', ⟨by have := HK1.o; have := HK2.o; have := HK3.o; omega⟩, ⟨by (try simp only [hl0_2]); (try simp only [hl0_3]); exact HO_0.o⟩, ⟨by exact HK.o⟩, ⟨by exact HB.o⟩⟩
       rw [if_pos c15] at H
       have c15b0 : decide ((wrap64 (x7_3 + x6_2)) < a1) = true := decide_eq_true c15
       clear c15
       obtain ⟨t198, A160, H⟩ := bindS_ H
       try dsimp only at H
       have A16 := Aa.k A160
       clear A160
       have H' := Aa.k H
       clear H
       go_wp2_with (((refine Aj (f := 137) rfl ?_); refine Bf (some 60) rfl rfl Try.func137 (by kernel_rfl) rfl #[.slice Ao9 x0_3.length co9, .int .i64 x7_3, .int .i64 (wrap64 (x7_3 + x6_2)), .int .i64 a1, .func (.func 121) #[] #[]] rfl (by (try simp only [mT_, mC_, mN_]); rfl) ?_; (refine (Ab.calls (Pq_ := Pq_) (Nq_ := Nq_) (Cq_ := Cq_) k3 (fun k_ => some k_ = (.slice Ao9 x0_3.length co9 : Value).ownBlock) (.slice Ao9 x0_3.length co9) x0_3 x7_3 (wrap64 (x7_3 + x6_2)) a1 a2 t198 w0 _ ?side1 ?side2 A16.o HCQ.o ?side3 ?side4).mono ?_); (case side3 => exact (Ep.step HWQ.o HK.o HPQ.o)); (case side4 => exact (fun k_ e_ => HGQ.o k_ (by (exact slices_ownB e_)))); (case side1 => exact HB.o); (case side2 => exact Kd.R_tight rfl HO_0.o); rintro e w17 ⟨rfl, hy0, hb, hkp⟩; refine ⟨_, rfl, ?_⟩; have n0_ := Aa.k (Kd.R_reok rfl hy0 (fun k_ e_ => HO_0.o.1 k_ e_)); have n1_ := Aa.k (Kept.then_ (S := (fun k_ => P0_ k_)) HK.o hkp (fun k_ hs_ => (fun e_ => (HO_0.o.1 k_ e_.symm)) hs_)); have n2_ := Aa.k (hb); clear HO_0; clear HK; clear HB; have HO_0 := n0_; have HK := n1_; have HB := n2_; clear n0_ n1_ n2_; clear hb hkp hy0))
       (try simp only [← hl0_2, ← hl0_3])
       go_roundg k3
       case measure => have := HK1.o; have := HK2.o; have := HK3.o; omega
       case rel => exact ⟨(t198), (wrap64 (x6_2 * 2)), (by (rfl)), H', ⟨by have := HK1.o; have := HK2.o; have := HK3.o; omega⟩, ⟨by (try simp only [hl0_2]); (try simp only [hl0_3]); exact HO_0.o⟩, ⟨by exact HK.o⟩, ⟨by exact HB.o⟩⟩
end

/-! ### slices_SortStableFunc_int_int: function 120 -/
section
variable {CMP_ : Int → Int → Option Int} {Pq_ : Int → Option Addr} {Nq_ Cq_ : Int → Nat} {wq_ : World} {Gq_ : Nat → Prop}
def Ga.f (CMP_ : Int → Int → Option Int) (k : Nat) (l0 : List Int) (a1 : Int) : Option (List Int) := (Br.f CMP_ k l0 (l0.length : Int) a1).bind fun t199 => (some t199)
set_option maxHeartbeats 8000000 in
set_option maxRecDepth 100000 in
theorem Ga.calls (k : Nat) (P0_ : Nat → Prop) (u9000_ : Value) (l0 : List Int) (a1 : Int) (r : List Int) (w0 w : World) (hB : Below w0.heap.size w0 w) (ho0 : Kd.R (Dr Pq_ Nq_ Cq_) 30 w w0.heap.size P0_ u9000_ l0) (h : Ga.f CMP_ k l0 a1 = some r) (hC_ : slices_CmpAt CMP_ Pq_ Nq_ Cq_ wq_ Gq_) (hW_ : Ep wq_ Gq_ w) (hP_ : ∀ k_, P0_ k_ → Gq_ k_) :
  Calls Try.prog 120 #[u9000_, .func (.func 121) #[] #[]] w fun e w' => e = .returned (.tuple #[]) ∧ Kd.R (Dr Pq_ Nq_ Cq_) 30 w' w0.heap.size (fun k_ => (P0_ k_ ∨ w.heap.size ≤ k_)) u9000_ r ∧ Below w0.heap.size w0 w' ∧ Kept w w' (fun k_ => P0_ k_) := by
 have HCQ := Aa.k hC_
 have HWQ := Aa.k hW_
 have HPQ := Aa.k hP_
 have HGQ := Aa.k (show ∀ k_, (u9000_ : Value).ownBlock = some k_ → Gq_ k_ from fun k_ e_ => hP_ k_ (ho0.1 k_ e_))
 clear hC_ hW_ hP_
 have HO0 := Aa.k (show Kd.R (Dr Pq_ Nq_ Cq_) 30 w w0.heap.size (fun k_ => (P0_ k_ ∨ w.heap.size ≤ k_)) u9000_ l0 from Kd.Bv ho0 (fun k_ hk => (.inl hk)))
 have HK := Aa.k (Kept.refl w (fun k_ => P0_ k_))
 have HW0 := Aa.k hB.size
 have HB := Aa.k hB
 clear hB
 have H : ((Br.f CMP_ k l0 (l0.length : Int) a1).bind fun t199 => (some t199)) = some r := h
 clear h
 obtain ⟨t199, A30, H⟩ := bindS_ H
 try dsimp only at H
 have A3 := Aa.k A30
 clear A30
 obtain rfl := Option.some.inj H
 obtain ⟨Ao4, co4, eo4⟩ := Kd.Cx HO0.o
 subst eo4
 go_enter Try.func120, Try.ntmps120
 go_wp2_with (((refine Aj (f := 130) rfl ?_); refine Bf (some 8) rfl rfl Try.func130 (by kernel_rfl) rfl #[.slice Ao4 l0.length co4, .int .i64 (l0.length : Int), .func (.func 121) #[] #[]] rfl (by (try simp only [mT_, mC_, mN_]); rfl) ?_; (refine (Br.calls (Pq_ := Pq_) (Nq_ := Nq_) (Cq_ := Cq_) k (fun k_ => some k_ = (.slice Ao4 l0.length co4 : Value).ownBlock) (.slice Ao4 l0.length co4) l0 (l0.length : Int) a1 t199 w0 _ ?side1 ?side2 A3.o HCQ.o ?side3 ?side4).mono ?_); (case side3 => exact (Ep.step HWQ.o HK.o HPQ.o)); (case side4 => exact (fun k_ e_ => HGQ.o k_ (by (exact e_.symm)))); (case side1 => exact HB.o); (case side2 => exact Kd.R_tight rfl HO0.o); rintro e w5 ⟨rfl, hy0, hb, hkp⟩; refine ⟨_, rfl, ?_⟩; have n0_ := Aa.k (Kd.R_reok rfl hy0 (fun k_ e_ => HO0.o.1 k_ e_)); have n1_ := Aa.k (Kept.then_ (S := (fun k_ => P0_ k_)) HK.o hkp (fun k_ hs_ => (fun e_ => (HO0.o.1 k_ e_.symm)) hs_)); have n2_ := Aa.k (hb); clear HO0; clear HK; clear HB; have HO0 := n0_; have HK := n1_; have HB := n2_; clear n0_ n1_ n2_; clear hb hkp hy0))
 (go_end0)
 exact ⟨by (rfl), by exact HO0.o, by exact HB.o, by exact HK.o⟩
end

/-! ### cmp_isNaN_int: function 138 -/
def cmp_isNaN_int.f (a0 : Int) : Option (Bool) := some (a0 != a0)
set_option maxHeartbeats 8000000 in
set_option maxRecDepth 100000 in
theorem cmp_isNaN_int.calls (a0 : Int) (r : Bool) (w : World) (h : cmp_isNaN_int.f a0 = some r) :
  Calls Try.prog 138 #[.int .i64 a0] w fun e w' => e = .returned (.bool r) ∧ Cu w w' := by
 have H : (some (a0 != a0)) = some r := h
 clear h
 obtain rfl := Option.some.inj H
 go_enter Try.func138, Try.ntmps138
 go_wp2
 go_ret
 exact ⟨by (rfl), by repeat (exact Cu.refl _)⟩

/-! ### cmp_Compare_int: function 131 -/
def cmp_Compare_int.f (a0 : Int) (a1 : Int) : Option (Int) := (cmp_isNaN_int.f a0).bind fun t154 => ((cmp_isNaN_int.f a1).bind fun t155 => (if t154 = true then (if t155 = true then (some 0) else (some (-1))) else (if t155 = true then (some 1) else (if a0 < a1 then (some (-1)) else (if a0 > a1 then (some 1) else (some 0))))))
set_option maxHeartbeats 8000000 in
set_option maxRecDepth 100000 in
theorem cmp_Compare_int.calls (a0 : Int) (a1 : Int) (r : Int) (w : World) (h : cmp_Compare_int.f a0 a1 = some r) :
  Calls Try.prog 131 #[.int .i64 a0, .int .i64 a1] w fun e w' => e = .returned (.int .i64 r) ∧ Cu w w' := by
 have H : ((cmp_isNaN_int.f a0).bind fun t154 => ((cmp_isNaN_int.f a1).bind fun t155 => (if t154 = true then (if t155 = true then (some 0) else (some (-1))) else (if t155 = true then (some 1) else (if a0 < a1 then (some (-1)) else (if a0 > a1 then (some 1) else (some 0))))))) = some r := h
 clear h
 obtain ⟨t154, A30, H⟩ := bindS_ H
 try dsimp only at H
 have A3 := Aa.k A30
 clear A30
 obtain ⟨t155, A40, H⟩ := bindS_ H
 try dsimp only at H
 have A4 := Aa.k A40
 clear A40
 by_cases c5 : t154 = true
 ·subst c5
  rw [if_pos rfl] at H
  by_cases c6 : t155 = true
  ·subst c6
   rw [if_pos rfl] at H
   obtain rfl := Option.some.inj H
   go_enter Try.func131, Try.ntmps131
   go_wp2_with (first | ((with_reducible refine Aj (f := 138) rfl ?_); refine Bf (some 8) rfl rfl Try.func138 (by kernel_rfl) rfl #[.int .i64 a0] rfl (by (try simp only [mT_, mC_, mN_]); rfl) ?_; (with_reducible refine (cmp_isNaN_int.calls a0 true _ A3.o).mono ?_); rintro e w' ⟨rfl, ⟨nd, rfl⟩⟩; refine ⟨_, rfl, ?_⟩) | ((with_reducible refine Aj (f := 138) rfl ?_); refine Bf (some 10) rfl rfl Try.func138 (by kernel_rfl) rfl #[.int .i64 a1] rfl (by (try simp only [mT_, mC_, mN_]); rfl) ?_; (with_reducible refine (cmp_isNaN_int.calls a1 true _ A4.o).mono ?_); rintro e w' ⟨rfl, ⟨nd, rfl⟩⟩; refine ⟨_, rfl, ?_⟩))
   go_ret
   exact ⟨by (rfl), by repeat (first | exact Cu.refl _ | apply Cu.step)⟩
  replace c6 := Bool.eq_false_iff.mpr c6
  subst c6
  rw [if_neg (show ¬ (false = true) by decide)] at H
  obtain rfl := Option.some.inj H
  go_enter Try.func131, Try.ntmps131
  go_wp2_with (first | ((with_reducible refine Aj (f := 138) rfl ?_); refine Bf (some 8) rfl rfl Try.func138 (by kernel_rfl) rfl #[.int .i64 a0] rfl (by (try simp only [mT_, mC_, mN_]); rfl) ?_; (with_reducible refine (cmp_isNaN_int.calls a0 true _ A3.o).mono ?_); rintro e w' ⟨rfl, ⟨nd, rfl⟩⟩; refine ⟨_, rfl, ?_⟩) | ((with_reducible refine Aj (f := 138) rfl ?_); refine Bf (some 10) rfl rfl Try.func138 (by kernel_rfl) rfl #[.int .i64 a1] rfl (by (try simp only [mT_, mC_, mN_]); rfl) ?_; (with_reducible refine (cmp_isNaN_int.calls a1 false _ A4.o).mono ?_); rintro e w' ⟨rfl, ⟨nd, rfl⟩⟩; refine ⟨_, rfl, ?_⟩))
  go_ret
  exact ⟨by (rfl), by repeat (first | exact Cu.refl _ | apply Cu.step)⟩
 replace c5 := Bool.eq_false_iff.mpr c5
 subst c5
 rw [if_neg (show ¬ (false = true) by decide)] at H
 by_cases c7 : t155 = true
 ·subst c7
  rw [if_pos rfl] at H
  obtain rfl := Option.some.inj H
  go_enter Try.func131, Try.ntmps131
  go_wp2_with (first | ((with_reducible refine Aj (f := 138) rfl ?_); refine Bf (some 8) rfl rfl Try.func138 (by kernel_rfl) rfl #[.int .i64 a0] rfl (by (try simp only [mT_, mC_, mN_]); rfl) ?_; (with_reducible refine (cmp_isNaN_int.calls a0 false _ A3.o).mono ?_); rintro e w' ⟨rfl, ⟨nd, rfl⟩⟩; refine ⟨_, rfl, ?_⟩) | ((with_reducible refine Aj (f := 138) rfl ?_); refine Bf (some 10) rfl rfl Try.func138 (by kernel_rfl) rfl #[.int .i64 a1] rfl (by (try simp only [mT_, mC_, mN_]); rfl) ?_; (with_reducible refine (cmp_isNaN_int.calls a1 true _ A4.o).mono ?_); rintro e w' ⟨rfl, ⟨nd, rfl⟩⟩; refine ⟨_, rfl, ?_⟩))
  go_ret
  exact ⟨by (rfl), by repeat (first | exact Cu.refl _ | apply Cu.step)⟩
 replace c7 := Bool.eq_false_iff.mpr c7
 subst c7
 rw [if_neg (show ¬ (false = true) by decide)] at H
 by_cases c8 : a0 < a1
 ·rw [if_pos c8] at H
  have c8b0 : decide (a0 < a1) = true := decide_eq_true c8
  clear c8
  obtain rfl := Option.some.inj H
  go_enter Try.func131, Try.ntmps131
  go_wp2_with (first | ((with_reducible refine Aj (f := 138) rfl ?_); refine Bf (some 8) rfl rfl Try.func138 (by kernel_rfl) rfl #[.int .i64 a0] rfl (by (try simp only [mT_, mC_, mN_]); rfl) ?_; (with_reducible refine (cmp_isNaN_int.calls a0 false _ A3.o).mono ?_); rintro e w' ⟨rfl, ⟨nd, rfl⟩⟩; refine ⟨_, rfl, ?_⟩) | ((with_reducible refine Aj (f := 138) rfl ?_); refine Bf (some 10) rfl rfl Try.func138 (by kernel_rfl) rfl #[.int .i64 a1] rfl (by (try simp only [mT_, mC_, mN_]); rfl) ?_; (with_reducible refine (cmp_isNaN_int.calls a1 false _ A4.o).mono ?_); rintro e w' ⟨rfl, ⟨nd, rfl⟩⟩; refine ⟨_, rfl, ?_⟩))
  go_ret
  exact ⟨by (rfl), by repeat (first | exact Cu.refl _ | apply Cu.step)⟩
 rw [if_neg c8] at H
 have c8b0 : decide (a0 < a1) = false := decide_eq_false c8
 clear c8
 by_cases c9 : a0 > a1
 ·rw [if_pos c9] at H
  have c9b0 : decide (a1 < a0) = true := decide_eq_true c9
  clear c9
  obtain rfl := Option.some.inj H
  go_enter Try.func131, Try.ntmps131
  go_wp2_with (first | ((with_reducible refine Aj (f := 138) rfl ?_); refine Bf (some 8) rfl rfl Try.func138 (by kernel_rfl) rfl #[.int .i64 a0] rfl (by (try simp only [mT_, mC_, mN_]); rfl) ?_; (with_reducible refine (cmp_isNaN_int.calls a0 false _ A3.o).mono ?_); rintro e w' ⟨rfl, ⟨nd, rfl⟩⟩; refine ⟨_, rfl, ?_⟩) | ((with_reducible refine Aj (f := 138) rfl ?_); refine Bf (some 10) rfl rfl Try.func138 (by kernel_rfl) rfl #[.int .i64 a1] rfl (by (try simp only [mT_, mC_, mN_]); rfl) ?_; (with_reducible refine (cmp_isNaN_int.calls a1 false _ A4.o).mono ?_); rintro e w' ⟨rfl, ⟨nd, rfl⟩⟩; refine ⟨_, rfl, ?_⟩))
  go_ret
  exact ⟨by (rfl), by repeat (first | exact Cu.refl _ | apply Cu.step)⟩
 rw [if_neg c9] at H
 have c9b0 : decide (a1 < a0) = false := decide_eq_false c9
 clear c9
 obtain rfl := Option.some.inj H
 go_enter Try.func131, Try.ntmps131
 go_wp2_with (first | ((with_reducible refine Aj (f := 138) rfl ?_); refine Bf (some 8) rfl rfl Try.func138 (by kernel_rfl) rfl #[.int .i64 a0] rfl (by (try simp only [mT_, mC_, mN_]); rfl) ?_; (with_reducible refine (cmp_isNaN_int.calls a0 false _ A3.o).mono ?_); rintro e w' ⟨rfl, ⟨nd, rfl⟩⟩; refine ⟨_, rfl, ?_⟩) | ((with_reducible refine Aj (f := 138) rfl ?_); refine Bf (some 10) rfl rfl Try.func138 (by kernel_rfl) rfl #[.int .i64 a1] rfl (by (try simp only [mT_, mC_, mN_]); rfl) ?_; (with_reducible refine (cmp_isNaN_int.calls a1 false _ A4.o).mono ?_); rintro e w' ⟨rfl, ⟨nd, rfl⟩⟩; refine ⟨_, rfl, ?_⟩))
 go_ret
 exact ⟨by (rfl), by repeat (first | exact Cu.refl _ | apply Cu.step)⟩

/-! ### slices_Compare_int_int: function 122 -/
def Eh.l0 : Nat → List Int → List Int → List Int → Int → Int → Option (Int)
 | 0, _, _, _, _, _ => none
 | k + 1, x0, x1, x9, x10, x11 => if x11 < x10 then (if 0 ≤ x11 then (if x11 < (x9.length : Int) then (if x11 ≥ (x1.length : Int) then (some 1) else (if x11 < (x1.length : Int) then ((cmp_Compare_int.f (rd x9 x11) (rd x1 x11)).bind fun t158 => (if t158 = 0 then (Eh.l0 k x0 x1 x9 x10 (wrap64 (x11 + 1))) else (some t158))) else (none))) else (none)) else (none)) else (if (x0.length : Int) < (x1.length : Int) then (some (-1)) else (some 0))
def Eh.f (k : Nat) (l0 : List Int) (l1 : List Int) : Option (Int) := Eh.l0 k l0 l1 l0 (l0.length : Int) 0
set_option maxHeartbeats 8000000 in
set_option maxRecDepth 100000 in
theorem Eh.calls (k : Nat) (A0 : Option Addr) (c0 : Nat) (l0 : List Int) (A1 : Option Addr) (c1 : Nat) (l1 : List Int) (r : Int) (w : World) (hr0 : Kd.C (Kd.int .i64) w A0 l0.length l0) (hc0 : l0.length ≤ c0) (hr1 : Kd.C (Kd.int .i64) w A1 l1.length l1) (hc1 : l1.length ≤ c1) (h : Eh.f k l0 l1 = some r) :
  Calls Try.prog 122 #[.slice A0 l0.length c0, .slice A1 l1.length c1] w fun e w' => e = .returned (.int .i64 r) ∧ Cu w w' := by
 have HR0 := Aa.k hr0
 have HC0 := Aa.k hc0
 clear hr0 hc0
 have HR1 := Aa.k hr1
 have HC1 := Aa.k hc1
 clear hr1 hc1
 have H : (Eh.l0 k l0 l1 l0 (l0.length : Int) 0) = some r := h
 clear h
 have H' := Aa.k H
 clear H
 go_enter Try.func122, Try.ntmps122
 go_wp2
 go_loopg [11] k (fun kq v11 w' => ∃ (x11_1 : Int), v11 = .int .i64 x11_1 ∧ Aa (Eh.l0 kq l0 l1 l0 (l0.length : Int) x11_1 = some r) ∧ Aa (kq ≤ k) ∧ Cu w w')
 case atStart => exact ⟨(0), (by (rfl)), H', ⟨Nat.le_refl _⟩, by repeat (exact Cu.refl _)⟩
 case round =>
  clear H'
  obtain ⟨x11_1, rfl, HA, HK1, ⟨m1, rfl⟩⟩ := hrel
  cases gk with
  | zero => exact absurd HA.o (by simp [Eh.l0])
  | succ k1 =>
   have H := HA.o
   clear HA
   simp only [Eh.l0] at H
   by_cases c3 : x11_1 < (l0.length : Int)
   rotate_left
   ·rw [if_neg c3] at H
    have c3b0 : decide (x11_1 < (l0.length : Int)) = false := decide_eq_false c3
    clear c3
    by_cases c10 : (l0.length : Int) < (l1.length : Int)
    ·rw [if_pos c10] at H
     have c10b0 : decide ((l0.length : Int) < (l1.length : Int)) = true := decide_eq_true c10
     have c10b1 : decide (l0.length < l1.length) = true := decide_eq_true (Int.ofNat_lt.mp c10)
     clear c10
     obtain rfl := Option.some.inj H
     go_wp2
     go_ret
     exact ⟨by (rfl), by repeat (first | exact Cu.refl _ | apply Cu.step)⟩
    rw [if_neg c10] at H
    have c10b0 : decide ((l0.length : Int) < (l1.length : Int)) = false := decide_eq_false c10
    have c10b1 : decide (l0.length < l1.length) = false := decide_eq_false (fun h => c10 (Int.ofNat_lt.mpr h))
    clear c10
    obtain rfl := Option.some.inj H
    go_wp2
    go_ret
    exact ⟨by (rfl), by repeat (first | exact Cu.refl _ | apply Cu.step)⟩
   rw [if_pos c3] at H
   have c3b0 : decide (x11_1 < (l0.length : Int)) = true := decide_eq_true c3
   clear c3
   by_cases c4 : 0 ≤ x11_1
   rotate_left
   ·rw [if_neg c4] at H
    exact absurd H (by simp)
   rw [if_pos c4] at H
   have c4b0 : decide (0 ≤ x11_1) = true := decide_eq_true c4
   clear c4
   by_cases c5 : x11_1 < (l0.length : Int)
   rotate_left
   ·rw [if_neg c5] at H
    exact absurd H (by simp)
   rw [if_pos c5] at H
   have c5b0 : decide (x11_1 < (l0.length : Int)) = true := decide_eq_true c5
   clear c5
   by_cases c6 : x11_1 ≥ (l1.length : Int)
   ·rw [if_pos c6] at H
    have c6b0 : decide ((l1.length : Int) ≤ x11_1) = true := decide_eq_true c6
    clear c6
    obtain rfl := Option.some.inj H
    have p156 : 0 ≤ (x11_1 : Int) := of_decide_eq_true (by (assumption))
    have q156 : x11_1 < (l0.length : Int) := of_decide_eq_true (by (assumption))
    obtain ⟨ad156, e156, hx156_0⟩ := Kd.Eo HR0.o x11_1 p156 q156
    cases e156
    replace p156 := eq_true p156
    replace q156 := eq_true q156
    go_wp2
    go_ret
    exact ⟨by (rfl), by repeat (first | exact Cu.refl _ | apply Cu.step)⟩
   rw [if_neg c6] at H
   have c6b0 : decide ((l1.length : Int) ≤ x11_1) = false := decide_eq_false c6
   clear c6
   by_cases c7 : x11_1 < (l1.length : Int)
   rotate_left
   ·rw [if_neg c7] at H
    exact absurd H (by simp)
   rw [if_pos c7] at H
   have c7b0 : decide (x11_1 < (l1.length : Int)) = true := decide_eq_true c7
   clear c7
   obtain ⟨t158, A80, H⟩ := bindS_ H
   try dsimp only at H
   have A8 := Aa.k A80
   clear A80
   by_cases c9 : t158 = 0
   rotate_left
   ·rw [if_neg c9] at H
    have c9b0 : (t158 == 0) = false := beq_eq_false_iff_ne.mpr c9
    have c9b1 : (t158 != 0) = true := bne_iff_ne.mpr c9
    obtain rfl := Option.some.inj H
    have p156 : 0 ≤ (x11_1 : Int) := of_decide_eq_true (by (assumption))
    have q156 : x11_1 < (l0.length : Int) := of_decide_eq_true (by (assumption))
    obtain ⟨ad156, e156, hx156_0⟩ := Kd.Eo HR0.o x11_1 p156 q156
    cases e156
    replace p156 := eq_true p156
    replace q156 := eq_true q156
    have p157 : 0 ≤ (x11_1 : Int) := of_decide_eq_true (by (assumption))
    have q157 : x11_1 < (l1.length : Int) := of_decide_eq_true (by (assumption))
    obtain ⟨ad157, e157, hx157_0⟩ := Kd.Eo HR1.o x11_1 p157 q157
    cases e157
    replace p157 := eq_true p157
    replace q157 := eq_true q157
    go_wp2_with (((refine Aj (f := 131) rfl ?_); refine Bf (some 26) rfl rfl Try.func131 (by kernel_rfl) rfl #[.int .i64 (rd l0 x11_1), .int .i64 (rd l1 x11_1)] rfl (by (try simp only [mT_, mC_, mN_]); rfl) ?_; (refine (cmp_Compare_int.calls (rd l0 x11_1) (rd l1 x11_1) t158 _ A8.o).mono ?_); rintro e w' ⟨rfl, ⟨nd, rfl⟩⟩; refine ⟨_, rfl, ?_⟩))
    go_ret
    exact ⟨by (rfl), by repeat (first | exact Cu.refl _ | apply Cu.step)⟩
   rw [if_pos c9] at H
   have c9b0 : (t158 == 0) = true := beq_iff_eq.mpr c9
   have c9b1 : (t158 != 0) = false := bne_eq_false_iff_eq.mpr c9
   clear c9
   have H' := Aa.k H
   clear H
   have p156 : 0 ≤ (x11_1 : Int) := of_decide_eq_true (by (assumption))
   have q156 : x11_1 < (l0.length : Int) := of_decide_eq_true (by (assumption))
   obtain ⟨ad156, e156, hx156_0⟩ := Kd.Eo HR0.o x11_1 p156 q156
   cases e156
   replace p156 := eq_true p156
   replace q156 := eq_true q156
   have p157 : 0 ≤ (x11_1 : Int) := of_decide_eq_true (by (assumption))
   have q157 : x11_1 < (l1.length : Int) := of_decide_eq_true (by (assumption))
   obtain ⟨ad157, e157, hx157_0⟩ := Kd.Eo HR1.o x11_1 p157 q157
   cases e157
   replace p157 := eq_true p157
   replace q157 := eq_true q157
   go_wp2_with (((refine Aj (f := 131) rfl ?_); refine Bf (some 26) rfl rfl Try.func131 (by kernel_rfl) rfl #[.int .i64 (rd l0 x11_1), .int .i64 (rd l1 x11_1)] rfl (by (try simp only [mT_, mC_, mN_]); rfl) ?_; (refine (cmp_Compare_int.calls (rd l0 x11_1) (rd l1 x11_1) t158 _ A8.o).mono ?_); rintro e w' ⟨rfl, ⟨nd, rfl⟩⟩; refine ⟨_, rfl, ?_⟩))
   go_roundg k1
   case measure => have := HK1.o; omega
   case rel => exact ⟨(wrap64 (x11_1 + 1)), (by (rfl)), H', ⟨by have := HK1.o; omega⟩, by repeat (first | exact Cu.refl _ | apply Cu.step)⟩

/-! ### impl_Road_searches: function 87 -/
def Ag.cmp (k : Nat) (x y : List Int) : Option Int := if (x.length : Int) = (y.length : Int) then Eh.f k x y else some (wrap64 ((x.length : Int) - (y.length : Int)))
set_option maxHeartbeats 1600000 in
set_option maxRecDepth 100000 in
theorem Ag.cmp_calls (k : Nat) (A0 : Option Addr) (c0 : Nat) (l0 : List Int) (A1 : Option Addr) (c1 : Nat) (l1 : List Int) (r : Int) (w : World) (hr0 : Kd.C (Kd.int .i64) w A0 l0.length l0) (hc0 : l0.length ≤ c0) (hr1 : Kd.C (Kd.int .i64) w A1 l1.length l1) (hc1 : l1.length ≤ c1) (h : Ag.cmp k l0 l1 = some r) :
  Calls Try.prog 121 #[.slice A0 l0.length c0, .slice A1 l1.length c1] w fun e w' => e = .returned (.int .i64 r) ∧ Cu w w' := by
 have H0 := Aa.k hr0
 have H1 := Aa.k hr1
 have C0 := Aa.k hc0
 have C1 := Aa.k hc1
 unfold Ag.cmp at h
 clear hr0 hr1 hc0 hc1
 by_cases c3 : (l0.length : Int) = (l1.length : Int)
 rotate_left
 ·rw [if_neg c3] at h
  obtain rfl := Option.some.inj h
  have c3b0 : ((l0.length : Int) == (l1.length : Int)) = false := beq_eq_false_iff_ne.mpr c3
  have c3b1 : ((l0.length : Int) != (l1.length : Int)) = true := bne_iff_ne.mpr c3
  have c3b2 : (l0.length == l1.length) = false := by simp at c3 ⊢; omega
  have c3b3 : (l0.length != l1.length) = true := by simp at c3 ⊢; omega
  clear h c3
  go_enter Try.func121, Try.ntmps121
  go_wp2
  go_ret
  exact ⟨by (rfl), Cu.refl _⟩
 rw [if_pos c3] at h
 have H := Aa.k h
 have c3b0 : ((l0.length : Int) == (l1.length : Int)) = true := beq_iff_eq.mpr c3
 have c3b1 : ((l0.length : Int) != (l1.length : Int)) = false := bne_eq_false_iff_eq.mpr c3
 have c3b2 : (l0.length == l1.length) = true := by simp at c3 ⊢; omega
 have c3b3 : (l0.length != l1.length) = false := by simp at c3 ⊢; omega
 clear h c3
 go_enter Try.func121, Try.ntmps121
 go_wp2_with (go_at_call 122; refine (Eh.calls k _ _ l0 _ _ l1 r _ H0.o C0.o H1.o C1.o H.o).mono ?_; rintro e w9 ⟨rfl, hd⟩; have HD := Aa.k hd; clear hd)
 go_ret
 exact ⟨rfl, HD.o⟩
def Ag.idx (m : Nat) : List Int := (List.range m).map fun i => ((i : Nat) : Int)
def Ag.cmpL (L : List (List Int)) (x y : Int) : Option Int := if (0 ≤ x ∧ x < L.length) ∧ 0 ≤ y ∧ y < L.length then Ag.cmp 40 (L.getD x.toNat []) (L.getD y.toNat []) else none
def Ag.f (n : Int) (g : Bool) (a : Int) : Option (List (List Int)) := if 1 ≤ n ∧ n ≤ 24 then (Ag.e 200 n a [] a a []).bind fun L => (Ga.f (Ag.cmpL L) 4000 (Ag.idx L.length) 0).bind fun q => if (q.map Int.toNat).Nodup ∧ ∀ i ∈ q, 0 ≤ i ∧ i < L.length then some (q.map fun i => L.getD i.toNat []) else none else none
theorem Ag.rows {f : Nat → Nat} {w : World} {base : Nat} {ok : Nat → Prop} {v : Value} {L : List (List Int)} (h : (Kd.tag f (Kd.slice 3 (Kd.int .i64))).R 30 w base ok v L.zipIdx) :
  ∃ (P : Int → Option Addr) (C : Int → Nat), Kd.R (Dr P (fun x => (L.getD x.toNat []).length) C) 30 w base (fun k => some k = v.ownBlock) v (Ag.idx L.length) ∧ ∀ i : Nat, i < L.length → Kd.R (Kd.int .i64) 3 w base (fun k => some k ≠ v.ownBlock ∧ f k = i) (.slice (P i) (L.getD i []).length (C i)) (L.getD i []) := by
 obtain ⟨h0, inner, ho, hr⟩ := h
 have hlen : inner.length = L.length := by have := hr.1; rw [List.length_zipIdx] at this; exact this.trans (Nat.mul_one _)
 have hel : ∀ i : Nat, i < L.length → ∃ A c, inner[i]? = some (.slice A (L.getD i []).length c) ∧ Kd.R (Kd.int .i64) 3 w base (fun k => some k ≠ v.ownBlock ∧ f k = i) (.slice A (L.getD i []).length c) (L.getD i []) := by
  intro i hi
  have hz : L.zipIdx[i]? = some (L.getD i [], i) := by rw [List.getElem?_zipIdx, Nat.zero_add, List.getD_eq_getElem?_getD, List.getElem?_eq_getElem hi]; rfl
  obtain ⟨u, hu, hR⟩ := hr.2 i _ hz
  obtain ⟨A, c, rfl⟩ := Kd.Cx hR
  refine ⟨A, c, ?_, Kd.Bv hR (fun k hk => ⟨hk.1.2, hk.2⟩)⟩
  have h1 : ((inner.drop (i * 1)).take 1)[0]? = some (.slice A (L.getD i []).length c) := by
   rw [show (inner.drop (i * 1)).take 1 = [.slice A (L.getD i []).length c] from hu]
   rfl
  rw [List.getElem?_take, if_pos (by omega), List.getElem?_drop, Nat.mul_one, Nat.add_zero] at h1
  exact h1
 refine ⟨fun x => match inner[x.toNat]? with | some (.slice A _ _) => A | _ => none, fun x => match inner[x.toNat]? with | some (.slice _ _ c) => c | _ => 0, ⟨fun k hk => hk.symm, inner, ?_, ?_, fun j p hj => ?_⟩, fun i hi => ?_⟩
 ·rw [List.length_zipIdx] at ho
  rw [Ag.idx, List.length_map, List.length_range]
  exact ho
 ·rw [Ag.idx, List.length_map, List.length_range, hlen]
  exact (Nat.mul_one _).symm
 ·rw [Ag.idx, List.getElem?_map] at hj
  obtain ⟨p, hp, rfl⟩ := Option.map_eq_some_iff.1 hj
  have hjl : j < L.length := by have := (List.getElem?_eq_some_iff.1 hp).1; rwa [List.length_range] at this
  have hpj : p = j := by have h2 := (List.getElem?_eq_some_iff.1 hp).2; rw [List.getElem_range] at h2; exact h2.symm
  subst hpj
  obtain ⟨A, c, he, _⟩ := hel p hjl
  show (inner.drop (p * 1)).take 1 = [_]
  rw [Nat.mul_one, List.drop_eq_getElem_cons (by omega), List.take_succ_cons, List.take_zero]
  have h3 : inner[p]'(by omega) = .slice A (L.getD p []).length c := by rw [List.getElem?_eq_getElem (by omega)] at he; exact Option.some.inj he
  rw [h3]
  simp only [Int.toNat_natCast, he]
 ·obtain ⟨A, c, he, hR⟩ := hel i hi
  simp only [Int.toNat_natCast, he]
  exact hR
theorem Ag.back {f : Nat → Nat} {w w3 : World} {base : Nat} {ok : Nat → Prop} {v : Value} {L : List (List Int)} {P : Int → Option Addr} {C : Int → Nat} {q : List Int} (hR : Kd.R (Dr P (fun x => (L.getD x.toNat []).length) C) 30 w3 base ok v q)
  (hrow : ∀ i : Nat, i < L.length → Kd.R (Kd.int .i64) 3 w base (fun k => some k ≠ v.ownBlock ∧ f k = i) (.slice (P i) (L.getD i []).length (C i)) (L.getD i [])) (hk : Kept w w3 (fun k => some k = v.ownBlock)) (hq : ∀ i ∈ q, 0 ≤ i ∧ i < (L.length : Int)) (hn : (q.map Int.toNat).Nodup) :
  Kd.S (Kd.slice 3 (Kd.int .i64)) 30 w3 base (fun _ => True) v (q.map fun i => L.getD i.toNat []) := by
 have h2 : (Kd.tag f (Kd.slice 3 (Kd.int .i64))).R 30 w3 base (fun _ => True) v (q.map fun i => (L.getD i.toNat [], i.toNat)) := by
  obtain ⟨h0, inner, ho, hr⟩ := hR
  refine ⟨fun _ _ => trivial, inner, by rw [List.length_map]; exact ho, by rw [List.length_map]; exact hr.1, fun j p hj => ?_⟩
  rw [List.getElem?_map] at hj
  obtain ⟨i, hi, rfl⟩ := Option.map_eq_some_iff.1 hj
  have hb := hq i (List.mem_of_getElem? hi)
  have h1 := hr.2 j i hi
  have h3 := hrow i.toNat (by omega)
  rw [show ((i.toNat : Nat) : Int) = i by omega] at h3
  exact ⟨_, h1, Kd.Bv (Kd.R_kept h3 hk (fun k hk2 hk3 => hk2.1 hk3)) (fun k hk2 => ⟨⟨trivial, hk2.1⟩, hk2.2⟩)⟩
 have h4 := Dw.retag h2 (by rw [List.map_map]; exact hn)
 rw [List.map_map] at h4
 exact h4
theorem Ag.start {n : Int} {g : Bool} {a : Int} {b0 ba : Nat} {w W : World} (h0 : W.heap[b0]? = some (.cells #[.int .i64 n, .bool g] 25 (0, 0))) (ha : W.heap[ba]? = some (.cells #[.int .i64 a] 3 (0, 0))) (hb : Below w.heap.size w W) :
  Ag.M n g a b0 (W.heap.size + 1) ba (W.heap.size + 1 + 1) w (.slice (some ⟨W.heap.size, 0, none⟩) 0 0) [] (((W.alloc (.cells #[] 30)).alloc (.cells #[.slice (some ⟨W.heap.size, 0, none⟩) 0 0] 48)).alloc (.cells #[(.func (.func 117) #[] #[.pointer (some ⟨b0, 0, none⟩), .pointer (some ⟨W.heap.size + 1, 0, none⟩), .pointer (some ⟨ba, 0, none⟩), .pointer (some ⟨W.heap.size + 1 + 1, 0, none⟩)])] 109)) := by
 have hlt := Ca ha
 have hle := Af hb
 generalize hF : (Value.func (.func 117) #[] #[.pointer (some ⟨b0, 0, none⟩), .pointer (some ⟨W.heap.size + 1, 0, none⟩), .pointer (some ⟨ba, 0, none⟩), .pointer (some ⟨W.heap.size + 1 + 1, 0, none⟩)]) = F
 have sz : ∀ (W : World) (o : Obj), (W.alloc o).heap.size = W.heap.size + 1 := fun W o => Array.size_push ..
 have ql := blk_new W (.cells #[] 30)
 have e1 := sz W (.cells #[] 30)
 replace h0 := blk_alloc h0 (.cells #[] 30)
 replace ha := blk_alloc ha (.cells #[] 30)
 replace hb := Dq hb (.cells #[] 30)
 generalize W.alloc (.cells #[] 30) = W3 at *
 have qo := blk_new W3 (.cells #[.slice (some ⟨W.heap.size, 0, none⟩) 0 0] 48)
 have e2 := sz W3 (.cells #[.slice (some ⟨W.heap.size, 0, none⟩) 0 0] 48)
 rw [e1] at qo e2
 replace h0 := blk_alloc h0 (.cells #[.slice (some ⟨W.heap.size, 0, none⟩) 0 0] 48)
 replace ha := blk_alloc ha (.cells #[.slice (some ⟨W.heap.size, 0, none⟩) 0 0] 48)
 replace ql := blk_alloc ql (.cells #[.slice (some ⟨W.heap.size, 0, none⟩) 0 0] 48)
 replace hb := Dq hb (.cells #[.slice (some ⟨W.heap.size, 0, none⟩) 0 0] 48)
 generalize W3.alloc (.cells #[.slice (some ⟨W.heap.size, 0, none⟩) 0 0] 48) = W4 at *
 have qe := blk_new W4 (.cells #[F] 109)
 rw [e2] at qe
 replace h0 := blk_alloc h0 (.cells #[F] 109)
 replace ha := blk_alloc ha (.cells #[F] 109)
 replace ql := blk_alloc ql (.cells #[F] 109)
 replace qo := blk_alloc qo (.cells #[F] 109)
 replace hb := Dq hb (.cells #[F] 109)
 refine ⟨h0, qo, ha, ?_, ⟨fun _ => 0, fun k hk => ?_, [], ⟨rfl, .inr ⟨W.heap.size, 0, #[], rfl, hle, ql, Nat.le_refl _, Nat.zero_le _, rfl, rfl⟩⟩, Reps.none _ _⟩, hb, by omega⟩
 ·rw [hF]; exact qe
 ·have : W.heap.size = k := by simpa [Value.ownBlock] using hk
  omega
set_option maxHeartbeats 3200000 in
set_option maxRecDepth 100000 in
theorem Ag.calls (n : Int) (g : Bool) (a : Int) (r : List (List Int)) (w : World) (h : Ag.f n g a = some r) :
  Calls Try.prog 87 #[.agg #[.int .i64 n, .bool g], .int .i64 a] w fun e w' => ∃ v0_ : Value, e = .returned v0_ ∧ Kd.S (Kd.slice 3 (Kd.int .i64)) 30 w' w.heap.size (fun _ => True) v0_ r ∧ Below w.heap.size w w' := by
 unfold Ag.f at h
 by_cases cn : 1 ≤ n ∧ n ≤ 24
 rotate_left
 ·rw [if_neg cn] at h; cases h
 rw [if_pos cn] at h
 obtain ⟨L, A1, h⟩ := Option.bind_eq_some_iff.mp h
 obtain ⟨q, A2, h⟩ := Option.bind_eq_some_iff.mp h
 by_cases cq : (q.map Int.toNat).Nodup ∧ ∀ i ∈ q, 0 ≤ i ∧ i < (L.length : Int)
 rotate_left
 ·rw [if_neg cq] at h; cases h
 rw [if_pos cq] at h
 obtain rfl := Option.some.inj h
 clear h
 have HN := Aa.k cn
 have HA1 := Aa.k A1
 have HA2 := Aa.k A2
 have HQ := Aa.k cq
 clear cn A1 A2 cq
 have HB := Aa.k (Below.refl w.heap.size w)
 have hcF : ∀ (W : World) (b0 ba : Nat), (((W.alloc (.cells #[] 30)).alloc (.cells #[.slice (some ⟨W.heap.size, 0, none⟩) 0 0] 48)).alloc (.cells #[(.func (.func 117) #[] #[.pointer (some ⟨b0, 0, none⟩), .pointer (some ⟨W.heap.size + 1, 0, none⟩), .pointer (some ⟨ba, 0, none⟩), .pointer (some ⟨W.heap.size + 1 + 1, 0, none⟩)])] 109)).cell? ⟨W.heap.size + 1 + 1, 0, none⟩ = some (.func (.func 117) #[] #[.pointer (some ⟨b0, 0, none⟩), .pointer (some ⟨W.heap.size + 1, 0, none⟩), .pointer (some ⟨ba, 0, none⟩), .pointer (some ⟨W.heap.size + 1 + 1, 0, none⟩)]) := fun W b0 ba => by
  have qe := blk_new ((W.alloc (.cells #[] 30)).alloc (.cells #[.slice (some ⟨W.heap.size, 0, none⟩) 0 0] 48)) (.cells #[(.func (.func 117) #[] #[.pointer (some ⟨b0, 0, none⟩), .pointer (some ⟨W.heap.size + 1, 0, none⟩), .pointer (some ⟨ba, 0, none⟩), .pointer (some ⟨W.heap.size + 1 + 1, 0, none⟩)])] 109)
  rw [show ((W.alloc (.cells #[] 30)).alloc (.cells #[.slice (some ⟨W.heap.size, 0, none⟩) 0 0] 48)).heap.size = W.heap.size + 1 + 1 from (Array.size_push ..).trans (congrArg (· + 1) (Array.size_push ..))] at qe
  exact (Aw qe 0).trans rfl
 have hcO : ∀ (W : World) (o1 o2 o3 : Obj) (b : Nat) (v : Value), W.cell? ⟨b, 0, none⟩ = some v → (((W.alloc o1).alloc o2).alloc o3).cell? ⟨b, 0, none⟩ = some v := fun W o1 o2 o3 b v h => by
  exact ((Dq (Dq (Dq (Below.refl W.heap.size W) o1) o2) o3).cell (World.block_lt_of_cell? W _ h)).trans h
 go_enter Try.func87, Try.ntmps87
 go_wp2_with (first | ((with_reducible refine Be (N := 2) rfl ?_); refine Bo ?hg (N := 2) ?hd (cs := #[.int .i64 n, .bool g]) (t := 25) ?hr ?_; (case hd => rfl); (case hg => rfl); (case hr => (go_simp; done)); intro b0 hg w7 hbox hb; have BK := Aa.k hbox; have n0_ := Aa.k (Ad HB.o hb); clear HB hb hbox hg; have HB := n0_; clear n0_) | ((with_reducible refine Be (N := 3) rfl ?_); refine Bo ?hg (N := 3) ?hd (cs := #[.int .i64 a]) (t := 3) ?hr ?_; (case hd => rfl); (case hg => rfl); (case hr => (go_simp; done)); intro ba hg w8 hbox hb; have BA := Aa.k hbox; have n1_ := Aa.k (Ae BK.o hb); have n0_ := Aa.k (Ad HB.o hb); clear HB BK hb hbox hg; have HB := n0_; have BK := n1_; clear n0_ n1_; have hcA : w8.cell? ⟨ba, 0, none⟩ = some (.int .i64 a) := (Aw BA.o 0).trans rfl; have hlA := Ca BA.o))
 have HM0 := Ag.start BK.o BA.o HB.o
 refine (Ag.fn 200 n g a _ _ _ _ none 0 [] a a _ [] L w _ HM0 (Kd.R_nil _ _ _ _ _) HN.o HA1.o).mono ?_
 rintro e w2 ⟨rfl, v2, hM, hK, hat⟩
 obtain ⟨A2, c2, e2⟩ := Kd.S_slice hM.row
 subst e2
 have HM := Aa.k hM
 have hcb : w2.cell? ⟨w8.heap.size + 1, 0, none⟩ = some (.slice A2 L.length c2) := (Aw hM.ho 0).trans rfl
 clear hM hK hat HM0 hcA hlA hcF hcO
 go_wp2_with fail
 obtain ⟨ft, hft⟩ := HM.o.row
 obtain ⟨Pq, Cq, hR, hrow⟩ := Ag.rows hft
 refine (Ga.calls (CMP_ := Ag.cmpL L) (Pq_ := Pq) (Nq_ := fun x => (L.getD x.toNat []).length) (Cq_ := Cq) (wq_ := w2) (Gq_ := fun k => some k = (.slice A2 L.length c2 : Value).ownBlock) 4000 _ (.slice A2 L.length c2) (Ag.idx L.length) 0 q w w2 HM.o.below0 hR HA2.o ?hC (Kept.refl _ _) (fun _ h => h)).mono ?_
 case hC =>
  intro x y r W hW hc
  unfold Ag.cmpL at hc
  by_cases hb : (0 ≤ x ∧ x < (L.length : Int)) ∧ 0 ≤ y ∧ y < (L.length : Int)
  rotate_left
  ·rw [if_neg hb] at hc; cases hc
  rw [if_pos hb] at hc
  have rx := hrow x.toNat (by omega)
  have ry := hrow y.toNat (by omega)
  rw [show ((x.toNat : Nat) : Int) = x by omega] at rx
  rw [show ((y.toNat : Nat) : Int) = y by omega] at ry
  exact Ag.cmp_calls 40 _ _ _ _ _ _ r W (Kd.C_kept_own rx (fun k hk hk2 => hk.1 hk2) W hW) (Kd.Bb rx).2.1 (Kd.C_kept_own ry (fun k hk hk2 => hk.1 hk2) W hW) (Kd.Bb ry).2.1 hc
 rintro e w3 ⟨rfl, hR3, hB3, hK3⟩
 have HO3 := Aa.k (blk_kept HM.o.ho hK3 (fun e_ => Kd.S_ne HM.o.row HM.o.ho (by decide) e_))
 have HBK := Aa.k (Ag.back hR3 hrow hK3 HQ.o.2 HQ.o.1)
 have HB3 := Aa.k hB3
 have hc3 : w3.cell? ⟨w8.heap.size + 1, 0, none⟩ = some (.slice A2 L.length c2) := (Aw HO3.o 0).trans rfl
 clear hR3 hrow hK3 hB3 hft hR hcb
 go_wp2
 go_ret
 exact ⟨_, rfl, HBK.o, HB3.o⟩

/-! ### impl_AllSearches: function 29 -/
def impl_AllSearches.f (k : Nat) (a0_0 : Int) (a0_1 : Bool) (a1 : Int) : Option ((List (List Int)) × Bool) := (Co.f k a0_0 a0_1 a1).bind fun t160 => (if t160 = true then (if a0_0 > 10 then (some (([] : List (List Int)), false)) else ((Ag.f a0_0 a0_1 a1).bind fun t161 => (some (t161, true)))) else (some (([] : List (List Int)), false)))
set_option maxHeartbeats 8000000 in
set_option maxRecDepth 100000 in
theorem impl_AllSearches.calls (k : Nat) (a0_0 : Int) (a0_1 : Bool) (a1 : Int) (r1 : List (List Int)) (r2 : Bool) (w : World) (h : impl_AllSearches.f k a0_0 a0_1 a1 = some (r1, r2)) :
  Calls Try.prog 29 #[.agg #[.int .i64 a0_0, .bool a0_1], .int .i64 a1] w fun e w' => ∃ v0_ : Value, e = .returned (.tuple #[v0_, .bool r2]) ∧ Kd.S (Kd.slice 3 (Kd.int .i64)) 30 w' w.heap.size (fun _ => True) v0_ r1 ∧ Below w.heap.size w w' := by
 have hu25 := Try.underlying25
 have HB := Aa.k (Below.refl w.heap.size w)
 have H : ((Co.f k a0_0 a0_1 a1).bind fun t160 => (if t160 = true then (if a0_0 > 10 then (some (([] : List (List Int)), false)) else ((Ag.f a0_0 a0_1 a1).bind fun t161 => (some (t161, true)))) else (some (([] : List (List Int)), false)))) = some (r1, r2) := h
 clear h
 obtain ⟨t160, A30, H⟩ := bindS_ H
 try dsimp only at H
 have A3 := Aa.k A30
 clear A30
 by_cases c4 : t160 = true
 rotate_left
 ·replace c4 := Bool.eq_false_iff.mpr c4
  subst c4
  rw [if_neg (show ¬ (false = true) by decide)] at H
  simp only [Option.some.injEq, Prod.mk.injEq] at H
  obtain ⟨rfl, rfl⟩ := H
  go_enter Try.func29, Try.ntmps29
  go_wp2_with (first | ((with_reducible refine Be (N := 2) rfl ?_); refine Bo ?hg (N := 2) ?hd (cs := #[.int .i64 a0_0, .bool a0_1]) (t := 25) ?hr ?_; (case hd => rfl); (case hg => rfl); (case hr => (go_simp; done)); intro gb159 hg w16 hbox hb; have n0_ := Aa.k (Ad HB.o hb); have n1_ := Aa.k (hbox); have n2_ := Aa.k ((by rw [hg]; exact (Af HB.o) : w.heap.size ≤ gb159)); have n3_ := Aa.k ((by rw [hg]; exact (Af HB.o) : w.heap.size ≤ gb159)); clear HB; have HB := n0_; have BK159 := n1_; have GW159 := n2_; have GE159 := n3_; clear n0_ n1_ n2_ n3_; clear hb hbox hg; have hcz17_0 := Bj BK159.o; have hcz17_1 := Bn BK159.o; have hfz17_0 := Ac BK159.o 0; have hfz17_1 := Ac BK159.o 1) | ((with_reducible refine Aj (f := 82) rfl ?_); refine Bf (some 8) rfl rfl Try.func82 (by kernel_rfl) rfl #[.agg #[.int .i64 a0_0, .bool a0_1], .int .i64 a1] rfl (by (try simp only [mT_, mC_, mN_]); rfl) ?_; (with_reducible refine (Co.calls k a0_0 a0_1 a1 false _ A3.o).mono ?_); rintro e w18 ⟨rfl, hb⟩; refine ⟨_, rfl, ?_⟩; have n0_ := Aa.k (Ae (g := gb159) (o := .cells #[.int .i64 a0_0, .bool a0_1] 25 (0, 0)) (by exact BK159.o) hb); have n1_ := Aa.k (Ad HB.o hb); clear BK159; clear HB; have BK159 := n0_; have HB := n1_; clear n0_ n1_; clear hb))
  go_ret2
  exact ⟨_, by (rfl), by (exact Kd.S_nil _ _ _ _ _), by exact HB.o⟩
 subst c4
 rw [if_pos rfl] at H
 by_cases c5 : a0_0 > 10
 ·rw [if_pos c5] at H
  have c5b0 : decide (10 < a0_0) = true := decide_eq_true c5
  clear c5
  simp only [Option.some.injEq, Prod.mk.injEq] at H
  obtain ⟨rfl, rfl⟩ := H
  go_enter Try.func29, Try.ntmps29
  go_wp2_with (first | ((with_reducible refine Be (N := 2) rfl ?_); refine Bo ?hg (N := 2) ?hd (cs := #[.int .i64 a0_0, .bool a0_1]) (t := 25) ?hr ?_; (case hd => rfl); (case hg => rfl); (case hr => (go_simp; done)); intro gb159 hg w6 hbox hb; have n0_ := Aa.k (Ad HB.o hb); have n1_ := Aa.k (hbox); have n2_ := Aa.k ((by rw [hg]; exact (Af HB.o) : w.heap.size ≤ gb159)); have n3_ := Aa.k ((by rw [hg]; exact (Af HB.o) : w.heap.size ≤ gb159)); clear HB; have HB := n0_; have BK159 := n1_; have GW159 := n2_; have GE159 := n3_; clear n0_ n1_ n2_ n3_; clear hb hbox hg; have hcz7_0 := Bj BK159.o; have hcz7_1 := Bn BK159.o; have hfz7_0 := Ac BK159.o 0; have hfz7_1 := Ac BK159.o 1) | ((with_reducible refine Aj (f := 82) rfl ?_); refine Bf (some 8) rfl rfl Try.func82 (by kernel_rfl) rfl #[.agg #[.int .i64 a0_0, .bool a0_1], .int .i64 a1] rfl (by (try simp only [mT_, mC_, mN_]); rfl) ?_; (with_reducible refine (Co.calls k a0_0 a0_1 a1 true _ A3.o).mono ?_); rintro e w8 ⟨rfl, hb⟩; refine ⟨_, rfl, ?_⟩; have n0_ := Aa.k (Ae (g := gb159) (o := .cells #[.int .i64 a0_0, .bool a0_1] 25 (0, 0)) (by exact BK159.o) hb); have n1_ := Aa.k (Ad HB.o hb); clear BK159; clear HB; have BK159 := n0_; have HB := n1_; clear n0_ n1_; clear hb; have hcz9_0 := Bj BK159.o; have hcz9_1 := Bn BK159.o; have hfz9_0 := Ac BK159.o 0; have hfz9_1 := Ac BK159.o 1))
  go_ret2
  exact ⟨_, by (rfl), by (exact Kd.S_nil _ _ _ _ _), by exact HB.o⟩
 rw [if_neg c5] at H
 have c5b0 : decide (10 < a0_0) = false := decide_eq_false c5
 clear c5
 obtain ⟨t161, A100, H⟩ := bindS_ H
 try dsimp only at H
 have A10 := Aa.k A100
 clear A100
 simp only [Option.some.injEq, Prod.mk.injEq] at H
 obtain ⟨rfl, rfl⟩ := H
 go_enter Try.func29, Try.ntmps29
 go_wp2_with (first | ((with_reducible refine Be (N := 2) rfl ?_); refine Bo ?hg (N := 2) ?hd (cs := #[.int .i64 a0_0, .bool a0_1]) (t := 25) ?hr ?_; (case hd => rfl); (case hg => rfl); (case hr => (go_simp; done)); intro gb159 hg w11 hbox hb; have n0_ := Aa.k (Ad HB.o hb); have n1_ := Aa.k (hbox); have n2_ := Aa.k ((by rw [hg]; exact (Af HB.o) : w.heap.size ≤ gb159)); have n3_ := Aa.k ((by rw [hg]; exact (Af HB.o) : w.heap.size ≤ gb159)); clear HB; have HB := n0_; have BK159 := n1_; have GW159 := n2_; have GE159 := n3_; clear n0_ n1_ n2_ n3_; clear hb hbox hg; have hcz12_0 := Bj BK159.o; have hcz12_1 := Bn BK159.o; have hfz12_0 := Ac BK159.o 0; have hfz12_1 := Ac BK159.o 1) | ((with_reducible refine Aj (f := 82) rfl ?_); refine Bf (some 8) rfl rfl Try.func82 (by kernel_rfl) rfl #[.agg #[.int .i64 a0_0, .bool a0_1], .int .i64 a1] rfl (by (try simp only [mT_, mC_, mN_]); rfl) ?_; (with_reducible refine (Co.calls k a0_0 a0_1 a1 true _ A3.o).mono ?_); rintro e w13 ⟨rfl, hb⟩; refine ⟨_, rfl, ?_⟩; have n0_ := Aa.k (Ae (g := gb159) (o := .cells #[.int .i64 a0_0, .bool a0_1] 25 (0, 0)) (by exact BK159.o) hb); have n1_ := Aa.k (Ad HB.o hb); clear BK159; clear HB; have BK159 := n0_; have HB := n1_; clear n0_ n1_; clear hb; have hcz14_0 := Bj BK159.o; have hcz14_1 := Bn BK159.o; have hfz14_0 := Ac BK159.o 0; have hfz14_1 := Ac BK159.o 1) | ((with_reducible refine Aj (f := 87) rfl ?_); refine Bf (some 17) rfl rfl Try.func87 (by kernel_rfl) rfl #[.agg #[.int .i64 a0_0, .bool a0_1], .int .i64 a1] rfl (by (try simp only [mT_, mC_, mN_]); rfl) ?_; (with_reducible refine (Ag.calls a0_0 a0_1 a1 t161 _ A10.o).mono ?_); rintro e w15 ⟨v162, rfl, ho0, hb⟩; refine ⟨_, rfl, ?_⟩; have n0_ := Aa.k (Kd.S_lower ho0 (Af HB.o)); have n1_ := Aa.k (Ae (g := gb159) (o := .cells #[.int .i64 a0_0, .bool a0_1] 25 (0, 0)) (by exact BK159.o) hb); have n2_ := Aa.k (Ad HB.o hb); clear BK159; clear HB; have HO163 := n0_; have BK159 := n1_; have HB := n2_; clear n0_ n1_ n2_; clear hb ho0))
 go_ret2
 exact ⟨_, by (rfl), by exact HO163.o, by exact HB.o⟩

end Go.Proofs.Ytogflbocmiogpaa.PFnBestSearch
