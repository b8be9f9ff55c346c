-- Written for this claim by this session's turned copy of the printer.
import Derived.Test.YtjihgbfhgfmknaaDoorPFnExactParseWalkx0
import Derived.Test.YtjihgbfhgfmknaaDoorPFnExactParseWalkx6
import Derived.Test.YtjihgbfhgfmknaaDoorPFnExactParseWalkx7
namespace Go.Proofs.YtjihgbfhgfmknaaDoor.PFnExactParseWalk
open Go.RowKit Go.Proofs.YtjihgbfhgfmknaaDoorW.PrintWords Go.Proofs.YtjihgbfhgfmknaaDoorW.PrintLast Go.Proofs.YtjihgbfhgfmknaaDoorW.PrintMore
attribute [local go_sem] max2_int min2_int max_two min_two max_three min_three max_four min_four   -- for this text's walks alone
set_option linter.unusedVariables false
set_option linter.unusedSimpArgs false

/-! ### impl_walkText: function 58 -/
def impl_walkText.f (k : Nat) (a0_0 : Int) (a0_1 : Bool) (l1 : List Int) : Option (ByteArray) := if a0_1 = true then (if 4 + 1 ≤ 9223372036854775807 then ((strconv_Itoa.f a0_0).bind fun t200 => (if 4 + t200.size ≤ 9223372036854775807 then (if (((⟨#[114, 105, 110, 103]⟩ : ByteArray) ++ (⟨#[32]⟩ : ByteArray)) ++ t200).size + 1 ≤ 9223372036854775807 then ((impl_decimals.f k l1 (⟨#[44]⟩ : ByteArray)).bind fun t201 => (if ((((⟨#[114, 105, 110, 103]⟩ : ByteArray) ++ (⟨#[32]⟩ : ByteArray)) ++ t200) ++ (⟨#[32]⟩ : ByteArray)).size + t201.size ≤ 9223372036854775807 then (some (((((⟨#[114, 105, 110, 103]⟩ : ByteArray) ++ (⟨#[32]⟩ : ByteArray)) ++ t200) ++ (⟨#[32]⟩ : ByteArray)) ++ t201)) else (none))) else (none)) else (none))) else (none)) else (if 4 + 1 ≤ 9223372036854775807 then ((strconv_Itoa.f a0_0).bind fun t202 => (if 4 + t202.size ≤ 9223372036854775807 then (if (((⟨#[108, 105, 110, 101]⟩ : ByteArray) ++ (⟨#[32]⟩ : ByteArray)) ++ t202).size + 1 ≤ 9223372036854775807 then ((impl_decimals.f k l1 (⟨#[44]⟩ : ByteArray)).bind fun t203 => (if ((((⟨#[108, 105, 110, 101]⟩ : ByteArray) ++ (⟨#[32]⟩ : ByteArray)) ++ t202) ++ (⟨#[32]⟩ : ByteArray)).size + t203.size ≤ 9223372036854775807 then (some (((((⟨#[108, 105, 110, 101]⟩ : ByteArray) ++ (⟨#[32]⟩ : ByteArray)) ++ t202) ++ (⟨#[32]⟩ : ByteArray)) ++ t203)) else (none))) else (none)) else (none))) else (none))
theorem impl_walkText.mono : ∀ a0 a1 a2 k, LeO (impl_walkText.f k a0 a1 a2) (impl_walkText.f (k + 1) a0 a1 a2) := by
  intro a0 a1 a2 k
  unfold impl_walkText.f
  repeat' first
      | (with_reducible exact impl_decimals.mono _ _ _)
      | (with_reducible exact LeO.refl _)
      | (with_reducible exact LeO.none _)
      | (with_reducible refine LeO.ite ?_ ?_)
      | (with_reducible refine LeO.bind ?_ (fun _ => ?_))
      | exact impl_decimals.mono _ _ _
      | exact LeO.none _
      | refine LeO.ite ?_ ?_
      | refine LeO.bind ?_ (fun _ => ?_)
set_option maxHeartbeats 8000000 in
set_option maxRecDepth 100000 in
theorem impl_walkText.calls (k : Nat) (a0_0 : Int) (a0_1 : Bool) (A1 : Option Addr) (c1 : Nat) (l1 : List Int) (r : ByteArray) (w : World) (hr1 : Kd.C (Kd.int .i64) w A1 l1.length l1) (hc1 : l1.length ≤ c1) (h : impl_walkText.f k a0_0 a0_1 l1 = some r) (hLaid : Go.Proofs.YtjihgbfhgfmknaaDoor.LaidFnExactParseWalk.LaidW w) :
    Calls Tryd.prog 58 #[.agg #[.int .i64 a0_0, .bool a0_1], .slice A1 l1.length c1] w fun e w' => e = .returned (.string r) ∧ Below w.heap.size w w' := by
  have HLAID := Aside0.mk hLaid
  clear hLaid
  have hu45 := Tryd.underlying45
  have HR1 := Aside0.mk hr1
  have HC1 := Aside0.mk hc1
  clear hr1 hc1
  have HB := Aside0.mk (Below.refl w.heap.size w)
  have H : (if a0_1 = true then (if 4 + 1 ≤ 9223372036854775807 then ((strconv_Itoa.f a0_0).bind fun t200 => (if 4 + t200.size ≤ 9223372036854775807 then (if (((⟨#[114, 105, 110, 103]⟩ : ByteArray) ++ (⟨#[32]⟩ : ByteArray)) ++ t200).size + 1 ≤ 9223372036854775807 then ((impl_decimals.f k l1 (⟨#[44]⟩ : ByteArray)).bind fun t201 => (if ((((⟨#[114, 105, 110, 103]⟩ : ByteArray) ++ (⟨#[32]⟩ : ByteArray)) ++ t200) ++ (⟨#[32]⟩ : ByteArray)).size + t201.size ≤ 9223372036854775807 then (some (((((⟨#[114, 105, 110, 103]⟩ : ByteArray) ++ (⟨#[32]⟩ : ByteArray)) ++ t200) ++ (⟨#[32]⟩ : ByteArray)) ++ t201)) else (none))) else (none)) else (none))) else (none)) else (if 4 + 1 ≤ 9223372036854775807 then ((strconv_Itoa.f a0_0).bind fun t202 => (if 4 + t202.size ≤ 9223372036854775807 then (if (((⟨#[108, 105, 110, 101]⟩ : ByteArray) ++ (⟨#[32]⟩ : ByteArray)) ++ t202).size + 1 ≤ 9223372036854775807 then ((impl_decimals.f k l1 (⟨#[44]⟩ : ByteArray)).bind fun t203 => (if ((((⟨#[108, 105, 110, 101]⟩ : ByteArray) ++ (⟨#[32]⟩ : ByteArray)) ++ t202) ++ (⟨#[32]⟩ : ByteArray)).size + t203.size ≤ 9223372036854775807 then (some (((((⟨#[108, 105, 110, 101]⟩ : ByteArray) ++ (⟨#[32]⟩ : ByteArray)) ++ t202) ++ (⟨#[32]⟩ : ByteArray)) ++ t203)) else (none))) else (none)) else (none))) else (none))) = some r := h
  clear h
  by_cases c3 : a0_1 = true
  · subst c3
    have H1 : (if 4 + 1 ≤ 9223372036854775807 then ((strconv_Itoa.f a0_0).bind fun t200 => (if 4 + t200.size ≤ 9223372036854775807 then (if (((⟨#[114, 105, 110, 103]⟩ : ByteArray) ++ (⟨#[32]⟩ : ByteArray)) ++ t200).size + 1 ≤ 9223372036854775807 then ((impl_decimals.f k l1 (⟨#[44]⟩ : ByteArray)).bind fun t201 => (if ((((⟨#[114, 105, 110, 103]⟩ : ByteArray) ++ (⟨#[32]⟩ : ByteArray)) ++ t200) ++ (⟨#[32]⟩ : ByteArray)).size + t201.size ≤ 9223372036854775807 then (some (((((⟨#[114, 105, 110, 103]⟩ : ByteArray) ++ (⟨#[32]⟩ : ByteArray)) ++ t200) ++ (⟨#[32]⟩ : ByteArray)) ++ t201)) else (none))) else (none)) else (none))) else (none)) = some r := by rw [if_pos rfl] at H; exact H
    clear H
    have H := H1
    clear H1
    by_cases c4 : 4 + 1 ≤ 9223372036854775807
    · rw [if_pos c4] at H
      have c4b0 := eq_true c4
      have c4b1 : decide (4 + 1 ≤ 9223372036854775807) = true := decide_eq_true c4
      try have c4b2 : (9223372036854775807 < 4 + 1) = False := eq_false (Nat.not_lt.2 c4)
      replace H := Option.bind_eq_some_iff.mp H
      obtain ⟨t200, A50, H⟩ := H
      replace H : (if 4 + t200.size ≤ 9223372036854775807 then (if (((⟨#[114, 105, 110, 103]⟩ : ByteArray) ++ (⟨#[32]⟩ : ByteArray)) ++ t200).size + 1 ≤ 9223372036854775807 then ((impl_decimals.f k l1 (⟨#[44]⟩ : ByteArray)).bind fun t201 => (if ((((⟨#[114, 105, 110, 103]⟩ : ByteArray) ++ (⟨#[32]⟩ : ByteArray)) ++ t200) ++ (⟨#[32]⟩ : ByteArray)).size + t201.size ≤ 9223372036854775807 then (some (((((⟨#[114, 105, 110, 103]⟩ : ByteArray) ++ (⟨#[32]⟩ : ByteArray)) ++ t200) ++ (⟨#[32]⟩ : ByteArray)) ++ t201)) else (none))) else (none)) else (none)) = some r := H
      have A5 := Aside0.mk A50
      clear A50
      by_cases c6 : 4 + t200.size ≤ 9223372036854775807
      · rw [if_pos c6] at H
        have c6b0 := eq_true c6
        have c6b1 : decide (4 + t200.size ≤ 9223372036854775807) = true := decide_eq_true c6
        try have c6b2 : (9223372036854775807 < 4 + t200.size) = False := eq_false (Nat.not_lt.2 c6)
        by_cases c7 : (((⟨#[114, 105, 110, 103]⟩ : ByteArray) ++ (⟨#[32]⟩ : ByteArray)) ++ t200).size + 1 ≤ 9223372036854775807
        · rw [if_pos c7] at H
          have c7b0 := eq_true c7
          have c7b1 : decide ((((⟨#[114, 105, 110, 103]⟩ : ByteArray) ++ (⟨#[32]⟩ : ByteArray)) ++ t200).size + 1 ≤ 9223372036854775807) = true := decide_eq_true c7
          try have c7b30 : (9223372036854775807 < 5 + t200.size) = False := eq_false (by have h_ := c7; simp only [ByteArray.size_append, ByteArray.size_extract] at h_; (try simp only [show (⟨#[114, 105, 110, 103]⟩ : ByteArray).size = 4 from rfl, show (⟨#[32]⟩ : ByteArray).size = 1 from rfl] at h_); (try omega))
          try have c7b31 : (9223372036854775807 < 5 + t200.size + 1) = False := eq_false (by have h_ := c7; simp only [ByteArray.size_append, ByteArray.size_extract] at h_; (try simp only [show (⟨#[114, 105, 110, 103]⟩ : ByteArray).size = 4 from rfl, show (⟨#[32]⟩ : ByteArray).size = 1 from rfl] at h_); (try omega))
          try have c7b2 : (9223372036854775807 < (((⟨#[114, 105, 110, 103]⟩ : ByteArray) ++ (⟨#[32]⟩ : ByteArray)) ++ t200).size + 1) = False := eq_false (Nat.not_lt.2 c7)
          replace H := Option.bind_eq_some_iff.mp H
          obtain ⟨t201, A80, H⟩ := H
          replace H : (if ((((⟨#[114, 105, 110, 103]⟩ : ByteArray) ++ (⟨#[32]⟩ : ByteArray)) ++ t200) ++ (⟨#[32]⟩ : ByteArray)).size + t201.size ≤ 9223372036854775807 then (some (((((⟨#[114, 105, 110, 103]⟩ : ByteArray) ++ (⟨#[32]⟩ : ByteArray)) ++ t200) ++ (⟨#[32]⟩ : ByteArray)) ++ t201)) else (none)) = some r := H
          have A8 := Aside0.mk A80
          clear A80
          by_cases c9 : ((((⟨#[114, 105, 110, 103]⟩ : ByteArray) ++ (⟨#[32]⟩ : ByteArray)) ++ t200) ++ (⟨#[32]⟩ : ByteArray)).size + t201.size ≤ 9223372036854775807
          · rw [if_pos c9] at H
            have c9b0 := eq_true c9
            have c9b1 : decide (((((⟨#[114, 105, 110, 103]⟩ : ByteArray) ++ (⟨#[32]⟩ : ByteArray)) ++ t200) ++ (⟨#[32]⟩ : ByteArray)).size + t201.size ≤ 9223372036854775807) = true := decide_eq_true c9
            try have c9b30 : (9223372036854775807 < 5 + t200.size) = False := eq_false (by have h_ := c9; simp only [ByteArray.size_append, ByteArray.size_extract] at h_; (try simp only [show (⟨#[114, 105, 110, 103]⟩ : ByteArray).size = 4 from rfl, show (⟨#[32]⟩ : ByteArray).size = 1 from rfl] at h_); (try omega))
            try have c9b31 : (9223372036854775807 < 5 + t200.size + 1) = False := eq_false (by have h_ := c9; simp only [ByteArray.size_append, ByteArray.size_extract] at h_; (try simp only [show (⟨#[114, 105, 110, 103]⟩ : ByteArray).size = 4 from rfl, show (⟨#[32]⟩ : ByteArray).size = 1 from rfl] at h_); (try omega))
            try have c9b32 : (9223372036854775807 < 5 + t200.size + 1 + t201.size) = False := eq_false (by have h_ := c9; simp only [ByteArray.size_append, ByteArray.size_extract] at h_; (try simp only [show (⟨#[114, 105, 110, 103]⟩ : ByteArray).size = 4 from rfl, show (⟨#[32]⟩ : ByteArray).size = 1 from rfl] at h_); (try omega))
            try have c9b2 : (9223372036854775807 < ((((⟨#[114, 105, 110, 103]⟩ : ByteArray) ++ (⟨#[32]⟩ : ByteArray)) ++ t200) ++ (⟨#[32]⟩ : ByteArray)).size + t201.size) = False := eq_false (Nat.not_lt.2 c9)
            obtain rfl := Option.some.inj H
            go_enter Tryd.func58, Tryd.ntmps58
            go_wp2_with (first | ((with_reducible refine gate_dst (N := 2) rfl ?_); refine box_event ?hg (N := 2) ?hd (cs := #[.int .i64 a0_0, .bool true]) (t := 45) ?hr ?_; (case hd => rfl); (case hg => rfl); (case hr => first | (go_simp; done) | (go_simp; rfl)); intro gb199 hg w10 hbox hb; have n0_ := Aside0.mk (below_step (by repeat (first | (with_reducible first | exact HB.out | apply below_alloc | apply pw_below_drewN | apply below_drew1) | exact HB.out)) hb); have n1_ := Aside0.mk (hbox); have n2_ := Aside0.mk ((by rw [hg]; exact (below_size (by repeat (first | (with_reducible first | exact HB.out | apply below_alloc | apply pw_below_drewN | apply below_drew1) | exact HB.out))) : w.heap.size ≤ gb199)); have n3_ := Aside0.mk ((by rw [hg]; exact (below_size (by repeat (first | (with_reducible first | exact HB.out | apply below_alloc | apply pw_below_drewN | apply below_drew1) | exact HB.out))) : w.heap.size ≤ gb199)); clear HB; have HB := n0_; have BK199 := n1_; have GW199 := n2_; have GE199 := n3_; clear n0_ n1_ n2_ n3_; clear hb hbox hg; have hcz11_0 : w10.cell? ⟨gb199, 0, none⟩ = some (.int .i64 a0_0) := (blk_cell BK199.out 0).trans rfl; have hcz11_1 : w10.cell? ⟨gb199, 1, none⟩ = some (.bool true) := (blk_cell BK199.out 1).trans rfl; have hfz11_0 := blk_frozen BK199.out 0; have hfz11_1 := blk_frozen BK199.out 1) | ((with_reducible refine gate_callee (f := 47) rfl ?_); refine goesL_ (some 12) rfl rfl Tryd.func47 (by kernel_rfl) rfl #[.int .i64 a0_0] rfl (by (try simp only [List.map_toArray, List.map_cons, List.map_nil]); first | done | rfl | (simp only [List.length_drop, List.length_take]; rfl)) ?_; (with_reducible refine (strconv_Itoa.calls a0_0 t200 _ A5.out ?side99).mono ?_); (case side99 => exact Go.Proofs.YtjihgbfhgfmknaaDoor.LaidFnExactParseWalk.below HLAID.out (by repeat (first | (with_reducible first | exact HB.out | apply below_alloc | apply pw_below_drewN | apply below_drew1 | refine below_set ?_ GE199.out) | exact HB.out))); rintro e w12 ⟨rfl, hb⟩; refine ⟨_, rfl, ?_⟩; have n0_ := Aside0.mk (blk_below (g := gb199) (o := .cells #[.int .i64 a0_0, .bool true] 45 (0, 0)) (by (with_reducible repeat (first | refine blk_drewN ?_ _ | refine blk_drew ?_ | refine blk_alloc ?_ _)); exact BK199.out) hb); have n1_ := Aside0.mk (below_step (by repeat (first | (with_reducible first | exact HB.out | apply below_alloc | apply pw_below_drewN | apply below_drew1 | refine below_set ?_ GE199.out) | exact HB.out)) hb); clear BK199; clear HB; have BK199 := n0_; have HB := n1_; clear n0_ n1_; (try clear hb); (try clear hb2); (try clear hk); (try clear hi)) | ((with_reducible refine gate_callee (f := 79) rfl ?_); refine goesL_ (some 16) rfl rfl Tryd.func79 (by kernel_rfl) rfl #[.slice A1 l1.length c1, .string (⟨#[44]⟩ : ByteArray)] rfl (by (try simp only [List.map_toArray, List.map_cons, List.map_nil]); first | done | rfl | (simp only [List.length_drop, List.length_take]; rfl)) ?_; (with_reducible refine (impl_decimals.calls k _ _ l1 (⟨#[44]⟩ : ByteArray) t201 _ ?side1 ?side2 A8.out ?side99).mono ?_); (case side99 => exact Go.Proofs.YtjihgbfhgfmknaaDoor.LaidFnExactParseWalk.below HLAID.out (by repeat (first | (with_reducible first | exact HB.out | apply below_alloc | apply pw_below_drewN | apply below_drew1 | refine below_set ?_ GE199.out) | exact HB.out))); (case side1 => repeat (first | exact (Kd.C_below HR1.out HB.out) | (with_reducible refine Kd.C_alloc ?_ _) | (with_reducible refine Kd.C_drewN ?_ _) | (with_reducible refine Kd.C_drew ?_))); (case side2 => exact HC1.out); rintro e w13 ⟨rfl, hb⟩; refine ⟨_, rfl, ?_⟩; have n0_ := Aside0.mk (blk_below (g := gb199) (o := .cells #[.int .i64 a0_0, .bool true] 45 (0, 0)) (by (with_reducible repeat (first | refine blk_drewN ?_ _ | refine blk_drew ?_ | refine blk_alloc ?_ _)); exact BK199.out) hb); have n1_ := Aside0.mk (below_step (by repeat (first | (with_reducible first | exact HB.out | apply below_alloc | apply pw_below_drewN | apply below_drew1 | refine below_set ?_ GE199.out) | exact HB.out)) hb); clear BK199; clear HB; have BK199 := n0_; have HB := n1_; clear n0_ n1_; (try clear hb); (try clear hb2); (try clear hk); (try clear hi)))
            go_ret
            exact ⟨by first | rfl | (simp [errW_none, errW_some] <;> rfl) | (simp [*, errW_none, errW_some] <;> rfl), by repeat (first | (with_reducible first | exact HB.out | apply below_alloc | apply pw_below_drewN | apply below_drew1 | refine below_set ?_ GE199.out) | exact HB.out)⟩
          · rw [if_neg c9] at H
            exact absurd H (by simp)
        · rw [if_neg c7] at H
          exact absurd H (by simp)
      · rw [if_neg c6] at H
        exact absurd H (by simp)
    · rw [if_neg c4] at H
      exact absurd H (by simp)
  · replace c3 := Bool.eq_false_iff.mpr c3
    subst c3
    have H1 : (if 4 + 1 ≤ 9223372036854775807 then ((strconv_Itoa.f a0_0).bind fun t202 => (if 4 + t202.size ≤ 9223372036854775807 then (if (((⟨#[108, 105, 110, 101]⟩ : ByteArray) ++ (⟨#[32]⟩ : ByteArray)) ++ t202).size + 1 ≤ 9223372036854775807 then ((impl_decimals.f k l1 (⟨#[44]⟩ : ByteArray)).bind fun t203 => (if ((((⟨#[108, 105, 110, 101]⟩ : ByteArray) ++ (⟨#[32]⟩ : ByteArray)) ++ t202) ++ (⟨#[32]⟩ : ByteArray)).size + t203.size ≤ 9223372036854775807 then (some (((((⟨#[108, 105, 110, 101]⟩ : ByteArray) ++ (⟨#[32]⟩ : ByteArray)) ++ t202) ++ (⟨#[32]⟩ : ByteArray)) ++ t203)) else (none))) else (none)) else (none))) else (none)) = some r := by rw [if_neg (show ¬ (false = true) by decide)] at H; exact H
    clear H
    have H := H1
    clear H1
    by_cases c14 : 4 + 1 ≤ 9223372036854775807
    · rw [if_pos c14] at H
      have c14b0 := eq_true c14
      have c14b1 : decide (4 + 1 ≤ 9223372036854775807) = true := decide_eq_true c14
      try have c14b2 : (9223372036854775807 < 4 + 1) = False := eq_false (Nat.not_lt.2 c14)
      replace H := Option.bind_eq_some_iff.mp H
      obtain ⟨t202, A150, H⟩ := H
      replace H : (if 4 + t202.size ≤ 9223372036854775807 then (if (((⟨#[108, 105, 110, 101]⟩ : ByteArray) ++ (⟨#[32]⟩ : ByteArray)) ++ t202).size + 1 ≤ 9223372036854775807 then ((impl_decimals.f k l1 (⟨#[44]⟩ : ByteArray)).bind fun t203 => (if ((((⟨#[108, 105, 110, 101]⟩ : ByteArray) ++ (⟨#[32]⟩ : ByteArray)) ++ t202) ++ (⟨#[32]⟩ : ByteArray)).size + t203.size ≤ 9223372036854775807 then (some (((((⟨#[108, 105, 110, 101]⟩ : ByteArray) ++ (⟨#[32]⟩ : ByteArray)) ++ t202) ++ (⟨#[32]⟩ : ByteArray)) ++ t203)) else (none))) else (none)) else (none)) = some r := H
      have A15 := Aside0.mk A150
      clear A150
      by_cases c16 : 4 + t202.size ≤ 9223372036854775807
      · rw [if_pos c16] at H
        have c16b0 := eq_true c16
        have c16b1 : decide (4 + t202.size ≤ 9223372036854775807) = true := decide_eq_true c16
        try have c16b2 : (9223372036854775807 < 4 + t202.size) = False := eq_false (Nat.not_lt.2 c16)
        by_cases c17 : (((⟨#[108, 105, 110, 101]⟩ : ByteArray) ++ (⟨#[32]⟩ : ByteArray)) ++ t202).size + 1 ≤ 9223372036854775807
        · rw [if_pos c17] at H
          have c17b0 := eq_true c17
          have c17b1 : decide ((((⟨#[108, 105, 110, 101]⟩ : ByteArray) ++ (⟨#[32]⟩ : ByteArray)) ++ t202).size + 1 ≤ 9223372036854775807) = true := decide_eq_true c17
          try have c17b30 : (9223372036854775807 < 5 + t202.size) = False := eq_false (by have h_ := c17; simp only [ByteArray.size_append, ByteArray.size_extract] at h_; (try simp only [show (⟨#[108, 105, 110, 101]⟩ : ByteArray).size = 4 from rfl, show (⟨#[32]⟩ : ByteArray).size = 1 from rfl] at h_); (try omega))
          try have c17b31 : (9223372036854775807 < 5 + t202.size + 1) = False := eq_false (by have h_ := c17; simp only [ByteArray.size_append, ByteArray.size_extract] at h_; (try simp only [show (⟨#[108, 105, 110, 101]⟩ : ByteArray).size = 4 from rfl, show (⟨#[32]⟩ : ByteArray).size = 1 from rfl] at h_); (try omega))
          try have c17b2 : (9223372036854775807 < (((⟨#[108, 105, 110, 101]⟩ : ByteArray) ++ (⟨#[32]⟩ : ByteArray)) ++ t202).size + 1) = False := eq_false (Nat.not_lt.2 c17)
          replace H := Option.bind_eq_some_iff.mp H
          obtain ⟨t203, A180, H⟩ := H
          replace H : (if ((((⟨#[108, 105, 110, 101]⟩ : ByteArray) ++ (⟨#[32]⟩ : ByteArray)) ++ t202) ++ (⟨#[32]⟩ : ByteArray)).size + t203.size ≤ 9223372036854775807 then (some (((((⟨#[108, 105, 110, 101]⟩ : ByteArray) ++ (⟨#[32]⟩ : ByteArray)) ++ t202) ++ (⟨#[32]⟩ : ByteArray)) ++ t203)) else (none)) = some r := H
          have A18 := Aside0.mk A180
          clear A180
          by_cases c19 : ((((⟨#[108, 105, 110, 101]⟩ : ByteArray) ++ (⟨#[32]⟩ : ByteArray)) ++ t202) ++ (⟨#[32]⟩ : ByteArray)).size + t203.size ≤ 9223372036854775807
          · rw [if_pos c19] at H
            have c19b0 := eq_true c19
            have c19b1 : decide (((((⟨#[108, 105, 110, 101]⟩ : ByteArray) ++ (⟨#[32]⟩ : ByteArray)) ++ t202) ++ (⟨#[32]⟩ : ByteArray)).size + t203.size ≤ 9223372036854775807) = true := decide_eq_true c19
            try have c19b30 : (9223372036854775807 < 5 + t202.size) = False := eq_false (by have h_ := c19; simp only [ByteArray.size_append, ByteArray.size_extract] at h_; (try simp only [show (⟨#[108, 105, 110, 101]⟩ : ByteArray).size = 4 from rfl, show (⟨#[32]⟩ : ByteArray).size = 1 from rfl] at h_); (try omega))
            try have c19b31 : (9223372036854775807 < 5 + t202.size + 1) = False := eq_false (by have h_ := c19; simp only [ByteArray.size_append, ByteArray.size_extract] at h_; (try simp only [show (⟨#[108, 105, 110, 101]⟩ : ByteArray).size = 4 from rfl, show (⟨#[32]⟩ : ByteArray).size = 1 from rfl] at h_); (try omega))
            try have c19b32 : (9223372036854775807 < 5 + t202.size + 1 + t203.size) = False := eq_false (by have h_ := c19; simp only [ByteArray.size_append, ByteArray.size_extract] at h_; (try simp only [show (⟨#[108, 105, 110, 101]⟩ : ByteArray).size = 4 from rfl, show (⟨#[32]⟩ : ByteArray).size = 1 from rfl] at h_); (try omega))
            try have c19b2 : (9223372036854775807 < ((((⟨#[108, 105, 110, 101]⟩ : ByteArray) ++ (⟨#[32]⟩ : ByteArray)) ++ t202) ++ (⟨#[32]⟩ : ByteArray)).size + t203.size) = False := eq_false (Nat.not_lt.2 c19)
            obtain rfl := Option.some.inj H
            go_enter Tryd.func58, Tryd.ntmps58
            go_wp2_with (first | ((with_reducible refine gate_dst (N := 2) rfl ?_); refine box_event ?hg (N := 2) ?hd (cs := #[.int .i64 a0_0, .bool false]) (t := 45) ?hr ?_; (case hd => rfl); (case hg => rfl); (case hr => first | (go_simp; done) | (go_simp; rfl)); intro gb199 hg w20 hbox hb; have n0_ := Aside0.mk (below_step (by repeat (first | (with_reducible first | exact HB.out | apply below_alloc | apply pw_below_drewN | apply below_drew1) | exact HB.out)) hb); have n1_ := Aside0.mk (hbox); have n2_ := Aside0.mk ((by rw [hg]; exact (below_size (by repeat (first | (with_reducible first | exact HB.out | apply below_alloc | apply pw_below_drewN | apply below_drew1) | exact HB.out))) : w.heap.size ≤ gb199)); have n3_ := Aside0.mk ((by rw [hg]; exact (below_size (by repeat (first | (with_reducible first | exact HB.out | apply below_alloc | apply pw_below_drewN | apply below_drew1) | exact HB.out))) : w.heap.size ≤ gb199)); clear HB; have HB := n0_; have BK199 := n1_; have GW199 := n2_; have GE199 := n3_; clear n0_ n1_ n2_ n3_; clear hb hbox hg; have hcz21_0 : w20.cell? ⟨gb199, 0, none⟩ = some (.int .i64 a0_0) := (blk_cell BK199.out 0).trans rfl; have hcz21_1 : w20.cell? ⟨gb199, 1, none⟩ = some (.bool false) := (blk_cell BK199.out 1).trans rfl; have hfz21_0 := blk_frozen BK199.out 0; have hfz21_1 := blk_frozen BK199.out 1) | ((with_reducible refine gate_callee (f := 47) rfl ?_); refine goesL_ (some 12) rfl rfl Tryd.func47 (by kernel_rfl) rfl #[.int .i64 a0_0] rfl (by (try simp only [List.map_toArray, List.map_cons, List.map_nil]); first | done | rfl | (simp only [List.length_drop, List.length_take]; rfl)) ?_; (with_reducible refine (strconv_Itoa.calls a0_0 t202 _ A15.out ?side99).mono ?_); (case side99 => exact Go.Proofs.YtjihgbfhgfmknaaDoor.LaidFnExactParseWalk.below HLAID.out (by repeat (first | (with_reducible first | exact HB.out | apply below_alloc | apply pw_below_drewN | apply below_drew1 | refine below_set ?_ GE199.out) | exact HB.out))); rintro e w22 ⟨rfl, hb⟩; refine ⟨_, rfl, ?_⟩; have n0_ := Aside0.mk (blk_below (g := gb199) (o := .cells #[.int .i64 a0_0, .bool false] 45 (0, 0)) (by (with_reducible repeat (first | refine blk_drewN ?_ _ | refine blk_drew ?_ | refine blk_alloc ?_ _)); exact BK199.out) hb); have n1_ := Aside0.mk (below_step (by repeat (first | (with_reducible first | exact HB.out | apply below_alloc | apply pw_below_drewN | apply below_drew1 | refine below_set ?_ GE199.out) | exact HB.out)) hb); clear BK199; clear HB; have BK199 := n0_; have HB := n1_; clear n0_ n1_; (try clear hb); (try clear hb2); (try clear hk); (try clear hi)) | ((with_reducible refine gate_callee (f := 79) rfl ?_); refine goesL_ (some 16) rfl rfl Tryd.func79 (by kernel_rfl) rfl #[.slice A1 l1.length c1, .string (⟨#[44]⟩ : ByteArray)] rfl (by (try simp only [List.map_toArray, List.map_cons, List.map_nil]); first | done | rfl | (simp only [List.length_drop, List.length_take]; rfl)) ?_; (with_reducible refine (impl_decimals.calls k _ _ l1 (⟨#[44]⟩ : ByteArray) t203 _ ?side1 ?side2 A18.out ?side99).mono ?_); (case side99 => exact Go.Proofs.YtjihgbfhgfmknaaDoor.LaidFnExactParseWalk.below HLAID.out (by repeat (first | (with_reducible first | exact HB.out | apply below_alloc | apply pw_below_drewN | apply below_drew1 | refine below_set ?_ GE199.out) | exact HB.out))); (case side1 => repeat (first | exact (Kd.C_below HR1.out HB.out) | (with_reducible refine Kd.C_alloc ?_ _) | (with_reducible refine Kd.C_drewN ?_ _) | (with_reducible refine Kd.C_drew ?_))); (case side2 => exact HC1.out); rintro e w23 ⟨rfl, hb⟩; refine ⟨_, rfl, ?_⟩; have n0_ := Aside0.mk (blk_below (g := gb199) (o := .cells #[.int .i64 a0_0, .bool false] 45 (0, 0)) (by (with_reducible repeat (first | refine blk_drewN ?_ _ | refine blk_drew ?_ | refine blk_alloc ?_ _)); exact BK199.out) hb); have n1_ := Aside0.mk (below_step (by repeat (first | (with_reducible first | exact HB.out | apply below_alloc | apply pw_below_drewN | apply below_drew1 | refine below_set ?_ GE199.out) | exact HB.out)) hb); clear BK199; clear HB; have BK199 := n0_; have HB := n1_; clear n0_ n1_; (try clear hb); (try clear hb2); (try clear hk); (try clear hi)))
            go_ret
            exact ⟨by first | rfl | (simp [errW_none, errW_some] <;> rfl) | (simp [*, errW_none, errW_some] <;> rfl), by repeat (first | (with_reducible first | exact HB.out | apply below_alloc | apply pw_below_drewN | apply below_drew1 | refine below_set ?_ GE199.out) | exact HB.out)⟩
          · rw [if_neg c19] at H
            exact absurd H (by simp)
        · rw [if_neg c17] at H
          exact absurd H (by simp)
      · rw [if_neg c16] at H
        exact absurd H (by simp)
    · rw [if_neg c14] at H
      exact absurd H (by simp)

/-! ### impl_readNumbers: function 60 -/
def impl_readNumbers.l0 : Nat → List Int → List ByteArray → Int → Int → Option (List Int × Bool)
  | 0, _, _, _, _ => none
  | k + 1, x6, x14, x15, x16 => if x16 < x15 then (if 0 ≤ x16 then (if x16 < (x14.length : Int) then ((impl_ParseInt.f (rdOf ByteArray.empty x14 x16)).bind fun bt211 => (if bt211.2 = true then (if x6.length < 17592186044416 then (impl_readNumbers.l0 k (x6 ++ [bt211.1]) x14 x15 (wrap64 (x16 + 1))) else (none)) else (some (([] : List Int), false)))) else (none)) else (none)) else (some (x6, true))
def impl_readNumbers.f (k : Nat) (a0 : ByteArray) (a1 : ByteArray) : Option (List Int × Bool) := (strings_Split.f a0 a1).bind fun t207 => (impl_readNumbers.l0 k (([] : List Int)) t207 (t207.length : Int) 0)
theorem impl_readNumbers.mono_l : ∀ k, (∀ y0 y1 y2 y3, LeO (impl_readNumbers.l0 k y0 y1 y2 y3) (impl_readNumbers.l0 (k + 1) y0 y1 y2 y3))
  | 0 => fun _ _ _ _ r h => by simp [impl_readNumbers.l0] at h
  | k + 1 => by
    have ih0 := impl_readNumbers.mono_l k
    · intro y0 y1 y2 y3
      unfold impl_readNumbers.l0
      repeat' first
      | (with_reducible exact ih0 _ _ _ _)
      | (with_reducible exact LeO.refl _)
      | (with_reducible exact LeO.none _)
      | (with_reducible refine LeO.ite ?_ ?_)
      | (with_reducible refine LeO.bind ?_ (fun _ => ?_))
      | exact ih0 _ _ _ _
      | exact LeO.none _
      | refine LeO.ite ?_ ?_
      | refine LeO.bind ?_ (fun _ => ?_)
theorem impl_readNumbers.mono : ∀ a0 a1 k, LeO (impl_readNumbers.f k a0 a1) (impl_readNumbers.f (k + 1) a0 a1) := by
  intro a0 a1 k
  have ih0 := impl_readNumbers.mono_l k
  unfold impl_readNumbers.f
  repeat' first
      | (with_reducible exact ih0 _ _ _ _)
      | (with_reducible exact LeO.refl _)
      | (with_reducible exact LeO.none _)
      | (with_reducible refine LeO.ite ?_ ?_)
      | (with_reducible refine LeO.bind ?_ (fun _ => ?_))
      | exact ih0 _ _ _ _
      | exact LeO.none _
      | refine LeO.ite ?_ ?_
      | refine LeO.bind ?_ (fun _ => ?_)
set_option maxHeartbeats 8000000 in
set_option maxRecDepth 100000 in
theorem impl_readNumbers.calls (k : Nat) (a0 : ByteArray) (a1 : ByteArray) (r1 : List Int) (r2 : Bool) (w : World) (h : impl_readNumbers.f k a0 a1 = some (r1, r2)) (hLaid : Go.Proofs.YtjihgbfhgfmknaaDoor.LaidFnExactParseWalk.LaidW w) :
    Calls Tryd.prog 60 #[.string a0, .string a1] w fun e w' => ∃ v0_ : Value, e = .returned (.tuple #[v0_, .bool r2]) ∧ Kd.R (Kd.int .i64) 3 w' w.heap.size (fun _ => True) v0_ r1 ∧ Below w.heap.size w w' := by
  have HLAID := Aside0.mk hLaid
  clear hLaid
  have HB := Aside0.mk (Below.refl w.heap.size w)
  have H : ((strings_Split.f a0 a1).bind fun t207 => (impl_readNumbers.l0 k (([] : List Int)) t207 (t207.length : Int) 0)) = some (r1, r2) := h
  clear h
  obtain ⟨y204, hy204⟩ : ∃ y_ : List Int, y_ = (([] : List Int)) := ⟨_, rfl⟩
  replace H : ((strings_Split.f a0 a1).bind fun t207 => (impl_readNumbers.l0 k y204 t207 (t207.length : Int) 0)) = some (r1, r2) := by first | (rw [hy204]; with_reducible exact H) | (have H2_ := (Option.bind_some _ _).symm.trans H; rw [hy204]; with_reducible exact H2_) | (have H2_ := (Option.bind_some _ _).symm.trans H; with_reducible exact H2_) | with_reducible exact H | (rw [hy204]; exact H) | exact H
  have Ny204 := Aside0.mk hy204
  clear hy204
  replace H := Option.bind_eq_some_iff.mp H
  obtain ⟨t207, A30, H⟩ := H
  replace H : (impl_readNumbers.l0 k y204 t207 (t207.length : Int) 0) = some (r1, r2) := H
  have A3 := Aside0.mk A30
  clear A30
  have H' := Aside0.mk H
  clear H
  go_enter Tryd.func60, Tryd.ntmps60
  go_wp2_with (first | ((with_reducible refine gate_dst (N := 11) rfl ?_); refine Kd.R_lit (Kd.int .i64) _ 3 ?hg (N := 11) ?hd (xs := ([] : List Int)) (inner := []) (ok := fun _ => True) (okp := fun _ => True) ?hr ?hp (fun _ hk => hk) trivial (Below.refl _ _) (Nat.le_refl _) (by simp) ?_; (case hd => rfl); (case hg => rfl); (case hr => first | (go_simp; done) | (go_simp; rfl)); (case hp => exact (Reps.none _ _)); intro v205 w4 ho5 hb hg_ hnew_; clear hg_ hnew_; (first | rw [← Ny204.out] at ho5 | (simp only [Int.reduceToNat] at ho5; rw [← Ny204.out] at ho5)); have n0_ := Aside0.mk (Kd.R_lower ho5 (below_size (by repeat (first | (with_reducible first | exact HB.out | apply below_alloc | apply pw_below_drewN | apply below_drew1) | exact HB.out)))); have n1_ := Aside0.mk (below_step (by repeat (first | (with_reducible first | exact HB.out | apply below_alloc | apply pw_below_drewN | apply below_drew1) | exact HB.out)) hb); clear HB; have HO206 := n0_; have HB := n1_; clear n0_ n1_; clear hb ho5) | ((with_reducible refine gate_callee (f := 39) rfl ?_); refine goesL_ (some 14) rfl rfl Tryd.func39 (by kernel_rfl) rfl #[.string a0, .string a1] rfl (by (try simp only [List.map_toArray, List.map_cons, List.map_nil]); first | done | rfl | (simp only [List.length_drop, List.length_take]; rfl)) ?_; (with_reducible refine (strings_Split.calls a0 a1 t207 _ A3.out ?side99).mono ?_); (case side99 => exact Go.Proofs.YtjihgbfhgfmknaaDoor.LaidFnExactParseWalk.below HLAID.out (by repeat (first | (with_reducible first | exact HB.out | apply below_alloc | apply pw_below_drewN | apply below_drew1) | exact HB.out))); rintro e w6 ⟨v208, rfl, ho0, hb⟩; refine ⟨_, rfl, ?_⟩; have n0_ := Aside0.mk (Kd.R_below (by (with_reducible repeat (first | apply Kd.R_alloc | apply Kd.R_drewN | apply Kd.R_drew)); exact HO206.out) hb); have n1_ := Aside0.mk (Kd.R_lower ho0 (below_size (by repeat (first | (with_reducible first | exact HB.out | apply below_alloc | apply pw_below_drewN | apply below_drew1) | exact HB.out)))); have n2_ := Aside0.mk (below_step (by repeat (first | (with_reducible first | exact HB.out | apply below_alloc | apply pw_below_drewN | apply below_drew1) | exact HB.out)) hb); clear HO206; clear HB; have HO206 := n0_; have HO209 := n1_; have HB := n2_; clear n0_ n1_ n2_; (try clear hb); (try clear hb2); (try clear hk); (try clear hi); (try clear ho0); obtain ⟨Ao7, co7, eo7⟩ := Kd.R_slice HO209.out; subst eo7))
  go_loopg [6, 16] k (fun kq v6 v16 w' => ∃ (x6_1 : List Int) (x16_1 : Int), v16 = .int .i64 x16_1 ∧ Aside0 (impl_readNumbers.l0 kq x6_1 t207 (t207.length : Int) x16_1 = some (r1, r2)) ∧ Aside0 (kq ≤ k) ∧ Aside0 (Kd.R (Kd.int .i64) 3 w' w.heap.size (fun _ => True) v6 x6_1) ∧ Aside0 (Kd.R Kd.string 9 w' w.heap.size (fun _ => True) (.slice Ao7 t207.length co7) t207) ∧ Aside0 (Below w.heap.size w w'))
  case atStart => exact ⟨(y204), (0), (by first | rfl | (simp; done) | (simp only [i64_w, i32_w]; done) | (simp only [i64_w, i32_w] <;> (first | rfl | simp)) | (simp [*]; done)), H', ⟨Nat.le_refl _⟩, ⟨by (with_reducible repeat (first | apply Kd.R_alloc | apply Kd.R_drewN | apply Kd.R_drew)); exact HO206.out⟩, ⟨by (with_reducible repeat (first | apply Kd.R_alloc | apply Kd.R_drewN | apply Kd.R_drew)); exact HO209.out⟩, ⟨by repeat (first | (with_reducible first | exact HB.out | apply below_alloc | apply pw_below_drewN | apply below_drew1) | exact HB.out)⟩⟩
  case round =>
    clear H'
    try clear p2
    try clear c3
    try clear c6
    obtain ⟨x6_1, x16_1, rfl, HA, HK1, HO_6, HO_14, HB⟩ := hrel
    cases gk with
    | zero => exact absurd HA.out (by simp [impl_readNumbers.l0])
    | succ k1 =>
      have H := HA.out
      clear HA
      simp only [impl_readNumbers.l0] at H
      by_cases c8 : x16_1 < (t207.length : Int)
      · rw [if_pos c8] at H
        have c8b0 : decide (x16_1 < (t207.length : Int)) = true := decide_eq_true c8
        clear c8
        by_cases c9 : 0 ≤ x16_1
        · rw [if_pos c9] at H
          have c9b0 : decide (0 ≤ x16_1) = true := decide_eq_true c9
          clear c9
          by_cases c10 : x16_1 < (t207.length : Int)
          · rw [if_pos c10] at H
            have c10b0 : decide (x16_1 < (t207.length : Int)) = true := decide_eq_true c10
            clear c10
            replace H := Option.bind_eq_some_iff.mp H
            obtain ⟨⟨t211, t212⟩, A110, H⟩ := H
            replace H : (if t212 = true then (if x6_1.length < 17592186044416 then (impl_readNumbers.l0 k1 (x6_1 ++ [t211]) t207 (t207.length : Int) (wrap64 (x16_1 + 1))) else (none)) else (some (([] : List Int), false))) = some (r1, r2) := H
            have A11 := Aside0.mk A110
            clear A110
            by_cases c12 : t212 = true
            · subst c12
              have H1 : (if x6_1.length < 17592186044416 then (impl_readNumbers.l0 k1 (x6_1 ++ [t211]) t207 (t207.length : Int) (wrap64 (x16_1 + 1))) else (none)) = some (r1, r2) := by rw [if_pos rfl] at H; exact H
              clear H
              have H := H1
              clear H1
              by_cases c13 : x6_1.length < 17592186044416
              · rw [if_pos c13] at H
                have LMc13 := Aside0.mk c13
                clear c13
                obtain ⟨y213, hy213⟩ : ∃ y_ : List Int, y_ = (x6_1 ++ [t211]) := ⟨_, rfl⟩
                replace H : (impl_readNumbers.l0 k1 y213 t207 (t207.length : Int) (wrap64 (x16_1 + 1))) = some (r1, r2) := by first | (rw [hy213]; with_reducible exact H) | (have H2_ := (Option.bind_some _ _).symm.trans H; rw [hy213]; with_reducible exact H2_) | (have H2_ := (Option.bind_some _ _).symm.trans H; with_reducible exact H2_) | with_reducible exact H | (rw [hy213]; exact H) | exact H
                have Ny213 := Aside0.mk hy213
                clear hy213
                have H' := Aside0.mk H
                clear H
                have p210 : 0 ≤ (x16_1 : Int) := of_decide_eq_true (by first | (with_reducible assumption) | assumption)
                have q210 : x16_1 < (t207.length : Int) := of_decide_eq_true (by first | (with_reducible assumption) | assumption)
                obtain ⟨ad210, e210, hx210_0⟩ := Kd.at_string (Kd.R_reads' HO_14.out).2.2 x16_1 p210 q210
                cases e210
                replace p210 := eq_true p210
                replace q210 := eq_true q210
                go_wp2_with (first | ((with_reducible refine gate_callee (f := 20) rfl ?_); refine goesL_ (some 22) rfl rfl Tryd.func20 (by kernel_rfl) rfl #[.string (rdOf ByteArray.empty t207 x16_1)] rfl (by (try simp only [List.map_toArray, List.map_cons, List.map_nil]); first | done | rfl | (simp only [List.length_drop, List.length_take]; rfl)) ?_; (with_reducible refine (impl_ParseInt.calls (rdOf ByteArray.empty t207 x16_1) t211 true _ A11.out ?side99).mono ?_); (case side99 => exact Go.Proofs.YtjihgbfhgfmknaaDoor.LaidFnExactParseWalk.below HLAID.out (by repeat (first | (with_reducible first | exact HB.out | apply below_alloc | apply pw_below_drewN | apply below_drew1) | exact HB.out))); rintro e w14 ⟨rfl, hb⟩; refine ⟨_, rfl, ?_⟩; have n0_ := Aside0.mk (Kd.R_below (by (with_reducible repeat (first | apply Kd.R_alloc | apply Kd.R_drewN | apply Kd.R_drew)); exact HO_6.out) hb); have n1_ := Aside0.mk (Kd.R_below (by (with_reducible repeat (first | apply Kd.R_alloc | apply Kd.R_drewN | apply Kd.R_drew)); exact HO_14.out) hb); have n2_ := Aside0.mk (below_step (by repeat (first | (with_reducible first | exact HB.out | apply below_alloc | apply pw_below_drewN | apply below_drew1) | exact HB.out)) hb); clear HO_6; clear HO_14; clear HB; have HO_6 := n0_; have HO_14 := n1_; have HB := n2_; clear n0_ n1_ n2_; (try clear hb); (try clear hb2); (try clear hk); (try clear hi)) | ((with_reducible refine gate_builtin (b := .append) (xs := #[.tmp 27, .tmp 29]) rfl ?_); at_builtin; refine Kd.R_append (Kd.int .i64) (w0 := w) w.heap.size rfl (.tmp 27) (.tmp 29) 43 3 (.int .i64 0) 8 rfl Tryd.underlying43 info3 rfl (by decide) (by omega) u6 x6_1 t211 [.int .i64 t211] (fun _ => True) (fun _ => False) rfl rfl ?aP (fun _ hk => hk.elim) ?aF ?aO ?aB ?aS ?aL ?_; (case aP => exact rfl); (case aB => exact (by repeat (first | (with_reducible first | exact HB.out | apply below_alloc | apply pw_below_drewN | apply below_drew1) | exact HB.out))); (case aF => exact (fun _ _ => trivial)); (case aO => exact (by (with_reducible repeat (first | apply Kd.R_alloc | apply Kd.R_drewN | apply Kd.R_drew)); exact HO_6.out)); (case aS => exact (below_size (by repeat (first | (with_reducible first | exact HB.out | apply below_alloc | apply pw_below_drewN | apply below_drew1) | exact HB.out)))); (case aL => have := LMc13.out; omega); intro v214 w15 ho hb hg hat; rw [← Ny213.out] at ho; have n0_ := Aside0.mk (Kd.R_over' (by (with_reducible repeat (first | apply Kd.R_alloc | apply Kd.R_drewN | apply Kd.R_drew)); exact HO_14.out) (Kd.R_typed (by (with_reducible repeat (first | apply Kd.R_alloc | apply Kd.R_drewN | apply Kd.R_drew)); exact HO_6.out)) (by decide) hg); have n1_ := Aside0.mk (hb); have n2_ := Aside0.mk (ho); clear HO_14; clear HB; clear HO_6; have HO_14 := n0_; have HB := n1_; have HO215 := n2_; clear n0_ n1_ n2_; clear ho hb hg hat))
                go_roundg k1
                case measure => have := HK1.out; omega
                case rel => exact ⟨(y213), (wrap64 (x16_1 + 1)), (by first | rfl | (simp; done) | (simp only [i64_w, i32_w]; done) | (simp only [i64_w, i32_w] <;> (first | rfl | simp)) | (simp [*]; done)), H', ⟨by have := HK1.out; omega⟩, ⟨by (with_reducible repeat (first | apply Kd.R_alloc | apply Kd.R_drewN | apply Kd.R_drew)); exact HO215.out⟩, ⟨by (with_reducible repeat (first | apply Kd.R_alloc | apply Kd.R_drewN | apply Kd.R_drew)); exact HO_14.out⟩, ⟨by repeat (first | (with_reducible first | exact HB.out | apply below_alloc | apply pw_below_drewN | apply below_drew1) | exact HB.out)⟩⟩
              · rw [if_neg c13] at H
                exact absurd H (by simp)
            · replace c12 := Bool.eq_false_iff.mpr c12
              subst c12
              have H1 : (some (([] : List Int), false)) = some (r1, r2) := by rw [if_neg (show ¬ (false = true) by decide)] at H; exact H
              clear H
              have H := H1
              clear H1
              simp only [Option.some.injEq, Prod.mk.injEq] at H
              obtain ⟨rfl, rfl⟩ := H
              have p210 : 0 ≤ (x16_1 : Int) := of_decide_eq_true (by first | (with_reducible assumption) | assumption)
              have q210 : x16_1 < (t207.length : Int) := of_decide_eq_true (by first | (with_reducible assumption) | assumption)
              obtain ⟨ad210, e210, hx210_0⟩ := Kd.at_string (Kd.R_reads' HO_14.out).2.2 x16_1 p210 q210
              cases e210
              replace p210 := eq_true p210
              replace q210 := eq_true q210
              go_wp2_with (first | ((with_reducible refine gate_callee (f := 20) rfl ?_); refine goesL_ (some 22) rfl rfl Tryd.func20 (by kernel_rfl) rfl #[.string (rdOf ByteArray.empty t207 x16_1)] rfl (by (try simp only [List.map_toArray, List.map_cons, List.map_nil]); first | done | rfl | (simp only [List.length_drop, List.length_take]; rfl)) ?_; (with_reducible refine (impl_ParseInt.calls (rdOf ByteArray.empty t207 x16_1) t211 false _ A11.out ?side99).mono ?_); (case side99 => exact Go.Proofs.YtjihgbfhgfmknaaDoor.LaidFnExactParseWalk.below HLAID.out (by repeat (first | (with_reducible first | exact HB.out | apply below_alloc | apply pw_below_drewN | apply below_drew1) | exact HB.out))); rintro e w16 ⟨rfl, hb⟩; refine ⟨_, rfl, ?_⟩; have n0_ := Aside0.mk (Kd.R_below (by (with_reducible repeat (first | apply Kd.R_alloc | apply Kd.R_drewN | apply Kd.R_drew)); exact HO_6.out) hb); have n1_ := Aside0.mk (Kd.R_below (by (with_reducible repeat (first | apply Kd.R_alloc | apply Kd.R_drewN | apply Kd.R_drew)); exact HO_14.out) hb); have n2_ := Aside0.mk (below_step (by repeat (first | (with_reducible first | exact HB.out | apply below_alloc | apply pw_below_drewN | apply below_drew1) | exact HB.out)) hb); clear HO_6; clear HO_14; clear HB; have HO_6 := n0_; have HO_14 := n1_; have HB := n2_; clear n0_ n1_ n2_; (try clear hb); (try clear hb2); (try clear hk); (try clear hi)))
              go_ret2
              exact ⟨_, by first | rfl | (simp [errW_none, errW_some] <;> rfl) | (simp [*, errW_none, errW_some] <;> rfl), by first | exact Kd.R_nil _ _ _ _ _ | exact Kd.N_nil _ _ _ _ _ | exact Kd.V_nil _ _ _ _ _ | exact Kd.Q_nil _ _ _ _ _ | exact Kd.S_nil _ _ _ _ _, by repeat (first | (with_reducible first | exact HB.out | apply below_alloc | apply pw_below_drewN | apply below_drew1) | exact HB.out)⟩
          · rw [if_neg c10] at H
            exact absurd H (by simp)
        · rw [if_neg c9] at H
          exact absurd H (by simp)
      · rw [if_neg c8] at H
        have c8b0 : decide (x16_1 < (t207.length : Int)) = false := decide_eq_false c8
        clear c8
        simp only [Option.some.injEq, Prod.mk.injEq] at H
        obtain ⟨rfl, rfl⟩ := H
        go_wp2
        go_ret2
        exact ⟨_, by first | rfl | (simp [errW_none, errW_some] <;> rfl) | (simp [*, errW_none, errW_some] <;> rfl), by (with_reducible repeat (first | apply Kd.R_alloc | apply Kd.R_drewN | apply Kd.R_drew)); exact HO_6.out, by repeat (first | (with_reducible first | exact HB.out | apply below_alloc | apply pw_below_drewN | apply below_drew1) | exact HB.out)⟩

/-! ### impl_ParseWalk: function 33 -/
def impl_ParseWalk.go (k : Nat) (a0 w0 w1 w2 : ByteArray) : Option (Int × Bool × List Int × Bool) :=
  if w0 = ⟨#[108, 105, 110, 101]⟩ ∨ w0 = ⟨#[114, 105, 110, 103]⟩ then
    (impl_ParseInt.f w1).bind fun p => (impl_readNumbers.f k w2 ⟨#[44]⟩).bind fun q =>
      if p.2 = true ∧ q.2 = true then
        (impl_areWalks.f k p.1 (decide (w0 = ⟨#[114, 105, 110, 103]⟩)) [q.1]).bind fun b =>
          if b = true then (impl_walkText.f k p.1 (decide (w0 = ⟨#[114, 105, 110, 103]⟩)) q.1).bind fun t => if t = a0 then some (p.1, decide (w0 = ⟨#[114, 105, 110, 103]⟩), q.1, true) else some (0, false, [], false)
          else some (0, false, [], false)
      else some (0, false, [], false)
  else some (0, false, [], false)
def impl_ParseWalk.f (k : Nat) (a0 : ByteArray) : Option (Int × Bool × List Int × Bool) := (strings_Split.f a0 ⟨#[32]⟩).bind fun ws => match ws with
  | [w0, w1, w2] => impl_ParseWalk.go k a0 w0 w1 w2
  | _ => some (0, false, [], false)
theorem impl_ParseWalk.mono : ∀ a0 k, LeO (impl_ParseWalk.f k a0) (impl_ParseWalk.f (k + 1) a0) := by
  intro a0 k
  unfold impl_ParseWalk.f
  refine LeO.bind (LeO.refl _) fun ws => ?_
  match ws with
  | [] => exact LeO.refl _
  | [_] => exact LeO.refl _
  | [_, _] => exact LeO.refl _
  | _ :: _ :: _ :: _ :: _ => exact LeO.refl _
  | [w0, w1, w2] =>
    show LeO (impl_ParseWalk.go k a0 w0 w1 w2) (impl_ParseWalk.go (k + 1) a0 w0 w1 w2)
    unfold impl_ParseWalk.go
    exact LeO.ite (LeO.bind (LeO.refl _) fun _ => LeO.bind (impl_readNumbers.mono _ _ _) fun _ => LeO.ite (LeO.bind (impl_areWalks.mono _ _ _ _) fun _ => LeO.ite (LeO.bind (impl_walkText.mono _ _ _ _) fun _ => LeO.refl _) (LeO.refl _)) (LeO.refl _)) (LeO.refl _)
set_option maxHeartbeats 3200000 in
set_option maxRecDepth 100000 in
theorem impl_ParseWalk.calls (k : Nat) (a0 : ByteArray) (r1 : Int) (r2 : Bool) (r3 : List Int) (r4 : Bool) (w : World) (h : impl_ParseWalk.f k a0 = some (r1, r2, r3, r4)) (hLaid : Go.Proofs.YtjihgbfhgfmknaaDoor.LaidFnExactParseWalk.LaidW w) :
    Calls Tryd.prog 33 #[.string a0] w fun e w' => ∃ v0_ : Value, e = .returned (.tuple #[.agg #[.int .i64 r1, .bool r2], v0_, .bool r4]) ∧ Kd.R (Kd.int .i64) 3 w' w.heap.size (fun _ => True) v0_ r3 ∧ Below w.heap.size w w' := by
  have hu45 := Tryd.underlying45
  obtain ⟨ws, hws, h⟩ := Option.bind_eq_some_iff.mp h
  have HS := Aside0.mk hws
  have HLAID := Aside0.mk hLaid
  have HB := Aside0.mk (below_alloc (Below.refl w.heap.size w) (Obj.cells #[Value.int IntKind.i64 0, Value.bool false] 45))
  have HG := Aside0.mk (blk_new w (Obj.cells #[Value.int IntKind.i64 0, Value.bool false] 45))
  have HRS := Aside0.mk h
  clear hws hLaid h
  go_enter Tryd.func33, Tryd.ntmps33
  go_wp2_with fail
  refine (strings_Split.calls a0 ⟨#[32]⟩ ws _ HS.out (Go.Proofs.YtjihgbfhgfmknaaDoor.LaidFnExactParseWalk.below HLAID.out HB.out)).mono ?_
  rintro e w1 ⟨v0, rfl, ho, hb⟩
  have HB1 := Aside0.mk (below_step HB.out hb)
  have HG1 := Aside0.mk (blk_below HG.out hb)
  clear hb HB HG HS
  by_cases hl : ws.length = 3
  · obtain ⟨x0, x1, x2, rfl⟩ : ∃ x0 x1 x2, ws = [x0, x1, x2] := by
      match ws, hl with
      | [x0, x1, x2], _ => exact ⟨x0, x1, x2, rfl⟩
    have h := HRS.out
    clear HRS hl
    simp only [impl_ParseWalk.go] at h
    obtain ⟨g, cap, rfl, hg0, hg1, -⟩ := Kd.R_form ho (by simp)
    have hx0 : w1.cell? ⟨g, 0, none⟩ = some (.string x0) := (Kd.R_cell ByteArray.empty ho 0 (by decide) (by simp)).1
    have hx1 : w1.cell? ⟨g, 1, none⟩ = some (.string x1) := (Kd.R_cell ByteArray.empty ho 1 (by decide) (by simp)).1
    have hx2 : w1.cell? ⟨g, 2, none⟩ = some (.string x2) := (Kd.R_cell ByteArray.empty ho 2 (by decide) (by simp)).1
    have HL := Aside0.mk hg1
    clear ho hg0 hg1
    simp only [List.length_cons, List.length_nil, Nat.zero_add, Nat.reduceAdd]
    by_cases c0 : x0 = ⟨#[108, 105, 110, 101]⟩
    · rw [if_pos (Or.inl c0)] at h
      subst c0
      obtain ⟨⟨p1, p2⟩, hp, h⟩ := Option.bind_eq_some_iff.mp (show (impl_ParseInt.f x1).bind (fun p => (impl_readNumbers.f k x2 ⟨#[44]⟩).bind fun q =>
            if p.2 = true ∧ q.2 = true then
              (impl_areWalks.f k p.1 false [q.1]).bind fun b =>
                if b = true then (impl_walkText.f k p.1 false q.1).bind fun t => if t = a0 then some (p.1, false, q.1, true) else some (0, false, [], false)
                else some (0, false, [], false)
            else some (0, false, [], false)) = some (r1, r2, r3, r4) from h)
      obtain ⟨⟨q1, q2⟩, hq, h⟩ := Option.bind_eq_some_iff.mp h
      simp only at h
      have HP := Aside0.mk hp
      have HQ := Aside0.mk hq
      have HRS := Aside0.mk h
      clear hp hq h
      go_wp2_with fail
      refine (impl_ParseInt.calls x1 p1 p2 _ HP.out (Go.Proofs.YtjihgbfhgfmknaaDoor.LaidFnExactParseWalk.below HLAID.out HB1.out)).mono ?_
      rintro e w2 ⟨rfl, hb⟩
      have HB2 := Aside0.mk (below_step HB1.out hb)
      have HG2 := Aside0.mk (blk_below HG1.out hb)
      have hy0 := (hb.cell (p := ⟨g, 0, none⟩) HL.out).trans hx0
      have hy2 := (hb.cell (p := ⟨g, 2, none⟩) HL.out).trans hx2
      have HL2 := Aside0.mk (Nat.lt_of_lt_of_le HL.out hb.size)
      clear hb HB1 HG1 hx0 hx1 hx2 HL HP
      go_wp2_with fail
      refine (impl_readNumbers.calls k x2 ⟨#[44]⟩ q1 q2 _ HQ.out (Go.Proofs.YtjihgbfhgfmknaaDoor.LaidFnExactParseWalk.below HLAID.out HB2.out)).mono ?_
      rintro e w3 ⟨v3, rfl, ho, hb⟩
      have HB3 := Aside0.mk (below_step HB2.out hb)
      have HG3 := Aside0.mk (blk_below HG2.out hb)
      have hz0 := (hb.cell (p := ⟨g, 0, none⟩) HL2.out).trans hy0
      have hlt2 : w.heap.size < w2.heap.size := blk_lt HG2.out
      have HO := Aside0.mk (Kd.R_mono (ok' := fun k_ => w.heap.size < k_) (Kd.R_bound ho) (fun k_ hk => Nat.lt_of_lt_of_le hlt2 hk.2.1))
      have HW2 := Aside0.mk (Nat.le_of_lt hlt2)
      clear hlt2
      clear ho hb HB2 HG2 hy0 hy2 HL2 HQ
      have HB4 := Aside0.mk (below_alloc HB3.out (Obj.cells #[Value.int IntKind.i64 p1, Value.bool false] 45))
      have HG4 := Aside0.mk (blk_alloc HG3.out (Obj.cells #[Value.int IntKind.i64 p1, Value.bool false] 45))
      have HR4 := Aside0.mk (blk_new w3 (Obj.cells #[Value.int IntKind.i64 p1, Value.bool false] 45))
      cases p2 with
      | false =>
        obtain ⟨rfl, rfl, rfl, rfl⟩ : 0 = r1 ∧ false = r2 ∧ [] = r3 ∧ false = r4 := by simpa using HRS.out
        have z0 := (blk_cell HG4.out 0).trans (show _ = some (Value.int IntKind.i64 0) from rfl)
        have z1 := (blk_cell HG4.out 1).trans (show _ = some (Value.bool false) from rfl)
        have f0 := blk_frozen HG4.out 0
        have f1 := blk_frozen HG4.out 1
        go_wp2
        refine bodyPost_ret (results_ctt rfl _ _ w.heap.size 45 #[.int .i64 0, .bool false] (0, 0) _ rfl (by refine blk_put (cs := #[.int .i64 0, .bool false]) ?_ 1 _ rfl; refine blk_put (cs := #[.int .i64 0, .bool false]) ?_ 0 _ rfl; exact HG4.out) hu45 rfl (by kernel_rfl)) rfl ?_
        exact ⟨_, rfl, Kd.R_nil _ _ _ _ _, below_set (below_set (HB4.out) (Nat.le_refl _)) (Nat.le_refl _)⟩
      | true =>
        cases q2 with
        | false =>
          obtain ⟨rfl, rfl, rfl, rfl⟩ : 0 = r1 ∧ false = r2 ∧ [] = r3 ∧ false = r4 := by simpa using HRS.out
          have z0 := (blk_cell HG4.out 0).trans (show _ = some (Value.int IntKind.i64 0) from rfl)
          have z1 := (blk_cell HG4.out 1).trans (show _ = some (Value.bool false) from rfl)
          have f0 := blk_frozen HG4.out 0
          have f1 := blk_frozen HG4.out 1
          go_wp2
          refine bodyPost_ret (results_ctt rfl _ _ w.heap.size 45 #[.int .i64 0, .bool false] (0, 0) _ rfl (by refine blk_put (cs := #[.int .i64 0, .bool false]) ?_ 1 _ rfl; refine blk_put (cs := #[.int .i64 0, .bool false]) ?_ 0 _ rfl; exact HG4.out) hu45 rfl (by kernel_rfl)) rfl ?_
          exact ⟨_, rfl, Kd.R_nil _ _ _ _ _, below_set (below_set (HB4.out) (Nat.le_refl _)) (Nat.le_refl _)⟩
        | true =>
          obtain ⟨b, hw, h⟩ := Option.bind_eq_some_iff.mp (show (impl_areWalks.f k p1 false [q1]).bind (fun b => if b = true then (impl_walkText.f k p1 false q1).bind fun t => if t = a0 then some (p1, false, q1, true) else some (0, false, [], false) else some (0, false, [], false)) = some (r1, r2, r3, r4) by simpa using HRS.out)
          have HWK := Aside0.mk hw
          have HR5 := Aside0.mk h
          clear HRS hw h
          obtain ⟨A3, c3, rfl⟩ := Kd.R_slice HO.out
          obtain ⟨-, hcl, hcc⟩ := Kd.R_reads' HO.out
          have HCL := Aside0.mk hcl
          have HC := Aside0.mk hcc
          clear hcl hcc
          go_wp2_with fail
          refine (impl_areWalks.calls k p1 false (some ⟨w3.heap.size + 1, 0, none⟩) 1 [q1] b _ ?hr (Nat.le_refl _) HWK.out).mono ?_
          case hr =>
            refine ⟨rfl, by simp, fun _ => ⟨_, rfl, fun j x hj => ?_⟩⟩
            match j, hj with
            | 0, hj =>
              obtain rfl : q1 = x := by simpa using hj
              refine ⟨[.slice A3 q1.length c3], rfl, ⟨A3, c3, rfl, HCL.out, Kd.C_below HC.out (below_alloc (below_alloc (Below.refl _ _) _) _)⟩, fun i u hi => ?_⟩
              match i, hi with
              | 0, hi =>
                obtain rfl : Value.slice A3 q1.length c3 = u := by simpa using hi
                have hb5 := blk_new (w3.alloc (Obj.cells #[Value.int IntKind.i64 p1, Value.bool false] 45)) (Obj.cells #[Value.slice A3 q1.length c3] 43)
                rw [show (w3.alloc (Obj.cells #[Value.int IntKind.i64 p1, Value.bool false] 45)).heap.size = w3.heap.size + 1 from Array.size_push ..] at hb5
                exact (blk_cell hb5 0).trans rfl
          rintro e w6 ⟨rfl, hb⟩
          have hb' := hb
          have HB6 := Aside0.mk (below_step (below_alloc HB4.out (Obj.cells #[Value.slice A3 q1.length c3] 43)) hb)
          have HG6 := Aside0.mk (blk_below (blk_alloc HG4.out (Obj.cells #[Value.slice A3 q1.length c3] 43)) hb)
          have HR6 := Aside0.mk (blk_below (blk_alloc HR4.out (Obj.cells #[Value.slice A3 q1.length c3] 43)) hb)
          have HC6 := Aside0.mk (Kd.C_below (Kd.C_below HC.out (below_alloc (below_alloc (Below.refl _ _) (Obj.cells #[Value.int IntKind.i64 p1, Value.bool false] 45)) (Obj.cells #[Value.slice A3 q1.length c3] 43))) hb)
          have HO6 := Aside0.mk (Kd.R_below (Kd.R_below HO.out (below_alloc (below_alloc (Below.refl _ _) (Obj.cells #[Value.int IntKind.i64 p1, Value.bool false] 45)) (Obj.cells #[Value.slice A3 q1.length c3] 43))) hb)
          clear hb hb' HB3 HG3 HB4 HG4 HR4 HC HO HWK hz0
          generalize w3.heap.size = g4 at *
          cases b with
          | false =>
            obtain ⟨rfl, rfl, rfl, rfl⟩ : 0 = r1 ∧ false = r2 ∧ [] = r3 ∧ false = r4 := by simpa using HR5.out
            have z0 := (blk_cell HG6.out 0).trans (show _ = some (Value.int IntKind.i64 0) from rfl)
            have z1 := (blk_cell HG6.out 1).trans (show _ = some (Value.bool false) from rfl)
            have f0 := blk_frozen HG6.out 0
            have f1 := blk_frozen HG6.out 1
            go_wp2
            refine bodyPost_ret (results_ctt rfl _ _ w.heap.size 45 #[.int .i64 0, .bool false] (0, 0) _ rfl (by refine blk_put (cs := #[.int .i64 0, .bool false]) ?_ 1 _ rfl; refine blk_put (cs := #[.int .i64 0, .bool false]) ?_ 0 _ rfl; exact HG6.out) hu45 rfl (by kernel_rfl)) rfl ?_
            exact ⟨_, rfl, Kd.R_nil _ _ _ _ _, below_set (below_set (HB6.out) (Nat.le_refl _)) (Nat.le_refl _)⟩
          | true =>
            obtain ⟨t, ht, h⟩ := Option.bind_eq_some_iff.mp (show (impl_walkText.f k p1 false q1).bind (fun t => if t = a0 then some (p1, false, q1, true) else some (0, false, [], false)) = some (r1, r2, r3, r4) by simpa using HR5.out)
            have HT := Aside0.mk ht
            have HE := Aside0.mk h
            clear HR5 ht h
            have y0 := (blk_cell HR6.out 0).trans (show _ = some (Value.int IntKind.i64 p1) from rfl)
            have y1 := (blk_cell HR6.out 1).trans (show _ = some (Value.bool false) from rfl)
            go_wp2_with fail
            refine (impl_walkText.calls k p1 false A3 c3 q1 t _ HC6.out HCL.out HT.out (Go.Proofs.YtjihgbfhgfmknaaDoor.LaidFnExactParseWalk.below HLAID.out HB6.out)).mono ?_
            rintro e w7 ⟨rfl, hb⟩
            have HB7 := Aside0.mk (below_step HB6.out hb)
            have HG7 := Aside0.mk (blk_below HG6.out hb)
            have HR7 := Aside0.mk (blk_below HR6.out hb)
            have HO7 := Aside0.mk (Kd.R_below HO6.out hb)
            clear hb HB6 HG6 HR6 HC6 HO6 HT y0 y1
            by_cases q : t = a0
            · obtain ⟨rfl, rfl, rfl, rfl⟩ : p1 = r1 ∧ false = r2 ∧ q1 = r3 ∧ true = r4 := by have hh := HE.out; rw [if_pos q] at hh; simpa using hh
              have e0 : (t.toList == a0.toList) = true := by rw [q]; exact beq_self_eq_true (α := List UInt8) _
              have e1 : (t.toList != a0.toList) = false := by rw [q]; exact (by simp)
              have y0 := (blk_cell HR7.out 0).trans (show _ = some (Value.int IntKind.i64 p1) from rfl)
              have y1 := (blk_cell HR7.out 1).trans (show _ = some (Value.bool false) from rfl)
              clear q
              have z0 := (blk_cell HG7.out 0).trans (show _ = some (Value.int IntKind.i64 0) from rfl)
              have z1 := (blk_cell HG7.out 1).trans (show _ = some (Value.bool false) from rfl)
              have f0 := blk_frozen HG7.out 0
              have f1 := blk_frozen HG7.out 1
              go_wp2
              refine bodyPost_ret (results_ctt rfl _ _ w.heap.size 45 #[.int .i64 p1, .bool false] (0, 0) _ rfl (by refine blk_put (cs := #[.int .i64 p1, .bool false]) ?_ 1 _ rfl; refine blk_put (cs := #[.int .i64 0, .bool false]) ?_ 0 _ rfl; exact HG7.out) hu45 rfl (by kernel_rfl)) rfl ?_
              exact ⟨_, rfl, Kd.R_mono (Kd.R_lower (Kd.R_far (Kd.R_far HO7.out (fun k_ hk => Nat.ne_of_gt hk) _) (fun k_ hk => Nat.ne_of_gt hk) _) HW2.out) (fun _ _ => trivial), below_set (below_set HB7.out (Nat.le_refl _)) (Nat.le_refl _)⟩
            · obtain ⟨rfl, rfl, rfl, rfl⟩ : 0 = r1 ∧ false = r2 ∧ [] = r3 ∧ false = r4 := by have hh := HE.out; rw [if_neg q] at hh; simpa using hh
              have q2 : ¬ t.toList = a0.toList := fun e => q (by rw [ByteArray.toList_eq, ByteArray.toList_eq] at e; exact Go.WideShapes.bytes_inj e)
              have e0 := beq_eq_false_iff_ne.mpr q2
              have e1 := bne_iff_ne.mpr q2
              have y0 := (blk_cell HR7.out 0).trans (show _ = some (Value.int IntKind.i64 p1) from rfl)
              have y1 := (blk_cell HR7.out 1).trans (show _ = some (Value.bool false) from rfl)
              clear q q2
              have z0 := (blk_cell HG7.out 0).trans (show _ = some (Value.int IntKind.i64 0) from rfl)
              have z1 := (blk_cell HG7.out 1).trans (show _ = some (Value.bool false) from rfl)
              have f0 := blk_frozen HG7.out 0
              have f1 := blk_frozen HG7.out 1
              go_wp2
              refine bodyPost_ret (results_ctt rfl _ _ w.heap.size 45 #[.int .i64 0, .bool false] (0, 0) _ rfl (by refine blk_put (cs := #[.int .i64 0, .bool false]) ?_ 1 _ rfl; refine blk_put (cs := #[.int .i64 0, .bool false]) ?_ 0 _ rfl; exact HG7.out) hu45 rfl (by kernel_rfl)) rfl ?_
              exact ⟨_, rfl, Kd.R_nil _ _ _ _ _, below_set (below_set (HB7.out) (Nat.le_refl _)) (Nat.le_refl _)⟩
    · by_cases c1 : x0 = ⟨#[114, 105, 110, 103]⟩
      · rw [if_pos (Or.inr c1)] at h
        subst c1
        obtain ⟨⟨p1, p2⟩, hp, h⟩ := Option.bind_eq_some_iff.mp (show (impl_ParseInt.f x1).bind (fun p => (impl_readNumbers.f k x2 ⟨#[44]⟩).bind fun q =>
              if p.2 = true ∧ q.2 = true then
                (impl_areWalks.f k p.1 true [q.1]).bind fun b =>
                  if b = true then (impl_walkText.f k p.1 true q.1).bind fun t => if t = a0 then some (p.1, true, q.1, true) else some (0, false, [], false)
                  else some (0, false, [], false)
              else some (0, false, [], false)) = some (r1, r2, r3, r4) from h)
        obtain ⟨⟨q1, q2⟩, hq, h⟩ := Option.bind_eq_some_iff.mp h
        simp only at h
        have HP := Aside0.mk hp
        have HQ := Aside0.mk hq
        have HRS := Aside0.mk h
        clear hp hq h
        go_wp2_with fail
        refine (impl_ParseInt.calls x1 p1 p2 _ HP.out (Go.Proofs.YtjihgbfhgfmknaaDoor.LaidFnExactParseWalk.below HLAID.out HB1.out)).mono ?_
        rintro e w2 ⟨rfl, hb⟩
        have HB2 := Aside0.mk (below_step HB1.out hb)
        have HG2 := Aside0.mk (blk_below HG1.out hb)
        have hy0 := (hb.cell (p := ⟨g, 0, none⟩) HL.out).trans hx0
        have hy2 := (hb.cell (p := ⟨g, 2, none⟩) HL.out).trans hx2
        have HL2 := Aside0.mk (Nat.lt_of_lt_of_le HL.out hb.size)
        clear hb HB1 HG1 hx0 hx1 hx2 HL HP
        go_wp2_with fail
        refine (impl_readNumbers.calls k x2 ⟨#[44]⟩ q1 q2 _ HQ.out (Go.Proofs.YtjihgbfhgfmknaaDoor.LaidFnExactParseWalk.below HLAID.out HB2.out)).mono ?_
        rintro e w3 ⟨v3, rfl, ho, hb⟩
        have HB3 := Aside0.mk (below_step HB2.out hb)
        have HG3 := Aside0.mk (blk_below HG2.out hb)
        have hz0 := (hb.cell (p := ⟨g, 0, none⟩) HL2.out).trans hy0
        have hlt2 : w.heap.size < w2.heap.size := blk_lt HG2.out
        have HO := Aside0.mk (Kd.R_mono (ok' := fun k_ => w.heap.size < k_) (Kd.R_bound ho) (fun k_ hk => Nat.lt_of_lt_of_le hlt2 hk.2.1))
        have HW2 := Aside0.mk (Nat.le_of_lt hlt2)
        clear hlt2
        clear ho hb HB2 HG2 hy0 hy2 HL2 HQ
        have HB4 := Aside0.mk (below_alloc HB3.out (Obj.cells #[Value.int IntKind.i64 p1, Value.bool true] 45))
        have HG4 := Aside0.mk (blk_alloc HG3.out (Obj.cells #[Value.int IntKind.i64 p1, Value.bool true] 45))
        have HR4 := Aside0.mk (blk_new w3 (Obj.cells #[Value.int IntKind.i64 p1, Value.bool true] 45))
        cases p2 with
        | false =>
          obtain ⟨rfl, rfl, rfl, rfl⟩ : 0 = r1 ∧ false = r2 ∧ [] = r3 ∧ false = r4 := by simpa using HRS.out
          have z0 := (blk_cell HG4.out 0).trans (show _ = some (Value.int IntKind.i64 0) from rfl)
          have z1 := (blk_cell HG4.out 1).trans (show _ = some (Value.bool false) from rfl)
          have f0 := blk_frozen HG4.out 0
          have f1 := blk_frozen HG4.out 1
          go_wp2
          refine bodyPost_ret (results_ctt rfl _ _ w.heap.size 45 #[.int .i64 0, .bool false] (0, 0) _ rfl (by refine blk_put (cs := #[.int .i64 0, .bool false]) ?_ 1 _ rfl; refine blk_put (cs := #[.int .i64 0, .bool false]) ?_ 0 _ rfl; exact HG4.out) hu45 rfl (by kernel_rfl)) rfl ?_
          exact ⟨_, rfl, Kd.R_nil _ _ _ _ _, below_set (below_set (HB4.out) (Nat.le_refl _)) (Nat.le_refl _)⟩
        | true =>
          cases q2 with
          | false =>
            obtain ⟨rfl, rfl, rfl, rfl⟩ : 0 = r1 ∧ false = r2 ∧ [] = r3 ∧ false = r4 := by simpa using HRS.out
            have z0 := (blk_cell HG4.out 0).trans (show _ = some (Value.int IntKind.i64 0) from rfl)
            have z1 := (blk_cell HG4.out 1).trans (show _ = some (Value.bool false) from rfl)
            have f0 := blk_frozen HG4.out 0
            have f1 := blk_frozen HG4.out 1
            go_wp2
            refine bodyPost_ret (results_ctt rfl _ _ w.heap.size 45 #[.int .i64 0, .bool false] (0, 0) _ rfl (by refine blk_put (cs := #[.int .i64 0, .bool false]) ?_ 1 _ rfl; refine blk_put (cs := #[.int .i64 0, .bool false]) ?_ 0 _ rfl; exact HG4.out) hu45 rfl (by kernel_rfl)) rfl ?_
            exact ⟨_, rfl, Kd.R_nil _ _ _ _ _, below_set (below_set (HB4.out) (Nat.le_refl _)) (Nat.le_refl _)⟩
          | true =>
            obtain ⟨b, hw, h⟩ := Option.bind_eq_some_iff.mp (show (impl_areWalks.f k p1 true [q1]).bind (fun b => if b = true then (impl_walkText.f k p1 true q1).bind fun t => if t = a0 then some (p1, true, q1, true) else some (0, false, [], false) else some (0, false, [], false)) = some (r1, r2, r3, r4) by simpa using HRS.out)
            have HWK := Aside0.mk hw
            have HR5 := Aside0.mk h
            clear HRS hw h
            obtain ⟨A3, c3, rfl⟩ := Kd.R_slice HO.out
            obtain ⟨-, hcl, hcc⟩ := Kd.R_reads' HO.out
            have HCL := Aside0.mk hcl
            have HC := Aside0.mk hcc
            clear hcl hcc
            go_wp2_with fail
            refine (impl_areWalks.calls k p1 true (some ⟨w3.heap.size + 1, 0, none⟩) 1 [q1] b _ ?hr (Nat.le_refl _) HWK.out).mono ?_
            case hr =>
              refine ⟨rfl, by simp, fun _ => ⟨_, rfl, fun j x hj => ?_⟩⟩
              match j, hj with
              | 0, hj =>
                obtain rfl : q1 = x := by simpa using hj
                refine ⟨[.slice A3 q1.length c3], rfl, ⟨A3, c3, rfl, HCL.out, Kd.C_below HC.out (below_alloc (below_alloc (Below.refl _ _) _) _)⟩, fun i u hi => ?_⟩
                match i, hi with
                | 0, hi =>
                  obtain rfl : Value.slice A3 q1.length c3 = u := by simpa using hi
                  have hb5 := blk_new (w3.alloc (Obj.cells #[Value.int IntKind.i64 p1, Value.bool true] 45)) (Obj.cells #[Value.slice A3 q1.length c3] 43)
                  rw [show (w3.alloc (Obj.cells #[Value.int IntKind.i64 p1, Value.bool true] 45)).heap.size = w3.heap.size + 1 from Array.size_push ..] at hb5
                  exact (blk_cell hb5 0).trans rfl
            rintro e w6 ⟨rfl, hb⟩
            have hb' := hb
            have HB6 := Aside0.mk (below_step (below_alloc HB4.out (Obj.cells #[Value.slice A3 q1.length c3] 43)) hb)
            have HG6 := Aside0.mk (blk_below (blk_alloc HG4.out (Obj.cells #[Value.slice A3 q1.length c3] 43)) hb)
            have HR6 := Aside0.mk (blk_below (blk_alloc HR4.out (Obj.cells #[Value.slice A3 q1.length c3] 43)) hb)
            have HC6 := Aside0.mk (Kd.C_below (Kd.C_below HC.out (below_alloc (below_alloc (Below.refl _ _) (Obj.cells #[Value.int IntKind.i64 p1, Value.bool true] 45)) (Obj.cells #[Value.slice A3 q1.length c3] 43))) hb)
            have HO6 := Aside0.mk (Kd.R_below (Kd.R_below HO.out (below_alloc (below_alloc (Below.refl _ _) (Obj.cells #[Value.int IntKind.i64 p1, Value.bool true] 45)) (Obj.cells #[Value.slice A3 q1.length c3] 43))) hb)
            clear hb hb' HB3 HG3 HB4 HG4 HR4 HC HO HWK hz0
            generalize w3.heap.size = g4 at *
            cases b with
            | false =>
              obtain ⟨rfl, rfl, rfl, rfl⟩ : 0 = r1 ∧ false = r2 ∧ [] = r3 ∧ false = r4 := by simpa using HR5.out
              have z0 := (blk_cell HG6.out 0).trans (show _ = some (Value.int IntKind.i64 0) from rfl)
              have z1 := (blk_cell HG6.out 1).trans (show _ = some (Value.bool false) from rfl)
              have f0 := blk_frozen HG6.out 0
              have f1 := blk_frozen HG6.out 1
              go_wp2
              refine bodyPost_ret (results_ctt rfl _ _ w.heap.size 45 #[.int .i64 0, .bool false] (0, 0) _ rfl (by refine blk_put (cs := #[.int .i64 0, .bool false]) ?_ 1 _ rfl; refine blk_put (cs := #[.int .i64 0, .bool false]) ?_ 0 _ rfl; exact HG6.out) hu45 rfl (by kernel_rfl)) rfl ?_
              exact ⟨_, rfl, Kd.R_nil _ _ _ _ _, below_set (below_set (HB6.out) (Nat.le_refl _)) (Nat.le_refl _)⟩
            | true =>
              obtain ⟨t, ht, h⟩ := Option.bind_eq_some_iff.mp (show (impl_walkText.f k p1 true q1).bind (fun t => if t = a0 then some (p1, true, q1, true) else some (0, false, [], false)) = some (r1, r2, r3, r4) by simpa using HR5.out)
              have HT := Aside0.mk ht
              have HE := Aside0.mk h
              clear HR5 ht h
              have y0 := (blk_cell HR6.out 0).trans (show _ = some (Value.int IntKind.i64 p1) from rfl)
              have y1 := (blk_cell HR6.out 1).trans (show _ = some (Value.bool true) from rfl)
              go_wp2_with fail
              refine (impl_walkText.calls k p1 true A3 c3 q1 t _ HC6.out HCL.out HT.out (Go.Proofs.YtjihgbfhgfmknaaDoor.LaidFnExactParseWalk.below HLAID.out HB6.out)).mono ?_
              rintro e w7 ⟨rfl, hb⟩
              have HB7 := Aside0.mk (below_step HB6.out hb)
              have HG7 := Aside0.mk (blk_below HG6.out hb)
              have HR7 := Aside0.mk (blk_below HR6.out hb)
              have HO7 := Aside0.mk (Kd.R_below HO6.out hb)
              clear hb HB6 HG6 HR6 HC6 HO6 HT y0 y1
              by_cases q : t = a0
              · obtain ⟨rfl, rfl, rfl, rfl⟩ : p1 = r1 ∧ true = r2 ∧ q1 = r3 ∧ true = r4 := by have hh := HE.out; rw [if_pos q] at hh; simpa using hh
                have e0 : (t.toList == a0.toList) = true := by rw [q]; exact beq_self_eq_true (α := List UInt8) _
                have e1 : (t.toList != a0.toList) = false := by rw [q]; exact (by simp)
                have y0 := (blk_cell HR7.out 0).trans (show _ = some (Value.int IntKind.i64 p1) from rfl)
                have y1 := (blk_cell HR7.out 1).trans (show _ = some (Value.bool true) from rfl)
                clear q
                have z0 := (blk_cell HG7.out 0).trans (show _ = some (Value.int IntKind.i64 0) from rfl)
                have z1 := (blk_cell HG7.out 1).trans (show _ = some (Value.bool false) from rfl)
                have f0 := blk_frozen HG7.out 0
                have f1 := blk_frozen HG7.out 1
                go_wp2
                refine bodyPost_ret (results_ctt rfl _ _ w.heap.size 45 #[.int .i64 p1, .bool true] (0, 0) _ rfl (by refine blk_put (cs := #[.int .i64 p1, .bool false]) ?_ 1 _ rfl; refine blk_put (cs := #[.int .i64 0, .bool false]) ?_ 0 _ rfl; exact HG7.out) hu45 rfl (by kernel_rfl)) rfl ?_
                exact ⟨_, rfl, Kd.R_mono (Kd.R_lower (Kd.R_far (Kd.R_far HO7.out (fun k_ hk => Nat.ne_of_gt hk) _) (fun k_ hk => Nat.ne_of_gt hk) _) HW2.out) (fun _ _ => trivial), below_set (below_set HB7.out (Nat.le_refl _)) (Nat.le_refl _)⟩
              · obtain ⟨rfl, rfl, rfl, rfl⟩ : 0 = r1 ∧ false = r2 ∧ [] = r3 ∧ false = r4 := by have hh := HE.out; rw [if_neg q] at hh; simpa using hh
                have q2 : ¬ t.toList = a0.toList := fun e => q (by rw [ByteArray.toList_eq, ByteArray.toList_eq] at e; exact Go.WideShapes.bytes_inj e)
                have e0 := beq_eq_false_iff_ne.mpr q2
                have e1 := bne_iff_ne.mpr q2
                have y0 := (blk_cell HR7.out 0).trans (show _ = some (Value.int IntKind.i64 p1) from rfl)
                have y1 := (blk_cell HR7.out 1).trans (show _ = some (Value.bool true) from rfl)
                clear q q2
                have z0 := (blk_cell HG7.out 0).trans (show _ = some (Value.int IntKind.i64 0) from rfl)
                have z1 := (blk_cell HG7.out 1).trans (show _ = some (Value.bool false) from rfl)
                have f0 := blk_frozen HG7.out 0
                have f1 := blk_frozen HG7.out 1
                go_wp2
                refine bodyPost_ret (results_ctt rfl _ _ w.heap.size 45 #[.int .i64 0, .bool false] (0, 0) _ rfl (by refine blk_put (cs := #[.int .i64 0, .bool false]) ?_ 1 _ rfl; refine blk_put (cs := #[.int .i64 0, .bool false]) ?_ 0 _ rfl; exact HG7.out) hu45 rfl (by kernel_rfl)) rfl ?_
                exact ⟨_, rfl, Kd.R_nil _ _ _ _ _, below_set (below_set (HB7.out) (Nat.le_refl _)) (Nat.le_refl _)⟩
      · rw [if_neg (fun e => Or.elim e c0 c1)] at h
        obtain ⟨rfl, rfl, rfl, rfl⟩ : 0 = r1 ∧ false = r2 ∧ [] = r3 ∧ false = r4 := by simpa using h
        have d0 : ¬ x0.toList = ([108, 105, 110, 101] : List UInt8) := fun e => c0 (by rw [ByteArray.toList_eq] at e; exact Go.WideShapes.bytes_inj e)
        have d1 : ¬ x0.toList = ([114, 105, 110, 103] : List UInt8) := fun e => c1 (by rw [ByteArray.toList_eq] at e; exact Go.WideShapes.bytes_inj e)
        have e0 := beq_eq_false_iff_ne.mpr d0
        have e1 := bne_iff_ne.mpr d0
        have e2 := beq_eq_false_iff_ne.mpr d1
        have e3 := bne_iff_ne.mpr d1
        clear c0 c1 d0 d1 h
        have z0 := (blk_cell HG1.out 0).trans (show _ = some (Value.int IntKind.i64 0) from rfl)
        have z1 := (blk_cell HG1.out 1).trans (show _ = some (Value.bool false) from rfl)
        have f0 := blk_frozen HG1.out 0
        have f1 := blk_frozen HG1.out 1
        go_wp2
        refine bodyPost_ret (results_ctt rfl _ _ w.heap.size 45 #[.int .i64 0, .bool false] (0, 0) _ rfl (by refine blk_put (cs := #[.int .i64 0, .bool false]) ?_ 1 _ rfl; refine blk_put (cs := #[.int .i64 0, .bool false]) ?_ 0 _ rfl; exact HG1.out) hu45 rfl (by kernel_rfl)) rfl ?_
        exact ⟨_, rfl, Kd.R_nil _ _ _ _ _, below_set (below_set (HB1.out) (Nat.le_refl _)) (Nat.le_refl _)⟩
  · have h := HRS.out
    obtain ⟨rfl, rfl, rfl, rfl⟩ : 0 = r1 ∧ false = r2 ∧ [] = r3 ∧ false = r4 := by
      match ws, hl, h with
      | [], _, h => simpa using h
      | [_], _, h => simpa using h
      | [_, _], _, h => simpa using h
      | _ :: _ :: _ :: _ :: _, _, h => simpa using h
    obtain ⟨A, c, rfl⟩ := Kd.R_slice ho
    have e0 : ((ws.length : Int) == 3) = false := beq_eq_false_iff_ne.mpr (by omega)
    have e1 : ((ws.length : Int) != 3) = true := bne_iff_ne.mpr (by omega)
    have e2 : (ws.length == 3) = false := beq_eq_false_iff_ne.mpr hl
    have e3 : (ws.length != 3) = true := bne_iff_ne.mpr hl
    clear hl h HRS ho
    have z0 := (blk_cell HG1.out 0).trans (show _ = some (Value.int IntKind.i64 0) from rfl)
    have z1 := (blk_cell HG1.out 1).trans (show _ = some (Value.bool false) from rfl)
    have f0 := blk_frozen HG1.out 0
    have f1 := blk_frozen HG1.out 1
    go_wp2
    refine bodyPost_ret (results_ctt rfl _ _ w.heap.size 45 #[.int .i64 0, .bool false] (0, 0) _ rfl (by refine blk_put (cs := #[.int .i64 0, .bool false]) ?_ 1 _ rfl; refine blk_put (cs := #[.int .i64 0, .bool false]) ?_ 0 _ rfl; exact HG1.out) hu45 rfl (by kernel_rfl)) rfl ?_
    exact ⟨_, rfl, Kd.R_nil _ _ _ _ _, below_set (below_set (HB1.out) (Nat.le_refl _)) (Nat.le_refl _)⟩


/-! ### laws_eqRoad: function 34 -/
def laws_eqRoad.f (a0_0 : Int) (a0_1 : Bool) (a1_0 : Int) (a1_1 : Bool) : Option (Bool) := if a0_0 = a1_0 then (if (a0_1 != a1_1) = true then (some false) else (some true)) else (some false)
set_option maxHeartbeats 8000000 in
set_option maxRecDepth 100000 in
theorem laws_eqRoad.calls (a0_0 : Int) (a0_1 : Bool) (a1_0 : Int) (a1_1 : Bool) (r : Bool) (w : World) (h : laws_eqRoad.f a0_0 a0_1 a1_0 a1_1 = some r) :
    Calls Tryd.prog 34 #[.agg #[.int .i64 a0_0, .bool a0_1], .agg #[.int .i64 a1_0, .bool a1_1]] w fun e w' => e = .returned (.bool r) ∧ Below w.heap.size w w' := by
  have hu45 := Tryd.underlying45
  have HB := Aside0.mk (Below.refl w.heap.size w)
  have H : (if a0_0 = a1_0 then (if (a0_1 != a1_1) = true then (some false) else (some true)) else (some false)) = some r := h
  clear h
  by_cases c3 : a0_0 = a1_0
  · rw [if_pos c3] at H
    have c3b0 : (a0_0 == a1_0) = true := beq_iff_eq.mpr c3
    have c3b1 : (a0_0 != a1_0) = false := bne_eq_false_iff_eq.mpr c3
    clear c3
    by_cases c4 : (a0_1 != a1_1) = true
    · rw [if_pos c4] at H
      have c4b0 : (a0_1 != a1_1) = true := c4
      (try (have c4b1 : decide (a0_1 = a1_1) = false := by simpa using c4))
      (try (have c4b2 : (a0_1 == a1_1) = false := by simpa using c4))
      (try (have c4b3 : ¬ (a0_1 = a1_1) := by simpa using c4))
      clear c4
      obtain rfl := Option.some.inj H
      go_enter Tryd.func34, Tryd.ntmps34
      go_wp2_with (first | ((with_reducible refine gate_dst (N := 2) rfl ?_); refine box_event ?hg (N := 2) ?hd (cs := #[.int .i64 a0_0, .bool a0_1]) (t := 45) ?hr ?_; (case hd => rfl); (case hg => rfl); (case hr => first | (go_simp; done) | (go_simp; rfl)); intro gb216 hg w5 hbox hb; have n0_ := Aside0.mk (below_step (by repeat (first | (with_reducible first | exact HB.out | apply below_alloc | apply pw_below_drewN | apply below_drew1) | exact HB.out)) hb); have n1_ := Aside0.mk (hbox); have n2_ := Aside0.mk ((by rw [hg]; exact (below_size (by repeat (first | (with_reducible first | exact HB.out | apply below_alloc | apply pw_below_drewN | apply below_drew1) | exact HB.out))) : w.heap.size ≤ gb216)); have n3_ := Aside0.mk ((by rw [hg]; exact (below_size (by repeat (first | (with_reducible first | exact HB.out | apply below_alloc | apply pw_below_drewN | apply below_drew1) | exact HB.out))) : w.heap.size ≤ gb216)); clear HB; have HB := n0_; have BK216 := n1_; have GW216 := n2_; have GE216 := n3_; clear n0_ n1_ n2_ n3_; clear hb hbox hg) | ((with_reducible refine gate_dst (N := 3) rfl ?_); refine box_event ?hg (N := 3) ?hd (cs := #[.int .i64 a1_0, .bool a1_1]) (t := 45) ?hr ?_; (case hd => rfl); (case hg => rfl); (case hr => first | (go_simp; done) | (go_simp; rfl)); intro gb217 hg w6 hbox hb; have n0_ := Aside0.mk (blk_below (g := gb216) (o := .cells #[.int .i64 a0_0, .bool a0_1] 45 (0, 0)) (by (with_reducible repeat (first | refine blk_drewN ?_ _ | refine blk_drew ?_ | refine blk_alloc ?_ _)); exact BK216.out) hb); have n1_ := Aside0.mk (below_step (by repeat (first | (with_reducible first | exact HB.out | apply below_alloc | apply pw_below_drewN | apply below_drew1 | refine below_set ?_ GE216.out) | exact HB.out)) hb); have n2_ := Aside0.mk (hbox); have n3_ := Aside0.mk ((by rw [hg]; exact (below_size (by repeat (first | (with_reducible first | exact HB.out | apply below_alloc | apply pw_below_drewN | apply below_drew1 | refine below_set ?_ GE216.out) | exact HB.out))) : w.heap.size ≤ gb217)); have n4_ := Aside0.mk ((by rw [hg]; exact (below_size (by repeat (first | (with_reducible first | exact HB.out | apply below_alloc | apply pw_below_drewN | apply below_drew1 | refine below_set ?_ GE216.out) | exact HB.out))) : w.heap.size ≤ gb217)); have n5_ := Aside0.mk ((by rw [hg]; exact Nat.ne_of_lt (blk_lt (g := gb216) (o := .cells #[.int .i64 a0_0, .bool a0_1] 45 (0, 0)) (by (with_reducible repeat (first | refine blk_drewN ?_ _ | refine blk_drew ?_ | refine blk_alloc ?_ _)); exact BK216.out)) : gb216 ≠ gb217)); have n6_ := Aside0.mk ((by rw [hg]; exact Nat.ne_of_gt (blk_lt (g := gb216) (o := .cells #[.int .i64 a0_0, .bool a0_1] 45 (0, 0)) (by (with_reducible repeat (first | refine blk_drewN ?_ _ | refine blk_drew ?_ | refine blk_alloc ?_ _)); exact BK216.out)) : gb217 ≠ gb216)); clear BK216; clear HB; have BK216 := n0_; have HB := n1_; have BK217 := n2_; have GW217 := n3_; have GE217 := n4_; have NB216_217 := n5_; have NB217_216 := n6_; clear n0_ n1_ n2_ n3_ n4_ n5_ n6_; clear hb hbox hg; have hnb7 := NB216_217.out; have hnc7 := NB217_216.out; have hcz8_0 : w6.cell? ⟨gb216, 0, none⟩ = some (.int .i64 a0_0) := (blk_cell BK216.out 0).trans rfl; have hcz8_1 : w6.cell? ⟨gb216, 1, none⟩ = some (.bool a0_1) := (blk_cell BK216.out 1).trans rfl; have hfz8_0 := blk_frozen BK216.out 0; have hfz8_1 := blk_frozen BK216.out 1; have hcz9_0 : w6.cell? ⟨gb217, 0, none⟩ = some (.int .i64 a1_0) := (blk_cell BK217.out 0).trans rfl; have hcz9_1 : w6.cell? ⟨gb217, 1, none⟩ = some (.bool a1_1) := (blk_cell BK217.out 1).trans rfl; have hfz9_0 := blk_frozen BK217.out 0; have hfz9_1 := blk_frozen BK217.out 1))
      go_ret
      exact ⟨by first | rfl | (simp [errW_none, errW_some] <;> rfl) | (simp [*, errW_none, errW_some] <;> rfl), by repeat (first | (with_reducible first | exact HB.out | apply below_alloc | apply pw_below_drewN | apply below_drew1 | refine below_set ?_ GE216.out | refine below_set ?_ GE217.out) | exact HB.out)⟩
    · rw [if_neg c4] at H
      have c4b0 : (a0_1 != a1_1) = false := by simpa using c4
      (try (have c4b1 : decide (a0_1 = a1_1) = true := by simpa using c4))
      (try (have c4b2 : (a0_1 == a1_1) = true := by simpa using c4))
      clear c4
      obtain rfl := Option.some.inj H
      go_enter Tryd.func34, Tryd.ntmps34
      go_wp2_with (first | ((with_reducible refine gate_dst (N := 2) rfl ?_); refine box_event ?hg (N := 2) ?hd (cs := #[.int .i64 a0_0, .bool a0_1]) (t := 45) ?hr ?_; (case hd => rfl); (case hg => rfl); (case hr => first | (go_simp; done) | (go_simp; rfl)); intro gb216 hg w10 hbox hb; have n0_ := Aside0.mk (below_step (by repeat (first | (with_reducible first | exact HB.out | apply below_alloc | apply pw_below_drewN | apply below_drew1) | exact HB.out)) hb); have n1_ := Aside0.mk (hbox); have n2_ := Aside0.mk ((by rw [hg]; exact (below_size (by repeat (first | (with_reducible first | exact HB.out | apply below_alloc | apply pw_below_drewN | apply below_drew1) | exact HB.out))) : w.heap.size ≤ gb216)); have n3_ := Aside0.mk ((by rw [hg]; exact (below_size (by repeat (first | (with_reducible first | exact HB.out | apply below_alloc | apply pw_below_drewN | apply below_drew1) | exact HB.out))) : w.heap.size ≤ gb216)); clear HB; have HB := n0_; have BK216 := n1_; have GW216 := n2_; have GE216 := n3_; clear n0_ n1_ n2_ n3_; clear hb hbox hg) | ((with_reducible refine gate_dst (N := 3) rfl ?_); refine box_event ?hg (N := 3) ?hd (cs := #[.int .i64 a1_0, .bool a1_1]) (t := 45) ?hr ?_; (case hd => rfl); (case hg => rfl); (case hr => first | (go_simp; done) | (go_simp; rfl)); intro gb217 hg w11 hbox hb; have n0_ := Aside0.mk (blk_below (g := gb216) (o := .cells #[.int .i64 a0_0, .bool a0_1] 45 (0, 0)) (by (with_reducible repeat (first | refine blk_drewN ?_ _ | refine blk_drew ?_ | refine blk_alloc ?_ _)); exact BK216.out) hb); have n1_ := Aside0.mk (below_step (by repeat (first | (with_reducible first | exact HB.out | apply below_alloc | apply pw_below_drewN | apply below_drew1 | refine below_set ?_ GE216.out) | exact HB.out)) hb); have n2_ := Aside0.mk (hbox); have n3_ := Aside0.mk ((by rw [hg]; exact (below_size (by repeat (first | (with_reducible first | exact HB.out | apply below_alloc | apply pw_below_drewN | apply below_drew1 | refine below_set ?_ GE216.out) | exact HB.out))) : w.heap.size ≤ gb217)); have n4_ := Aside0.mk ((by rw [hg]; exact (below_size (by repeat (first | (with_reducible first | exact HB.out | apply below_alloc | apply pw_below_drewN | apply below_drew1 | refine below_set ?_ GE216.out) | exact HB.out))) : w.heap.size ≤ gb217)); have n5_ := Aside0.mk ((by rw [hg]; exact Nat.ne_of_lt (blk_lt (g := gb216) (o := .cells #[.int .i64 a0_0, .bool a0_1] 45 (0, 0)) (by (with_reducible repeat (first | refine blk_drewN ?_ _ | refine blk_drew ?_ | refine blk_alloc ?_ _)); exact BK216.out)) : gb216 ≠ gb217)); have n6_ := Aside0.mk ((by rw [hg]; exact Nat.ne_of_gt (blk_lt (g := gb216) (o := .cells #[.int .i64 a0_0, .bool a0_1] 45 (0, 0)) (by (with_reducible repeat (first | refine blk_drewN ?_ _ | refine blk_drew ?_ | refine blk_alloc ?_ _)); exact BK216.out)) : gb217 ≠ gb216)); clear BK216; clear HB; have BK216 := n0_; have HB := n1_; have BK217 := n2_; have GW217 := n3_; have GE217 := n4_; have NB216_217 := n5_; have NB217_216 := n6_; clear n0_ n1_ n2_ n3_ n4_ n5_ n6_; clear hb hbox hg; have hnb12 := NB216_217.out; have hnc12 := NB217_216.out; have hcz13_0 : w11.cell? ⟨gb216, 0, none⟩ = some (.int .i64 a0_0) := (blk_cell BK216.out 0).trans rfl; have hcz13_1 : w11.cell? ⟨gb216, 1, none⟩ = some (.bool a0_1) := (blk_cell BK216.out 1).trans rfl; have hfz13_0 := blk_frozen BK216.out 0; have hfz13_1 := blk_frozen BK216.out 1; have hcz14_0 : w11.cell? ⟨gb217, 0, none⟩ = some (.int .i64 a1_0) := (blk_cell BK217.out 0).trans rfl; have hcz14_1 : w11.cell? ⟨gb217, 1, none⟩ = some (.bool a1_1) := (blk_cell BK217.out 1).trans rfl; have hfz14_0 := blk_frozen BK217.out 0; have hfz14_1 := blk_frozen BK217.out 1))
      go_ret
      exact ⟨by first | rfl | (simp [errW_none, errW_some] <;> rfl) | (simp [*, errW_none, errW_some] <;> rfl), by repeat (first | (with_reducible first | exact HB.out | apply below_alloc | apply pw_below_drewN | apply below_drew1 | refine below_set ?_ GE216.out | refine below_set ?_ GE217.out) | exact HB.out)⟩
  · rw [if_neg c3] at H
    have c3b0 : (a0_0 == a1_0) = false := beq_eq_false_iff_ne.mpr c3
    have c3b1 : (a0_0 != a1_0) = true := bne_iff_ne.mpr c3
    obtain rfl := Option.some.inj H
    go_enter Tryd.func34, Tryd.ntmps34
    go_wp2_with (first | ((with_reducible refine gate_dst (N := 2) rfl ?_); refine box_event ?hg (N := 2) ?hd (cs := #[.int .i64 a0_0, .bool a0_1]) (t := 45) ?hr ?_; (case hd => rfl); (case hg => rfl); (case hr => first | (go_simp; done) | (go_simp; rfl)); intro gb216 hg w15 hbox hb; have n0_ := Aside0.mk (below_step (by repeat (first | (with_reducible first | exact HB.out | apply below_alloc | apply pw_below_drewN | apply below_drew1) | exact HB.out)) hb); have n1_ := Aside0.mk (hbox); have n2_ := Aside0.mk ((by rw [hg]; exact (below_size (by repeat (first | (with_reducible first | exact HB.out | apply below_alloc | apply pw_below_drewN | apply below_drew1) | exact HB.out))) : w.heap.size ≤ gb216)); have n3_ := Aside0.mk ((by rw [hg]; exact (below_size (by repeat (first | (with_reducible first | exact HB.out | apply below_alloc | apply pw_below_drewN | apply below_drew1) | exact HB.out))) : w.heap.size ≤ gb216)); clear HB; have HB := n0_; have BK216 := n1_; have GW216 := n2_; have GE216 := n3_; clear n0_ n1_ n2_ n3_; clear hb hbox hg) | ((with_reducible refine gate_dst (N := 3) rfl ?_); refine box_event ?hg (N := 3) ?hd (cs := #[.int .i64 a1_0, .bool a1_1]) (t := 45) ?hr ?_; (case hd => rfl); (case hg => rfl); (case hr => first | (go_simp; done) | (go_simp; rfl)); intro gb217 hg w16 hbox hb; have n0_ := Aside0.mk (blk_below (g := gb216) (o := .cells #[.int .i64 a0_0, .bool a0_1] 45 (0, 0)) (by (with_reducible repeat (first | refine blk_drewN ?_ _ | refine blk_drew ?_ | refine blk_alloc ?_ _)); exact BK216.out) hb); have n1_ := Aside0.mk (below_step (by repeat (first | (with_reducible first | exact HB.out | apply below_alloc | apply pw_below_drewN | apply below_drew1 | refine below_set ?_ GE216.out) | exact HB.out)) hb); have n2_ := Aside0.mk (hbox); have n3_ := Aside0.mk ((by rw [hg]; exact (below_size (by repeat (first | (with_reducible first | exact HB.out | apply below_alloc | apply pw_below_drewN | apply below_drew1 | refine below_set ?_ GE216.out) | exact HB.out))) : w.heap.size ≤ gb217)); have n4_ := Aside0.mk ((by rw [hg]; exact (below_size (by repeat (first | (with_reducible first | exact HB.out | apply below_alloc | apply pw_below_drewN | apply below_drew1 | refine below_set ?_ GE216.out) | exact HB.out))) : w.heap.size ≤ gb217)); have n5_ := Aside0.mk ((by rw [hg]; exact Nat.ne_of_lt (blk_lt (g := gb216) (o := .cells #[.int .i64 a0_0, .bool a0_1] 45 (0, 0)) (by (with_reducible repeat (first | refine blk_drewN ?_ _ | refine blk_drew ?_ | refine blk_alloc ?_ _)); exact BK216.out)) : gb216 ≠ gb217)); have n6_ := Aside0.mk ((by rw [hg]; exact Nat.ne_of_gt (blk_lt (g := gb216) (o := .cells #[.int .i64 a0_0, .bool a0_1] 45 (0, 0)) (by (with_reducible repeat (first | refine blk_drewN ?_ _ | refine blk_drew ?_ | refine blk_alloc ?_ _)); exact BK216.out)) : gb217 ≠ gb216)); clear BK216; clear HB; have BK216 := n0_; have HB := n1_; have BK217 := n2_; have GW217 := n3_; have GE217 := n4_; have NB216_217 := n5_; have NB217_216 := n6_; clear n0_ n1_ n2_ n3_ n4_ n5_ n6_; clear hb hbox hg; have hnb17 := NB216_217.out; have hnc17 := NB217_216.out; have hcz18_0 : w16.cell? ⟨gb216, 0, none⟩ = some (.int .i64 a0_0) := (blk_cell BK216.out 0).trans rfl; have hcz18_1 : w16.cell? ⟨gb216, 1, none⟩ = some (.bool a0_1) := (blk_cell BK216.out 1).trans rfl; have hfz18_0 := blk_frozen BK216.out 0; have hfz18_1 := blk_frozen BK216.out 1; have hcz19_0 : w16.cell? ⟨gb217, 0, none⟩ = some (.int .i64 a1_0) := (blk_cell BK217.out 0).trans rfl; have hcz19_1 : w16.cell? ⟨gb217, 1, none⟩ = some (.bool a1_1) := (blk_cell BK217.out 1).trans rfl; have hfz19_0 := blk_frozen BK217.out 0; have hfz19_1 := blk_frozen BK217.out 1))
    go_ret
    exact ⟨by first | rfl | (simp [errW_none, errW_some] <;> rfl) | (simp [*, errW_none, errW_some] <;> rfl), by repeat (first | (with_reducible first | exact HB.out | apply below_alloc | apply pw_below_drewN | apply below_drew1 | refine below_set ?_ GE216.out | refine below_set ?_ GE217.out) | exact HB.out)⟩

/-! ### laws_markIntS: function 35 -/
def laws_markIntS.l0 : Nat → List Int → Int → Int → Option (Int × List Int)
  | 0, _, _, _ => none
  | k + 1, x0, x1, x5 => if x5 < (x0.length : Int) then (if 0 ≤ x5 then (laws_markIntS.l0 k (x0.set (x5 : Int).toNat x1) (wrap64 (x1 + 1)) (wrap64 (x5 + 1))) else (none)) else (some (x1, x0))
def laws_markIntS.f (k : Nat) (l0 : List Int) (a1 : Int) : Option (Int × List Int) := laws_markIntS.l0 k l0 a1 0
theorem laws_markIntS.mono_l : ∀ k, (∀ y0 y1 y2, LeO (laws_markIntS.l0 k y0 y1 y2) (laws_markIntS.l0 (k + 1) y0 y1 y2))
  | 0 => fun _ _ _ r h => by simp [laws_markIntS.l0] at h
  | k + 1 => by
    have ih0 := laws_markIntS.mono_l k
    · intro y0 y1 y2
      unfold laws_markIntS.l0
      repeat' first
      | (with_reducible exact ih0 _ _ _)
      | (with_reducible exact LeO.refl _)
      | (with_reducible exact LeO.none _)
      | (with_reducible refine LeO.ite ?_ ?_)
      | (with_reducible refine LeO.bind ?_ (fun _ => ?_))
      | exact ih0 _ _ _
      | exact LeO.none _
      | refine LeO.ite ?_ ?_
      | refine LeO.bind ?_ (fun _ => ?_)
theorem laws_markIntS.mono : ∀ a0 a1 k, LeO (laws_markIntS.f k a0 a1) (laws_markIntS.f (k + 1) a0 a1) := by
  intro a0 a1 k
  have ih0 := laws_markIntS.mono_l k
  unfold laws_markIntS.f
  repeat' first
      | (with_reducible exact ih0 _ _ _)
      | (with_reducible exact LeO.refl _)
      | (with_reducible exact LeO.none _)
      | (with_reducible refine LeO.ite ?_ ?_)
      | (with_reducible refine LeO.bind ?_ (fun _ => ?_))
      | exact ih0 _ _ _
      | exact LeO.none _
      | refine LeO.ite ?_ ?_
      | refine LeO.bind ?_ (fun _ => ?_)
set_option maxHeartbeats 8000000 in
set_option maxRecDepth 100000 in
theorem laws_markIntS.calls (k : Nat) (P0_ : Nat → Prop) (u9000_ : Value) (l0 : List Int) (a1 : Int) (r1 : Int) (r2 : List Int) (w0 w : World) (hB : Below w0.heap.size w0 w) (ho0 : Kd.R (Kd.int .i64) 3 w w0.heap.size P0_ u9000_ l0) (h : laws_markIntS.f k l0 a1 = some (r1, r2)) :
    Calls Tryd.prog 35 #[u9000_, .int .i64 a1] w fun e w' => e = .returned (.int .i64 r1) ∧ Kd.R (Kd.int .i64) 3 w' w0.heap.size (fun k_ => (P0_ k_ ∨ w.heap.size ≤ k_)) u9000_ r2 ∧ Below w0.heap.size w0 w' ∧ Kept w w' (fun k_ => P0_ k_) := by
  have HO0 := Aside0.mk (show Kd.R (Kd.int .i64) 3 w w0.heap.size (fun k_ => (P0_ k_ ∨ w.heap.size ≤ k_)) u9000_ l0 from Kd.R_mono ho0 (fun k_ hk => (.inl hk)))
  have HK := Aside0.mk (Kept.refl w (fun k_ => P0_ k_))
  have HW0 := Aside0.mk hB.size
  have HB := Aside0.mk hB
  clear hB
  have H : (laws_markIntS.l0 k l0 a1 0) = some (r1, r2) := h
  clear h
  have H' := Aside0.mk H
  clear H
  go_enter Tryd.func35, Tryd.ntmps35
  go_wp2
  go_loopg [1, 5] k (fun kq v1 v5 w' => ∃ (x0_1 : List Int) (x1_1 : Int) (x5_1 : Int), v1 = .int .i64 x1_1 ∧ v5 = .int .i64 x5_1 ∧ Aside0 (laws_markIntS.l0 kq x0_1 x1_1 x5_1 = some (r1, r2)) ∧ Aside0 (kq ≤ k) ∧ Aside0 (Kd.R (Kd.int .i64) 3 w' w0.heap.size (fun k_ => (P0_ k_ ∨ w.heap.size ≤ k_)) u9000_ x0_1) ∧ Aside0 (Kept w w' (fun k_ => P0_ k_)) ∧ Aside0 (Below w0.heap.size w0 w'))
  case atStart => exact ⟨(l0), (a1), (0), (by first | rfl | (simp; done) | (simp only [i64_w, i32_w]; done) | (simp only [i64_w, i32_w] <;> (first | rfl | simp)) | (simp [*]; done)), (by first | rfl | (simp; done) | (simp only [i64_w, i32_w]; done) | (simp only [i64_w, i32_w] <;> (first | rfl | simp)) | (simp [*]; done)), H', ⟨Nat.le_refl _⟩, ⟨by (with_reducible repeat (first | apply Kd.R_alloc | apply Kd.R_drewN | apply Kd.R_drew)); exact HO0.out⟩, ⟨by repeat (first | (with_reducible first | exact HK.out | apply Kept.alloc | apply Kept.drewN | apply Kept.drew) | exact HK.out)⟩, ⟨by repeat (first | (with_reducible first | exact HB.out | apply below_alloc | apply pw_below_drewN | apply below_drew1) | exact HB.out)⟩⟩
  case round =>
    clear H'
    try clear p2
    obtain ⟨x0_1, x1_1, x5_1, rfl, rfl, HA, HK1, HO_0, HK, HB⟩ := hrel
    cases gk with
    | zero => exact absurd HA.out (by simp [laws_markIntS.l0])
    | succ k1 =>
      have H := HA.out
      clear HA
      simp only [laws_markIntS.l0] at H
      by_cases c3 : x5_1 < (x0_1.length : Int)
      · rw [if_pos c3] at H
        have c3b0 : decide (x5_1 < (x0_1.length : Int)) = true := decide_eq_true c3
        clear c3
        by_cases c4 : 0 ≤ x5_1
        · rw [if_pos c4] at H
          have c4b0 : decide (0 ≤ x5_1) = true := decide_eq_true c4
          clear c4
          obtain ⟨y218, hy218⟩ : ∃ y_ : List Int, y_ = (x0_1.set (x5_1 : Int).toNat x1_1) := ⟨_, rfl⟩
          replace H : (laws_markIntS.l0 k1 y218 (wrap64 (x1_1 + 1)) (wrap64 (x5_1 + 1))) = some (r1, r2) := by first | (rw [hy218]; with_reducible exact H) | (have H2_ := (Option.bind_some _ _).symm.trans H; rw [hy218]; with_reducible exact H2_) | (have H2_ := (Option.bind_some _ _).symm.trans H; with_reducible exact H2_) | with_reducible exact H | (rw [hy218]; exact H) | exact H
          have Ny218 := Aside0.mk hy218
          clear hy218
          have H' := Aside0.mk H
          clear H
          obtain ⟨Ao6, co6, eo6⟩ := Kd.R_slice HO_0.out
          subst eo6
          have p5 : 0 ≤ (x5_1 : Int) := of_decide_eq_true (by first | (with_reducible assumption) | assumption)
          have q5 : (x5_1 : Int) < ((x0_1.length : Int) : Int) := of_decide_eq_true (by first | (with_reducible assumption) | assumption)
          obtain ⟨go5, co5, eo5, gb5, gl5, cl5, HG5⟩ := Kd.R_form HO_0.out (by omega)
          (first | cases eo5 | (injection eo5 with ea_ en_ ec_; (first | subst ea_ | (injection ea_ with ea_; subst ea_)); subst ec_; clear en_))
          have GB5 := Aside0.mk gb5
          have GG5 := Aside0.mk HG5
          clear gb5 gl5 HG5
          have HMgo5 := Aside0.mk (show (P0_ go5 ∨ w.heap.size ≤ go5) from (HO_0.out.1 _ rfl))
          obtain ⟨hx5_0, hf5_0⟩ := Kd.R_celln 0 HO_0.out (x5_1 : Int) p5 q5
          replace p5 := eq_true p5
          replace q5 := eq_true q5
          have HP7 := Kd.R_putg HO_0.out (x5_1 : Int) x1_1
          go_wp2_with (first | ((with_reducible refine gate_store (t := 3) (p := 15) rfl ?_); refine store_event (t := 3) (p := 15) (v := ?vo_w8) (w1 := (wr.setCell ⟨go5, (x5_1 : Int).toNat, none⟩ (.int .i64 x1_1))) ?hg ?ho ?hn ?hr ?_; (case ho => rfl); (case hg => rfl); (case hn => rfl); (case hr => first | (go_simp; done) | (go_simp; rfl)); intro w8 hw; have hg : wr.grownBy w8 (some go5) := (by rw [hw]; exact HP7.2); have hp_ : Kd.R (Kd.int .i64) 3 w8 w0.heap.size (fun k_ => (P0_ k_ ∨ w.heap.size ≤ k_)) (.slice (some ⟨go5, 0, none⟩) x0_1.length co6) y218 := (by rw [hw, Ny218.out]; exact HP7.1); clear HP7; have n0_ := Aside0.mk (hp_); have n1_ := Aside0.mk ((by rw [hw]; exact below_set (HB.out) GB5.out : Below w0.heap.size w0 w8)); have n2_ := Aside0.mk (Kept.of_grown (S := (fun k_ => P0_ k_)) hg (by repeat (first | (with_reducible first | exact HK.out | apply Kept.alloc | apply Kept.drewN | apply Kept.drew) | exact HK.out)) (fun k_ e_ => (HO_0.out.1 k_ e_))); clear HO_0; clear HB; clear HK; have HO_0 := n0_; have HB := n1_; have HK := n2_; clear n0_ n1_ n2_; clear hg hw hp_))
          go_roundg k1
          case measure => have := HK1.out; omega
          case rel => exact ⟨(y218), (wrap64 (x1_1 + 1)), (wrap64 (x5_1 + 1)), (by first | rfl | (simp; done) | (simp only [i64_w, i32_w]; done) | (simp only [i64_w, i32_w] <;> (first | rfl | simp)) | (simp [*]; done)), (by first | rfl | (simp; done) | (simp only [i64_w, i32_w]; done) | (simp only [i64_w, i32_w] <;> (first | rfl | simp)) | (simp [*]; done)), H', ⟨by have := HK1.out; omega⟩, ⟨by (with_reducible repeat (first | apply Kd.R_alloc | apply Kd.R_drewN | apply Kd.R_drew)); exact HO_0.out⟩, ⟨by repeat (first | (with_reducible first | exact HK.out | apply Kept.alloc | apply Kept.drewN | apply Kept.drew) | exact HK.out)⟩, ⟨by repeat (first | (with_reducible first | exact HB.out | apply below_alloc | apply pw_below_drewN | apply below_drew1) | exact HB.out)⟩⟩
        · rw [if_neg c4] at H
          exact absurd H (by simp)
      · rw [if_neg c3] at H
        have c3b0 : decide (x5_1 < (x0_1.length : Int)) = false := decide_eq_false c3
        clear c3
        simp only [Option.some.injEq, Prod.mk.injEq] at H
        obtain ⟨rfl, rfl⟩ := H
        obtain ⟨Ao9, co9, eo9⟩ := Kd.R_slice HO_0.out
        subst eo9
        go_wp2
        go_ret
        exact ⟨by first | rfl | (simp [errW_none, errW_some] <;> rfl) | (simp [*, errW_none, errW_some] <;> rfl), by (with_reducible repeat (first | apply Kd.R_alloc | apply Kd.R_drewN | apply Kd.R_drew)); exact HO_0.out, by repeat (first | (with_reducible first | exact HB.out | apply below_alloc | apply pw_below_drewN | apply below_drew1) | exact HB.out), by repeat (first | (with_reducible first | exact HK.out | apply Kept.alloc | apply Kept.drewN | apply Kept.drew) | exact HK.out)⟩

end Go.Proofs.YtjihgbfhgfmknaaDoor.PFnExactParseWalk
