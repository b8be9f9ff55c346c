-- Written for this claim by this session's turned copy of the printer.
import Derived.Test.YtjihgbfhgfmknaaDoorPFnStringsx0
import Derived.Test.YtjihgbfhgfmknaaDoorPFnStringsx1
import Derived.Test.YtjihgbfhgfmknaaDoorPFnStringsx2
import Derived.Test.YtjihgbfhgfmknaaDoorPFnStringsx3
namespace Go.Proofs.YtjihgbfhgfmknaaDoor.PFnStrings
open Go.RowKit Go.Proofs.YtjihgbfhgfmknaaDoorW.PrintWords Go.Proofs.YtjihgbfhgfmknaaDoorW.PrintLast Go.Proofs.YtjihgbfhgfmknaaDoorW.PrintMore
attribute [local go_sem] max2_int min2_int max_two min_two max_three min_three max_four min_four   -- for this text's walks alone
set_option linter.unusedVariables false
set_option linter.unusedSimpArgs false

/-! ### laws_FnStrings: function 4 -/
/-- The text with one byte changed. -/
def laws_FnStrings.spoil (y : ByteArray) (p : Nat) (q : Int) : ByteArray := strOfNums ((bytesOf y).set p (Go.bits .xor .u8 (bt y p) ((wrap64 (1 + Int.tmod q 255)) % 256)))
def laws_FnStrings.tail (k : Nat) (l0 : List Int) (x y : ByteArray) : Option Bool :=
  (impl_VerifyChecksum.f k y).bind fun z => if z = (x, true) then
    (laws_vAt.f l0 9).bind fun a => (laws_vAt.f l0 10).bind fun b => if 0 ≤ a ∧ 0 < y.size ∧ y.size ≤ 4000 then
      (impl_VerifyChecksum.f k (laws_FnStrings.spoil y (a.toNat % y.size) b)).bind fun u => if u.2 = false then some true else none
    else none else none
/-- What the law comes to where it holds; 'none' elsewhere. -/
def laws_FnStrings.f (k : Nat) (l0 : List Int) : Option Bool := (laws_vBig.f l0).bind fun big => if big = true then some true else
  (spec_DrawFormatInt.f l0).bind fun n => (impl_FormatInt.f n).bind fun s => (spec_FormatInt.f k n).bind fun s2 => (spec_DrawParseInt.f k l0).bind fun t => (impl_ParseInt.f t).bind fun m => (spec_ParseInt.f k t).bind fun m2 => (spec_DrawAppendChecksum.f l0).bind fun x => (impl_AppendChecksum.f k x).bind fun y => (spec_AppendChecksum.f k x).bind fun y2 => (impl_ParseInt.f s.1).bind fun v =>
    if s2 = s ∧ m2 = m ∧ y2 = y ∧ (s.2 = true → v = (n, true)) then (if y.2 = true then laws_FnStrings.tail k l0 x y.1 else if y.1 = ⟨#[]⟩ then some true else none) else none
theorem laws_FnStrings.mono : ∀ a0 k, LeO (laws_FnStrings.f k a0) (laws_FnStrings.f (k + 1) a0) := fun _ _ =>
  LeO.bind (LeO.refl _) fun _ => LeO.ite (LeO.refl _) (LeO.bind (LeO.refl _) fun _ => LeO.bind (LeO.refl _) fun _ => LeO.bind (spec_FormatInt.mono _ _) fun _ => LeO.bind (spec_DrawParseInt.mono _ _) fun _ => LeO.bind (LeO.refl _) fun _ => LeO.bind (spec_ParseInt.mono _ _) fun _ => LeO.bind (LeO.refl _) fun _ => LeO.bind (impl_AppendChecksum.mono _ _) fun _ => LeO.bind (spec_AppendChecksum.mono _ _) fun _ => LeO.bind (LeO.refl _) fun _ =>
    LeO.ite (LeO.ite (LeO.bind (impl_VerifyChecksum.mono _ _) fun _ => LeO.ite (LeO.bind (LeO.refl _) fun _ => LeO.bind (LeO.refl _) fun _ => LeO.ite (LeO.bind (impl_VerifyChecksum.mono _ _) fun _ => LeO.refl _) (LeO.refl _)) (LeO.refl _)) (LeO.refl _)) (LeO.refl _))
set_option maxHeartbeats 3200000 in
set_option maxRecDepth 100000 in
theorem laws_FnStrings.calls (k : Nat) (A0 : Option Addr) (c0 : Nat) (l0 : List Int) (r : Bool) (w : World) (hr0 : Kd.C (Kd.int .u8) w A0 l0.length l0) (hc0 : l0.length ≤ c0) (h : laws_FnStrings.f k l0 = some r) (hLaid : Go.Proofs.YtjihgbfhgfmknaaDoor.LaidFnStrings.LaidW w) :
    Calls Tryd.prog 4 #[.slice A0 l0.length c0] w fun e w' => e = .returned (.bool r) ∧ Below w.heap.size w w' := by
  have HC := Aside0.mk hr0
  have HN := Aside0.mk hc0
  have HLAID := Aside0.mk hLaid
  clear hr0 hc0 hLaid
  obtain ⟨big, h1, g1⟩ := Option.bind_eq_some_iff.mp h
  clear h
  have h := g1
  clear g1
  have H1 := Aside0.mk h1
  clear h1
  cases big with
  | true =>
    obtain rfl := Option.some.inj h
    clear h
    go_enter Tryd.func4, Tryd.ntmps4
    go_wp2_with fail
    refine (laws_vBig.calls _ _ l0 true _ HC.out HN.out H1.out).mono ?_
    rintro e w1 ⟨rfl, ⟨nd, rfl⟩⟩
    go_wp2
    go_ret
    exact ⟨rfl, pw_below_drewN (Below.refl _ _) nd⟩
  | false =>
    obtain ⟨n, h2, g1⟩ := Option.bind_eq_some_iff.mp (show (spec_DrawFormatInt.f l0).bind _ = some r from h)
    obtain ⟨⟨s, sb⟩, h3, g2⟩ := Option.bind_eq_some_iff.mp g1
    obtain ⟨s2, h4, g3⟩ := Option.bind_eq_some_iff.mp g2
    obtain ⟨t, h5, g4⟩ := Option.bind_eq_some_iff.mp g3
    obtain ⟨⟨m, mb⟩, h6, g5⟩ := Option.bind_eq_some_iff.mp g4
    obtain ⟨m2, h7, g6⟩ := Option.bind_eq_some_iff.mp g5
    obtain ⟨x, h8, g7⟩ := Option.bind_eq_some_iff.mp g6
    obtain ⟨⟨y, yb⟩, h9, g8⟩ := Option.bind_eq_some_iff.mp g7
    obtain ⟨y2, h10, g9⟩ := Option.bind_eq_some_iff.mp g8
    obtain ⟨⟨v, vb⟩, h11, g10⟩ := Option.bind_eq_some_iff.mp g9
    clear h g1 g2 g3 g4 g5 g6 g7 g8 g9
    have h := g10
    clear g10
    by_cases hc : s2 = (s, sb) ∧ m2 = (m, mb) ∧ y2 = (y, yb) ∧ (sb = true → (v, vb) = (n, true))
    rotate_left
    · rw [if_neg hc] at h
      cases h
    rw [if_pos hc] at h
    have HR := Aside0.mk h
    clear h
    obtain ⟨rfl, rfl, rfl, hv⟩ := hc
    have H2 := Aside0.mk h2
    have H3 := Aside0.mk h3
    have H4 := Aside0.mk h4
    have H5 := Aside0.mk h5
    have H6 := Aside0.mk h6
    have H7 := Aside0.mk h7
    have H8 := Aside0.mk h8
    have H9 := Aside0.mk h9
    have H10 := Aside0.mk h10
    have H11 := Aside0.mk h11
    have HV := Aside0.mk hv
    clear h2 h3 h4 h5 h6 h7 h8 h9 h10 h11 hv
    go_enter Tryd.func4, Tryd.ntmps4
    go_wp2_with fail
    refine (laws_vBig.calls _ _ l0 false _ HC.out HN.out H1.out).mono ?_
    rintro e w1 ⟨rfl, ⟨nd, rfl⟩⟩
    have HB1 := Aside0.mk (pw_below_drewN (Below.refl w.heap.size w) nd)
    generalize w.drewN nd = w1 at *
    go_wp2_with fail
    refine (spec_DrawFormatInt.calls _ _ l0 n _ (Kd.C_below HC.out HB1.out) HN.out H2.out).mono ?_
    rintro e w2 ⟨rfl, hb⟩
    have HB2 := Aside0.mk (below_step HB1.out hb)
    clear hb HB1
    go_wp2_with fail
    refine (impl_FormatInt.calls n s sb _ H3.out (Go.Proofs.YtjihgbfhgfmknaaDoor.LaidFnStrings.below HLAID.out HB2.out)).mono ?_
    rintro e w3 ⟨rfl, hb⟩
    have HB3 := Aside0.mk (below_step HB2.out hb)
    clear hb HB2
    go_wp2_with fail
    refine (spec_FormatInt.calls k n s sb _ H4.out).mono ?_
    rintro e w4 ⟨rfl, hb⟩
    have HB4 := Aside0.mk (below_step HB3.out hb)
    clear hb HB3
    go_wp2_with fail
    refine (spec_DrawParseInt.calls k _ _ l0 t _ (Kd.C_below HC.out HB4.out) HN.out H5.out).mono ?_
    rintro e w5 ⟨rfl, hb⟩
    have HB5 := Aside0.mk (below_step HB4.out hb)
    clear hb HB4
    go_wp2_with fail
    refine (impl_ParseInt.calls t m mb _ H6.out (Go.Proofs.YtjihgbfhgfmknaaDoor.LaidFnStrings.below HLAID.out HB5.out)).mono ?_
    rintro e w6 ⟨rfl, hb⟩
    have HB6 := Aside0.mk (below_step HB5.out hb)
    clear hb HB5
    go_wp2_with fail
    refine (spec_ParseInt.calls k t m mb _ H7.out).mono ?_
    rintro e w7 ⟨rfl, hb⟩
    have HB7 := Aside0.mk (below_step HB6.out hb)
    clear hb HB6
    go_wp2_with fail
    refine (spec_DrawAppendChecksum.calls _ _ l0 x _ (Kd.C_below HC.out HB7.out) HN.out H8.out).mono ?_
    rintro e w8 ⟨rfl, hb⟩
    have HB8 := Aside0.mk (below_step HB7.out hb)
    clear hb HB7
    go_wp2_with fail
    refine (impl_AppendChecksum.calls k x y yb _ H9.out (Go.Proofs.YtjihgbfhgfmknaaDoor.LaidFnStrings.below HLAID.out HB8.out)).mono ?_
    rintro e w9 ⟨rfl, hb⟩
    have HB9 := Aside0.mk (below_step HB8.out hb)
    clear hb HB8
    go_wp2_with fail
    refine (spec_AppendChecksum.calls k x y yb _ H10.out).mono ?_
    rintro e w10 ⟨rfl, hb⟩
    have HB10 := Aside0.mk (below_step HB9.out hb)
    clear hb HB9
    go_wp2_with fail
    refine (impl_ParseInt.calls s v vb _ H11.out (Go.Proofs.YtjihgbfhgfmknaaDoor.LaidFnStrings.below HLAID.out HB10.out)).mono ?_
    rintro e w11 ⟨rfl, hb⟩
    have HB11 := Aside0.mk (below_step HB10.out hb)
    clear hb HB10
    have hsv : sb = true → v = n ∧ vb = true := fun e => by simpa using HV.out e
    clear HV H1 H2 H3 H4 H5 H6 H7 H8 H10 H11
    cases yb with
    | false =>
      have h : (if y = ⟨#[]⟩ then some true else none) = some r := HR.out
      by_cases hy : y = ⟨#[]⟩
      · rw [if_pos hy] at h
        obtain rfl := Option.some.inj h
        subst hy
        clear h HR
        cases sb with
        | false =>
          go_wp2
          go_ret
          exact ⟨rfl, HB11.out⟩
        | true =>
          obtain ⟨rfl, rfl⟩ := hsv rfl
          clear hsv
          go_wp2
          go_ret
          exact ⟨rfl, HB11.out⟩
      · rw [if_neg hy] at h
        cases h
    | true =>
      obtain ⟨⟨z, zb⟩, h1, h⟩ := Option.bind_eq_some_iff.mp (show laws_FnStrings.tail k l0 x y = some r from HR.out)
      by_cases hz : (z, zb) = (x, true)
      rotate_left
      · rw [if_neg hz] at h
        cases h
      rw [if_pos hz] at h
      have HT := Aside0.mk h
      clear h HR
      obtain ⟨rfl, rfl⟩ := Prod.mk.inj hz
      have h := HT.out
      clear HT
      obtain ⟨a, h2, g1⟩ := Option.bind_eq_some_iff.mp h
      obtain ⟨b, h3, g2⟩ := Option.bind_eq_some_iff.mp g1
      clear h g1
      have h := g2
      clear g2
      by_cases hc : (0 : Int) ≤ a ∧ (0 : Nat) < y.size ∧ y.size ≤ 4000
      rotate_left
      · rw [if_neg hc] at h
        cases h
      rw [if_pos hc] at h
      obtain ⟨⟨u, ub⟩, h4, g1⟩ := Option.bind_eq_some_iff.mp h
      clear h
      have h := g1
      clear g1
      cases ub with
      | true => simp at h
      | false =>
      obtain rfl : true = r := by simpa using h
      obtain ⟨ha, hy0, hy1⟩ := hc
      have H1 := Aside0.mk h1
      have H2 := Aside0.mk h2
      have H3 := Aside0.mk h3
      have H4 := Aside0.mk h4
      have HA := Aside0.mk ha
      have HY0 := Aside0.mk hy0
      have HY1 := Aside0.mk hy1
      clear h h1 h2 h3 h4 hz ha hy0 hy1
      have HV : Aside0 (sb = true → v = n ∧ vb = true) := Aside0.mk hsv
      clear hsv
      suffices hx : sb = false ∨ sb = true ∧ v = n ∧ vb = true by
        clear HV
        rcases hx with rfl | ⟨rfl, rfl, rfl⟩
        all_goals
          go_wp2_with fail
          refine (impl_VerifyChecksum.calls k y z true _ H1.out (Go.Proofs.YtjihgbfhgfmknaaDoor.LaidFnStrings.below HLAID.out HB11.out)).mono ?_
          rintro e w12 ⟨rfl, hb⟩
          have HB12 := Aside0.mk (below_step HB11.out hb)
          clear hb HB11 H1
          have kb := fun W => print_bytes (P := Tryd.prog) 9 22 5 Tryd.underlying9 Tryd.underlying22 Tryd.underlying5 y W
          go_wp2_with fail
          have hB12 : Below w.heap.size w (Lib.bytesWorld w12 5 y) := bytes_below HB12.out (below_size HB12.out) 5 y
          have hcells : ∀ j, j < y.size → (Lib.bytesWorld w12 5 y).cell? ⟨w12.heap.size, j, none⟩ = some (.int .u8 (y.data.toList.getD j 0).toNat) := fun j hj => Lib.bytesWorld_cell w12 5 y j hj
          have HBY := Aside0.mk hB12
          have HCE := Aside0.mk hcells
          have hfz : (Lib.bytesWorld w12 5 y).frozen? ⟨w12.heap.size, a.toNat % y.size, none⟩ = false := by
            have hlt : a.toNat % y.size < (Lib.bytesCells w12 5 y).size := by
              have h1 : y.data.size = y.size := rfl
              have h2 : a.toNat % y.size < y.size := Nat.mod_lt _ HY0.out
              simp only [Lib.bytesCells, Array.size_append, Array.size_map]
              omega
            unfold World.frozen?
            simp only [Lib.bytesWorld_at_new]
            simp only [Bool.and_eq_false_iff, decide_eq_false_iff_not]
            omega
          have HBL := Aside0.mk hfz
          clear hfz
          have HSZ := Aside0.mk (below_size HB12.out)
          clear hB12 hcells HB12 kb
          generalize Lib.bytesWorld w12 5 y = W at *
          refine (laws_vAt.calls _ _ l0 9 a _ (Kd.C_below HC.out HBY.out) HN.out H2.out).mono ?_
          rintro e w13 ⟨rfl, ⟨nd2, rfl⟩⟩
          have hk : Int.tmod a (y.size : Int) = ((a.toNat % y.size : Nat) : Int) := by rw [Int.tmod_eq_emod_of_nonneg HA.out, Int.natCast_emod, Int.toNat_of_nonneg HA.out]
          have hkl : a.toNat % y.size < y.size := Nat.mod_lt _ HY0.out
          have HK := Aside0.mk hk
          clear hk
          generalize a.toNat % y.size = p at *
          have hs0 : ¬ ((y.size : Int) = 0) := by have := HY0.out; omega
          go_wp2_with fail
          simp only [HK.out]
          have hbt : (bt y p : Int) = (y.data.toList.getD p 0).toNat := by
            rw [← rd_bytesOf]
            unfold rd bytesOf
            simp [List.getD_eq_getElem?_getD, List.getElem?_eq_getElem (show p < y.data.toList.length by rw [data_length]; exact hkl)]
          obtain ⟨q0, hq0⟩ : ∃ q0, q0 = bt y p := ⟨_, rfl⟩
          rw [← hq0] at hbt
          have HB2 := Aside0.mk (pw_below_drewN HBY.out nd2)
          have hc2 : (W.drewN nd2).cell? ⟨w12.heap.size, p, none⟩ = some (.int .u8 q0) := by rw [hbt]; exact HCE.out p hkl
          have HCE2 := Aside0.mk (show ∀ (j : Nat), j < y.size → (W.drewN nd2).cell? ⟨w12.heap.size, j, none⟩ = some (.int .u8 (y.data.toList.getD j 0).toNat) from HCE.out)
          have HBL2 := Aside0.mk (show (W.drewN nd2).frozen? ⟨w12.heap.size, p, none⟩ = false from HBL.out)
          have HQ := Aside0.mk hq0
          have HQ1 := Aside0.mk hbt
          clear hq0 hbt
          generalize W.drewN nd2 = W2 at *
          clear HBY HCE HBL
          generalize grownCap w12 y.size 0 5 = cap
          generalize w12.heap.size = g at *
          have hp0 : (0 : Int) ≤ (p : Int) := by omega
          have hp1 : (p : Int) < (y.size : Int) := by omega
          go_region_with ((first
            | (go_at_call 26; refine (laws_vAt.calls _ _ l0 10 b _ ?hC HN.out H3.out).mono ?_; (case hC => (with_reducible first | exact Kd.C_below HC.out HB2.out | exact Kd.C_below HC.out (below_drew1 HB2.out) | exact Kd.C_below HC.out (pw_below_drewN HB2.out _))); rintro e w14 ⟨rfl, ⟨nd3, hw⟩⟩; have hc3 : w14.cell? ⟨g, p, none⟩ = some (.int .u8 q0) := (by rw [hw]; exact hc2); have HCE3 := Aside0.mk (show ∀ (j : Nat), j < y.size → w14.cell? ⟨g, j, none⟩ = some (.int .u8 (y.data.toList.getD j 0).toNat) from (by rw [hw]; exact HCE2.out)); have HB3 := Aside0.mk (show Below w.heap.size w w14 from (by rw [hw]; (with_reducible first | exact pw_below_drewN HB2.out _ | exact pw_below_drewN (below_drew1 HB2.out) _ | exact pw_below_drewN (pw_below_drewN HB2.out _) _))); have hf3 : w14.frozen? ⟨g, p, none⟩ = false := (by rw [hw]; exact HBL2.out); clear hw)))
          all_goals
            have hcv := run_convert_bytes_arg (P := Tryd.prog) (w14.setCell ⟨g, p, none⟩ (.int .u8 (Go.bits .xor .u8 q0 ((wrap64 (1 + Int.tmod b 255)) % 256)))) 22 5 Tryd.underlying22 Tryd.underlying5 g 0 y.size cap ((bytesOf y).set p (Go.bits .xor .u8 q0 ((wrap64 (1 + Int.tmod b 255)) % 256))) (by rw [List.length_set, bytesOf_length]) (fun i hi => by
              rw [Nat.zero_add]
              by_cases e : i = p
              · subst e
                rw [World.cell?_setCell_same (h := hc3)]
                simp [List.getD_eq_getElem?_getD, bytesOf_length, hi]
              · rw [World.cell?_setCell_other (h := by intro e2; injection e2; omega), HCE3.out i hi]
                have h1 : i < y.data.toList.length := by rw [data_length]; exact hi
                simp [List.getD_eq_getElem?_getD, List.getElem?_set, Ne.symm e, bytesOf, List.getElem?_eq_getElem h1]) 9 Tryd.underlying9
            have hcv' : (convert 22 9 (.slice (some ⟨g, 0, none⟩) y.size cap)).run Tryd.prog (w14.setCell ⟨g, p, none⟩ (.int .u8 (Go.bits .xor .u8 q0 ((wrap64 (1 + Int.tmod b 255)) % 256)))) = .ok (.string (laws_FnStrings.spoil y p b)) (w14.setCell ⟨g, p, none⟩ (.int .u8 (Go.bits .xor .u8 q0 ((wrap64 (1 + Int.tmod b 255)) % 256)))) := by
              unfold laws_FnStrings.spoil
              rw [← HQ.out]
              exact hcv
            clear hcv
            have HB4 := Aside0.mk (show Below w.heap.size w (w14.setCell ⟨g, p, none⟩ (.int .u8 (Go.bits .xor .u8 q0 ((wrap64 (1 + Int.tmod b 255)) % 256)))) from below_set HB3.out HSZ.out)
            go_wp2_with fail
            rw [hcv']
            go_wp2_with fail
            refine (impl_VerifyChecksum.calls k _ u false _ H4.out (Go.Proofs.YtjihgbfhgfmknaaDoor.LaidFnStrings.below HLAID.out HB4.out)).mono ?_
            rintro e w15 ⟨rfl, hb⟩
            have HB5 := Aside0.mk (below_step HB4.out hb)
            go_wp2
            go_ret
            exact ⟨rfl, HB5.out⟩
      cases sb with
      | false => exact .inl rfl
      | true => exact .inr ⟨rfl, HV.out rfl⟩


end Go.Proofs.YtjihgbfhgfmknaaDoor.PFnStrings
