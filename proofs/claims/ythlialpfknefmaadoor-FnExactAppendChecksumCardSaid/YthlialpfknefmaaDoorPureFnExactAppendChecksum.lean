/- The plain side of the law FnExactAppendChecksum: the printed law, whatever its input (within the form's bounds), comes to true. No other condition. -/
import Derived.Test.YthlialpfknefmaaDoorPFnExactAppendChecksumx2
import Derived.Test.YthlialpfknefmaaDoorBase
import Derived.Test.YthlialpfknefmaaDoorMath
namespace Go.Proofs.YthlialpfknefmaaDoor.Pure
open Go.RowKit Go.Proofs.YthlialpfknefmaaDoor.PFnExactAppendChecksum Go.Proofs.YthlialpfknefmaaDoorW.PrintWords Go.Proofs.YthlialpfknefmaaDoorW.PrintLast Go.Proofs.YthlialpfknefmaaDoorW.PrintMore Go.Proofs.YthlialpfknefmaaDoor.Base Go.Proofs.YthlialpfknefmaaDoor.M
set_option linter.unusedVariables false
set_option linter.unusedSimpArgs false

theorem dig_at (d : Nat) (h : d < 10) : (⟨#[48, 49, 50, 51, 52, 53, 54, 55, 56, 57]⟩ : ByteArray).extract d (d + 1) = ⟨#[UInt8.ofNat (48 + d)]⟩ := by
  have : ∀ q : Fin 10, (⟨#[48, 49, 50, 51, 52, 53, 54, 55, 56, 57]⟩ : ByteArray).extract q.1 (q.1 + 1) = ⟨#[UInt8.ofNat (48 + q.1)]⟩ := by decide +kernel
  exact this ⟨d, h⟩
theorem dec_len (m : Nat) : (Go.Lib.decDigits m).length ≤ m + 1 := by
  induction m using Nat.strongRecOn with
  | _ m ih =>
    unfold Go.Lib.decDigits
    by_cases h : m < 10
    · rw [dif_pos h]
      simp
    · rw [dif_neg h]
      have := ih (m / 10) (by omega)
      simp
      omega
theorem ba_app (a b : List UInt8) : (⟨a.toArray⟩ : ByteArray) ++ (⟨b.toArray⟩ : ByteArray) = ⟨(a ++ b).toArray⟩ := by
  apply ByteArray.ext
  rw [ByteArray.data_append]
  simp
theorem ba_size (a : List UInt8) : (⟨a.toArray⟩ : ByteArray).size = a.length := by simp [ByteArray.size]
theorem num_nat (m : Nat) : m ≤ 1000000000 → Ev (fun k => spec_l1Num.f k (m : Int)) ⟨(Go.Lib.decDigits m).toArray⟩ := by
  induction m using Nat.strongRecOn with
  | _ m ih =>
    intro hm
    refine Ev.step (fun k => by rw [spec_l1Num.f]) ?_
    refine ev_neg (by omega) ?_
    by_cases h : m < 10
    · refine ev_pos (by omega) ?_
      refine ev_pos (by omega) ?_
      have hw : wrap64 ((m : Int) + 1) = ((m + 1 : Nat) : Int) := by rw [w64 (by omega) (by omega)]; omega
      simp only [hw]
      refine ev_pos (by omega) ?_
      refine ev_pos (by omega) ?_
      refine ev_some ?_
      rw [Int.toNat_natCast, Int.toNat_natCast, dig_at m h, Go.Lib.decDigits, dif_pos h]
    · refine ev_neg (by omega) ?_
      have h1 : Int.tdiv (m : Int) 10 = ((m / 10 : Nat) : Int) := by rw [Int.tdiv_eq_ediv_of_nonneg (by omega)]; omega
      have h2 : Int.tmod (m : Int) 10 = ((m % 10 : Nat) : Int) := by rw [Int.tmod_eq_emod_of_nonneg (by omega)]; omega
      have hw : wrap64 ((m / 10 : Nat) : Int) = ((m / 10 : Nat) : Int) := w64 (by omega) (by omega)
      have hw2 : wrap64 (((m % 10 : Nat) : Int) + 1) = ((m % 10 + 1 : Nat) : Int) := by rw [w64 (by omega) (by omega)]; omega
      simp only [h1, h2, hw, hw2]
      refine Ev.bind (ih (m / 10) (by omega) (by omega)) ?_
      refine ev_pos (by omega) ?_
      refine ev_pos (by omega) ?_
      refine ev_pos (by omega) ?_
      rw [Int.toNat_natCast, Int.toNat_natCast, dig_at (m % 10) (by omega)]
      have hl := dec_len (m / 10)
      refine ev_pos ?_ ?_
      · rw [ba_size]
        simp [ByteArray.size]
        omega
      · refine ev_some ?_
        have e := Go.Lib.decDigits
        rw [show (⟨#[UInt8.ofNat (48 + m % 10)]⟩ : ByteArray) = ⟨([UInt8.ofNat (48 + m % 10)] : List UInt8).toArray⟩ from rfl, ba_app]
        conv => rhs; rw [Go.Lib.decDigits, dif_neg h]
theorem spec_l1Num.ev (n : Int) (h0 : -1000000000 ≤ n) (h1 : n ≤ 1000000000) : Ev (fun k => spec_l1Num.f k n) ⟨(Go.Lib.itoa n).toArray⟩ := by
  by_cases h : n < 0
  · refine Ev.step (fun k => by rw [spec_l1Num.f]) ?_
    refine ev_pos h ?_
    have hw : wrap64 (-n) = ((n.natAbs : Nat) : Int) := by rw [w64 (by omega) (by omega)]; omega
    simp only [hw]
    refine Ev.bind (num_nat n.natAbs (by omega)) ?_
    have hl := dec_len n.natAbs
    refine ev_pos ?_ ?_
    · rw [ba_size]
      omega
    · refine ev_some ?_
      rw [show (⟨#[45]⟩ : ByteArray) = ⟨([45] : List UInt8).toArray⟩ from rfl, ba_app, Go.Lib.itoa, if_pos h]
      rfl
  · obtain ⟨m, rfl⟩ : ∃ m : Nat, n = m := ⟨n.toNat, by omega⟩
    rw [Go.Lib.itoa, if_neg h]
    exact num_nat m (by omega)
theorem strconv_Itoa.at (n : Int) (h0 : -1000000000 ≤ n) (h1 : n ≤ 1000000000) : strconv_Itoa.f n = some ⟨(Go.Lib.itoa n).toArray⟩ := by
  unfold strconv_Itoa.f
  rw [if_pos ⟨by omega, by omega⟩]
/-- Does the byte stand in the text, from place i on? -/
def standsAt (s : ByteArray) (c : UInt8) (i : Nat) : Bool := (s.data.toList.drop i).contains c
theorem bt_eq (s : ByteArray) (i : Nat) (h : i < s.size) : bt s i = (s.data.toList[i]'(by simpa using h)).toNat := by
  unfold bt
  rw [dif_pos (by rw [Int.toNat_natCast]; exact h)]
  simp only [Int.toNat_natCast, Array.getElem_toList]
  rfl
theorem stands_ev (s : ByteArray) (c : UInt8) (hs : s.size ≤ 140737488351232) : ∀ (d i : Nat), i + d = s.size → Ev (fun k => spec_l1Stands.l0 k s c.toNat i) (standsAt s c i) := by
  intro d
  induction d with
  | zero =>
    intro i e
    refine Ev.step (fun k => by rw [spec_l1Stands.l0]) ?_
    refine ev_neg (by omega) ?_
    refine ev_some ?_
    unfold standsAt
    rw [List.drop_eq_nil_of_le (by rw [Array.length_toList]; have : s.size = s.data.size := rfl; omega)]
    rfl
  | succ d ih =>
    intro i e
    refine Ev.step (fun k => by rw [spec_l1Stands.l0]) ?_
    refine ev_pos (by omega) ?_
    refine ev_pos (by omega) ?_
    have hi : i < s.size := by omega
    have hl : i < s.data.toList.length := by simpa using hi
    have ed : standsAt s c i = ((s.data.toList[i] == c) || standsAt s c (i + 1)) := by
      unfold standsAt
      rw [List.drop_eq_getElem_cons hl, List.contains_cons]
      congr 1
      exact Bool.eq_iff_iff.mpr ⟨fun h => by simpa using (beq_iff_eq.mp h).symm, fun h => by simpa using (beq_iff_eq.mp h).symm⟩
    rw [bt_eq s i hi]
    by_cases h : s.data.toList[i] = c
    · refine ev_pos (by rw [h]) (ev_some ?_)
      rw [ed, beq_iff_eq.mpr h]
      rfl
    · refine ev_neg (fun e => h (UInt8.toNat_inj.mp (by omega))) ?_
      rw [w64 (x := (i : Int) + 1) (by omega) (by omega), ed, beq_eq_false_iff_ne.mpr h, Bool.false_or]
      exact ih (i + 1) (by omega)
theorem spec_l1Stands.ev (s : ByteArray) (c : UInt8) (hs : s.size ≤ 140737488351232) : Ev (fun k => spec_l1Stands.f k s c.toNat) (s.data.toList.contains c) := by
  have h := stands_ev s c hs s.size 0 (by omega)
  rw [show standsAt s c 0 = s.data.toList.contains c from by unfold standsAt; rw [List.drop_zero]] at h
  exact h
theorem index_has (l : List UInt8) (c : UInt8) : decide (0 ≤ Go.Lib.indexByte l c) = l.contains c := by
  induction l with
  | nil => rfl
  | cons b t ih =>
    unfold Go.Lib.indexByte
    rw [List.contains_cons]
    by_cases h : b = c
    · subst h
      simp
    · rw [if_neg (by simpa using h), show (c == b) = false from by simpa using fun e => h e.symm, Bool.false_or, ← ih]
      by_cases h2 : Go.Lib.indexByte t c == -1
      · rw [if_pos h2]
        have := beq_iff_eq.mp h2
        rw [this]
      · rw [if_neg h2]
        have h3 : Go.Lib.indexByte t c ≠ -1 := by simpa using h2
        have h4 := Go.Lib.indexByte_ge t c
        exact decide_eq_decide.mpr ⟨fun _ => by omega, fun _ => by omega⟩
theorem strings_Contains.at (s : ByteArray) (c : UInt8) : strings_Contains.f s ⟨#[c]⟩ = some (s.data.toList.contains c) := by
  unfold strings_Contains.f
  rw [if_pos (show (⟨#[c]⟩ : ByteArray).size = 1 from rfl), ← index_has]
  rfl
def nextSum (s : ByteArray) (i : Nat) (h : Int) : Int := Int.tmod (wrap64 ((wrap64 ((wrap64 (41 * h)) + (wrap64 (bt s i)))) + 1)) 999979
def sumFrom (s : ByteArray) : Nat → Nat → Int → Int
  | 0, _, h => h
  | d + 1, i, h => sumFrom s d (i + 1) (nextSum s i h)
/-- The checksum, as both sides reckon it. -/
def sumOf (s : ByteArray) : Int := sumFrom s s.size 0 7
theorem sumFrom_both (s : ByteArray) (hs : s.size ≤ 140737488351232) : ∀ (d i : Nat) (h : Int), i + d = s.size →
    Ev (fun k => spec_l1Sum.l0 k s h i) (sumFrom s d i h) ∧ Ev (fun k => impl_checksum.l0 k s h s.size i) (sumFrom s d i h) := by
  intro d
  induction d with
  | zero =>
    intro i h e
    refine ⟨?_, ?_⟩
    · refine Ev.step (fun k => by rw [spec_l1Sum.l0]) ?_
      refine ev_neg (by omega) ?_
      exact ev_some rfl
    · refine Ev.step (fun k => by rw [impl_checksum.l0]) ?_
      refine ev_neg (by omega) ?_
      exact ev_some rfl
  | succ d ih =>
    intro i h e
    obtain ⟨h1, h2⟩ := ih (i + 1) (nextSum s i h) (by omega)
    refine ⟨?_, ?_⟩
    · refine Ev.step (fun k => by rw [spec_l1Sum.l0]) ?_
      refine ev_pos (by omega) ?_
      refine ev_pos (by omega) ?_
      rw [w64 (x := (i : Int) + 1) (by omega) (by omega)]
      exact h1
    · refine Ev.step (fun k => by rw [impl_checksum.l0]) ?_
      refine ev_pos (by omega) ?_
      refine ev_pos (by omega) ?_
      refine ev_pos (by omega) ?_
      rw [w64 (x := (i : Int) + 1) (by omega) (by omega)]
      exact h2
theorem spec_l1Sum.ev (s : ByteArray) (hs : s.size ≤ 140737488351232) : Ev (fun k => spec_l1Sum.f k s) (sumOf s) := (sumFrom_both s hs s.size 0 7 (by omega)).1
theorem impl_checksum.ev (s : ByteArray) (hs : s.size ≤ 140737488351232) : Ev (fun k => impl_checksum.f k s) (sumOf s) := (sumFrom_both s hs s.size 0 7 (by omega)).2
theorem nextSum_range (s : ByteArray) (i : Nat) {h : Int} (h0 : 0 ≤ h) (h1 : h ≤ 999978) : 0 ≤ nextSum s i h ∧ nextSum s i h ≤ 999978 := by
  unfold nextSum
  have hb := bt_range s i
  rw [w64 (x := bt s i) (by omega) (by omega), w64 (x := 41 * h) (by omega) (by omega), w64 (x := 41 * h + bt s i) (by omega) (by omega), w64 (x := 41 * h + bt s i + 1) (by omega) (by omega), Int.tmod_eq_emod_of_nonneg (by omega)]
  omega
theorem sumFrom_range (s : ByteArray) : ∀ (d i : Nat) (h : Int), 0 ≤ h → h ≤ 999978 → 0 ≤ sumFrom s d i h ∧ sumFrom s d i h ≤ 999978
  | 0, _, _, h0, h1 => ⟨h0, h1⟩
  | d + 1, i, h, h0, h1 => sumFrom_range s d (i + 1) (nextSum s i h) (nextSum_range s i h0 h1).1 (nextSum_range s i h0 h1).2
theorem sumOf_range (s : ByteArray) : 0 ≤ sumOf s ∧ sumOf s ≤ 999978 := sumFrom_range s s.size 0 7 (by omega) (by omega)
/-- The text, the sign, the numeral of its checksum. -/
def sealOf (s : ByteArray) : ByteArray := (s ++ (⟨#[35]⟩ : ByteArray)) ++ ⟨(Go.Lib.itoa (sumOf s)).toArray⟩
theorem itoa_len {n : Int} (h0 : 0 ≤ n) : ((⟨(Go.Lib.itoa n).toArray⟩ : ByteArray)).size ≤ n.toNat + 1 := by
  rw [ba_size, Go.Lib.itoa, if_neg (by omega)]
  exact dec_len _
theorem seal_fits (s : ByteArray) (hs : s.size ≤ 140737488351232) : (s ++ (⟨#[35]⟩ : ByteArray)).size + (⟨(Go.Lib.itoa (sumOf s)).toArray⟩ : ByteArray).size ≤ 9223372036854775807 := by
  have h := sumOf_range s
  have hl := itoa_len h.1
  rw [ByteArray.size_append, show (⟨#[35]⟩ : ByteArray).size = 1 from rfl]
  omega
theorem spec_l1Seal.ev (s : ByteArray) (hs : s.size ≤ 140737488351232) : Ev (fun k => spec_l1Seal.f k s) (sealOf s) := by
  unfold spec_l1Seal.f
  have h := sumOf_range s
  refine ev_pos (by omega) ?_
  refine Ev.bind (spec_l1Sum.ev s hs) ?_
  refine Ev.bind (spec_l1Num.ev _ (by omega) (by omega)) ?_
  exact ev_pos (seal_fits s hs) (ev_some rfl)
theorem spec_AppendChecksum.ev (s : ByteArray) (hs : s.size ≤ 140737488351232) : Ev (fun k => spec_AppendChecksum.f k s) (if s.size ≤ 4000 ∧ s.data.toList.contains 35 = false ∧ (sealOf s).size ≤ 4000 then (sealOf s, true) else (⟨#[]⟩, false)) := by
  unfold spec_AppendChecksum.f
  by_cases h1 : (s.size : Int) > 4000
  · exact ev_pos h1 (ev_some (by rw [if_neg (by omega)]))
  · refine ev_neg h1 ?_
    refine Ev.bind (spec_l1Stands.ev s 35 hs) ?_
    cases h2 : s.data.toList.contains 35 with
    | true => exact ev_pos rfl (ev_some (by rw [if_neg (by simp)]))
    | false =>
      refine ev_neg (by simp) ?_
      refine Ev.bind (spec_l1Seal.ev s hs) ?_
      by_cases h3 : ((sealOf s).size : Int) > 4000
      · exact ev_pos h3 (ev_some (by rw [if_neg (by omega)]))
      · refine ev_neg h3 ?_
        refine Ev.bind (spec_l1Seal.ev s hs) ?_
        exact ev_some (by rw [if_pos ⟨by omega, rfl, by omega⟩])
theorem impl_AppendChecksum.ev (s : ByteArray) (hs : s.size ≤ 140737488351232) : Ev (fun k => impl_AppendChecksum.f k s) (if s.size ≤ 4000 ∧ s.data.toList.contains 35 = false ∧ (sealOf s).size ≤ 4000 then (sealOf s, true) else (⟨#[]⟩, false)) := by
  unfold impl_AppendChecksum.f
  have hr := sumOf_range s
  by_cases h1 : (s.size : Int) > 4000
  · refine ev_pos h1 ?_
    refine Ev.step (fun k => by rw [impl_AppendChecksum.j0]) ?_
    exact ev_pos rfl (ev_some (by rw [if_neg (by omega)]))
  · refine ev_neg h1 ?_
    refine Ev.bind (ev_const (strings_Contains.at s 35)) ?_
    refine Ev.step (fun k => by rw [impl_AppendChecksum.j0]) ?_
    cases h2 : s.data.toList.contains 35 with
    | true => exact ev_pos rfl (ev_some (by rw [if_neg (by simp)]))
    | false =>
      refine ev_neg (by simp) ?_
      refine ev_pos (by omega) ?_
      refine Ev.bind (impl_checksum.ev s hs) ?_
      refine Ev.bind (ev_const (strconv_Itoa.at _ (by omega) (by omega))) ?_
      refine ev_pos (seal_fits s hs) ?_
      by_cases h3 : ((sealOf s).size : Int) > 4000
      · exact ev_pos h3 (ev_some (by rw [if_neg (by omega)]))
      · refine ev_neg h3 ?_
        exact ev_some (by rw [if_pos ⟨by omega, rfl, by omega⟩]; rfl)
theorem FnExactAppendChecksum (s : ByteArray) (hs : s.size ≤ 140737488351232) : ∃ k, laws_FnExactAppendChecksum.f k s = some true := by
  refine Ev.rounds (r := true) ?_
  unfold laws_FnExactAppendChecksum.f
  by_cases h : (s.size : Int) > 1048576
  · exact ev_pos h (ev_some rfl)
  refine ev_neg h ?_
  refine Ev.bind (spec_AppendChecksum.ev s hs) ?_
  refine Ev.bind (impl_AppendChecksum.ev s hs) ?_
  refine ev_pos rfl ?_
  exact ev_neg (by simp) (ev_some rfl)

end Go.Proofs.YthlialpfknefmaaDoor.Pure
