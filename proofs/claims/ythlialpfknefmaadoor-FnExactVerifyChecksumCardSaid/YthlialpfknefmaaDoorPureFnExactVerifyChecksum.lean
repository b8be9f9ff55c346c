/- The plain side of the law FnExactVerifyChecksum: the printed law, whatever its input (within the form's bounds), comes to true. No other condition. -/
import Derived.Test.YthlialpfknefmaaDoorPFnExactVerifyChecksumx2
import Derived.Test.YthlialpfknefmaaDoorBase
import Derived.Test.YthlialpfknefmaaDoorMath
namespace Go.Proofs.YthlialpfknefmaaDoor.Pure
open Go.RowKit Go.Proofs.YthlialpfknefmaaDoor.PFnExactVerifyChecksum Go.Proofs.YthlialpfknefmaaDoorW.PrintWords Go.Proofs.YthlialpfknefmaaDoorW.PrintLast Go.Proofs.YthlialpfknefmaaDoorW.PrintMore Go.Proofs.YthlialpfknefmaaDoor.Base Go.Proofs.YthlialpfknefmaaDoor.M
set_option linter.unusedVariables false
set_option linter.unusedSimpArgs false

theorem dig_at (d : Nat) (h : d < 10) : (⟨#[48, 49, 50, 51, 52, 53, 54, 55, 56, 57]⟩ : ByteArray).extract d (d + 1) = ⟨#[UInt8.ofNat (48 + d)]⟩ := by
  have : ∀ q : Fin 10, (⟨#[48, 49, 50, 51, 52, 53, 54, 55, 56, 57]⟩ : ByteArray).extract q.1 (q.1 + 1) = ⟨#[UInt8.ofNat (48 + q.1)]⟩ := by decide +kernel
  exact this ⟨d, h⟩
theorem dec_len (m : Nat) : (Go.Lib.decDigits m).length ≤ m + 1 := by
  induction m using Nat.strongRecOn with
  | _ m ih =>
    unfold Go.Lib.decDigits
    by_cases h : m < 10
    · rw [dif_pos h]
      simp
    · rw [dif_neg h]
      have := ih (m / 10) (by omega)
      simp
      omega
theorem ba_app (a b : List UInt8) : (⟨a.toArray⟩ : ByteArray) ++ (⟨b.toArray⟩ : ByteArray) = ⟨(a ++ b).toArray⟩ := by
  apply ByteArray.ext
  rw [ByteArray.data_append]
  simp
theorem ba_size (a : List UInt8) : (⟨a.toArray⟩ : ByteArray).size = a.length := by simp [ByteArray.size]
theorem num_nat (m : Nat) : m ≤ 1000000000 → Ev (fun k => spec_l1Num.f k (m : Int)) ⟨(Go.Lib.decDigits m).toArray⟩ := by
  induction m using Nat.strongRecOn with
  | _ m ih =>
    intro hm
    refine Ev.step (fun k => by rw [spec_l1Num.f]) ?_
    refine ev_neg (by omega) ?_
    by_cases h : m < 10
    · refine ev_pos (by omega) ?_
      refine ev_pos (by omega) ?_
      have hw : wrap64 ((m : Int) + 1) = ((m + 1 : Nat) : Int) := by rw [w64 (by omega) (by omega)]; omega
      simp only [hw]
      refine ev_pos (by omega) ?_
      refine ev_pos (by omega) ?_
      refine ev_some ?_
      rw [Int.toNat_natCast, Int.toNat_natCast, dig_at m h, Go.Lib.decDigits, dif_pos h]
    · refine ev_neg (by omega) ?_
      have h1 : Int.tdiv (m : Int) 10 = ((m / 10 : Nat) : Int) := by rw [Int.tdiv_eq_ediv_of_nonneg (by omega)]; omega
      have h2 : Int.tmod (m : Int) 10 = ((m % 10 : Nat) : Int) := by rw [Int.tmod_eq_emod_of_nonneg (by omega)]; omega
      have hw : wrap64 ((m / 10 : Nat) : Int) = ((m / 10 : Nat) : Int) := w64 (by omega) (by omega)
      have hw2 : wrap64 (((m % 10 : Nat) : Int) + 1) = ((m % 10 + 1 : Nat) : Int) := by rw [w64 (by omega) (by omega)]; omega
      simp only [h1, h2, hw, hw2]
      refine Ev.bind (ih (m / 10) (by omega) (by omega)) ?_
      refine ev_pos (by omega) ?_
      refine ev_pos (by omega) ?_
      refine ev_pos (by omega) ?_
      rw [Int.toNat_natCast, Int.toNat_natCast, dig_at (m % 10) (by omega)]
      have hl := dec_len (m / 10)
      refine ev_pos ?_ ?_
      · rw [ba_size]
        simp [ByteArray.size]
        omega
      · refine ev_some ?_
        have e := Go.Lib.decDigits
        rw [show (⟨#[UInt8.ofNat (48 + m % 10)]⟩ : ByteArray) = ⟨([UInt8.ofNat (48 + m % 10)] : List UInt8).toArray⟩ from rfl, ba_app]
        conv => rhs; rw [Go.Lib.decDigits, dif_neg h]
theorem spec_l1Num.ev (n : Int) (h0 : -1000000000 ≤ n) (h1 : n ≤ 1000000000) : Ev (fun k => spec_l1Num.f k n) ⟨(Go.Lib.itoa n).toArray⟩ := by
  by_cases h : n < 0
  · refine Ev.step (fun k => by rw [spec_l1Num.f]) ?_
    refine ev_pos h ?_
    have hw : wrap64 (-n) = ((n.natAbs : Nat) : Int) := by rw [w64 (by omega) (by omega)]; omega
    simp only [hw]
    refine Ev.bind (num_nat n.natAbs (by omega)) ?_
    have hl := dec_len n.natAbs
    refine ev_pos ?_ ?_
    · rw [ba_size]
      omega
    · refine ev_some ?_
      rw [show (⟨#[45]⟩ : ByteArray) = ⟨([45] : List UInt8).toArray⟩ from rfl, ba_app, Go.Lib.itoa, if_pos h]
      rfl
  · obtain ⟨m, rfl⟩ : ∃ m : Nat, n = m := ⟨n.toNat, by omega⟩
    rw [Go.Lib.itoa, if_neg h]
    exact num_nat m (by omega)
theorem strconv_Itoa.at (n : Int) (h0 : -1000000000 ≤ n) (h1 : n ≤ 1000000000) : strconv_Itoa.f n = some ⟨(Go.Lib.itoa n).toArray⟩ := by
  unfold strconv_Itoa.f
  rw [if_pos ⟨by omega, by omega⟩]
/-- Does the byte stand in the text, from place i on? -/
def standsAt (s : ByteArray) (c : UInt8) (i : Nat) : Bool := (s.data.toList.drop i).contains c
theorem bt_eq (s : ByteArray) (i : Nat) (h : i < s.size) : bt s i = (s.data.toList[i]'(by simpa using h)).toNat := by
  unfold bt
  rw [dif_pos (by rw [Int.toNat_natCast]; exact h)]
  simp only [Int.toNat_natCast, Array.getElem_toList]
  rfl
theorem index_has (l : List UInt8) (c : UInt8) : decide (0 ≤ Go.Lib.indexByte l c) = l.contains c := by
  induction l with
  | nil => rfl
  | cons b t ih =>
    unfold Go.Lib.indexByte
    rw [List.contains_cons]
    by_cases h : b = c
    · subst h
      simp
    · rw [if_neg (by simpa using h), show (c == b) = false from by simpa using fun e => h e.symm, Bool.false_or, ← ih]
      by_cases h2 : Go.Lib.indexByte t c == -1
      · rw [if_pos h2]
        have := beq_iff_eq.mp h2
        rw [this]
      · rw [if_neg h2]
        have h3 : Go.Lib.indexByte t c ≠ -1 := by simpa using h2
        have h4 := Go.Lib.indexByte_ge t c
        exact decide_eq_decide.mpr ⟨fun _ => by omega, fun _ => by omega⟩
theorem strings_Contains.at (s : ByteArray) (c : UInt8) : strings_Contains.f s ⟨#[c]⟩ = some (s.data.toList.contains c) := by
  unfold strings_Contains.f
  rw [if_pos (show (⟨#[c]⟩ : ByteArray).size = 1 from rfl), ← index_has]
  rfl
def nextSum (s : ByteArray) (i : Nat) (h : Int) : Int := Int.tmod (wrap64 ((wrap64 ((wrap64 (41 * h)) + (wrap64 (bt s i)))) + 1)) 999979
def sumFrom (s : ByteArray) : Nat → Nat → Int → Int
  | 0, _, h => h
  | d + 1, i, h => sumFrom s d (i + 1) (nextSum s i h)
/-- The checksum, as both sides reckon it. -/
def sumOf (s : ByteArray) : Int := sumFrom s s.size 0 7
theorem sumFrom_both (s : ByteArray) (hs : s.size ≤ 140737488351232) : ∀ (d i : Nat) (h : Int), i + d = s.size →
    Ev (fun k => spec_l1Sum.l0 k s h i) (sumFrom s d i h) ∧ Ev (fun k => impl_checksum.l0 k s h s.size i) (sumFrom s d i h) := by
  intro d
  induction d with
  | zero =>
    intro i h e
    refine ⟨?_, ?_⟩
    · refine Ev.step (fun k => by rw [spec_l1Sum.l0]) ?_
      refine ev_neg (by omega) ?_
      exact ev_some rfl
    · refine Ev.step (fun k => by rw [impl_checksum.l0]) ?_
      refine ev_neg (by omega) ?_
      exact ev_some rfl
  | succ d ih =>
    intro i h e
    obtain ⟨h1, h2⟩ := ih (i + 1) (nextSum s i h) (by omega)
    refine ⟨?_, ?_⟩
    · refine Ev.step (fun k => by rw [spec_l1Sum.l0]) ?_
      refine ev_pos (by omega) ?_
      refine ev_pos (by omega) ?_
      rw [w64 (x := (i : Int) + 1) (by omega) (by omega)]
      exact h1
    · refine Ev.step (fun k => by rw [impl_checksum.l0]) ?_
      refine ev_pos (by omega) ?_
      refine ev_pos (by omega) ?_
      refine ev_pos (by omega) ?_
      rw [w64 (x := (i : Int) + 1) (by omega) (by omega)]
      exact h2
theorem spec_l1Sum.ev (s : ByteArray) (hs : s.size ≤ 140737488351232) : Ev (fun k => spec_l1Sum.f k s) (sumOf s) := (sumFrom_both s hs s.size 0 7 (by omega)).1
theorem impl_checksum.ev (s : ByteArray) (hs : s.size ≤ 140737488351232) : Ev (fun k => impl_checksum.f k s) (sumOf s) := (sumFrom_both s hs s.size 0 7 (by omega)).2
theorem nextSum_range (s : ByteArray) (i : Nat) {h : Int} (h0 : 0 ≤ h) (h1 : h ≤ 999978) : 0 ≤ nextSum s i h ∧ nextSum s i h ≤ 999978 := by
  unfold nextSum
  have hb := bt_range s i
  rw [w64 (x := bt s i) (by omega) (by omega), w64 (x := 41 * h) (by omega) (by omega), w64 (x := 41 * h + bt s i) (by omega) (by omega), w64 (x := 41 * h + bt s i + 1) (by omega) (by omega), Int.tmod_eq_emod_of_nonneg (by omega)]
  omega
theorem sumFrom_range (s : ByteArray) : ∀ (d i : Nat) (h : Int), 0 ≤ h → h ≤ 999978 → 0 ≤ sumFrom s d i h ∧ sumFrom s d i h ≤ 999978
  | 0, _, _, h0, h1 => ⟨h0, h1⟩
  | d + 1, i, h, h0, h1 => sumFrom_range s d (i + 1) (nextSum s i h) (nextSum_range s i h0 h1).1 (nextSum_range s i h0 h1).2
theorem sumOf_range (s : ByteArray) : 0 ≤ sumOf s ∧ sumOf s ≤ 999978 := sumFrom_range s s.size 0 7 (by omega) (by omega)
/-- The text, the sign, the numeral of its checksum. -/
def sealOf (s : ByteArray) : ByteArray := (s ++ (⟨#[35]⟩ : ByteArray)) ++ ⟨(Go.Lib.itoa (sumOf s)).toArray⟩
theorem itoa_len {n : Int} (h0 : 0 ≤ n) : ((⟨(Go.Lib.itoa n).toArray⟩ : ByteArray)).size ≤ n.toNat + 1 := by
  rw [ba_size, Go.Lib.itoa, if_neg (by omega)]
  exact dec_len _
theorem seal_fits (s : ByteArray) (hs : s.size ≤ 140737488351232) : (s ++ (⟨#[35]⟩ : ByteArray)).size + (⟨(Go.Lib.itoa (sumOf s)).toArray⟩ : ByteArray).size ≤ 9223372036854775807 := by
  have h := sumOf_range s
  have hl := itoa_len h.1
  rw [ByteArray.size_append, show (⟨#[35]⟩ : ByteArray).size = 1 from rfl]
  omega
theorem spec_l1Seal.ev (s : ByteArray) (hs : s.size ≤ 140737488351232) : Ev (fun k => spec_l1Seal.f k s) (sealOf s) := by
  unfold spec_l1Seal.f
  have h := sumOf_range s
  refine ev_pos (by omega) ?_
  refine Ev.bind (spec_l1Sum.ev s hs) ?_
  refine Ev.bind (spec_l1Num.ev _ (by omega) (by omega)) ?_
  exact ev_pos (seal_fits s hs) (ev_some rfl)
theorem impl_AppendChecksum.ev (s : ByteArray) (hs : s.size ≤ 140737488351232) : Ev (fun k => impl_AppendChecksum.f k s) (if s.size ≤ 4000 ∧ s.data.toList.contains 35 = false ∧ (sealOf s).size ≤ 4000 then (sealOf s, true) else (⟨#[]⟩, false)) := by
  unfold impl_AppendChecksum.f
  have hr := sumOf_range s
  by_cases h1 : (s.size : Int) > 4000
  · refine ev_pos h1 ?_
    refine Ev.step (fun k => by rw [impl_AppendChecksum.j0]) ?_
    exact ev_pos rfl (ev_some (by rw [if_neg (by omega)]))
  · refine ev_neg h1 ?_
    refine Ev.bind (ev_const (strings_Contains.at s 35)) ?_
    refine Ev.step (fun k => by rw [impl_AppendChecksum.j0]) ?_
    cases h2 : s.data.toList.contains 35 with
    | true => exact ev_pos rfl (ev_some (by rw [if_neg (by simp)]))
    | false =>
      refine ev_neg (by simp) ?_
      refine ev_pos (by omega) ?_
      refine Ev.bind (impl_checksum.ev s hs) ?_
      refine Ev.bind (ev_const (strconv_Itoa.at _ (by omega) (by omega))) ?_
      refine ev_pos (seal_fits s hs) ?_
      by_cases h3 : ((sealOf s).size : Int) > 4000
      · exact ev_pos h3 (ev_some (by rw [if_neg (by omega)]))
      · refine ev_neg h3 ?_
        exact ev_some (by rw [if_pos ⟨by omega, rfl, by omega⟩]; rfl)
/-- A piece that is under way, laid ahead of what follows. -/
def glue (p : List UInt8) : List (List UInt8) → List (List UInt8)
  | [] => [p]
  | x :: r => (p ++ x) :: r
/-- The parts of a text between bytes. -/
def parts (c : UInt8) : List UInt8 → List (List UInt8)
  | [] => [[]]
  | b :: t => if b = c then [] :: parts c t else glue [b] (parts c t)
theorem glue_ne (p : List UInt8) (L : List (List UInt8)) : glue p L ≠ [] := by cases L <;> simp [glue]
theorem parts_ne (c : UInt8) (l : List UInt8) : parts c l ≠ [] := by
  cases l with
  | nil => simp [parts]
  | cons b t =>
    unfold parts
    by_cases h : b = c
    · rw [if_pos h]; simp
    · rw [if_neg h]; exact glue_ne _ _
theorem glue_nil {L : List (List UInt8)} (h : L ≠ []) : glue [] L = L := by
  cases L with
  | nil => exact absurd rfl h
  | cons x r => rfl
theorem glue_glue (p : List UInt8) (b : UInt8) {L : List (List UInt8)} (h : L ≠ []) : glue p (glue [b] L) = glue (p ++ [b]) L := by
  cases L with
  | nil => exact absurd rfl h
  | cons x r => simp [glue]
theorem parts_head (c : UInt8) : ∀ l : List UInt8, ∃ r, parts c l = l.takeWhile (· != c) :: r
  | [] => ⟨[], rfl⟩
  | b :: t => by
    obtain ⟨r, hr⟩ := parts_head c t
    unfold parts
    by_cases h : b = c
    · rw [if_pos h]
      exact ⟨parts c t, by rw [List.takeWhile_cons]; simp [h]⟩
    · rw [if_neg h, hr]
      exact ⟨r, by simp [glue, h]⟩
def ba (l : List UInt8) : ByteArray := ⟨l.toArray⟩
theorem ba_data (s : ByteArray) : ba s.data.toList = s := by
  unfold ba
  apply ByteArray.ext
  simp
theorem ba_toList (l : List UInt8) : (ba l).data.toList = l := by simp [ba]
theorem ba_len (l : List UInt8) : (ba l).size = l.length := by simp [ba, ByteArray.size]
theorem extract_ba (s : ByteArray) (a b : Nat) : s.extract a b = ba ((s.data.toList.drop a).take (b - a)) := by
  rw [← Go.Lib.extract_data]
  exact (ba_data _).symm
theorem size_data (s : ByteArray) : s.data.toList.length = s.size := by
  rw [Array.length_toList]
  rfl
theorem split_ev (s : ByteArray) (c : UInt8) (hs : s.size ≤ 1048576) : ∀ (d i f : Nat) (out : List ByteArray), i + d = s.size → f ≤ i → out.length ≤ i →
    Ev (fun k => spec_l1Split.l0 k s c.toNat out f i) (out ++ (glue ((s.data.toList.drop f).take (i - f)) (parts c (s.data.toList.drop i))).map ba) := by
  intro d
  induction d with
  | zero =>
    intro i f out e hf ho
    refine Ev.step (fun k => by rw [spec_l1Split.l0]) ?_
    refine ev_neg (by omega) ?_
    refine ev_pos (by omega) ?_
    refine ev_pos (by omega) ?_
    refine ev_pos (by omega) ?_
    refine ev_some ?_
    have hz : i = s.size := by omega
    subst hz
    rw [List.drop_eq_nil_of_le (i := s.size) (by rw [size_data]; omega), Int.toNat_natCast, extract_ba]
    simp [parts, glue]
  | succ d ih =>
    intro i f out e hf ho
    refine Ev.step (fun k => by rw [spec_l1Split.l0]) ?_
    refine ev_pos (by omega) ?_
    refine ev_pos (by omega) ?_
    have hi : i < s.size := by omega
    have hl : i < s.data.toList.length := by rw [size_data]; exact hi
    have hw : wrap64 ((i : Int) + 1) = ((i + 1 : Nat) : Int) := by rw [w64 (by omega) (by omega)]; omega
    rw [bt_eq s i hi, List.drop_eq_getElem_cons hl]
    by_cases h : s.data.toList[i] = c
    · refine ev_pos (by rw [h]) ?_
      refine ev_pos (by omega) ?_
      refine ev_pos (by omega) ?_
      refine ev_pos (by omega) ?_
      refine ev_pos (by omega) ?_
      simp only [hw, Int.toNat_natCast]
      have hh := ih (i + 1) (i + 1) (out ++ [s.extract f i]) (by omega) (Nat.le_refl _) (by simp; omega)
      rw [Nat.sub_self, List.take_zero, glue_nil (parts_ne _ _)] at hh
      have e2 : out ++ (glue ((s.data.toList.drop f).take (i - f)) (parts c (s.data.toList[i] :: s.data.toList.drop (i + 1)))).map ba = (out ++ [s.extract f i]) ++ (parts c (s.data.toList.drop (i + 1))).map ba := by
        rw [parts, if_pos h, extract_ba]
        simp [glue]
      rw [e2]
      exact hh
    · refine ev_neg (fun e => h (UInt8.toNat_inj.mp (by omega))) ?_
      simp only [hw]
      have hh := ih (i + 1) f out (by omega) (by omega) (by omega)
      have e3 : (s.data.toList.drop f).take (i + 1 - f) = (s.data.toList.drop f).take (i - f) ++ [s.data.toList[i]] := by
        rw [show i + 1 - f = (i - f) + 1 by omega, List.take_add_one, List.getElem?_drop, show f + (i - f) = i by omega, List.getElem?_eq_getElem hl]
        rfl
      rw [parts, if_neg h, glue_glue _ _ (parts_ne _ _), ← e3]
      exact hh
theorem spec_l1Split.ev (s : ByteArray) (c : UInt8) (hs : s.size ≤ 1048576) : Ev (fun k => spec_l1Split.f k s c.toNat) ((parts c s.data.toList).map ba) := by
  have h := split_ev s c hs s.size 0 0 [] (by omega) (Nat.le_refl _) (Nat.le_refl _)
  rw [List.drop_zero, Nat.sub_self, List.take_zero, glue_nil (parts_ne _ _), List.nil_append] at h
  exact h
theorem index_take (l : List UInt8) (c : UInt8) : (Go.Lib.indexByte l c = -1 ∧ l.takeWhile (· != c) = l ∧ c ∉ l) ∨ ∃ i : Nat, Go.Lib.indexByte l c = i ∧ l.takeWhile (· != c) = l.take i ∧ i < l.length := by
  induction l with
  | nil => exact .inl ⟨rfl, rfl, by simp⟩
  | cons b t ih =>
    unfold Go.Lib.indexByte
    by_cases h : b = c
    · subst h
      exact .inr ⟨0, by simp, by simp, by simp⟩
    · rw [if_neg (by simpa using h)]
      have hb : (b != c) = true := by simpa using h
      rcases ih with ⟨h1, h2, h3⟩ | ⟨i, h1, h2, h3⟩
      · exact .inl ⟨by rw [h1]; rfl, by rw [List.takeWhile_cons, hb, if_pos rfl, h2], by simp [h3]; exact fun e => h e.symm⟩
      · refine .inr ⟨i + 1, ?_, ?_, by simp; omega⟩
        · rw [h1, if_neg (by intro e; have := beq_iff_eq.mp e; omega)]
          rfl
        · rw [List.takeWhile_cons, hb, if_pos rfl, h2, List.take_succ_cons]
theorem cut_fst (l : List UInt8) (c : UInt8) : (Go.Lib.cut l [c]).1 = l.takeWhile (· != c) := by
  unfold Go.Lib.cut
  rw [Go.Lib.index_one]
  rcases index_take l c with ⟨h1, h2, h3⟩ | ⟨i, h1, h2, h3⟩
  · rw [h1, if_neg (by decide), h2]
  · rw [h1, if_pos (by omega), h2]
    simp
def headOf (s : ByteArray) : ByteArray := ba (s.data.toList.takeWhile (· != 35))
theorem head_size (s : ByteArray) : (headOf s).size ≤ s.size := by
  unfold headOf
  rw [ba_len, ← size_data]
  exact (List.takeWhile_sublist _).length_le
theorem head_clean (s : ByteArray) : (headOf s).data.toList.contains 35 = false := by
  unfold headOf
  rw [ba_toList, Bool.eq_false_iff]
  intro h
  rw [List.contains_iff_mem] at h
  have h2 := List.all_eq_true.mp (List.all_takeWhile (p := fun x : UInt8 => x != 35) (l := s.data.toList)) 35 h
  simp at h2
def verifyOf (s : ByteArray) : ByteArray × Bool := if s.size ≤ 4000 ∧ sealOf (headOf s) = s then (headOf s, true) else (⟨#[]⟩, false)
theorem toList_inj' {a b : ByteArray} : a.toList = b.toList ↔ a = b := ⟨fun h => by rw [ByteArray.toList_eq, ByteArray.toList_eq] at h; rw [← ba_data a, ← ba_data b, h], fun h => by rw [h]⟩
theorem spec_VerifyChecksum.ev (s : ByteArray) (hs : s.size ≤ 1048576) : Ev (fun k => spec_VerifyChecksum.f k s) (verifyOf s) := by
  unfold spec_VerifyChecksum.f verifyOf
  by_cases h1 : (s.size : Int) > 4000
  · exact ev_pos h1 (ev_some (by rw [if_neg (by omega)]))
  · refine ev_neg h1 ?_
    refine Ev.bind (spec_l1Split.ev s 35 hs) ?_
    obtain ⟨r, hr⟩ := parts_head 35 s.data.toList
    rw [hr]
    refine ev_pos (by simp) ?_
    have e : rdOf ByteArray.empty ((s.data.toList.takeWhile (· != 35) :: r).map ba) 0 = headOf s := rfl
    rw [e]
    have := head_size s
    refine Ev.bind (spec_l1Seal.ev (headOf s) (by omega)) ?_
    by_cases h2 : sealOf (headOf s) = s
    · refine ev_pos (toList_inj'.mpr h2) (ev_some ?_)
      rw [if_pos ⟨by omega, h2⟩]
    · refine ev_neg (fun e => h2 (toList_inj'.mp e)) (ev_some ?_)
      rw [if_neg (fun e => h2 e.2)]
theorem impl_VerifyChecksum.ev (s : ByteArray) (hs : s.size ≤ 1048576) : Ev (fun k => impl_VerifyChecksum.f k s) (verifyOf s) := by
  unfold impl_VerifyChecksum.f verifyOf strings_Cut.f
  rw [if_pos (by omega)]
  simp only [Option.bind_some]
  have e : (⟨(Go.Lib.cut s.data.toList (⟨#[35]⟩ : ByteArray).data.toList).1.toArray⟩ : ByteArray) = headOf s := by
    rw [show (⟨#[35]⟩ : ByteArray).data.toList = [35] from rfl, cut_fst]
    rfl
  rw [e]
  have hz := head_size s
  refine Ev.bind (impl_AppendChecksum.ev (headOf s) (by omega)) ?_
  by_cases h : (headOf s).size ≤ 4000 ∧ (headOf s).data.toList.contains 35 = false ∧ (sealOf (headOf s)).size ≤ 4000
  · rw [if_pos h]
    refine ev_pos rfl ?_
    by_cases h2 : sealOf (headOf s) = s
    · refine ev_pos (toList_inj'.mpr h2) (ev_some ?_)
      rw [if_pos ⟨by rw [h2] at h; exact h.2.2, h2⟩]
    · refine ev_neg (fun e => h2 (toList_inj'.mp e)) (ev_some ?_)
      rw [if_neg (fun e => h2 e.2)]
  · rw [if_neg h]
    refine ev_neg (by simp) (ev_some ?_)
    rw [if_neg]
    intro e
    exact h ⟨by omega, head_clean s, by rw [e.2]; exact e.1⟩
theorem FnExactVerifyChecksum (s : ByteArray) (hs : s.size ≤ 140737488351232) : ∃ k, laws_FnExactVerifyChecksum.f k s = some true := by
  refine Ev.rounds (r := true) ?_
  unfold laws_FnExactVerifyChecksum.f
  by_cases h : (s.size : Int) > 1048576
  · exact ev_pos h (ev_some rfl)
  refine ev_neg h ?_
  refine Ev.bind (spec_VerifyChecksum.ev s (by omega)) ?_
  refine Ev.bind (impl_VerifyChecksum.ev s (by omega)) ?_
  refine ev_pos rfl ?_
  exact ev_neg (by simp) (ev_some rfl)

end Go.Proofs.YthlialpfknefmaaDoor.Pure
