/- The plain side of the law FnStrings: the printed law, whatever its input (within the form's bounds), comes to true. No other condition. -/
import Derived.Test.YtjihgbfhgfmknaaDoorPFnStringsx4
import Derived.Test.YtjihgbfhgfmknaaDoorBase
import Derived.Test.YtjihgbfhgfmknaaDoorMath
namespace Go.Proofs.YtjihgbfhgfmknaaDoor.Pure
open Go.RowKit Go.Proofs.YtjihgbfhgfmknaaDoor.PFnStrings Go.Proofs.YtjihgbfhgfmknaaDoorW.PrintWords Go.Proofs.YtjihgbfhgfmknaaDoorW.PrintLast Go.Proofs.YtjihgbfhgfmknaaDoorW.PrintMore Go.Proofs.YtjihgbfhgfmknaaDoor.Base Go.Proofs.YtjihgbfhgfmknaaDoor.M
set_option linter.unusedVariables false
set_option linter.unusedSimpArgs false

theorem spec_l1In.at (a b c : Int) : spec_l1In.f a b c = some (decide (b ≤ a ∧ a ≤ c)) := by
  unfold spec_l1In.f
  by_cases h : a ≥ b
  · rw [if_pos h]
    simp [show b ≤ a from h]
  · rw [if_neg h]
    simp [show ¬ b ≤ a from h]
theorem impl_within.at (a b c : Int) : impl_within.f a b c = some (decide (b ≤ a ∧ a ≤ c)) := by
  unfold impl_within.f
  by_cases h : a ≥ b
  · rw [if_pos h]
    simp [show b ≤ a from h]
  · rw [if_neg h]
    simp [show ¬ b ≤ a from h]
theorem bits_255 (x : Int) : 0 ≤ Go.bits .and .u64 x 255 ∧ Go.bits .and .u64 x 255 ≤ 255 := by
  have h : (BitVec.ofInt 64 x &&& BitVec.ofInt 64 255).toNat ≤ 255 := by
    rw [BitVec.toNat_and]
    exact Nat.le_trans Nat.and_le_right (by decide)
  have e : ∀ m : Nat, m ≤ 255 → 0 ≤ IntKind.u64.wrap (m : Int) ∧ IntKind.u64.wrap (m : Int) ≤ 255 := by
    intro m hm
    have e1 : IntKind.u64.wrap (m : Int) = (m : Int) % 18446744073709551616 := rfl
    rw [e1]
    omega
  exact e _ h
/-- The next byte of a draw: one place on, 0 to 255. -/
theorem next_tot (l : List Int) (hl8 : ∀ x ∈ l, 0 ≤ x ∧ x ≤ 255) (p s : Int) (h : 0 ≤ p ∧ p ≤ 1000000000) : ∃ v s', spec_l1Cur_next.f l p s = some (v, p + 1, s') ∧ 0 ≤ v ∧ v ≤ 255 := by
  unfold spec_l1Cur_next.f
  rw [w64 (x := p + 1) (by omega) (by omega)]
  have hb : ∀ x : Int, 0 ≤ wrap64 (Go.bits .and .u64 x 255) ∧ wrap64 (Go.bits .and .u64 x 255) ≤ 255 := by
    intro x
    have := bits_255 x
    rw [w64 (by omega) (by omega)]
    exact this
  by_cases c : p < (l.length : Int)
  · have hr : 0 ≤ rd l p ∧ rd l p ≤ 255 := by
      rw [rd_get (n := p.toNat) (by omega) (by omega)]
      exact hl8 _ (List.getElem_mem _)
    rw [if_pos c, if_pos h.1]
    by_cases c2 : p + 1 ≤ (l.length : Int)
    · rw [if_pos c2]
      exact ⟨_, _, rfl, by rw [w64 (by omega) (by omega)]; exact hr⟩
    · rw [if_neg c2]
      exact ⟨_, _, rfl, hb _⟩
  · rw [if_neg c]
    by_cases c2 : p + 1 ≤ (l.length : Int)
    · rw [if_pos c2]
      exact ⟨_, _, rfl, by omega⟩
    · rw [if_neg c2]
      exact ⟨_, _, rfl, hb _⟩
theorem pick_tot (l : List Int) (hl8 : ∀ x ∈ l, 0 ≤ x ∧ x ≤ 255) (p s n : Int) (h : 0 ≤ p ∧ p ≤ 900000000) : ∃ v p' s', spec_l1Cur_pick.f l p s n = some (v, p', s') ∧ 0 ≤ v ∧ (1 ≤ n → v < n) ∧ (n < 1 → v = 0) ∧ 0 ≤ p' ∧ p' ≤ p + 2 := by
  unfold spec_l1Cur_pick.f
  by_cases c : n ≤ 1
  · rw [if_pos c]
    exact ⟨_, _, _, rfl, by omega, by omega, fun _ => rfl, by omega, by omega⟩
  · rw [if_neg c]
    obtain ⟨v, s1, e1, v1, v2⟩ := next_tot l hl8 p s (by omega)
    rw [e1]
    simp only [Option.bind_some]
    by_cases c2 : n > 200
    · rw [if_pos c2]
      obtain ⟨u, s2, e2, u1, u2⟩ := next_tot l hl8 (p + 1) s1 (by omega)
      rw [e2]
      simp only [Option.bind_some]
      rw [if_neg (by omega), w64 (x := v * 256) (by omega) (by omega), w64 (x := v * 256 + u) (by omega) (by omega), Int.tmod_eq_emod_of_nonneg (by omega)]
      exact ⟨_, _, _, rfl, Int.emod_nonneg _ (by omega), fun _ => Int.emod_lt_of_pos _ (by omega), by omega, by omega, by omega⟩
    · rw [if_neg c2, if_neg (by omega), Int.tmod_eq_emod_of_nonneg v1]
      exact ⟨_, _, _, rfl, Int.emod_nonneg _ (by omega), fun _ => Int.emod_lt_of_pos _ (by omega), by omega, by omega, by omega⟩
theorem one_tot (l : List Int) (hl8 : ∀ x ∈ l, 0 ≤ x ∧ x ≤ 255) (p s n : Int) (h : 0 ≤ p ∧ p ≤ 900000000) : ∃ b p' s', spec_l1Cur_one.f l p s n = some (b, p', s') ∧ 0 ≤ p' ∧ p' ≤ p + 2 := by
  unfold spec_l1Cur_one.f
  obtain ⟨v, p', s', e, _, _, _, h1, h2⟩ := pick_tot l hl8 p s n h
  rw [e]
  exact ⟨_, _, _, rfl, h1, h2⟩
theorem among_tot (l : List Int) (hl8 : ∀ x ∈ l, 0 ≤ x ∧ x ≤ 255) (p s : Int) (xs : List Int) (hx : 1 ≤ xs.length ∧ xs.length ≤ 1000) (h : 0 ≤ p ∧ p ≤ 900000000) : ∃ v p' s', spec_l1Cur_among.f l p s xs = some (v, p', s') ∧ v ∈ xs ∧ 0 ≤ p' ∧ p' ≤ p + 2 := by
  unfold spec_l1Cur_among.f
  obtain ⟨v, p', s', e, v0, v1, _, h1, h2⟩ := pick_tot l hl8 p s xs.length h
  have := v1 (by omega)
  rw [e]
  simp only [Option.bind_some]
  rw [if_pos v0, if_pos this, rd_get (n := v.toNat) (by omega) (by omega)]
  exact ⟨_, _, _, rfl, List.getElem_mem _, h1, h2⟩
theorem dig_at (d : Nat) (h : d < 10) : (⟨#[48, 49, 50, 51, 52, 53, 54, 55, 56, 57]⟩ : ByteArray).extract d (d + 1) = ⟨#[UInt8.ofNat (48 + d)]⟩ := by
  have : ∀ q : Fin 10, (⟨#[48, 49, 50, 51, 52, 53, 54, 55, 56, 57]⟩ : ByteArray).extract q.1 (q.1 + 1) = ⟨#[UInt8.ofNat (48 + q.1)]⟩ := by decide +kernel
  exact this ⟨d, h⟩
theorem dec_len (m : Nat) : (Go.Lib.decDigits m).length ≤ m + 1 := by
  induction m using Nat.strongRecOn with
  | _ m ih =>
    unfold Go.Lib.decDigits
    by_cases h : m < 10
    · rw [dif_pos h]
      simp
    · rw [dif_neg h]
      have := ih (m / 10) (by omega)
      simp
      omega
theorem ba_app (a b : List UInt8) : (⟨a.toArray⟩ : ByteArray) ++ (⟨b.toArray⟩ : ByteArray) = ⟨(a ++ b).toArray⟩ := by
  apply ByteArray.ext
  rw [ByteArray.data_append]
  simp
theorem ba_size (a : List UInt8) : (⟨a.toArray⟩ : ByteArray).size = a.length := by simp [ByteArray.size]
theorem num_nat (m : Nat) : m ≤ 1000000000 → Ev (fun k => spec_l1Num.f k (m : Int)) ⟨(Go.Lib.decDigits m).toArray⟩ := by
  induction m using Nat.strongRecOn with
  | _ m ih =>
    intro hm
    refine Ev.step (fun k => by rw [spec_l1Num.f]) ?_
    refine ev_neg (by omega) ?_
    by_cases h : m < 10
    · refine ev_pos (by omega) ?_
      refine ev_pos (by omega) ?_
      have hw : wrap64 ((m : Int) + 1) = ((m + 1 : Nat) : Int) := by rw [w64 (by omega) (by omega)]; omega
      simp only [hw]
      refine ev_pos (by omega) ?_
      refine ev_pos (by omega) ?_
      refine ev_some ?_
      rw [Int.toNat_natCast, Int.toNat_natCast, dig_at m h, Go.Lib.decDigits, dif_pos h]
    · refine ev_neg (by omega) ?_
      have h1 : Int.tdiv (m : Int) 10 = ((m / 10 : Nat) : Int) := by rw [Int.tdiv_eq_ediv_of_nonneg (by omega)]; omega
      have h2 : Int.tmod (m : Int) 10 = ((m % 10 : Nat) : Int) := by rw [Int.tmod_eq_emod_of_nonneg (by omega)]; omega
      have hw : wrap64 ((m / 10 : Nat) : Int) = ((m / 10 : Nat) : Int) := w64 (by omega) (by omega)
      have hw2 : wrap64 (((m % 10 : Nat) : Int) + 1) = ((m % 10 + 1 : Nat) : Int) := by rw [w64 (by omega) (by omega)]; omega
      simp only [h1, h2, hw, hw2]
      refine Ev.bind (ih (m / 10) (by omega) (by omega)) ?_
      refine ev_pos (by omega) ?_
      refine ev_pos (by omega) ?_
      refine ev_pos (by omega) ?_
      rw [Int.toNat_natCast, Int.toNat_natCast, dig_at (m % 10) (by omega)]
      have hl := dec_len (m / 10)
      refine ev_pos ?_ ?_
      · rw [ba_size]
        simp [ByteArray.size]
        omega
      · refine ev_some ?_
        have e := Go.Lib.decDigits
        rw [show (⟨#[UInt8.ofNat (48 + m % 10)]⟩ : ByteArray) = ⟨([UInt8.ofNat (48 + m % 10)] : List UInt8).toArray⟩ from rfl, ba_app]
        conv => rhs; rw [Go.Lib.decDigits, dif_neg h]
theorem spec_l1Num.ev (n : Int) (h0 : -1000000000 ≤ n) (h1 : n ≤ 1000000000) : Ev (fun k => spec_l1Num.f k n) ⟨(Go.Lib.itoa n).toArray⟩ := by
  by_cases h : n < 0
  · refine Ev.step (fun k => by rw [spec_l1Num.f]) ?_
    refine ev_pos h ?_
    have hw : wrap64 (-n) = ((n.natAbs : Nat) : Int) := by rw [w64 (by omega) (by omega)]; omega
    simp only [hw]
    refine Ev.bind (num_nat n.natAbs (by omega)) ?_
    have hl := dec_len n.natAbs
    refine ev_pos ?_ ?_
    · rw [ba_size]
      omega
    · refine ev_some ?_
      rw [show (⟨#[45]⟩ : ByteArray) = ⟨([45] : List UInt8).toArray⟩ from rfl, ba_app, Go.Lib.itoa, if_pos h]
      rfl
  · obtain ⟨m, rfl⟩ : ∃ m : Nat, n = m := ⟨n.toNat, by omega⟩
    rw [Go.Lib.itoa, if_neg h]
    exact num_nat m (by omega)
theorem strconv_Itoa.at (n : Int) (h0 : -1000000000 ≤ n) (h1 : n ≤ 1000000000) : strconv_Itoa.f n = some ⟨(Go.Lib.itoa n).toArray⟩ := by
  unfold strconv_Itoa.f
  rw [if_pos ⟨by omega, by omega⟩]
/-- Does the byte stand in the text, from place i on? -/
def standsAt (s : ByteArray) (c : UInt8) (i : Nat) : Bool := (s.data.toList.drop i).contains c
theorem bt_eq (s : ByteArray) (i : Nat) (h : i < s.size) : bt s i = (s.data.toList[i]'(by simpa using h)).toNat := by
  unfold bt
  rw [dif_pos (by rw [Int.toNat_natCast]; exact h)]
  simp only [Int.toNat_natCast, Array.getElem_toList]
  rfl
theorem stands_ev (s : ByteArray) (c : UInt8) (hs : s.size ≤ 140737488351232) : ∀ (d i : Nat), i + d = s.size → Ev (fun k => spec_l1Stands.l0 k s c.toNat i) (standsAt s c i) := by
  intro d
  induction d with
  | zero =>
    intro i e
    refine Ev.step (fun k => by rw [spec_l1Stands.l0]) ?_
    refine ev_neg (by omega) ?_
    refine ev_some ?_
    unfold standsAt
    rw [List.drop_eq_nil_of_le (by rw [Array.length_toList]; have : s.size = s.data.size := rfl; omega)]
    rfl
  | succ d ih =>
    intro i e
    refine Ev.step (fun k => by rw [spec_l1Stands.l0]) ?_
    refine ev_pos (by omega) ?_
    refine ev_pos (by omega) ?_
    have hi : i < s.size := by omega
    have hl : i < s.data.toList.length := by simpa using hi
    have ed : standsAt s c i = ((s.data.toList[i] == c) || standsAt s c (i + 1)) := by
      unfold standsAt
      rw [List.drop_eq_getElem_cons hl, List.contains_cons]
      congr 1
      exact Bool.eq_iff_iff.mpr ⟨fun h => by simpa using (beq_iff_eq.mp h).symm, fun h => by simpa using (beq_iff_eq.mp h).symm⟩
    rw [bt_eq s i hi]
    by_cases h : s.data.toList[i] = c
    · refine ev_pos (by rw [h]) (ev_some ?_)
      rw [ed, beq_iff_eq.mpr h]
      rfl
    · refine ev_neg (fun e => h (UInt8.toNat_inj.mp (by omega))) ?_
      rw [w64 (x := (i : Int) + 1) (by omega) (by omega), ed, beq_eq_false_iff_ne.mpr h, Bool.false_or]
      exact ih (i + 1) (by omega)
theorem spec_l1Stands.ev (s : ByteArray) (c : UInt8) (hs : s.size ≤ 140737488351232) : Ev (fun k => spec_l1Stands.f k s c.toNat) (s.data.toList.contains c) := by
  have h := stands_ev s c hs s.size 0 (by omega)
  rw [show standsAt s c 0 = s.data.toList.contains c from by unfold standsAt; rw [List.drop_zero]] at h
  exact h
theorem index_has (l : List UInt8) (c : UInt8) : decide (0 ≤ Go.Lib.indexByte l c) = l.contains c := by
  induction l with
  | nil => rfl
  | cons b t ih =>
    unfold Go.Lib.indexByte
    rw [List.contains_cons]
    by_cases h : b = c
    · subst h
      simp
    · rw [if_neg (by simpa using h), show (c == b) = false from by simpa using fun e => h e.symm, Bool.false_or, ← ih]
      by_cases h2 : Go.Lib.indexByte t c == -1
      · rw [if_pos h2]
        have := beq_iff_eq.mp h2
        rw [this]
      · rw [if_neg h2]
        have h3 : Go.Lib.indexByte t c ≠ -1 := by simpa using h2
        have h4 := Go.Lib.indexByte_ge t c
        exact decide_eq_decide.mpr ⟨fun _ => by omega, fun _ => by omega⟩
theorem strings_Contains.at (s : ByteArray) (c : UInt8) : strings_Contains.f s ⟨#[c]⟩ = some (s.data.toList.contains c) := by
  unfold strings_Contains.f
  rw [if_pos (show (⟨#[c]⟩ : ByteArray).size = 1 from rfl), ← index_has]
  rfl
def nextSum (s : ByteArray) (i : Nat) (h : Int) : Int := Int.tmod (wrap64 ((wrap64 ((wrap64 (41 * h)) + (wrap64 (bt s i)))) + 1)) 999979
def sumFrom (s : ByteArray) : Nat → Nat → Int → Int
  | 0, _, h => h
  | d + 1, i, h => sumFrom s d (i + 1) (nextSum s i h)
/-- The checksum, as both sides reckon it. -/
def sumOf (s : ByteArray) : Int := sumFrom s s.size 0 7
theorem sumFrom_both (s : ByteArray) (hs : s.size ≤ 140737488351232) : ∀ (d i : Nat) (h : Int), i + d = s.size →
    Ev (fun k => spec_l1Sum.l0 k s h i) (sumFrom s d i h) ∧ Ev (fun k => impl_checksum.l0 k s h s.size i) (sumFrom s d i h) := by
  intro d
  induction d with
  | zero =>
    intro i h e
    refine ⟨?_, ?_⟩
    · refine Ev.step (fun k => by rw [spec_l1Sum.l0]) ?_
      refine ev_neg (by omega) ?_
      exact ev_some rfl
    · refine Ev.step (fun k => by rw [impl_checksum.l0]) ?_
      refine ev_neg (by omega) ?_
      exact ev_some rfl
  | succ d ih =>
    intro i h e
    obtain ⟨h1, h2⟩ := ih (i + 1) (nextSum s i h) (by omega)
    refine ⟨?_, ?_⟩
    · refine Ev.step (fun k => by rw [spec_l1Sum.l0]) ?_
      refine ev_pos (by omega) ?_
      refine ev_pos (by omega) ?_
      rw [w64 (x := (i : Int) + 1) (by omega) (by omega)]
      exact h1
    · refine Ev.step (fun k => by rw [impl_checksum.l0]) ?_
      refine ev_pos (by omega) ?_
      refine ev_pos (by omega) ?_
      refine ev_pos (by omega) ?_
      rw [w64 (x := (i : Int) + 1) (by omega) (by omega)]
      exact h2
theorem spec_l1Sum.ev (s : ByteArray) (hs : s.size ≤ 140737488351232) : Ev (fun k => spec_l1Sum.f k s) (sumOf s) := (sumFrom_both s hs s.size 0 7 (by omega)).1
theorem impl_checksum.ev (s : ByteArray) (hs : s.size ≤ 140737488351232) : Ev (fun k => impl_checksum.f k s) (sumOf s) := (sumFrom_both s hs s.size 0 7 (by omega)).2
theorem nextSum_range (s : ByteArray) (i : Nat) {h : Int} (h0 : 0 ≤ h) (h1 : h ≤ 999978) : 0 ≤ nextSum s i h ∧ nextSum s i h ≤ 999978 := by
  unfold nextSum
  have hb := bt_range s i
  rw [w64 (x := bt s i) (by omega) (by omega), w64 (x := 41 * h) (by omega) (by omega), w64 (x := 41 * h + bt s i) (by omega) (by omega), w64 (x := 41 * h + bt s i + 1) (by omega) (by omega), Int.tmod_eq_emod_of_nonneg (by omega)]
  omega
theorem sumFrom_range (s : ByteArray) : ∀ (d i : Nat) (h : Int), 0 ≤ h → h ≤ 999978 → 0 ≤ sumFrom s d i h ∧ sumFrom s d i h ≤ 999978
  | 0, _, _, h0, h1 => ⟨h0, h1⟩
  | d + 1, i, h, h0, h1 => sumFrom_range s d (i + 1) (nextSum s i h) (nextSum_range s i h0 h1).1 (nextSum_range s i h0 h1).2
theorem sumOf_range (s : ByteArray) : 0 ≤ sumOf s ∧ sumOf s ≤ 999978 := sumFrom_range s s.size 0 7 (by omega) (by omega)
/-- The text, the sign, the numeral of its checksum. -/
def sealOf (s : ByteArray) : ByteArray := (s ++ (⟨#[35]⟩ : ByteArray)) ++ ⟨(Go.Lib.itoa (sumOf s)).toArray⟩
theorem itoa_len {n : Int} (h0 : 0 ≤ n) : ((⟨(Go.Lib.itoa n).toArray⟩ : ByteArray)).size ≤ n.toNat + 1 := by
  rw [ba_size, Go.Lib.itoa, if_neg (by omega)]
  exact dec_len _
theorem seal_fits (s : ByteArray) (hs : s.size ≤ 140737488351232) : (s ++ (⟨#[35]⟩ : ByteArray)).size + (⟨(Go.Lib.itoa (sumOf s)).toArray⟩ : ByteArray).size ≤ 9223372036854775807 := by
  have h := sumOf_range s
  have hl := itoa_len h.1
  rw [ByteArray.size_append, show (⟨#[35]⟩ : ByteArray).size = 1 from rfl]
  omega
theorem spec_l1Seal.ev (s : ByteArray) (hs : s.size ≤ 140737488351232) : Ev (fun k => spec_l1Seal.f k s) (sealOf s) := by
  unfold spec_l1Seal.f
  have h := sumOf_range s
  refine ev_pos (by omega) ?_
  refine Ev.bind (spec_l1Sum.ev s hs) ?_
  refine Ev.bind (spec_l1Num.ev _ (by omega) (by omega)) ?_
  exact ev_pos (seal_fits s hs) (ev_some rfl)
theorem spec_AppendChecksum.ev (s : ByteArray) (hs : s.size ≤ 140737488351232) : Ev (fun k => spec_AppendChecksum.f k s) (if s.size ≤ 4000 ∧ s.data.toList.contains 35 = false ∧ (sealOf s).size ≤ 4000 then (sealOf s, true) else (⟨#[]⟩, false)) := by
  unfold spec_AppendChecksum.f
  by_cases h1 : (s.size : Int) > 4000
  · exact ev_pos h1 (ev_some (by rw [if_neg (by omega)]))
  · refine ev_neg h1 ?_
    refine Ev.bind (spec_l1Stands.ev s 35 hs) ?_
    cases h2 : s.data.toList.contains 35 with
    | true => exact ev_pos rfl (ev_some (by rw [if_neg (by simp)]))
    | false =>
      refine ev_neg (by simp) ?_
      refine Ev.bind (spec_l1Seal.ev s hs) ?_
      by_cases h3 : ((sealOf s).size : Int) > 4000
      · exact ev_pos h3 (ev_some (by rw [if_neg (by omega)]))
      · refine ev_neg h3 ?_
        refine Ev.bind (spec_l1Seal.ev s hs) ?_
        exact ev_some (by rw [if_pos ⟨by omega, rfl, by omega⟩])
theorem impl_AppendChecksum.ev (s : ByteArray) (hs : s.size ≤ 140737488351232) : Ev (fun k => impl_AppendChecksum.f k s) (if s.size ≤ 4000 ∧ s.data.toList.contains 35 = false ∧ (sealOf s).size ≤ 4000 then (sealOf s, true) else (⟨#[]⟩, false)) := by
  unfold impl_AppendChecksum.f
  have hr := sumOf_range s
  by_cases h1 : (s.size : Int) > 4000
  · refine ev_pos h1 ?_
    refine Ev.step (fun k => by rw [impl_AppendChecksum.j0]) ?_
    exact ev_pos rfl (ev_some (by rw [if_neg (by omega)]))
  · refine ev_neg h1 ?_
    refine Ev.bind (ev_const (strings_Contains.at s 35)) ?_
    refine Ev.step (fun k => by rw [impl_AppendChecksum.j0]) ?_
    cases h2 : s.data.toList.contains 35 with
    | true => exact ev_pos rfl (ev_some (by rw [if_neg (by simp)]))
    | false =>
      refine ev_neg (by simp) ?_
      refine ev_pos (by omega) ?_
      refine Ev.bind (impl_checksum.ev s hs) ?_
      refine Ev.bind (ev_const (strconv_Itoa.at _ (by omega) (by omega))) ?_
      refine ev_pos (seal_fits s hs) ?_
      by_cases h3 : ((sealOf s).size : Int) > 4000
      · exact ev_pos h3 (ev_some (by rw [if_neg (by omega)]))
      · refine ev_neg h3 ?_
        exact ev_some (by rw [if_pos ⟨by omega, rfl, by omega⟩]; rfl)
/-- A piece that is under way, laid ahead of what follows. -/
def glue (p : List UInt8) : List (List UInt8) → List (List UInt8)
  | [] => [p]
  | x :: r => (p ++ x) :: r
/-- The parts of a text between bytes. -/
def parts (c : UInt8) : List UInt8 → List (List UInt8)
  | [] => [[]]
  | b :: t => if b = c then [] :: parts c t else glue [b] (parts c t)
theorem glue_ne (p : List UInt8) (L : List (List UInt8)) : glue p L ≠ [] := by cases L <;> simp [glue]
theorem parts_ne (c : UInt8) (l : List UInt8) : parts c l ≠ [] := by
  cases l with
  | nil => simp [parts]
  | cons b t =>
    unfold parts
    by_cases h : b = c
    · rw [if_pos h]; simp
    · rw [if_neg h]; exact glue_ne _ _
theorem glue_nil {L : List (List UInt8)} (h : L ≠ []) : glue [] L = L := by
  cases L with
  | nil => exact absurd rfl h
  | cons x r => rfl
theorem glue_glue (p : List UInt8) (b : UInt8) {L : List (List UInt8)} (h : L ≠ []) : glue p (glue [b] L) = glue (p ++ [b]) L := by
  cases L with
  | nil => exact absurd rfl h
  | cons x r => simp [glue]
theorem parts_head (c : UInt8) : ∀ l : List UInt8, ∃ r, parts c l = l.takeWhile (· != c) :: r
  | [] => ⟨[], rfl⟩
  | b :: t => by
    obtain ⟨r, hr⟩ := parts_head c t
    unfold parts
    by_cases h : b = c
    · rw [if_pos h]
      exact ⟨parts c t, by rw [List.takeWhile_cons]; simp [h]⟩
    · rw [if_neg h, hr]
      exact ⟨r, by simp [glue, h]⟩
def ba (l : List UInt8) : ByteArray := ⟨l.toArray⟩
theorem ba_data (s : ByteArray) : ba s.data.toList = s := by
  unfold ba
  apply ByteArray.ext
  simp
theorem ba_toList (l : List UInt8) : (ba l).data.toList = l := by simp [ba]
theorem ba_len (l : List UInt8) : (ba l).size = l.length := by simp [ba, ByteArray.size]
theorem extract_ba (s : ByteArray) (a b : Nat) : s.extract a b = ba ((s.data.toList.drop a).take (b - a)) := by
  rw [← Go.Lib.extract_data]
  exact (ba_data _).symm
theorem size_data (s : ByteArray) : s.data.toList.length = s.size := by
  rw [Array.length_toList]
  rfl
theorem index_take (l : List UInt8) (c : UInt8) : (Go.Lib.indexByte l c = -1 ∧ l.takeWhile (· != c) = l ∧ c ∉ l) ∨ ∃ i : Nat, Go.Lib.indexByte l c = i ∧ l.takeWhile (· != c) = l.take i ∧ i < l.length := by
  induction l with
  | nil => exact .inl ⟨rfl, rfl, by simp⟩
  | cons b t ih =>
    unfold Go.Lib.indexByte
    by_cases h : b = c
    · subst h
      exact .inr ⟨0, by simp, by simp, by simp⟩
    · rw [if_neg (by simpa using h)]
      have hb : (b != c) = true := by simpa using h
      rcases ih with ⟨h1, h2, h3⟩ | ⟨i, h1, h2, h3⟩
      · exact .inl ⟨by rw [h1]; rfl, by rw [List.takeWhile_cons, hb, if_pos rfl, h2], by simp [h3]; exact fun e => h e.symm⟩
      · refine .inr ⟨i + 1, ?_, ?_, by simp; omega⟩
        · rw [h1, if_neg (by intro e; have := beq_iff_eq.mp e; omega)]
          rfl
        · rw [List.takeWhile_cons, hb, if_pos rfl, h2, List.take_succ_cons]
theorem cut_fst (l : List UInt8) (c : UInt8) : (Go.Lib.cut l [c]).1 = l.takeWhile (· != c) := by
  unfold Go.Lib.cut
  rw [Go.Lib.index_one]
  rcases index_take l c with ⟨h1, h2, h3⟩ | ⟨i, h1, h2, h3⟩
  · rw [h1, if_neg (by decide), h2]
  · rw [h1, if_pos (by omega), h2]
    simp
def headOf (s : ByteArray) : ByteArray := ba (s.data.toList.takeWhile (· != 35))
theorem head_size (s : ByteArray) : (headOf s).size ≤ s.size := by
  unfold headOf
  rw [ba_len, ← size_data]
  exact (List.takeWhile_sublist _).length_le
theorem head_clean (s : ByteArray) : (headOf s).data.toList.contains 35 = false := by
  unfold headOf
  rw [ba_toList, Bool.eq_false_iff]
  intro h
  rw [List.contains_iff_mem] at h
  have h2 := List.all_eq_true.mp (List.all_takeWhile (p := fun x : UInt8 => x != 35) (l := s.data.toList)) 35 h
  simp at h2
def verifyOf (s : ByteArray) : ByteArray × Bool := if s.size ≤ 4000 ∧ sealOf (headOf s) = s then (headOf s, true) else (⟨#[]⟩, false)
theorem toList_inj' {a b : ByteArray} : a.toList = b.toList ↔ a = b := ⟨fun h => by rw [ByteArray.toList_eq, ByteArray.toList_eq] at h; rw [← ba_data a, ← ba_data b, h], fun h => by rw [h]⟩
theorem impl_VerifyChecksum.ev (s : ByteArray) (hs : s.size ≤ 1048576) : Ev (fun k => impl_VerifyChecksum.f k s) (verifyOf s) := by
  unfold impl_VerifyChecksum.f verifyOf strings_Cut.f
  rw [if_pos (by omega)]
  simp only [Option.bind_some]
  have e : (⟨(Go.Lib.cut s.data.toList (⟨#[35]⟩ : ByteArray).data.toList).1.toArray⟩ : ByteArray) = headOf s := by
    rw [show (⟨#[35]⟩ : ByteArray).data.toList = [35] from rfl, cut_fst]
    rfl
  rw [e]
  have hz := head_size s
  refine Ev.bind (impl_AppendChecksum.ev (headOf s) (by omega)) ?_
  by_cases h : (headOf s).size ≤ 4000 ∧ (headOf s).data.toList.contains 35 = false ∧ (sealOf (headOf s)).size ≤ 4000
  · rw [if_pos h]
    refine ev_pos rfl ?_
    by_cases h2 : sealOf (headOf s) = s
    · refine ev_pos (toList_inj'.mpr h2) (ev_some ?_)
      rw [if_pos ⟨by rw [h2] at h; exact h.2.2, h2⟩]
    · refine ev_neg (fun e => h2 (toList_inj'.mp e)) (ev_some ?_)
      rw [if_neg (fun e => h2 e.2)]
  · rw [if_neg h]
    refine ev_neg (by simp) (ev_some ?_)
    rw [if_neg]
    intro e
    exact h ⟨by omega, head_clean s, by rw [e.2]; exact e.1⟩
open Go.Lib in
theorem decFrom_snoc (b : UInt8) : ∀ (l : List UInt8) (acc : Nat), decFrom acc (l ++ [b]) = (decFrom acc l).bind fun n => (digitVal b).map fun d => n * 10 + d
  | [], acc => by
    simp only [List.nil_append, decFrom, Option.bind_some]
    cases digitVal b <;> rfl
  | a :: t, acc => by
    simp only [List.cons_append, decFrom]
    cases digitVal a with
    | none => rfl
    | some d => exact decFrom_snoc b t _
theorem digit_of (d : Nat) (h : d < 10) : Go.Lib.digitVal (UInt8.ofNat (48 + d)) = some d := by
  have : ∀ q : Fin 10, Go.Lib.digitVal (UInt8.ofNat (48 + q.1)) = some q.1 := by decide +kernel
  exact this ⟨d, h⟩
theorem dec_val (m : Nat) : Go.Lib.decFrom 0 (Go.Lib.decDigits m) = some m := by
  induction m using Nat.strongRecOn with
  | _ m ih =>
    unfold Go.Lib.decDigits
    by_cases h : m < 10
    · rw [dif_pos h]
      simp only [Go.Lib.decFrom, digit_of m h]
      simp
    · rw [dif_neg h, decFrom_snoc, ih (m / 10) (by omega), digit_of (m % 10) (by omega)]
      simp
      omega
theorem dec_ne (m : Nat) : Go.Lib.decDigits m ≠ [] := by
  unfold Go.Lib.decDigits
  by_cases h : m < 10
  · rw [dif_pos h]; simp
  · rw [dif_neg h]; simp
theorem dec_len6 : ∀ (k m : Nat), m < 10 ^ (k + 1) → (Go.Lib.decDigits m).length ≤ k + 1
  | 0, m, h => by
    unfold Go.Lib.decDigits
    rw [dif_pos (by omega)]
    simp
  | k + 1, m, h => by
    unfold Go.Lib.decDigits
    by_cases h2 : m < 10
    · rw [dif_pos h2]; simp
    · rw [dif_neg h2, List.length_append]
      have := dec_len6 k (m / 10) (by rw [Nat.pow_succ] at h; omega)
      simp
      omega
theorem dec_head (m : Nat) : ∃ b r, Go.Lib.decDigits m = b :: r ∧ b ≠ 45 ∧ b ≠ 43 := by
  cases h : Go.Lib.decDigits m with
  | nil => exact absurd h (dec_ne m)
  | cons b r =>
    refine ⟨b, r, rfl, ?_⟩
    have hv := dec_val m
    rw [h] at hv
    obtain ⟨d, hd⟩ := Go.Lib.digit_of_decFrom _ _ _ hv 0 b rfl
    have := Go.Lib.digitVal_eq hd
    exact ⟨by rintro rfl; have := this.1; revert this; decide, by rintro rfl; have := this.1; revert this; decide⟩
theorem decNat_dec (m : Nat) : Go.Lib.decNat (Go.Lib.decDigits m) = some m := by
  unfold Go.Lib.decNat
  rw [if_neg (by simpa using dec_ne m), dec_val]
theorem atoi_itoa (n : Int) : Go.Lib.atoi (Go.Lib.itoa n) = some n := by
  unfold Go.Lib.itoa
  by_cases h : n < 0
  · rw [if_pos h]
    simp only [Go.Lib.atoi]
    rw [if_pos (by rfl), decNat_dec]
    simp only [Option.map_some]
    congr 1
    omega
  · rw [if_neg h]
    obtain ⟨b, r, e, h1, h2⟩ := dec_head n.toNat
    rw [e]
    simp only [Go.Lib.atoi]
    rw [if_neg (by simpa using h1), if_neg (by simpa using h2), ← e, decNat_dec]
    simp only [Option.map_some]
    congr 1
    omega
/-- The number that this text spells, as both sides take it. -/
def Spells (n : Int) (l : List UInt8) : Prop := (-999999 ≤ n ∧ n ≤ 999999) ∧ Go.Lib.itoa n = l
def readOn (l t : List UInt8) : Int × Bool :=
  if 1 ≤ t.length ∧ t.length ≤ 6 then
    match Go.Lib.decFrom 0 t with
    | none => (0, false)
    | some v => if Go.Lib.itoa (if t.length < l.length then -(v : Int) else v) = l then ((if t.length < l.length then -(v : Int) else v), true) else (0, false)
  else (0, false)
def readL (l : List UInt8) : Int × Bool := readOn l (if 1 < l.length ∧ l.head? = some 45 then l.tail else l)
theorem readL_spells {n : Int} {l : List UInt8} (h : Spells n l) : readL l = (n, true) := by
  obtain ⟨⟨h0, h1⟩, rfl⟩ := h
  have hd := dec_ne n.natAbs
  have hd2 := dec_ne n.toNat
  unfold readL readOn
  by_cases hn : n < 0
  · have e : Go.Lib.itoa n = 45 :: Go.Lib.decDigits n.natAbs := by unfold Go.Lib.itoa; rw [if_pos hn]
    have hl := dec_len6 5 n.natAbs (by omega)
    have hp : 0 < (Go.Lib.decDigits n.natAbs).length := List.length_pos_iff.mpr hd
    have c : 1 < (Go.Lib.itoa n).length ∧ (Go.Lib.itoa n).head? = some 45 := by rw [e]; simp; omega
    rw [if_pos c, show (Go.Lib.itoa n).tail = Go.Lib.decDigits n.natAbs from by rw [e]; rfl, if_pos ⟨by omega, by omega⟩, dec_val]
    have hlt : (Go.Lib.decDigits n.natAbs).length < (Go.Lib.itoa n).length := by rw [e]; simp
    simp only [if_pos hlt]
    rw [show -((n.natAbs : Nat) : Int) = n by omega, if_pos rfl]
  · have e : Go.Lib.itoa n = Go.Lib.decDigits n.toNat := by unfold Go.Lib.itoa; rw [if_neg hn]
    have hl := dec_len6 5 n.toNat (by omega)
    have hp : 0 < (Go.Lib.decDigits n.toNat).length := List.length_pos_iff.mpr hd2
    obtain ⟨b, r, eb, hb, _⟩ := dec_head n.toNat
    have c : ¬ (1 < (Go.Lib.itoa n).length ∧ (Go.Lib.itoa n).head? = some 45) := by
      rw [e, eb]
      simp [hb]
    rw [if_neg c, if_pos ⟨by rw [e]; omega, by rw [e]; omega⟩]
    rw [show Go.Lib.decFrom 0 (Go.Lib.itoa n) = some n.toNat by rw [e, dec_val]]
    simp only [Nat.lt_irrefl, if_false]
    rw [show ((n.toNat : Nat) : Int) = n by omega, if_pos rfl]
theorem readOn_cases (l t : List UInt8) : readOn l t = (0, false) ∨ ∃ n, readOn l t = (n, true) ∧ Spells n l := by
  unfold readOn
  by_cases c : 1 ≤ t.length ∧ t.length ≤ 6
  · rw [if_pos c]
    cases hv : Go.Lib.decFrom 0 t with
    | none => exact .inl rfl
    | some v =>
      have hlt := Go.Lib.decFrom_lt _ _ _ hv
      have h6 : 10 ^ t.length ≤ 10 ^ 6 := Nat.pow_le_pow_right (by decide) c.2
      have hv6 : v < 1000000 := by omega
      simp only
      by_cases e : Go.Lib.itoa (if t.length < l.length then -(v : Int) else v) = l
      · rw [if_pos e]
        refine .inr ⟨_, rfl, ⟨?_, e⟩⟩
        by_cases q : t.length < l.length
        · rw [if_pos q]; omega
        · rw [if_neg q]; omega
      · rw [if_neg e]
        exact .inl rfl
  · rw [if_neg c]
    exact .inl rfl
theorem readL_cases (l : List UInt8) : readL l = (0, false) ∨ ∃ n, readL l = (n, true) ∧ Spells n l := readOn_cases l _
theorem impl_ParseInt.at (s : ByteArray) : impl_ParseInt.f s = some (readL s.data.toList) := by
  have hsz := size_data s
  have hit : ∀ n : Int, (⟨(Go.Lib.itoa n).toArray⟩ : ByteArray) = s ↔ Go.Lib.itoa n = s.data.toList := fun n =>
    ⟨fun e => by rw [← e], fun e => by rw [e]⟩
  have key : ∀ n : Int, Spells n s.data.toList → impl_ParseInt.f s = some (n, true) := by
    intro n h
    have ha : Go.Lib.atoi s.data.toList = some n := by rw [← h.2, atoi_itoa]
    have hl : s.size ≤ 7 := by
      rw [← hsz, ← h.2]
      unfold Go.Lib.itoa
      have := h.1
      by_cases hn : n < 0
      · rw [if_pos hn, List.length_cons]
        have := dec_len6 5 n.natAbs (by omega)
        omega
      · rw [if_neg hn]
        have := dec_len6 5 n.toNat (by omega)
        omega
    unfold impl_ParseInt.f
    rw [if_neg (by omega), ha]
    simp only
    rw [if_pos ⟨h.1, (hit n).mpr h.2⟩]
  rcases readL_cases s.data.toList with e | ⟨n, e, h⟩
  · rw [e]
    unfold impl_ParseInt.f
    by_cases c : s.size > 7
    · rw [if_pos c]
    · rw [if_neg c]
      cases ha : Go.Lib.atoi s.data.toList with
      | none => rfl
      | some n =>
        simp only
        by_cases q : (-999999 ≤ n ∧ n ≤ 999999) ∧ (⟨(Go.Lib.itoa n).toArray⟩ : ByteArray) = s
        · have := readL_spells ⟨q.1, (hit n).mp q.2⟩
          rw [e] at this
          exact absurd (congrArg Prod.snd this) (by simp)
        · rw [if_neg q]
  · rw [e, key n h]
theorem readLoop_ev (s t : ByteArray) (ht : t.size ≤ 6) (hs : s.size ≤ 140737488351232) : ∀ (d i n : Nat), i + d = t.size → n + 1 ≤ 10 ^ i →
    Ev (fun k => spec_l1Read.l0 k s t n i) (match Go.Lib.decFrom n (t.data.toList.drop i) with
      | none => (0, false)
      | some v => if Go.Lib.itoa (if t.size < s.size then -(v : Int) else v) = s.data.toList then ((if t.size < s.size then -(v : Int) else v), true) else (0, false)) := by
  intro d
  induction d with
  | zero =>
    intro i n e hn
    have h6 : 10 ^ i ≤ 10 ^ 6 := Nat.pow_le_pow_right (by decide) (by omega)
    refine Ev.step (fun k => by rw [spec_l1Read.l0]) ?_
    refine ev_neg (by omega) ?_
    rw [List.drop_eq_nil_of_le (by rw [size_data]; omega)]
    simp only [Go.Lib.decFrom]
    have hl : ∀ z : Int, (⟨(Go.Lib.itoa z).toArray⟩ : ByteArray).toList = s.toList ↔ Go.Lib.itoa z = s.data.toList := by
      intro z
      rw [ByteArray.toList_eq, ByteArray.toList_eq]
    by_cases c : t.size < s.size
    · simp only [if_pos c]
      refine ev_pos (by omega) ?_
      have hw : wrap64 (-(n : Int)) = -(n : Int) := w64 (by omega) (by omega)
      simp only [hw]
      refine Ev.bind (spec_l1Num.ev _ (by omega) (by omega)) ?_
      by_cases q : Go.Lib.itoa (-(n : Int)) = s.data.toList
      · rw [if_pos q]
        exact ev_pos ((hl _).mpr q) (ev_some rfl)
      · rw [if_neg q]
        exact ev_neg (fun e => q ((hl _).mp e)) (ev_some rfl)
    · simp only [if_neg c]
      refine ev_neg (by omega) ?_
      refine Ev.bind (spec_l1Num.ev _ (by omega) (by omega)) ?_
      by_cases q : Go.Lib.itoa (n : Int) = s.data.toList
      · rw [if_pos q]
        exact ev_pos ((hl _).mpr q) (ev_some rfl)
      · rw [if_neg q]
        exact ev_neg (fun e => q ((hl _).mp e)) (ev_some rfl)
  | succ d ih =>
    intro i n e hn
    have hi : i < t.size := by omega
    have hl : i < t.data.toList.length := by rw [size_data]; exact hi
    have h5 : 10 ^ i ≤ 10 ^ 5 := Nat.pow_le_pow_right (by decide) (by omega)
    refine Ev.step (fun k => by rw [spec_l1Read.l0]) ?_
    refine ev_pos (by omega) ?_
    refine ev_pos (by omega) ?_
    rw [bt_eq t i hi, List.drop_eq_getElem_cons hl]
    simp only [Go.Lib.decFrom]
    by_cases c : 48 ≤ (t.data.toList[i]).toNat ∧ (t.data.toList[i]).toNat ≤ 57
    · rw [show Go.Lib.digitVal t.data.toList[i] = some ((t.data.toList[i]).toNat - 48) by unfold Go.Lib.digitVal; rw [if_pos c]]
      refine ev_neg (by omega) ?_
      refine ev_neg (by omega) ?_
      have hw : wrap64 (wrap64 (10 * (n : Int)) + ((((t.data.toList[i]).toNat : Int) - 48) % 256)) = ((n * 10 + ((t.data.toList[i]).toNat - 48) : Nat) : Int) := by
        rw [w64 (x := 10 * (n : Int)) (by omega) (by omega), w64 (by omega) (by omega)]
        omega
      rw [hw, w64 (x := (i : Int) + 1) (by omega) (by omega)]
      exact ih (i + 1) _ (by omega) (by rw [Nat.pow_succ]; omega)
    · rw [show Go.Lib.digitVal t.data.toList[i] = none by unfold Go.Lib.digitVal; rw [if_neg c]]
      by_cases c2 : ((t.data.toList[i]).toNat : Int) < 48
      · exact ev_pos c2 (ev_some rfl)
      · exact ev_neg c2 (ev_pos (by omega) (ev_some rfl))
theorem readOn_ev (s t : ByteArray) (hs : s.size ≤ 140737488351232) : Ev (fun k => spec_l1Read.j1 k s t) (readOn s.data.toList t.data.toList) := by
  refine Ev.step (fun k => by rw [spec_l1Read.j1]) ?_
  rw [spec_l1In.at]
  simp only [Option.bind_some]
  unfold readOn
  rw [size_data, size_data]
  by_cases c : 1 ≤ t.size ∧ t.size ≤ 6
  · rw [if_pos c]
    refine ev_pos (by simp; omega) ?_
    have h := readLoop_ev s t c.2 hs t.size 0 0 (by omega) (by simp)
    rw [List.drop_zero] at h
    exact h
  · rw [if_neg c]
    exact ev_neg (by simp; omega) (ev_some rfl)
theorem spec_l1Read.ev (s : ByteArray) (hs : s.size ≤ 140737488351232) : Ev (fun k => spec_l1Read.f k s) (readL s.data.toList) := by
  unfold spec_l1Read.f readL
  rw [size_data]
  by_cases c : s.size > 1
  · refine ev_pos (by omega) ?_
    refine ev_pos (by omega) ?_
    refine Ev.step (fun k => by rw [spec_l1Read.j0]) ?_
    have hb := bt_eq s 0 (by omega)
    rw [show ((0 : Nat) : Int) = 0 from rfl] at hb
    rw [hb]
    have hh : s.data.toList.head? = some (s.data.toList[0]'(by rw [size_data]; omega)) := by
      rw [List.head?_eq_getElem?, List.getElem?_eq_getElem]
    rw [hh]
    by_cases q : s.data.toList[0]'(by rw [size_data]; omega) = 45
    · refine ev_pos (by rw [q]; rfl) ?_
      refine ev_pos (by omega) ?_
      rw [if_pos ⟨c, by rw [q]⟩]
      have h := readOn_ev s (s.extract 1 s.size) hs
      rw [show (s.extract 1 s.size).data.toList = s.data.toList.tail by rw [extract_ba, ba_toList, List.take_of_length_le (by rw [List.length_drop, size_data]; omega), List.drop_one]] at h
      exact h
    · refine ev_neg ?_ ?_
      · intro e
        have e2 := beq_iff_eq.mp e
        exact q (UInt8.toNat_inj.mp (by have : (45 : UInt8).toNat = 45 := rfl; omega))
      · rw [if_neg (fun z => q (Option.some.inj z.2))]
        exact readOn_ev s s hs
  · refine ev_neg (by omega) ?_
    refine Ev.step (fun k => by rw [spec_l1Read.j0]) ?_
    refine ev_neg (by simp) ?_
    rw [if_neg (fun z => c z.1)]
    exact readOn_ev s s hs
theorem of_tot (l : List Int) (hl8 : ∀ x ∈ l, 0 ≤ x ∧ x ≤ 255) (p s : Int) (xs : List ByteArray) (hx : 1 ≤ xs.length ∧ xs.length ≤ 1000) (h : 0 ≤ p ∧ p ≤ 900000000) : ∃ v p' s', spec_l1Cur_of.f l p s xs = some (v, p', s') ∧ v ∈ xs ∧ 0 ≤ p' ∧ p' ≤ p + 2 := by
  unfold spec_l1Cur_of.f
  obtain ⟨v, p', s', e, v0, v1, _, h1, h2⟩ := pick_tot l hl8 p s xs.length h
  have hv := v1 (by omega)
  rw [e]
  simp only [Option.bind_some]
  rw [if_pos v0, if_pos hv]
  refine ⟨_, _, _, rfl, ?_, h1, h2⟩
  have hn : v.toNat < xs.length := by omega
  have : rdOf ByteArray.empty xs v = xs[v.toNat] := by
    unfold rdOf
    simp [List.getD_eq_getElem?_getD, List.getElem?_eq_getElem hn]
  rw [this]
  exact List.getElem_mem _
theorem any1_tot (l : List Int) (hl8 : ∀ x ∈ l, 0 ≤ x ∧ x ≤ 255) (p s : Int) (h : 0 ≤ p ∧ p ≤ 900000000) : ∃ v p' s', spec_l1Cur_any1.f l p s = some (v, p', s') ∧ v.size ≤ 10 ∧ 0 ≤ p' ∧ p' ≤ p + 2 := by
  unfold spec_l1Cur_any1.f
  obtain ⟨v, p', s', e, hv, h1, h2⟩ := of_tot l hl8 p s ([(⟨#[]⟩ : ByteArray), (⟨#[97]⟩ : ByteArray), (⟨#[97, 44, 98]⟩ : ByteArray), (⟨#[115, 111, 109, 101, 32, 119, 111, 114, 100, 115]⟩ : ByteArray), (⟨#[120, 35, 121]⟩ : ByteArray), (⟨#[45, 49, 50]⟩ : ByteArray), (⟨#[0, 255]⟩ : ByteArray), (⟨#[44, 44]⟩ : ByteArray), (⟨#[48]⟩ : ByteArray)] : List ByteArray) (by simp) h
  rw [e]
  refine ⟨_, _, _, rfl, ?_, h1, h2⟩
  show v.size ≤ 10
  simp at hv
  rcases hv with rfl | rfl | rfl | rfl | rfl | rfl | rfl | rfl | rfl <;> decide
theorem drawFormatInt_tot (l : List Int) (hl8 : ∀ x ∈ l, 0 ≤ x ∧ x ≤ 255) : ∃ n, spec_DrawFormatInt.f l = some n ∧ -1000000 ≤ n ∧ n ≤ 1000000 := by
  unfold spec_DrawFormatInt.f
  obtain ⟨v, p1, s1, e, v0, v1, _, h1, h2⟩ := pick_tot l hl8 0 0 1000 (by omega)
  have hv := v1 (by omega)
  rw [e]
  simp only [Option.bind_some]
  rw [if_pos ⟨v0, by omega⟩]
  obtain ⟨n, p2, s2, e2, hn, h3, h4⟩ := among_tot l hl8 p1 s1 [0, 1, -1, 10, 999999, -999999, 1000000, -1000000, v - 500] (by simp) (by omega)
  rw [e2]
  refine ⟨n, rfl, ?_⟩
  simp at hn
  omega
theorem drawParseInt_tot (l : List Int) (hl8 : ∀ x ∈ l, 0 ≤ x ∧ x ≤ 255) : ∃ t, Ev (fun k => spec_DrawParseInt.f k l) t ∧ t.size ≤ 1000000 := by
  unfold spec_DrawParseInt.f
  obtain ⟨b, p1, s1, e, h1, h2⟩ := one_tot l hl8 0 0 2 (by omega)
  rw [e]
  simp only [Option.bind_some]
  cases b with
  | true =>
    obtain ⟨v, p2, s2, e2, hv, h3, h4⟩ := of_tot l hl8 p1 s1 [(⟨#[]⟩ : ByteArray), (⟨#[45]⟩ : ByteArray), (⟨#[45, 48]⟩ : ByteArray), (⟨#[48, 48]⟩ : ByteArray), (⟨#[48, 49]⟩ : ByteArray), (⟨#[45, 45, 49]⟩ : ByteArray), (⟨#[49, 120]⟩ : ByteArray), (⟨#[57, 57, 57, 57, 57, 57]⟩ : ByteArray), (⟨#[49, 48, 48, 48, 48, 48, 48]⟩ : ByteArray), (⟨#[45, 57, 57, 57, 57, 57, 57]⟩ : ByteArray), (⟨#[49, 56, 52, 52, 54, 55, 52, 52, 48, 55, 51, 55, 48, 57, 53, 53, 49, 54, 49, 55]⟩ : ByteArray)] (by simp) (by omega)
    refine ⟨v, ?_, ?_⟩
    · refine ev_pos rfl ?_
      rw [e2]
      exact ev_some rfl
    · simp at hv
      rcases hv with rfl | rfl | rfl | rfl | rfl | rfl | rfl | rfl | rfl | rfl | rfl <;> decide
  | false =>
    obtain ⟨v, p2, s2, e2, v0, v1, _, h3, h4⟩ := pick_tot l hl8 p1 s1 2000 (by omega)
    have hv := v1 (by omega)
    refine ⟨⟨(Go.Lib.itoa (v - 1000)).toArray⟩, ?_, ?_⟩
    · refine ev_neg (by simp) ?_
      rw [e2]
      simp only [Option.bind_some]
      refine ev_pos ⟨v0, by omega⟩ ?_
      exact spec_l1Num.ev _ (by omega) (by omega)
    · rw [ba_size]
      unfold Go.Lib.itoa
      by_cases q : v - 1000 < 0
      · rw [if_pos q, List.length_cons]
        have := dec_len (v - 1000).natAbs
        omega
      · rw [if_neg q]
        have := dec_len (v - 1000).toNat
        omega
theorem drawAppendChecksum_tot (l : List Int) (hl8 : ∀ x ∈ l, 0 ≤ x ∧ x ≤ 255) : ∃ x, spec_DrawAppendChecksum.f l = some x ∧ x.size ≤ 4000 := by
  unfold spec_DrawAppendChecksum.f
  obtain ⟨b, p1, s1, e, h1, h2⟩ := one_tot l hl8 0 0 20 (by omega)
  rw [e]
  simp only [Option.bind_some]
  cases b with
  | true =>
    obtain ⟨v, p2, s2, e2, v0, v1, _, h3, h4⟩ := pick_tot l hl8 p1 s1 10 (by omega)
    have hv := v1 (by omega)
    rw [if_pos rfl, e2]
    simp only [Option.bind_some]
    rw [if_pos ⟨v0, by omega⟩]
    refine ⟨_, rfl, ?_⟩
    unfold strOfNums
    rw [ba_size, List.length_map, List.length_replicate]
    omega
  | false =>
    obtain ⟨v, p2, s2, e2, hv, h3, h4⟩ := any1_tot l hl8 p1 s1 (by omega)
    rw [if_neg (by simp), e2]
    exact ⟨v, rfl, by omega⟩
/-! A sealed text with one byte changed is no sealed text. -/
theorem next_inj (s s' : ByteArray) (i : Nat) {h h' : Int} (h0 : 0 ≤ h) (h1 : h ≤ 999978) (g0 : 0 ≤ h') (g1 : h' ≤ 999978) (hb : bt s i = bt s' i) (hne : h ≠ h') : nextSum s i h ≠ nextSum s' i h' := by
  unfold nextSum
  have hb1 := bt_range s i
  have hb2 := bt_range s' i
  rw [w64 (x := bt s i) (by omega) (by omega), w64 (x := 41 * h) (by omega) (by omega), w64 (x := 41 * h + bt s i) (by omega) (by omega), w64 (x := 41 * h + bt s i + 1) (by omega) (by omega), Int.tmod_eq_emod_of_nonneg (by omega)]
  rw [w64 (x := bt s' i) (by omega) (by omega), w64 (x := 41 * h') (by omega) (by omega), w64 (x := 41 * h' + bt s' i) (by omega) (by omega), w64 (x := 41 * h' + bt s' i + 1) (by omega) (by omega), Int.tmod_eq_emod_of_nonneg (by omega)]
  omega
theorem next_ne (s s' : ByteArray) (i : Nat) {h : Int} (h0 : 0 ≤ h) (h1 : h ≤ 999978) (hb : bt s i ≠ bt s' i) : nextSum s i h ≠ nextSum s' i h := by
  unfold nextSum
  have hb1 := bt_range s i
  have hb2 := bt_range s' i
  rw [w64 (x := bt s i) (by omega) (by omega), w64 (x := 41 * h) (by omega) (by omega), w64 (x := 41 * h + bt s i) (by omega) (by omega), w64 (x := 41 * h + bt s i + 1) (by omega) (by omega), Int.tmod_eq_emod_of_nonneg (by omega)]
  rw [w64 (x := bt s' i) (by omega) (by omega), w64 (x := 41 * h + bt s' i) (by omega) (by omega), w64 (x := 41 * h + bt s' i + 1) (by omega) (by omega), Int.tmod_eq_emod_of_nonneg (by omega)]
  omega
theorem sums_apart (s s' : ByteArray) : ∀ (d i : Nat) (h h' : Int), 0 ≤ h → h ≤ 999978 → 0 ≤ h' → h' ≤ 999978 → (∀ j, i ≤ j → j < i + d → bt s j = bt s' j) → h ≠ h' → sumFrom s d i h ≠ sumFrom s' d i h'
  | 0, _, _, _, _, _, _, _, _, hne => hne
  | d + 1, i, h, h', h0, h1, g0, g1, hb, hne => by
    have r1 := nextSum_range s i h0 h1
    have r2 := nextSum_range s' i g0 g1
    exact sums_apart s s' d (i + 1) _ _ r1.1 r1.2 r2.1 r2.2 (fun j hj hj2 => hb j (by omega) (by omega)) (next_inj s s' i h0 h1 g0 g1 (hb i (Nat.le_refl _) (by omega)) hne)
theorem sums_one (s s' : ByteArray) (p : Nat) (hp : bt s p ≠ bt s' p) : ∀ (d i : Nat) (h : Int), 0 ≤ h → h ≤ 999978 → (∀ j, i ≤ j → j < i + d → j ≠ p → bt s j = bt s' j) → i ≤ p → p < i + d → sumFrom s d i h ≠ sumFrom s' d i h
  | 0, _, _, _, _, _, _, _ => by omega
  | d + 1, i, h, h0, h1, hb, hi, hd => by
    have r1 := nextSum_range s i h0 h1
    have r2 := nextSum_range s' i h0 h1
    by_cases e : i = p
    · subst e
      exact sums_apart s s' d (i + 1) _ _ r1.1 r1.2 r2.1 r2.2 (fun j hj hj2 => hb j (by omega) (by omega) (by omega)) (next_ne s s' i h0 h1 hp)
    · have e2 : nextSum s i h = nextSum s' i h := by
        unfold nextSum
        rw [hb i (Nat.le_refl _) (by omega) e]
      show sumFrom s d (i + 1) (nextSum s i h) ≠ sumFrom s' d (i + 1) (nextSum s' i h)
      rw [← e2]
      exact sums_one s s' p hp d (i + 1) _ r1.1 r1.2 (fun j hj hj2 hj3 => hb j (by omega) (by omega) hj3) (by omega) (by omega)
theorem bt_get (l : List UInt8) (i : Nat) (hi : i < l.length) : bt (ba l) i = ((l[i]).toNat : Int) := by
  rw [bt_eq (ba l) i (by rw [ba_len]; exact hi)]
  simp [ba_toList]
theorem sum_set (X : List UInt8) (p : Nat) (hp : p < X.length) (b : UInt8) (hb : b ≠ X[p]) : sumOf (ba (X.set p b)) ≠ sumOf (ba X) := by
  unfold sumOf
  rw [ba_len, ba_len, List.length_set]
  refine sums_one _ _ p ?_ X.length 0 7 (by omega) (by omega) (fun j _ hj hne => ?_) (by omega) (by omega)
  · rw [bt_get _ p (by rw [List.length_set]; exact hp), bt_get _ p hp]
    simp only [List.getElem_set_self]
    intro e
    exact hb (UInt8.toNat_inj.mp (by omega))
  · rw [bt_get _ j (by rw [List.length_set]; omega), bt_get _ j (by omega), List.getElem_set_ne (Ne.symm hne)]
theorem dec_clean (m : Nat) : (35 : UInt8) ∉ Go.Lib.decDigits m := by
  intro h
  obtain ⟨i, hi, e⟩ := List.getElem_of_mem h
  obtain ⟨d, hd⟩ := Go.Lib.digit_of_decFrom _ _ _ (dec_val m) i _ (List.getElem?_eq_getElem hi)
  have := (Go.Lib.digitVal_eq hd).1
  rw [e] at this
  revert this
  decide
theorem only35 {X D : List UInt8} (hX : (35 : UInt8) ∉ X) (hD : (35 : UInt8) ∉ D) (i : Nat) : (X ++ 35 :: D)[i]? = some 35 ↔ i = X.length := by
  constructor
  · intro h
    rcases Nat.lt_trichotomy i X.length with c | c | c
    · rw [List.getElem?_append_left c] at h
      exact absurd (List.mem_of_getElem? h) hX
    · exact c
    · rw [List.getElem?_append_right (by omega)] at h
      obtain ⟨j, hj⟩ : ∃ j, i - X.length = j + 1 := ⟨i - X.length - 1, by omega⟩
      rw [hj, List.getElem?_cons_succ] at h
      exact absurd (List.mem_of_getElem? h) hD
  · rintro rfl
    simp
/-- The list of a sealed text. -/
def sealL (X : List UInt8) : List UInt8 := X ++ 35 :: Go.Lib.decDigits (sumOf (ba X)).toNat
theorem sealOf_list (x : ByteArray) : (sealOf x).data.toList = sealL x.data.toList := by
  unfold sealOf sealL
  have h := sumOf_range x
  rw [ba_data, ByteArray.data_append, ByteArray.data_append]
  simp [Go.Lib.itoa, Int.not_lt.mpr h.1]
theorem seal_changed (X H : List UInt8) (hX : (35 : UInt8) ∉ X) (hH : (35 : UInt8) ∉ H) (p : Nat) (hp : p < (sealL X).length) (b : UInt8) (hb : b ≠ (sealL X)[p]) : sealL H ≠ (sealL X).set p b := by
  intro e
  have kX := only35 hX (dec_clean (sumOf (ba X)).toNat)
  have kH := only35 hH (dec_clean (sumOf (ba H)).toNat)
  have hlen : H.length = X.length := by
    refine Classical.byContradiction fun hne => ?_
    have h1 : (sealL H)[H.length]? = some 35 := (kH _).mpr rfl
    have h2 : p = H.length := by
      refine Classical.byContradiction fun q => ?_
      rw [e, List.getElem?_set_ne q] at h1
      exact hne ((kX _).mp h1)
    have h3 : (sealL X)[X.length]? = some 35 := (kX _).mpr rfl
    have h4 : (sealL H)[X.length]? = some 35 := by rw [e, List.getElem?_set_ne (by omega), h3]
    exact hne ((kH _).mp h4).symm
  have hpx : p ≠ X.length := by
    intro q
    have h1 : (sealL H)[p]? = some 35 := (kH _).mpr (by omega)
    have h2 : (sealL X)[p]? = some 35 := (kX _).mpr q
    rw [e, List.getElem?_set_self hp] at h1
    rw [List.getElem?_eq_getElem hp] at h2
    exact hb ((Option.some.inj h1).trans (Option.some.inj h2).symm)
  unfold sealL at e
  rcases Nat.lt_or_ge p X.length with c | c
  · rw [List.set_append_left _ _ c] at e
    obtain ⟨e1, e2⟩ := List.append_inj e (by rw [List.length_set]; exact hlen)
    have e3 := (List.cons.inj e2).2
    have hs := sum_set X p c b (by
      intro q
      apply hb
      rw [q]
      exact (List.getElem_append_left c).symm)
    rw [← e1] at hs
    have v1 := dec_val (sumOf (ba H)).toNat
    rw [e3, dec_val] at v1
    have r1 := sumOf_range (ba X)
    have r2 := sumOf_range (ba H)
    have := Option.some.inj v1
    omega
  · rw [List.set_append_right _ _ c] at e
    obtain ⟨e1, e2⟩ := List.append_inj e hlen
    subst e1
    have h1 : (sealL H)[p]? = some b := by
      have e' : sealL H = (sealL H).set p b := by
        unfold sealL
        rw [List.set_append_right _ _ c]
        congr 1
      rw [e', List.getElem?_set_self (by simpa using hp)]
    rw [List.getElem?_eq_getElem hp] at h1
    exact hb (Option.some.inj h1).symm
theorem head_seal (x : ByteArray) (hx : x.data.toList.contains 35 = false) : headOf (sealOf x) = x := by
  unfold headOf
  rw [sealOf_list]
  unfold sealL
  have h : ∀ y ∈ x.data.toList, (y != 35) = true := by
    intro y hy
    rw [bne_iff_ne]
    rintro rfl
    have : x.data.toList.contains 35 = true := List.contains_iff_mem.mpr hy
    rw [hx] at this
    cases this
  rw [List.takeWhile_append_of_pos h, List.takeWhile_cons]
  simp [ba_data]
theorem verify_seal (x : ByteArray) (hx : x.data.toList.contains 35 = false) (hs : (sealOf x).size ≤ 4000) : verifyOf (sealOf x) = (x, true) := by
  unfold verifyOf
  rw [head_seal x hx, if_pos ⟨hs, rfl⟩]
theorem xor_off {a m : Int} {c : UInt8} (ha : a = (c.toNat : Int)) (h1 : 1 ≤ m) (h2 : m ≤ 255) : UInt8.ofNat (Go.bits .xor .u8 a m).toNat ≠ c := by
  subst ha
  intro e
  have hd : Go.bits .xor .u8 (c.toNat : Int) m = IntKind.u8.wrap (((BitVec.ofInt 8 (c.toNat : Int)) ^^^ (BitVec.ofInt 8 m)).toNat : Int) := rfl
  rw [hd] at e
  have hw : ∀ q : BitVec 8, UInt8.ofNat (IntKind.u8.wrap (q.toNat : Int)).toNat = UInt8.ofBitVec q := by
    intro q
    have e1 : IntKind.u8.wrap (q.toNat : Int) = (q.toNat : Int) % 256 := rfl
    have := q.isLt
    rw [e1, show ((q.toNat : Int) % 256).toNat = q.toNat by omega]
    apply UInt8.toNat_inj.mp
    simp
  rw [hw] at e
  have e2 : BitVec.ofInt 8 (c.toNat : Int) ^^^ BitVec.ofInt 8 m = c.toBitVec := congrArg UInt8.toBitVec e
  have e3 : BitVec.ofInt 8 (c.toNat : Int) = c.toBitVec := by
    apply BitVec.eq_of_toNat_eq
    simp
  rw [e3] at e2
  have e4 : BitVec.ofInt 8 m = 0 := by
    have := congrArg (fun z => c.toBitVec ^^^ z) e2
    simpa [← BitVec.xor_assoc] using this
  have e5 := congrArg BitVec.toNat e4
  simp [BitVec.toNat_ofInt] at e5
  omega
theorem spoil_list (y : ByteArray) (p : Nat) (q : Int) : (laws_FnStrings.spoil y p q).data.toList = y.data.toList.set p (UInt8.ofNat (Go.bits .xor .u8 (bt y p) ((wrap64 (1 + Int.tmod q 255)) % 256)).toNat) := by
  unfold laws_FnStrings.spoil strOfNums bytesOf
  simp only [List.map_set, List.map_map]
  congr 1
  rw [List.map_congr_left (g := id) (fun b _ => by simp), List.map_id]
theorem verify_spoil (x : ByteArray) (hx : x.data.toList.contains 35 = false) (p : Nat) (hp : p < (sealOf x).size) (q : Int) (hq : 0 ≤ q) : (verifyOf (laws_FnStrings.spoil (sealOf x) p q)).2 = false := by
  unfold verifyOf
  rw [if_neg]
  rintro ⟨-, e⟩
  have e2 := congrArg (fun z => z.data.toList) e
  simp only [sealOf_list, spoil_list] at e2
  have hX : (35 : UInt8) ∉ x.data.toList := fun h => by rw [List.contains_iff_mem.mpr h] at hx; cases hx
  have hH : (35 : UInt8) ∉ (headOf (laws_FnStrings.spoil (sealOf x) p q)).data.toList := fun h => by
    have := head_clean (laws_FnStrings.spoil (sealOf x) p q)
    rw [List.contains_iff_mem.mpr h] at this
    cases this
  have hl : p < (sealL x.data.toList).length := by rw [← sealOf_list, size_data]; exact hp
  refine seal_changed _ _ hX hH p hl _ ?_ e2
  refine xor_off ?_ ?_ ?_
  · rw [bt_eq _ p hp]
    simp only [sealOf_list]
  all_goals
    have h1 : Int.tmod q 255 = q % 255 := Int.tmod_eq_emod_of_nonneg hq
    rw [h1, w64 (by omega) (by omega)]
    omega
theorem vAt_tot (l : List Int) (hl8 : ∀ x ∈ l, 0 ≤ x ∧ x ≤ 255) (hl : l.length ≤ 65536) (i : Int) (hi : 0 ≤ i ∧ i ≤ 100) : ∃ v, laws_vAt.f l i = some v ∧ 0 ≤ v := by
  unfold laws_vAt.f
  by_cases c : i < (l.length : Int)
  · rw [if_pos c, if_pos hi.1]
    refine ⟨_, rfl, ?_⟩
    have hr : 0 ≤ rd l i ∧ rd l i ≤ 255 := by
      rw [rd_get (n := i.toNat) (by omega) (by omega)]
      exact hl8 _ (List.getElem_mem _)
    rw [w64 (by omega) (by omega)]
    exact hr.1
  · rw [if_neg c, w64 (x := i * 7) (by omega) (by omega), w64 (by omega) (by omega), Int.tmod_eq_emod_of_nonneg (by omega)]
    exact ⟨_, rfl, by omega⟩
theorem FnStrings (l : List Int) (hl : l.length * 1 ≤ 140737488351232) (hw : ∀ x ∈ l, (Lit.int .u8 x).wf = true) : ∃ k, laws_FnStrings.f k l = some true := by
  have hl8 : ∀ x ∈ l, 0 ≤ x ∧ x ≤ 255 := by
    intro x hx
    have h2 : IntKind.u8.min ≤ x ∧ x ≤ IntKind.u8.max := by simpa [Lit.wf] using hw x hx
    rw [show IntKind.u8.min = 0 from rfl, show IntKind.u8.max = 255 from rfl] at h2
    exact h2
  refine Ev.rounds (r := true) ?_
  unfold laws_FnStrings.f laws_vBig.f
  simp only [Option.bind_some]
  by_cases hb : (l.length : Int) > 65536
  · exact ev_pos (by simpa using hb) (ev_some rfl)
  refine ev_neg (by simpa using hb) ?_
  obtain ⟨n, en, hn⟩ := drawFormatInt_tot l hl8
  obtain ⟨t, et, ht⟩ := drawParseInt_tot l hl8
  obtain ⟨x, ex, hx⟩ := drawAppendChecksum_tot l hl8
  obtain ⟨a, ea, ha⟩ := vAt_tot l hl8 (by omega) 9 (by omega)
  obtain ⟨b, eb, hb2⟩ := vAt_tot l hl8 (by omega) 10 (by omega)
  refine Ev.bind (ev_const en) ?_
  have hform : ∃ s : ByteArray × Bool, Ev (fun k => impl_FormatInt.f n) s ∧ Ev (fun k => spec_FormatInt.f k n) s ∧ (s.2 = true → readL s.1.data.toList = (n, true)) := by
    unfold impl_FormatInt.f spec_FormatInt.f
    simp only [spec_l1In.at, impl_within.at, Option.bind_some]
    by_cases h : -999999 ≤ n ∧ n ≤ 999999
    · refine ⟨(⟨(Go.Lib.itoa n).toArray⟩, true), ?_, ?_, fun _ => ?_⟩
      · simp only [decide_eq_true h]
        rw [strconv_Itoa.at n (by omega) (by omega)]
        exact ev_some rfl
      · simp only [decide_eq_true h]
        exact ev_pos trivial (Ev.bind (spec_l1Num.ev n (by omega) (by omega)) (ev_some rfl))
      · exact readL_spells ⟨h, by simp⟩
    · refine ⟨(⟨#[]⟩, false), ?_, ?_, fun e => by cases e⟩
      · simp only [decide_eq_false h]
        exact ev_some rfl
      · simp only [decide_eq_false h]
        exact ev_neg (by simp) (ev_some rfl)
  obtain ⟨s, h1, h2, hs⟩ := hform
  refine Ev.bind h1 ?_
  refine Ev.bind h2 ?_
  refine Ev.bind et ?_
  refine Ev.bind (ev_const (impl_ParseInt.at t)) ?_
  refine Ev.bind (a := readL t.data.toList) ?_ ?_
  · unfold spec_ParseInt.f
    exact Ev.bind (spec_l1Read.ev t (by omega)) (ev_some rfl)
  refine Ev.bind (ev_const ex) ?_
  refine Ev.bind (impl_AppendChecksum.ev x (by omega)) ?_
  refine Ev.bind (spec_AppendChecksum.ev x (by omega)) ?_
  refine Ev.bind (ev_const (impl_ParseInt.at s.1)) ?_
  refine ev_pos ⟨rfl, rfl, rfl, hs⟩ ?_
  by_cases c : x.size ≤ 4000 ∧ x.data.toList.contains 35 = false ∧ (sealOf x).size ≤ 4000
  · simp only [if_pos c]
    refine ev_pos trivial ?_
    unfold laws_FnStrings.tail
    refine Ev.bind (impl_VerifyChecksum.ev (sealOf x) (by omega)) ?_
    rw [verify_seal x c.2.1 c.2.2]
    refine ev_pos rfl ?_
    refine Ev.bind (ev_const ea) ?_
    refine Ev.bind (ev_const eb) ?_
    have hz : 0 < (sealOf x).size := by
      rw [← size_data, sealOf_list]
      unfold sealL
      simp
      omega
    refine ev_pos ⟨ha, hz, c.2.2⟩ ?_
    have hp : a.toNat % (sealOf x).size < (sealOf x).size := Nat.mod_lt _ hz
    have hsz : (laws_FnStrings.spoil (sealOf x) (a.toNat % (sealOf x).size) b).size = (sealOf x).size := by
      rw [← size_data, spoil_list, List.length_set, size_data]
    refine Ev.bind (impl_VerifyChecksum.ev _ (by omega)) ?_
    exact ev_pos (verify_spoil x c.2.1 _ hp b hb2) (ev_some rfl)
  · simp only [if_neg c]
    refine ev_neg (by simp) ?_
    exact ev_pos trivial (ev_some rfl)

end Go.Proofs.YtjihgbfhgfmknaaDoor.Pure
