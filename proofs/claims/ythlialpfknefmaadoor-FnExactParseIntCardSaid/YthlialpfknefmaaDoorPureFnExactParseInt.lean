/- The plain side of the law FnExactParseInt: the printed law, whatever its input (within the form's bounds), comes to true. No other condition. -/
import Derived.Test.YthlialpfknefmaaDoorPFnExactParseIntx2
import Derived.Test.YthlialpfknefmaaDoorBase
import Derived.Test.YthlialpfknefmaaDoorMath
namespace Go.Proofs.YthlialpfknefmaaDoor.Pure
open Go.RowKit Go.Proofs.YthlialpfknefmaaDoor.PFnExactParseInt Go.Proofs.YthlialpfknefmaaDoorW.PrintWords Go.Proofs.YthlialpfknefmaaDoorW.PrintLast Go.Proofs.YthlialpfknefmaaDoorW.PrintMore Go.Proofs.YthlialpfknefmaaDoor.Base Go.Proofs.YthlialpfknefmaaDoor.M
set_option linter.unusedVariables false
set_option linter.unusedSimpArgs false

theorem spec_l1In.at (a b c : Int) : spec_l1In.f a b c = some (decide (b ≤ a ∧ a ≤ c)) := by
  unfold spec_l1In.f
  by_cases h : a ≥ b
  · rw [if_pos h]
    simp [show b ≤ a from h]
  · rw [if_neg h]
    simp [show ¬ b ≤ a from h]
theorem impl_within.at (a b c : Int) : impl_within.f a b c = some (decide (b ≤ a ∧ a ≤ c)) := by
  unfold impl_within.f
  by_cases h : a ≥ b
  · rw [if_pos h]
    simp [show b ≤ a from h]
  · rw [if_neg h]
    simp [show ¬ b ≤ a from h]
theorem dig_at (d : Nat) (h : d < 10) : (⟨#[48, 49, 50, 51, 52, 53, 54, 55, 56, 57]⟩ : ByteArray).extract d (d + 1) = ⟨#[UInt8.ofNat (48 + d)]⟩ := by
  have : ∀ q : Fin 10, (⟨#[48, 49, 50, 51, 52, 53, 54, 55, 56, 57]⟩ : ByteArray).extract q.1 (q.1 + 1) = ⟨#[UInt8.ofNat (48 + q.1)]⟩ := by decide +kernel
  exact this ⟨d, h⟩
theorem dec_len (m : Nat) : (Go.Lib.decDigits m).length ≤ m + 1 := by
  induction m using Nat.strongRecOn with
  | _ m ih =>
    unfold Go.Lib.decDigits
    by_cases h : m < 10
    · rw [dif_pos h]
      simp
    · rw [dif_neg h]
      have := ih (m / 10) (by omega)
      simp
      omega
theorem ba_app (a b : List UInt8) : (⟨a.toArray⟩ : ByteArray) ++ (⟨b.toArray⟩ : ByteArray) = ⟨(a ++ b).toArray⟩ := by
  apply ByteArray.ext
  rw [ByteArray.data_append]
  simp
theorem ba_size (a : List UInt8) : (⟨a.toArray⟩ : ByteArray).size = a.length := by simp [ByteArray.size]
theorem num_nat (m : Nat) : m ≤ 1000000000 → Ev (fun k => spec_l1Num.f k (m : Int)) ⟨(Go.Lib.decDigits m).toArray⟩ := by
  induction m using Nat.strongRecOn with
  | _ m ih =>
    intro hm
    refine Ev.step (fun k => by rw [spec_l1Num.f]) ?_
    refine ev_neg (by omega) ?_
    by_cases h : m < 10
    · refine ev_pos (by omega) ?_
      refine ev_pos (by omega) ?_
      have hw : wrap64 ((m : Int) + 1) = ((m + 1 : Nat) : Int) := by rw [w64 (by omega) (by omega)]; omega
      simp only [hw]
      refine ev_pos (by omega) ?_
      refine ev_pos (by omega) ?_
      refine ev_some ?_
      rw [Int.toNat_natCast, Int.toNat_natCast, dig_at m h, Go.Lib.decDigits, dif_pos h]
    · refine ev_neg (by omega) ?_
      have h1 : Int.tdiv (m : Int) 10 = ((m / 10 : Nat) : Int) := by rw [Int.tdiv_eq_ediv_of_nonneg (by omega)]; omega
      have h2 : Int.tmod (m : Int) 10 = ((m % 10 : Nat) : Int) := by rw [Int.tmod_eq_emod_of_nonneg (by omega)]; omega
      have hw : wrap64 ((m / 10 : Nat) : Int) = ((m / 10 : Nat) : Int) := w64 (by omega) (by omega)
      have hw2 : wrap64 (((m % 10 : Nat) : Int) + 1) = ((m % 10 + 1 : Nat) : Int) := by rw [w64 (by omega) (by omega)]; omega
      simp only [h1, h2, hw, hw2]
      refine Ev.bind (ih (m / 10) (by omega) (by omega)) ?_
      refine ev_pos (by omega) ?_
      refine ev_pos (by omega) ?_
      refine ev_pos (by omega) ?_
      rw [Int.toNat_natCast, Int.toNat_natCast, dig_at (m % 10) (by omega)]
      have hl := dec_len (m / 10)
      refine ev_pos ?_ ?_
      · rw [ba_size]
        simp [ByteArray.size]
        omega
      · refine ev_some ?_
        have e := Go.Lib.decDigits
        rw [show (⟨#[UInt8.ofNat (48 + m % 10)]⟩ : ByteArray) = ⟨([UInt8.ofNat (48 + m % 10)] : List UInt8).toArray⟩ from rfl, ba_app]
        conv => rhs; rw [Go.Lib.decDigits, dif_neg h]
theorem spec_l1Num.ev (n : Int) (h0 : -1000000000 ≤ n) (h1 : n ≤ 1000000000) : Ev (fun k => spec_l1Num.f k n) ⟨(Go.Lib.itoa n).toArray⟩ := by
  by_cases h : n < 0
  · refine Ev.step (fun k => by rw [spec_l1Num.f]) ?_
    refine ev_pos h ?_
    have hw : wrap64 (-n) = ((n.natAbs : Nat) : Int) := by rw [w64 (by omega) (by omega)]; omega
    simp only [hw]
    refine Ev.bind (num_nat n.natAbs (by omega)) ?_
    have hl := dec_len n.natAbs
    refine ev_pos ?_ ?_
    · rw [ba_size]
      omega
    · refine ev_some ?_
      rw [show (⟨#[45]⟩ : ByteArray) = ⟨([45] : List UInt8).toArray⟩ from rfl, ba_app, Go.Lib.itoa, if_pos h]
      rfl
  · obtain ⟨m, rfl⟩ : ∃ m : Nat, n = m := ⟨n.toNat, by omega⟩
    rw [Go.Lib.itoa, if_neg h]
    exact num_nat m (by omega)
theorem strconv_Itoa.at (n : Int) (h0 : -1000000000 ≤ n) (h1 : n ≤ 1000000000) : strconv_Itoa.f n = some ⟨(Go.Lib.itoa n).toArray⟩ := by
  unfold strconv_Itoa.f
  rw [if_pos ⟨by omega, by omega⟩]
/-- Does the byte stand in the text, from place i on? -/
def standsAt (s : ByteArray) (c : UInt8) (i : Nat) : Bool := (s.data.toList.drop i).contains c
theorem bt_eq (s : ByteArray) (i : Nat) (h : i < s.size) : bt s i = (s.data.toList[i]'(by simpa using h)).toNat := by
  unfold bt
  rw [dif_pos (by rw [Int.toNat_natCast]; exact h)]
  simp only [Int.toNat_natCast, Array.getElem_toList]
  rfl
theorem index_has (l : List UInt8) (c : UInt8) : decide (0 ≤ Go.Lib.indexByte l c) = l.contains c := by
  induction l with
  | nil => rfl
  | cons b t ih =>
    unfold Go.Lib.indexByte
    rw [List.contains_cons]
    by_cases h : b = c
    · subst h
      simp
    · rw [if_neg (by simpa using h), show (c == b) = false from by simpa using fun e => h e.symm, Bool.false_or, ← ih]
      by_cases h2 : Go.Lib.indexByte t c == -1
      · rw [if_pos h2]
        have := beq_iff_eq.mp h2
        rw [this]
      · rw [if_neg h2]
        have h3 : Go.Lib.indexByte t c ≠ -1 := by simpa using h2
        have h4 := Go.Lib.indexByte_ge t c
        exact decide_eq_decide.mpr ⟨fun _ => by omega, fun _ => by omega⟩
/-- A piece that is under way, laid ahead of what follows. -/
def glue (p : List UInt8) : List (List UInt8) → List (List UInt8)
  | [] => [p]
  | x :: r => (p ++ x) :: r
/-- The parts of a text between bytes. -/
def parts (c : UInt8) : List UInt8 → List (List UInt8)
  | [] => [[]]
  | b :: t => if b = c then [] :: parts c t else glue [b] (parts c t)
theorem glue_ne (p : List UInt8) (L : List (List UInt8)) : glue p L ≠ [] := by cases L <;> simp [glue]
theorem parts_ne (c : UInt8) (l : List UInt8) : parts c l ≠ [] := by
  cases l with
  | nil => simp [parts]
  | cons b t =>
    unfold parts
    by_cases h : b = c
    · rw [if_pos h]; simp
    · rw [if_neg h]; exact glue_ne _ _
theorem glue_nil {L : List (List UInt8)} (h : L ≠ []) : glue [] L = L := by
  cases L with
  | nil => exact absurd rfl h
  | cons x r => rfl
theorem glue_glue (p : List UInt8) (b : UInt8) {L : List (List UInt8)} (h : L ≠ []) : glue p (glue [b] L) = glue (p ++ [b]) L := by
  cases L with
  | nil => exact absurd rfl h
  | cons x r => simp [glue]
theorem parts_head (c : UInt8) : ∀ l : List UInt8, ∃ r, parts c l = l.takeWhile (· != c) :: r
  | [] => ⟨[], rfl⟩
  | b :: t => by
    obtain ⟨r, hr⟩ := parts_head c t
    unfold parts
    by_cases h : b = c
    · rw [if_pos h]
      exact ⟨parts c t, by rw [List.takeWhile_cons]; simp [h]⟩
    · rw [if_neg h, hr]
      exact ⟨r, by simp [glue, h]⟩
def ba (l : List UInt8) : ByteArray := ⟨l.toArray⟩
theorem ba_data (s : ByteArray) : ba s.data.toList = s := by
  unfold ba
  apply ByteArray.ext
  simp
theorem ba_toList (l : List UInt8) : (ba l).data.toList = l := by simp [ba]
theorem ba_len (l : List UInt8) : (ba l).size = l.length := by simp [ba, ByteArray.size]
theorem extract_ba (s : ByteArray) (a b : Nat) : s.extract a b = ba ((s.data.toList.drop a).take (b - a)) := by
  rw [← Go.Lib.extract_data]
  exact (ba_data _).symm
theorem size_data (s : ByteArray) : s.data.toList.length = s.size := by
  rw [Array.length_toList]
  rfl
theorem index_take (l : List UInt8) (c : UInt8) : (Go.Lib.indexByte l c = -1 ∧ l.takeWhile (· != c) = l ∧ c ∉ l) ∨ ∃ i : Nat, Go.Lib.indexByte l c = i ∧ l.takeWhile (· != c) = l.take i ∧ i < l.length := by
  induction l with
  | nil => exact .inl ⟨rfl, rfl, by simp⟩
  | cons b t ih =>
    unfold Go.Lib.indexByte
    by_cases h : b = c
    · subst h
      exact .inr ⟨0, by simp, by simp, by simp⟩
    · rw [if_neg (by simpa using h)]
      have hb : (b != c) = true := by simpa using h
      rcases ih with ⟨h1, h2, h3⟩ | ⟨i, h1, h2, h3⟩
      · exact .inl ⟨by rw [h1]; rfl, by rw [List.takeWhile_cons, hb, if_pos rfl, h2], by simp [h3]; exact fun e => h e.symm⟩
      · refine .inr ⟨i + 1, ?_, ?_, by simp; omega⟩
        · rw [h1, if_neg (by intro e; have := beq_iff_eq.mp e; omega)]
          rfl
        · rw [List.takeWhile_cons, hb, if_pos rfl, h2, List.take_succ_cons]
theorem cut_fst (l : List UInt8) (c : UInt8) : (Go.Lib.cut l [c]).1 = l.takeWhile (· != c) := by
  unfold Go.Lib.cut
  rw [Go.Lib.index_one]
  rcases index_take l c with ⟨h1, h2, h3⟩ | ⟨i, h1, h2, h3⟩
  · rw [h1, if_neg (by decide), h2]
  · rw [h1, if_pos (by omega), h2]
    simp
open Go.Lib in
theorem decFrom_snoc (b : UInt8) : ∀ (l : List UInt8) (acc : Nat), decFrom acc (l ++ [b]) = (decFrom acc l).bind fun n => (digitVal b).map fun d => n * 10 + d
  | [], acc => by
    simp only [List.nil_append, decFrom, Option.bind_some]
    cases digitVal b <;> rfl
  | a :: t, acc => by
    simp only [List.cons_append, decFrom]
    cases digitVal a with
    | none => rfl
    | some d => exact decFrom_snoc b t _
theorem digit_of (d : Nat) (h : d < 10) : Go.Lib.digitVal (UInt8.ofNat (48 + d)) = some d := by
  have : ∀ q : Fin 10, Go.Lib.digitVal (UInt8.ofNat (48 + q.1)) = some q.1 := by decide +kernel
  exact this ⟨d, h⟩
theorem dec_val (m : Nat) : Go.Lib.decFrom 0 (Go.Lib.decDigits m) = some m := by
  induction m using Nat.strongRecOn with
  | _ m ih =>
    unfold Go.Lib.decDigits
    by_cases h : m < 10
    · rw [dif_pos h]
      simp only [Go.Lib.decFrom, digit_of m h]
      simp
    · rw [dif_neg h, decFrom_snoc, ih (m / 10) (by omega), digit_of (m % 10) (by omega)]
      simp
      omega
theorem dec_ne (m : Nat) : Go.Lib.decDigits m ≠ [] := by
  unfold Go.Lib.decDigits
  by_cases h : m < 10
  · rw [dif_pos h]; simp
  · rw [dif_neg h]; simp
theorem dec_len6 : ∀ (k m : Nat), m < 10 ^ (k + 1) → (Go.Lib.decDigits m).length ≤ k + 1
  | 0, m, h => by
    unfold Go.Lib.decDigits
    rw [dif_pos (by omega)]
    simp
  | k + 1, m, h => by
    unfold Go.Lib.decDigits
    by_cases h2 : m < 10
    · rw [dif_pos h2]; simp
    · rw [dif_neg h2, List.length_append]
      have := dec_len6 k (m / 10) (by rw [Nat.pow_succ] at h; omega)
      simp
      omega
theorem dec_head (m : Nat) : ∃ b r, Go.Lib.decDigits m = b :: r ∧ b ≠ 45 ∧ b ≠ 43 := by
  cases h : Go.Lib.decDigits m with
  | nil => exact absurd h (dec_ne m)
  | cons b r =>
    refine ⟨b, r, rfl, ?_⟩
    have hv := dec_val m
    rw [h] at hv
    obtain ⟨d, hd⟩ := Go.Lib.digit_of_decFrom _ _ _ hv 0 b rfl
    have := Go.Lib.digitVal_eq hd
    exact ⟨by rintro rfl; have := this.1; revert this; decide, by rintro rfl; have := this.1; revert this; decide⟩
theorem decNat_dec (m : Nat) : Go.Lib.decNat (Go.Lib.decDigits m) = some m := by
  unfold Go.Lib.decNat
  rw [if_neg (by simpa using dec_ne m), dec_val]
theorem atoi_itoa (n : Int) : Go.Lib.atoi (Go.Lib.itoa n) = some n := by
  unfold Go.Lib.itoa
  by_cases h : n < 0
  · rw [if_pos h]
    simp only [Go.Lib.atoi]
    rw [if_pos (by rfl), decNat_dec]
    simp only [Option.map_some]
    congr 1
    omega
  · rw [if_neg h]
    obtain ⟨b, r, e, h1, h2⟩ := dec_head n.toNat
    rw [e]
    simp only [Go.Lib.atoi]
    rw [if_neg (by simpa using h1), if_neg (by simpa using h2), ← e, decNat_dec]
    simp only [Option.map_some]
    congr 1
    omega
/-- The number that this text spells, as both sides take it. -/
def Spells (n : Int) (l : List UInt8) : Prop := (-999999 ≤ n ∧ n ≤ 999999) ∧ Go.Lib.itoa n = l
def readOn (l t : List UInt8) : Int × Bool :=
  if 1 ≤ t.length ∧ t.length ≤ 6 then
    match Go.Lib.decFrom 0 t with
    | none => (0, false)
    | some v => if Go.Lib.itoa (if t.length < l.length then -(v : Int) else v) = l then ((if t.length < l.length then -(v : Int) else v), true) else (0, false)
  else (0, false)
def readL (l : List UInt8) : Int × Bool := readOn l (if 1 < l.length ∧ l.head? = some 45 then l.tail else l)
theorem readL_spells {n : Int} {l : List UInt8} (h : Spells n l) : readL l = (n, true) := by
  obtain ⟨⟨h0, h1⟩, rfl⟩ := h
  have hd := dec_ne n.natAbs
  have hd2 := dec_ne n.toNat
  unfold readL readOn
  by_cases hn : n < 0
  · have e : Go.Lib.itoa n = 45 :: Go.Lib.decDigits n.natAbs := by unfold Go.Lib.itoa; rw [if_pos hn]
    have hl := dec_len6 5 n.natAbs (by omega)
    have hp : 0 < (Go.Lib.decDigits n.natAbs).length := List.length_pos_iff.mpr hd
    have c : 1 < (Go.Lib.itoa n).length ∧ (Go.Lib.itoa n).head? = some 45 := by rw [e]; simp; omega
    rw [if_pos c, show (Go.Lib.itoa n).tail = Go.Lib.decDigits n.natAbs from by rw [e]; rfl, if_pos ⟨by omega, by omega⟩, dec_val]
    have hlt : (Go.Lib.decDigits n.natAbs).length < (Go.Lib.itoa n).length := by rw [e]; simp
    simp only [if_pos hlt]
    rw [show -((n.natAbs : Nat) : Int) = n by omega, if_pos rfl]
  · have e : Go.Lib.itoa n = Go.Lib.decDigits n.toNat := by unfold Go.Lib.itoa; rw [if_neg hn]
    have hl := dec_len6 5 n.toNat (by omega)
    have hp : 0 < (Go.Lib.decDigits n.toNat).length := List.length_pos_iff.mpr hd2
    obtain ⟨b, r, eb, hb, _⟩ := dec_head n.toNat
    have c : ¬ (1 < (Go.Lib.itoa n).length ∧ (Go.Lib.itoa n).head? = some 45) := by
      rw [e, eb]
      simp [hb]
    rw [if_neg c, if_pos ⟨by rw [e]; omega, by rw [e]; omega⟩]
    rw [show Go.Lib.decFrom 0 (Go.Lib.itoa n) = some n.toNat by rw [e, dec_val]]
    simp only [Nat.lt_irrefl, if_false]
    rw [show ((n.toNat : Nat) : Int) = n by omega, if_pos rfl]
theorem readOn_cases (l t : List UInt8) : readOn l t = (0, false) ∨ ∃ n, readOn l t = (n, true) ∧ Spells n l := by
  unfold readOn
  by_cases c : 1 ≤ t.length ∧ t.length ≤ 6
  · rw [if_pos c]
    cases hv : Go.Lib.decFrom 0 t with
    | none => exact .inl rfl
    | some v =>
      have hlt := Go.Lib.decFrom_lt _ _ _ hv
      have h6 : 10 ^ t.length ≤ 10 ^ 6 := Nat.pow_le_pow_right (by decide) c.2
      have hv6 : v < 1000000 := by omega
      simp only
      by_cases e : Go.Lib.itoa (if t.length < l.length then -(v : Int) else v) = l
      · rw [if_pos e]
        refine .inr ⟨_, rfl, ⟨?_, e⟩⟩
        by_cases q : t.length < l.length
        · rw [if_pos q]; omega
        · rw [if_neg q]; omega
      · rw [if_neg e]
        exact .inl rfl
  · rw [if_neg c]
    exact .inl rfl
theorem readL_cases (l : List UInt8) : readL l = (0, false) ∨ ∃ n, readL l = (n, true) ∧ Spells n l := readOn_cases l _
theorem impl_ParseInt.at (s : ByteArray) : impl_ParseInt.f s = some (readL s.data.toList) := by
  have hsz := size_data s
  have hit : ∀ n : Int, (⟨(Go.Lib.itoa n).toArray⟩ : ByteArray) = s ↔ Go.Lib.itoa n = s.data.toList := fun n =>
    ⟨fun e => by rw [← e], fun e => by rw [e]⟩
  have key : ∀ n : Int, Spells n s.data.toList → impl_ParseInt.f s = some (n, true) := by
    intro n h
    have ha : Go.Lib.atoi s.data.toList = some n := by rw [← h.2, atoi_itoa]
    have hl : s.size ≤ 7 := by
      rw [← hsz, ← h.2]
      unfold Go.Lib.itoa
      have := h.1
      by_cases hn : n < 0
      · rw [if_pos hn, List.length_cons]
        have := dec_len6 5 n.natAbs (by omega)
        omega
      · rw [if_neg hn]
        have := dec_len6 5 n.toNat (by omega)
        omega
    unfold impl_ParseInt.f
    rw [if_neg (by omega), ha]
    simp only
    rw [if_pos ⟨h.1, (hit n).mpr h.2⟩]
  rcases readL_cases s.data.toList with e | ⟨n, e, h⟩
  · rw [e]
    unfold impl_ParseInt.f
    by_cases c : s.size > 7
    · rw [if_pos c]
    · rw [if_neg c]
      cases ha : Go.Lib.atoi s.data.toList with
      | none => rfl
      | some n =>
        simp only
        by_cases q : (-999999 ≤ n ∧ n ≤ 999999) ∧ (⟨(Go.Lib.itoa n).toArray⟩ : ByteArray) = s
        · have := readL_spells ⟨q.1, (hit n).mp q.2⟩
          rw [e] at this
          exact absurd (congrArg Prod.snd this) (by simp)
        · rw [if_neg q]
  · rw [e, key n h]
theorem readLoop_ev (s t : ByteArray) (ht : t.size ≤ 6) (hs : s.size ≤ 140737488351232) : ∀ (d i n : Nat), i + d = t.size → n + 1 ≤ 10 ^ i →
    Ev (fun k => spec_l1Read.l0 k s t n i) (match Go.Lib.decFrom n (t.data.toList.drop i) with
      | none => (0, false)
      | some v => if Go.Lib.itoa (if t.size < s.size then -(v : Int) else v) = s.data.toList then ((if t.size < s.size then -(v : Int) else v), true) else (0, false)) := by
  intro d
  induction d with
  | zero =>
    intro i n e hn
    have h6 : 10 ^ i ≤ 10 ^ 6 := Nat.pow_le_pow_right (by decide) (by omega)
    refine Ev.step (fun k => by rw [spec_l1Read.l0]) ?_
    refine ev_neg (by omega) ?_
    rw [List.drop_eq_nil_of_le (by rw [size_data]; omega)]
    simp only [Go.Lib.decFrom]
    have hl : ∀ z : Int, (⟨(Go.Lib.itoa z).toArray⟩ : ByteArray).toList = s.toList ↔ Go.Lib.itoa z = s.data.toList := by
      intro z
      rw [ByteArray.toList_eq, ByteArray.toList_eq]
    by_cases c : t.size < s.size
    · simp only [if_pos c]
      refine ev_pos (by omega) ?_
      have hw : wrap64 (-(n : Int)) = -(n : Int) := w64 (by omega) (by omega)
      simp only [hw]
      refine Ev.bind (spec_l1Num.ev _ (by omega) (by omega)) ?_
      by_cases q : Go.Lib.itoa (-(n : Int)) = s.data.toList
      · rw [if_pos q]
        exact ev_pos ((hl _).mpr q) (ev_some rfl)
      · rw [if_neg q]
        exact ev_neg (fun e => q ((hl _).mp e)) (ev_some rfl)
    · simp only [if_neg c]
      refine ev_neg (by omega) ?_
      refine Ev.bind (spec_l1Num.ev _ (by omega) (by omega)) ?_
      by_cases q : Go.Lib.itoa (n : Int) = s.data.toList
      · rw [if_pos q]
        exact ev_pos ((hl _).mpr q) (ev_some rfl)
      · rw [if_neg q]
        exact ev_neg (fun e => q ((hl _).mp e)) (ev_some rfl)
  | succ d ih =>
    intro i n e hn
    have hi : i < t.size := by omega
    have hl : i < t.data.toList.length := by rw [size_data]; exact hi
    have h5 : 10 ^ i ≤ 10 ^ 5 := Nat.pow_le_pow_right (by decide) (by omega)
    refine Ev.step (fun k => by rw [spec_l1Read.l0]) ?_
    refine ev_pos (by omega) ?_
    refine ev_pos (by omega) ?_
    rw [bt_eq t i hi, List.drop_eq_getElem_cons hl]
    simp only [Go.Lib.decFrom]
    by_cases c : 48 ≤ (t.data.toList[i]).toNat ∧ (t.data.toList[i]).toNat ≤ 57
    · rw [show Go.Lib.digitVal t.data.toList[i] = some ((t.data.toList[i]).toNat - 48) by unfold Go.Lib.digitVal; rw [if_pos c]]
      refine ev_neg (by omega) ?_
      refine ev_neg (by omega) ?_
      have hw : wrap64 (wrap64 (10 * (n : Int)) + ((((t.data.toList[i]).toNat : Int) - 48) % 256)) = ((n * 10 + ((t.data.toList[i]).toNat - 48) : Nat) : Int) := by
        rw [w64 (x := 10 * (n : Int)) (by omega) (by omega), w64 (by omega) (by omega)]
        omega
      rw [hw, w64 (x := (i : Int) + 1) (by omega) (by omega)]
      exact ih (i + 1) _ (by omega) (by rw [Nat.pow_succ]; omega)
    · rw [show Go.Lib.digitVal t.data.toList[i] = none by unfold Go.Lib.digitVal; rw [if_neg c]]
      by_cases c2 : ((t.data.toList[i]).toNat : Int) < 48
      · exact ev_pos c2 (ev_some rfl)
      · exact ev_neg c2 (ev_pos (by omega) (ev_some rfl))
theorem readOn_ev (s t : ByteArray) (hs : s.size ≤ 140737488351232) : Ev (fun k => spec_l1Read.j1 k s t) (readOn s.data.toList t.data.toList) := by
  refine Ev.step (fun k => by rw [spec_l1Read.j1]) ?_
  rw [spec_l1In.at]
  simp only [Option.bind_some]
  unfold readOn
  rw [size_data, size_data]
  by_cases c : 1 ≤ t.size ∧ t.size ≤ 6
  · rw [if_pos c]
    refine ev_pos (by simp; omega) ?_
    have h := readLoop_ev s t c.2 hs t.size 0 0 (by omega) (by simp)
    rw [List.drop_zero] at h
    exact h
  · rw [if_neg c]
    exact ev_neg (by simp; omega) (ev_some rfl)
theorem spec_l1Read.ev (s : ByteArray) (hs : s.size ≤ 140737488351232) : Ev (fun k => spec_l1Read.f k s) (readL s.data.toList) := by
  unfold spec_l1Read.f readL
  rw [size_data]
  by_cases c : s.size > 1
  · refine ev_pos (by omega) ?_
    refine ev_pos (by omega) ?_
    refine Ev.step (fun k => by rw [spec_l1Read.j0]) ?_
    have hb := bt_eq s 0 (by omega)
    rw [show ((0 : Nat) : Int) = 0 from rfl] at hb
    rw [hb]
    have hh : s.data.toList.head? = some (s.data.toList[0]'(by rw [size_data]; omega)) := by
      rw [List.head?_eq_getElem?, List.getElem?_eq_getElem]
    rw [hh]
    by_cases q : s.data.toList[0]'(by rw [size_data]; omega) = 45
    · refine ev_pos (by rw [q]; rfl) ?_
      refine ev_pos (by omega) ?_
      rw [if_pos ⟨c, by rw [q]⟩]
      have h := readOn_ev s (s.extract 1 s.size) hs
      rw [show (s.extract 1 s.size).data.toList = s.data.toList.tail by rw [extract_ba, ba_toList, List.take_of_length_le (by rw [List.length_drop, size_data]; omega), List.drop_one]] at h
      exact h
    · refine ev_neg ?_ ?_
      · intro e
        have e2 := beq_iff_eq.mp e
        exact q (UInt8.toNat_inj.mp (by have : (45 : UInt8).toNat = 45 := rfl; omega))
      · rw [if_neg (fun z => q (Option.some.inj z.2))]
        exact readOn_ev s s hs
  · refine ev_neg (by omega) ?_
    refine Ev.step (fun k => by rw [spec_l1Read.j0]) ?_
    refine ev_neg (by simp) ?_
    rw [if_neg (fun z => c z.1)]
    exact readOn_ev s s hs
theorem FnExactParseInt (s : ByteArray) (hs : s.size ≤ 140737488351232) : ∃ k, laws_FnExactParseInt.f k s = some true := by
  refine Ev.rounds (r := true) ?_
  unfold laws_FnExactParseInt.f spec_ParseInt.f
  by_cases h : (s.size : Int) > 1048576
  · exact ev_pos h (ev_some rfl)
  refine ev_neg h ?_
  refine Ev.bind (Ev.bind (spec_l1Read.ev s hs) (ev_some rfl)) ?_
  refine Ev.bind (ev_const (impl_ParseInt.at s)) ?_
  refine ev_pos rfl ?_
  exact ev_neg (by simp) (ev_some rfl)

end Go.Proofs.YthlialpfknefmaaDoor.Pure
