/- The plain side of the law FnExactJoinStrings: the printed law, whatever its input (within the form's bounds), comes to true. No other condition. -/
import Derived.Test.YthlialpfknefmaaPFnExactJoinStringsx2
import Derived.Test.YthlialpfknefmaaBase
import Derived.Test.YthlialpfknefmaaMath
namespace Go.Proofs.Ythlialpfknefmaa.Pure
open Go.RowKit Go.Proofs.Ythlialpfknefmaa.PFnExactJoinStrings Go.Proofs.YthlialpfknefmaaW.PrintWords Go.Proofs.YthlialpfknefmaaW.PrintLast Go.Proofs.YthlialpfknefmaaW.PrintMore Go.Proofs.Ythlialpfknefmaa.Base Go.Proofs.Ythlialpfknefmaa.M
set_option linter.unusedVariables false
set_option linter.unusedSimpArgs false

/-- Does the byte stand in the text, from place i on? -/
def standsAt (s : ByteArray) (c : UInt8) (i : Nat) : Bool := (s.data.toList.drop i).contains c
theorem bt_eq (s : ByteArray) (i : Nat) (h : i < s.size) : bt s i = (s.data.toList[i]'(by simpa using h)).toNat := by
  unfold bt
  rw [dif_pos (by rw [Int.toNat_natCast]; exact h)]
  simp only [Int.toNat_natCast, Array.getElem_toList]
  rfl
theorem stands_ev (s : ByteArray) (c : UInt8) (hs : s.size ≤ 140737488351232) : ∀ (d i : Nat), i + d = s.size → Ev (fun k => spec_l1Stands.l0 k s c.toNat i) (standsAt s c i) := by
  intro d
  induction d with
  | zero =>
    intro i e
    refine Ev.step (fun k => by rw [spec_l1Stands.l0]) ?_
    refine ev_neg (by omega) ?_
    refine ev_some ?_
    unfold standsAt
    rw [List.drop_eq_nil_of_le (by rw [Array.length_toList]; have : s.size = s.data.size := rfl; omega)]
    rfl
  | succ d ih =>
    intro i e
    refine Ev.step (fun k => by rw [spec_l1Stands.l0]) ?_
    refine ev_pos (by omega) ?_
    refine ev_pos (by omega) ?_
    have hi : i < s.size := by omega
    have hl : i < s.data.toList.length := by simpa using hi
    have ed : standsAt s c i = ((s.data.toList[i] == c) || standsAt s c (i + 1)) := by
      unfold standsAt
      rw [List.drop_eq_getElem_cons hl, List.contains_cons]
      congr 1
      exact Bool.eq_iff_iff.mpr ⟨fun h => by simpa using (beq_iff_eq.mp h).symm, fun h => by simpa using (beq_iff_eq.mp h).symm⟩
    rw [bt_eq s i hi]
    by_cases h : s.data.toList[i] = c
    · refine ev_pos (by rw [h]) (ev_some ?_)
      rw [ed, beq_iff_eq.mpr h]
      rfl
    · refine ev_neg (fun e => h (UInt8.toNat_inj.mp (by omega))) ?_
      rw [w64 (x := (i : Int) + 1) (by omega) (by omega), ed, beq_eq_false_iff_ne.mpr h, Bool.false_or]
      exact ih (i + 1) (by omega)
theorem spec_l1Stands.ev (s : ByteArray) (c : UInt8) (hs : s.size ≤ 140737488351232) : Ev (fun k => spec_l1Stands.f k s c.toNat) (s.data.toList.contains c) := by
  have h := stands_ev s c hs s.size 0 (by omega)
  rw [show standsAt s c 0 = s.data.toList.contains c from by unfold standsAt; rw [List.drop_zero]] at h
  exact h
theorem index_has (l : List UInt8) (c : UInt8) : decide (0 ≤ Go.Lib.indexByte l c) = l.contains c := by
  induction l with
  | nil => rfl
  | cons b t ih =>
    unfold Go.Lib.indexByte
    rw [List.contains_cons]
    by_cases h : b = c
    · subst h
      simp
    · rw [if_neg (by simpa using h), show (c == b) = false from by simpa using fun e => h e.symm, Bool.false_or, ← ih]
      by_cases h2 : Go.Lib.indexByte t c == -1
      · rw [if_pos h2]
        have := beq_iff_eq.mp h2
        rw [this]
      · rw [if_neg h2]
        have h3 : Go.Lib.indexByte t c ≠ -1 := by simpa using h2
        have h4 := Go.Lib.indexByte_ge t c
        exact decide_eq_decide.mpr ⟨fun _ => by omega, fun _ => by omega⟩
theorem strings_Contains.at (s : ByteArray) (c : UInt8) : strings_Contains.f s ⟨#[c]⟩ = some (s.data.toList.contains c) := by
  unfold strings_Contains.f
  rw [if_pos (show (⟨#[c]⟩ : ByteArray).size = 1 from rfl), ← index_has]
  rfl
/-- A piece that is under way, laid ahead of what follows. -/
def glue (p : List UInt8) : List (List UInt8) → List (List UInt8)
  | [] => [p]
  | x :: r => (p ++ x) :: r
/-- The parts of a text between bytes. -/
def parts (c : UInt8) : List UInt8 → List (List UInt8)
  | [] => [[]]
  | b :: t => if b = c then [] :: parts c t else glue [b] (parts c t)
theorem glue_ne (p : List UInt8) (L : List (List UInt8)) : glue p L ≠ [] := by cases L <;> simp [glue]
theorem parts_ne (c : UInt8) (l : List UInt8) : parts c l ≠ [] := by
  cases l with
  | nil => simp [parts]
  | cons b t =>
    unfold parts
    by_cases h : b = c
    · rw [if_pos h]; simp
    · rw [if_neg h]; exact glue_ne _ _
theorem glue_nil {L : List (List UInt8)} (h : L ≠ []) : glue [] L = L := by
  cases L with
  | nil => exact absurd rfl h
  | cons x r => rfl
theorem glue_glue (p : List UInt8) (b : UInt8) {L : List (List UInt8)} (h : L ≠ []) : glue p (glue [b] L) = glue (p ++ [b]) L := by
  cases L with
  | nil => exact absurd rfl h
  | cons x r => simp [glue]
theorem parts_head (c : UInt8) : ∀ l : List UInt8, ∃ r, parts c l = l.takeWhile (· != c) :: r
  | [] => ⟨[], rfl⟩
  | b :: t => by
    obtain ⟨r, hr⟩ := parts_head c t
    unfold parts
    by_cases h : b = c
    · rw [if_pos h]
      exact ⟨parts c t, by rw [List.takeWhile_cons]; simp [h]⟩
    · rw [if_neg h, hr]
      exact ⟨r, by simp [glue, h]⟩
def ba (l : List UInt8) : ByteArray := ⟨l.toArray⟩
theorem ba_data (s : ByteArray) : ba s.data.toList = s := by
  unfold ba
  apply ByteArray.ext
  simp
theorem ba_toList (l : List UInt8) : (ba l).data.toList = l := by simp [ba]
theorem ba_len (l : List UInt8) : (ba l).size = l.length := by simp [ba, ByteArray.size]
theorem extract_ba (s : ByteArray) (a b : Nat) : s.extract a b = ba ((s.data.toList.drop a).take (b - a)) := by
  rw [← Go.Lib.extract_data]
  exact (ba_data _).symm
theorem size_data (s : ByteArray) : s.data.toList.length = s.size := by
  rw [Array.length_toList]
  rfl
theorem index_take (l : List UInt8) (c : UInt8) : (Go.Lib.indexByte l c = -1 ∧ l.takeWhile (· != c) = l ∧ c ∉ l) ∨ ∃ i : Nat, Go.Lib.indexByte l c = i ∧ l.takeWhile (· != c) = l.take i ∧ i < l.length := by
  induction l with
  | nil => exact .inl ⟨rfl, rfl, by simp⟩
  | cons b t ih =>
    unfold Go.Lib.indexByte
    by_cases h : b = c
    · subst h
      exact .inr ⟨0, by simp, by simp, by simp⟩
    · rw [if_neg (by simpa using h)]
      have hb : (b != c) = true := by simpa using h
      rcases ih with ⟨h1, h2, h3⟩ | ⟨i, h1, h2, h3⟩
      · exact .inl ⟨by rw [h1]; rfl, by rw [List.takeWhile_cons, hb, if_pos rfl, h2], by simp [h3]; exact fun e => h e.symm⟩
      · refine .inr ⟨i + 1, ?_, ?_, by simp; omega⟩
        · rw [h1, if_neg (by intro e; have := beq_iff_eq.mp e; omega)]
          rfl
        · rw [List.takeWhile_cons, hb, if_pos rfl, h2, List.take_succ_cons]
theorem cut_fst (l : List UInt8) (c : UInt8) : (Go.Lib.cut l [c]).1 = l.takeWhile (· != c) := by
  unfold Go.Lib.cut
  rw [Go.Lib.index_one]
  rcases index_take l c with ⟨h1, h2, h3⟩ | ⟨i, h1, h2, h3⟩
  · rw [h1, if_neg (by decide), h2]
  · rw [h1, if_pos (by omega), h2]
    simp
theorem rdOf_get {xs : List ByteArray} {i : Int} {n : Nat} (h : i = n) (hn : n < xs.length) : rdOf ByteArray.empty xs i = xs[n] := by
  subst h
  simp [rdOf, List.getD_eq_getElem?_getD, List.getElem?_eq_getElem hn]
theorem copyS_ev (l : List ByteArray) (hl : l.length ≤ 1048576) : ∀ (d i : Nat) (out : List ByteArray), i + d = l.length → out.length = l.length → out.take i = l.take i → Ev (fun k => laws_toStringS.l0 k l out i) l := by
  intro d
  induction d with
  | zero =>
    intro i out e ho ht
    refine Ev.step (fun k => by rw [laws_toStringS.l0]) ?_
    refine ev_neg (by omega) ?_
    refine ev_some ?_
    rw [List.take_of_length_le (by omega), List.take_of_length_le (by omega)] at ht
    exact ht
  | succ d ih =>
    intro i out e ho ht
    refine Ev.step (fun k => by rw [laws_toStringS.l0]) ?_
    refine ev_pos (by omega) ?_
    refine ev_pos (by omega) ?_
    refine ev_pos (by omega) ?_
    rw [w64 (x := (i : Int) + 1) (by omega) (by omega), rdOf_get rfl (show i < l.length by omega), Int.toNat_natCast]
    refine ih (i + 1) _ (by omega) (by simp; omega) ?_
    rw [List.take_add_one, List.take_add_one, List.take_set_of_le (Nat.le_refl _), ht, List.getElem?_set_self (by omega), List.getElem?_eq_getElem (show i < l.length by omega)]
theorem laws_toStringS.ev (l : List ByteArray) (hl : l.length ≤ 1048576) : Ev (fun k => laws_toStringS.f k l) l := by
  unfold laws_toStringS.f
  refine ev_pos (by omega) ?_
  refine ev_pos (by omega) ?_
  exact copyS_ev l hl l.length 0 _ (by omega) (by simp) (by simp)
theorem eqS_ev (l : List ByteArray) (hl : l.length ≤ 9223372036854775807) : ∀ (d i : Nat), i + d = l.length → Ev (fun k => laws_eqStringS.l0 k l l i) true := by
  intro d
  induction d with
  | zero =>
    intro i e
    refine Ev.step (fun k => by rw [laws_eqStringS.l0]) ?_
    exact ev_neg (by omega) (ev_some rfl)
  | succ d ih =>
    intro i e
    refine Ev.step (fun k => by rw [laws_eqStringS.l0]) ?_
    refine ev_pos (by omega) ?_
    refine ev_pos (by omega) ?_
    refine ev_pos (by omega) ?_
    refine ev_pos rfl ?_
    rw [w64 (x := (i : Int) + 1) (by omega) (by omega)]
    exact ih (i + 1) (by omega)
theorem laws_eqStringS.ev (l : List ByteArray) (hl : l.length ≤ 9223372036854775807) : Ev (fun k => laws_eqStringS.f k l l) true := by
  unfold laws_eqStringS.f
  exact ev_pos rfl (eqS_ev l hl l.length 0 (by omega))
theorem szS_ev (l : List ByteArray) (hl : l.length ≤ 9223372036854775807) (hx : ∀ x ∈ l, x.size ≤ 9223372036854775807) : ∀ (d i : Nat) (left : Int), i + d = l.length → 0 ≤ left → left ≤ 1048576 →
    ∃ r, Ev (fun k => laws_szStringS.l0 k l left i) r ∧ (0 ≤ r → ∀ x ∈ l.drop i, x.size ≤ 1048576) := by
  intro d
  induction d with
  | zero =>
    intro i left e h0 h1
    refine ⟨left, ?_, fun _ x hx => ?_⟩
    · refine Ev.step (fun k => by rw [laws_szStringS.l0]) ?_
      exact ev_neg (by omega) (ev_some rfl)
    · rw [List.drop_eq_nil_of_le (by omega)] at hx
      cases hx
  | succ d ih =>
    intro i left e h0 h1
    have hi : i < l.length := by omega
    have hz := hx l[i] (List.getElem_mem hi)
    have hw : wrap64 (left - ((rdOf ByteArray.empty l i).size : Int)) = left - (l[i].size : Int) := by rw [rdOf_get rfl hi, w64 (by omega) (by omega)]
    by_cases h : left - (l[i].size : Int) < 0
    · refine ⟨-1, ?_, fun h => absurd h (by omega)⟩
      refine Ev.step (fun k => by rw [laws_szStringS.l0]) ?_
      refine ev_pos (by omega) ?_
      refine ev_pos (by omega) ?_
      rw [hw]
      exact ev_pos h (ev_some rfl)
    · obtain ⟨r, hr, hq⟩ := ih (i + 1) (left - (l[i].size : Int)) (by omega) (by omega) (by omega)
      refine ⟨r, ?_, fun h0 x hx => ?_⟩
      · refine Ev.step (fun k => by rw [laws_szStringS.l0]) ?_
        refine ev_pos (by omega) ?_
        refine ev_pos (by omega) ?_
        rw [hw]
        refine ev_neg h ?_
        rw [w64 (x := (i : Int) + 1) (by omega) (by omega)]
        exact hr
      · rw [List.drop_eq_getElem_cons hi] at hx
        rcases List.mem_cons.mp hx with rfl | hx
        · omega
        · exact hq h0 x hx
theorem laws_szStringS.ev (l : List ByteArray) (hl : l.length ≤ 9223372036854775807) (hx : ∀ x ∈ l, x.size ≤ 9223372036854775807) : ∃ r, Ev (fun k => laws_szStringS.f k l 1048576) r ∧ (0 ≤ r → l.length ≤ 1048576 ∧ ∀ x ∈ l, x.size ≤ 1048576) := by
  unfold laws_szStringS.f
  have hw : wrap64 (1048576 - (l.length : Int)) = 1048576 - (l.length : Int) := w64 (by omega) (by omega)
  by_cases h : 1048576 - (l.length : Int) < 0
  · exact ⟨-1, by rw [hw]; exact ev_pos h (ev_some rfl), fun h => absurd h (by omega)⟩
  · obtain ⟨r, hr, hq⟩ := szS_ev l hl hx l.length 0 (1048576 - (l.length : Int)) (by omega) (by omega) (by omega)
    exact ⟨r, by rw [hw]; exact ev_neg h hr, fun h0 => ⟨by omega, by simpa using hq h0⟩⟩
def dl (l : List ByteArray) : List (List UInt8) := l.map (·.data.toList)
/-- The parts joined, if no one holds the sign and the whole is not too long. -/
def joinOf (l : List ByteArray) (c : UInt8) : ByteArray × Bool :=
  if (l.all fun x => !x.data.toList.contains c) = true ∧ (Go.Lib.join (dl l) [c]).length ≤ 4000 then (ba (Go.Lib.join (dl l) [c]), true) else (⟨#[]⟩, false)
/-- What is behind a beginning. -/
def joinMore (out : ByteArray) (t : List ByteArray) (c : UInt8) : ByteArray × Bool :=
  if (t.all fun x => !x.data.toList.contains c) = true ∧ out.size + (Go.Lib.joinTail [c] (dl t)).length ≤ 4000 then (ba (out.data.toList ++ Go.Lib.joinTail [c] (dl t)), true) else (⟨#[]⟩, false)
theorem jt_cons (c : UInt8) (x : ByteArray) (t : List ByteArray) : Go.Lib.joinTail [c] (dl (x :: t)) = (c :: x.data.toList) ++ Go.Lib.joinTail [c] (dl t) := by simp [Go.Lib.joinTail, dl]
theorem bt_sign (c : UInt8) : bt ⟨#[c]⟩ 0 = c.toNat := rfl
theorem joinSpec_ev (l : List ByteArray) (c : UInt8) (hl : l.length ≤ 1048576) (hx : ∀ x ∈ l, x.size ≤ 1048576) : ∀ (d i : Nat) (out : ByteArray), i + d = l.length → 0 < i → out.size ≤ 4000 →
    Ev (fun k => spec_JoinStrings.l0 k l ⟨#[c]⟩ out i) (joinMore out (l.drop i) c) := by
  intro d
  induction d with
  | zero =>
    intro i out e hp ho
    refine Ev.step (fun k => by rw [spec_JoinStrings.l0]) ?_
    refine ev_neg (by omega) (ev_some ?_)
    rw [List.drop_eq_nil_of_le (by omega)]
    unfold joinMore
    rw [if_pos ⟨rfl, by simp [Go.Lib.joinTail, dl]; omega⟩]
    simp [Go.Lib.joinTail, dl, ba_data]
  | succ d ih =>
    intro i out e hp ho
    have hi : i < l.length := by omega
    have hz := hx l[i] (List.getElem_mem hi)
    refine Ev.step (fun k => by rw [spec_JoinStrings.l0]) ?_
    refine ev_pos (by omega) ?_
    refine ev_pos (by omega) ?_
    refine ev_pos (by rw [show (⟨#[c]⟩ : ByteArray).size = 1 from rfl]; decide) ?_
    rw [rdOf_get rfl hi, bt_sign, List.drop_eq_getElem_cons hi]
    refine Ev.bind (spec_l1Stands.ev l[i] c (by omega)) ?_
    cases hc : l[i].data.toList.contains c with
    | true =>
      refine ev_pos rfl (ev_some ?_)
      unfold joinMore
      rw [if_neg (by simp only [List.all_cons, hc]; simp)]
    | false =>
      refine ev_neg (by simp) ?_
      refine ev_pos (by omega) ?_
      have s1 : (out ++ (⟨#[c]⟩ : ByteArray)).size = out.size + 1 := by rw [ByteArray.size_append]; rfl
      have s2 : ((out ++ (⟨#[c]⟩ : ByteArray)) ++ l[i]).size = out.size + 1 + l[i].size := by rw [ByteArray.size_append, s1]
      refine ev_pos (by rw [show (⟨#[c]⟩ : ByteArray).size = 1 from rfl]; omega) ?_
      refine ev_pos (by rw [s1]; omega) ?_
      have hlen := Go.Lib.joinTail_length [c] (dl (l.drop (i + 1)))
      by_cases h : (((out ++ (⟨#[c]⟩ : ByteArray)) ++ l[i]).size : Int) > 4000
      · refine ev_pos h (ev_some ?_)
        unfold joinMore
        rw [if_neg]
        rintro ⟨-, e2⟩
        rw [jt_cons, List.length_append, List.length_cons, size_data] at e2
        omega
      · refine ev_neg h ?_
        rw [w64 (x := (i : Int) + 1) (by omega) (by omega)]
        have hh := ih (i + 1) ((out ++ (⟨#[c]⟩ : ByteArray)) ++ l[i]) (by omega) (by omega) (by omega)
        have e1 : joinMore out (l[i] :: l.drop (i + 1)) c = joinMore ((out ++ (⟨#[c]⟩ : ByteArray)) ++ l[i]) (l.drop (i + 1)) c := by
          unfold joinMore
          rw [jt_cons, s2, List.all_cons, hc, Bool.not_false, Bool.true_and, List.length_append, List.length_cons, size_data]
          have ed : ((out ++ (⟨#[c]⟩ : ByteArray)) ++ l[i]).data.toList = out.data.toList ++ (c :: l[i].data.toList) := by simp
          rw [ed, List.append_assoc]
          simp only [show out.size + (l[i].size + 1 + (Go.Lib.joinTail [c] (dl (l.drop (i + 1)))).length) = out.size + 1 + l[i].size + (Go.Lib.joinTail [c] (dl (l.drop (i + 1)))).length by omega]
        rw [e1]
        exact hh
theorem spec_JoinStrings.ev (l : List ByteArray) (s : ByteArray) (hl : l.length ≤ 1048576) (hx : ∀ x ∈ l, x.size ≤ 1048576) :
    Ev (fun k => spec_JoinStrings.f k l s) (if h : s.size = 1 ∧ l ≠ [] then joinOf l (s[0]'(by omega)) else (⟨#[]⟩, false)) := by
  unfold spec_JoinStrings.f
  by_cases h1 : s.size = 1
  · refine ev_pos (by omega) ?_
    refine Ev.step (fun k => by rw [spec_JoinStrings.j0]) ?_
    obtain ⟨⟨q⟩⟩ := s
    obtain ⟨c, rfl⟩ := List.length_eq_one_iff.mp (show q.length = 1 from h1)
    cases l with
    | nil => exact ev_pos rfl (ev_some (by rw [dif_neg (by simp)]))
    | cons x t =>
      refine ev_neg (by rw [List.length_cons]; intro e; have := eq_of_beq e; omega) ?_
      rw [dif_pos ⟨h1, by simp⟩]
      refine Ev.step (fun k => by rw [spec_JoinStrings.l0]) ?_
      refine ev_pos (by rw [List.length_cons]; omega) ?_
      refine ev_pos (by omega) ?_
      refine ev_pos (by rw [show (⟨⟨[c]⟩⟩ : ByteArray).size = 1 from rfl]; decide) ?_
      have hz := hx x (by simp)
      have e0 : rdOf ByteArray.empty (x :: t) 0 = x := rfl
      have hbt : bt (⟨⟨[c]⟩⟩ : ByteArray) 0 = c.toNat := rfl
      have hg : (⟨⟨[c]⟩⟩ : ByteArray)[0]'(by omega) = c := rfl
      rw [e0, hbt, hg]
      have hd : dl (x :: t) = x.data.toList :: dl t := rfl
      refine Ev.bind (spec_l1Stands.ev x c (by omega)) ?_
      cases hc : x.data.toList.contains c with
      | true =>
        refine ev_pos rfl (ev_some ?_)
        unfold joinOf
        rw [if_neg (by simp only [List.all_cons, hc]; simp)]
      | false =>
        refine ev_neg (by simp) ?_
        refine ev_neg (by omega) ?_
        have s1 : ((⟨#[]⟩ : ByteArray) ++ x).size = x.size := by rw [ByteArray.size_append, show (⟨#[]⟩ : ByteArray).size = 0 from rfl, Nat.zero_add]
        refine ev_pos (by rw [show (⟨#[]⟩ : ByteArray).size = 0 from rfl]; omega) ?_
        by_cases h : ((((⟨#[]⟩ : ByteArray) ++ x).size : Nat) : Int) > 4000
        · refine ev_pos h (ev_some ?_)
          unfold joinOf
          rw [if_neg]
          rintro ⟨-, e2⟩
          rw [hd, Go.Lib.join_cons, List.length_append, size_data] at e2
          omega
        · refine ev_neg h ?_
          rw [show wrap64 ((0 : Int) + 1) = ((1 : Nat) : Int) from by rw [w64 (by omega) (by omega)]; rfl]
          have hh := joinSpec_ev (x :: t) c hl hx t.length 1 ((⟨#[]⟩ : ByteArray) ++ x) (by simp; omega) (by omega) (by omega)
          have e1 : joinOf (x :: t) c = joinMore ((⟨#[]⟩ : ByteArray) ++ x) t c := by
            unfold joinOf joinMore
            rw [s1, hd, Go.Lib.join_cons, List.all_cons, hc, Bool.not_false, Bool.true_and, List.length_append, size_data]
            have ed : ((⟨#[]⟩ : ByteArray) ++ x).data.toList = x.data.toList := by simp
            rw [ed]
          rw [e1]
          exact hh
  · refine ev_neg (by omega) ?_
    refine Ev.step (fun k => by rw [spec_JoinStrings.j0]) ?_
    exact ev_pos rfl (ev_some (by rw [dif_neg (fun e => h1 e.1)]))
/-- How long the parts are together. -/
def lenOf (l : List ByteArray) : Nat := (l.map (·.size)).sum
theorem lens_dl (l : List ByteArray) : Go.Lib.lens (dl l) = lenOf l := by
  unfold Go.Lib.lens dl lenOf
  rw [List.map_map]
  rfl
theorem join_len (x : ByteArray) (t : List ByteArray) (c : UInt8) : (Go.Lib.join (dl (x :: t)) [c]).length = t.length + lenOf (x :: t) := by
  rw [show dl (x :: t) = x.data.toList :: dl t from rfl, Go.Lib.join_cons, List.length_append, size_data, Go.Lib.joinTail_length, lens_dl]
  simp [dl, lenOf]
  try omega
theorem strings_Join.at' (l : List ByteArray) (c : UInt8) (h1 : l.length ≤ 1048576) (h : (Go.Lib.join (dl l) [c]).length ≤ 4000) : strings_Join.f l ⟨#[c]⟩ = some (ba (Go.Lib.join (dl l) [c])) := by
  unfold strings_Join.f
  have e : (⟨#[c]⟩ : ByteArray).data.toList = [c] := rfl
  rw [e]
  exact if_pos ⟨by omega, Nat.le_trans h (by decide)⟩
theorem joinImpl_ev (x : ByteArray) (t : List ByteArray) (c : UInt8) (hl : (x :: t).length ≤ 1048576) (hx : ∀ y ∈ x :: t, y.size ≤ 1048576) : ∀ (d i : Nat) (T : Int), i + d = (x :: t).length → 0 ≤ T → (i = 0 → T ≤ 1048576) → (0 < i → T ≤ 4000) →
    T + lenOf ((x :: t).drop i) = t.length + lenOf (x :: t) →
    Ev (fun k => impl_JoinStrings.l0 k (x :: t) ⟨#[c]⟩ T (x :: t) ((x :: t).length : Int) i) (if (((x :: t).drop i).all fun y => !y.data.toList.contains c) = true ∧ t.length + lenOf (x :: t) ≤ 4000 then (ba (Go.Lib.join (dl (x :: t)) [c]), true) else (⟨#[]⟩, false)) := by
  intro d
  induction d with
  | zero =>
    intro i T e h0 h1 h2 hT
    refine Ev.step (fun k => by rw [impl_JoinStrings.l0]) ?_
    refine ev_neg (by omega) ?_
    have hp : 0 < i := by simp at e; omega
    have hlen := join_len x t c
    rw [List.drop_eq_nil_of_le (by omega)] at hT ⊢
    have hz : lenOf [] = 0 := rfl
    have hle : t.length + lenOf (x :: t) ≤ 4000 := by have := h2 hp; omega
    rw [strings_Join.at' _ c hl (by omega), if_pos ⟨rfl, hle⟩]
    exact ev_some rfl
  | succ d ih =>
    intro i T e h0 h1 h2 hT
    have hi : i < (x :: t).length := by omega
    have hz := hx (x :: t)[i] (List.getElem_mem hi)
    refine Ev.step (fun k => by rw [impl_JoinStrings.l0]) ?_
    refine ev_pos (by omega) ?_
    refine ev_pos (by omega) ?_
    refine ev_pos (by omega) ?_
    have hTb : T ≤ 1048576 := by
      rcases Nat.eq_zero_or_pos i with q | q
      · exact h1 q
      · have := h2 q; omega
    have hw : wrap64 (T + ((rdOf ByteArray.empty (x :: t) i).size : Int)) = T + ((x :: t)[i].size : Int) := by rw [rdOf_get rfl hi, w64 (by omega) (by omega)]
    rw [hw, rdOf_get rfl hi]
    rw [List.drop_eq_getElem_cons hi] at hT ⊢
    have hl2 : lenOf ((x :: t)[i] :: (x :: t).drop (i + 1)) = (x :: t)[i].size + lenOf ((x :: t).drop (i + 1)) := by simp [lenOf]
    rw [hl2] at hT
    by_cases h : T + ((x :: t)[i].size : Int) > 4000
    · refine ev_pos h (ev_some ?_)
      rw [if_neg (fun q => by have := q.2; omega)]
    · refine ev_neg h ?_
      refine Ev.bind (ev_const (strings_Contains.at _ c)) ?_
      cases hc : (x :: t)[i].data.toList.contains c with
      | true =>
        refine ev_pos rfl (ev_some ?_)
        rw [if_neg (by simp only [List.all_cons, hc]; simp)]
      | false =>
        refine ev_neg (by simp) ?_
        rw [w64 (x := (i : Int) + 1) (by omega) (by omega), List.all_cons, hc, Bool.not_false, Bool.true_and]
        exact ih (i + 1) _ (by omega) (by omega) (fun q => absurd q (by omega)) (fun _ => by omega) (by omega)
theorem impl_JoinStrings.ev (l : List ByteArray) (s : ByteArray) (hl : l.length ≤ 1048576) (hx : ∀ x ∈ l, x.size ≤ 1048576) :
    Ev (fun k => impl_JoinStrings.f k l s) (if h : s.size = 1 ∧ l ≠ [] then joinOf l (s[0]'(by omega)) else (⟨#[]⟩, false)) := by
  unfold impl_JoinStrings.f
  cases l with
  | nil =>
    refine ev_pos rfl ?_
    refine Ev.step (fun k => by rw [impl_JoinStrings.j0]) ?_
    exact ev_pos rfl (ev_some (by rw [dif_neg (by simp)]))
  | cons x t =>
    refine ev_neg (by rw [List.length_cons]; omega) ?_
    refine Ev.step (fun k => by rw [impl_JoinStrings.j0]) ?_
    by_cases h1 : s.size = 1
    · refine ev_neg (by simp [h1]) ?_
      obtain ⟨⟨q⟩⟩ := s
      obtain ⟨c, rfl⟩ := List.length_eq_one_iff.mp (show q.length = 1 from h1)
      have hg : (⟨⟨[c]⟩⟩ : ByteArray)[0]'(by omega) = c := rfl
      rw [dif_pos ⟨h1, by simp⟩, hg]
      have hw : wrap64 (((x :: t).length : Int) - 1) = (t.length : Int) := by rw [w64 (by omega) (by omega)]; simp
      rw [hw]
      have hh := joinImpl_ev x t c hl hx (x :: t).length 0 t.length (by omega) (by omega) (fun _ => by simp at hl; omega) (fun q => absurd q (by omega)) (by simp)
      unfold joinOf
      rw [join_len]
      exact hh
    · refine ev_pos (bne_iff_ne.mpr (by omega)) (ev_some ?_)
      rw [dif_neg (fun e => h1 e.1)]
theorem FnExactJoinStrings (l : List ByteArray) (s : ByteArray) (hl : l.length ≤ 9223372036854775807) (hx : ∀ x ∈ l, x.size ≤ 9223372036854775807) (hs : s.size ≤ 140737488351232) : ∃ k, laws_FnExactJoinStrings.f k l s = some true := by
  refine Ev.rounds (r := true) ?_
  unfold laws_FnExactJoinStrings.f
  by_cases h : (s.size : Int) > 1048576
  · exact ev_pos h (ev_some rfl)
  refine ev_neg h ?_
  obtain ⟨r, hr, hq⟩ := laws_szStringS.ev l hl hx
  refine Ev.bind hr ?_
  by_cases h0 : r < 0
  · exact ev_pos h0 (ev_some rfl)
  refine ev_neg h0 ?_
  obtain ⟨h1, h2⟩ := hq (by omega)
  refine Ev.bind (laws_toStringS.ev l h1) ?_
  refine Ev.bind (spec_JoinStrings.ev l s h1 h2) ?_
  refine Ev.bind (laws_toStringS.ev l h1) ?_
  refine Ev.bind (impl_JoinStrings.ev l s h1 h2) ?_
  refine ev_pos rfl ?_
  refine Ev.step (fun k => by rw [laws_FnExactJoinStrings.j0]) ?_
  refine ev_neg (by simp) ?_
  refine Ev.bind (laws_toStringS.ev l h1) ?_
  refine Ev.bind (laws_eqStringS.ev l (by omega)) ?_
  exact ev_pos rfl (ev_some rfl)

end Go.Proofs.Ythlialpfknefmaa.Pure
