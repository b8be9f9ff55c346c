/- The plain side of the law FnExactSplitString: the printed law, whatever its input (within the form's bounds), comes to true. No other condition. -/
import Derived.Test.YthlialpfknefmaaDoorPFnExactSplitStringx2
import Derived.Test.YthlialpfknefmaaDoorBase
import Derived.Test.YthlialpfknefmaaDoorMath
namespace Go.Proofs.YthlialpfknefmaaDoor.Pure
open Go.RowKit Go.Proofs.YthlialpfknefmaaDoor.PFnExactSplitString Go.Proofs.YthlialpfknefmaaDoorW.PrintWords Go.Proofs.YthlialpfknefmaaDoorW.PrintLast Go.Proofs.YthlialpfknefmaaDoorW.PrintMore Go.Proofs.YthlialpfknefmaaDoor.Base Go.Proofs.YthlialpfknefmaaDoor.M
set_option linter.unusedVariables false
set_option linter.unusedSimpArgs false

/-- Does the byte stand in the text, from place i on? -/
def standsAt (s : ByteArray) (c : UInt8) (i : Nat) : Bool := (s.data.toList.drop i).contains c
theorem bt_eq (s : ByteArray) (i : Nat) (h : i < s.size) : bt s i = (s.data.toList[i]'(by simpa using h)).toNat := by
  unfold bt
  rw [dif_pos (by rw [Int.toNat_natCast]; exact h)]
  simp only [Int.toNat_natCast, Array.getElem_toList]
  rfl
theorem index_has (l : List UInt8) (c : UInt8) : decide (0 ≤ Go.Lib.indexByte l c) = l.contains c := by
  induction l with
  | nil => rfl
  | cons b t ih =>
    unfold Go.Lib.indexByte
    rw [List.contains_cons]
    by_cases h : b = c
    · subst h
      simp
    · rw [if_neg (by simpa using h), show (c == b) = false from by simpa using fun e => h e.symm, Bool.false_or, ← ih]
      by_cases h2 : Go.Lib.indexByte t c == -1
      · rw [if_pos h2]
        have := beq_iff_eq.mp h2
        rw [this]
      · rw [if_neg h2]
        have h3 : Go.Lib.indexByte t c ≠ -1 := by simpa using h2
        have h4 := Go.Lib.indexByte_ge t c
        exact decide_eq_decide.mpr ⟨fun _ => by omega, fun _ => by omega⟩
/-- A piece that is under way, laid ahead of what follows. -/
def glue (p : List UInt8) : List (List UInt8) → List (List UInt8)
  | [] => [p]
  | x :: r => (p ++ x) :: r
/-- The parts of a text between bytes. -/
def parts (c : UInt8) : List UInt8 → List (List UInt8)
  | [] => [[]]
  | b :: t => if b = c then [] :: parts c t else glue [b] (parts c t)
theorem glue_ne (p : List UInt8) (L : List (List UInt8)) : glue p L ≠ [] := by cases L <;> simp [glue]
theorem parts_ne (c : UInt8) (l : List UInt8) : parts c l ≠ [] := by
  cases l with
  | nil => simp [parts]
  | cons b t =>
    unfold parts
    by_cases h : b = c
    · rw [if_pos h]; simp
    · rw [if_neg h]; exact glue_ne _ _
theorem glue_nil {L : List (List UInt8)} (h : L ≠ []) : glue [] L = L := by
  cases L with
  | nil => exact absurd rfl h
  | cons x r => rfl
theorem glue_glue (p : List UInt8) (b : UInt8) {L : List (List UInt8)} (h : L ≠ []) : glue p (glue [b] L) = glue (p ++ [b]) L := by
  cases L with
  | nil => exact absurd rfl h
  | cons x r => simp [glue]
theorem parts_head (c : UInt8) : ∀ l : List UInt8, ∃ r, parts c l = l.takeWhile (· != c) :: r
  | [] => ⟨[], rfl⟩
  | b :: t => by
    obtain ⟨r, hr⟩ := parts_head c t
    unfold parts
    by_cases h : b = c
    · rw [if_pos h]
      exact ⟨parts c t, by rw [List.takeWhile_cons]; simp [h]⟩
    · rw [if_neg h, hr]
      exact ⟨r, by simp [glue, h]⟩
def ba (l : List UInt8) : ByteArray := ⟨l.toArray⟩
theorem ba_data (s : ByteArray) : ba s.data.toList = s := by
  unfold ba
  apply ByteArray.ext
  simp
theorem ba_toList (l : List UInt8) : (ba l).data.toList = l := by simp [ba]
theorem ba_len (l : List UInt8) : (ba l).size = l.length := by simp [ba, ByteArray.size]
theorem extract_ba (s : ByteArray) (a b : Nat) : s.extract a b = ba ((s.data.toList.drop a).take (b - a)) := by
  rw [← Go.Lib.extract_data]
  exact (ba_data _).symm
theorem size_data (s : ByteArray) : s.data.toList.length = s.size := by
  rw [Array.length_toList]
  rfl
theorem split_ev (s : ByteArray) (c : UInt8) (hs : s.size ≤ 1048576) : ∀ (d i f : Nat) (out : List ByteArray), i + d = s.size → f ≤ i → out.length ≤ i →
    Ev (fun k => spec_l1Split.l0 k s c.toNat out f i) (out ++ (glue ((s.data.toList.drop f).take (i - f)) (parts c (s.data.toList.drop i))).map ba) := by
  intro d
  induction d with
  | zero =>
    intro i f out e hf ho
    refine Ev.step (fun k => by rw [spec_l1Split.l0]) ?_
    refine ev_neg (by omega) ?_
    refine ev_pos (by omega) ?_
    refine ev_pos (by omega) ?_
    refine ev_pos (by omega) ?_
    refine ev_some ?_
    have hz : i = s.size := by omega
    subst hz
    rw [List.drop_eq_nil_of_le (i := s.size) (by rw [size_data]; omega), Int.toNat_natCast, extract_ba]
    simp [parts, glue]
  | succ d ih =>
    intro i f out e hf ho
    refine Ev.step (fun k => by rw [spec_l1Split.l0]) ?_
    refine ev_pos (by omega) ?_
    refine ev_pos (by omega) ?_
    have hi : i < s.size := by omega
    have hl : i < s.data.toList.length := by rw [size_data]; exact hi
    have hw : wrap64 ((i : Int) + 1) = ((i + 1 : Nat) : Int) := by rw [w64 (by omega) (by omega)]; omega
    rw [bt_eq s i hi, List.drop_eq_getElem_cons hl]
    by_cases h : s.data.toList[i] = c
    · refine ev_pos (by rw [h]) ?_
      refine ev_pos (by omega) ?_
      refine ev_pos (by omega) ?_
      refine ev_pos (by omega) ?_
      refine ev_pos (by omega) ?_
      simp only [hw, Int.toNat_natCast]
      have hh := ih (i + 1) (i + 1) (out ++ [s.extract f i]) (by omega) (Nat.le_refl _) (by simp; omega)
      rw [Nat.sub_self, List.take_zero, glue_nil (parts_ne _ _)] at hh
      have e2 : out ++ (glue ((s.data.toList.drop f).take (i - f)) (parts c (s.data.toList[i] :: s.data.toList.drop (i + 1)))).map ba = (out ++ [s.extract f i]) ++ (parts c (s.data.toList.drop (i + 1))).map ba := by
        rw [parts, if_pos h, extract_ba]
        simp [glue]
      rw [e2]
      exact hh
    · refine ev_neg (fun e => h (UInt8.toNat_inj.mp (by omega))) ?_
      simp only [hw]
      have hh := ih (i + 1) f out (by omega) (by omega) (by omega)
      have e3 : (s.data.toList.drop f).take (i + 1 - f) = (s.data.toList.drop f).take (i - f) ++ [s.data.toList[i]] := by
        rw [show i + 1 - f = (i - f) + 1 by omega, List.take_add_one, List.getElem?_drop, show f + (i - f) = i by omega, List.getElem?_eq_getElem hl]
        rfl
      rw [parts, if_neg h, glue_glue _ _ (parts_ne _ _), ← e3]
      exact hh
theorem spec_l1Split.ev (s : ByteArray) (c : UInt8) (hs : s.size ≤ 1048576) : Ev (fun k => spec_l1Split.f k s c.toNat) ((parts c s.data.toList).map ba) := by
  have h := split_ev s c hs s.size 0 0 [] (by omega) (Nat.le_refl _) (Nat.le_refl _)
  rw [List.drop_zero, Nat.sub_self, List.take_zero, glue_nil (parts_ne _ _), List.nil_append] at h
  exact h
theorem index_take (l : List UInt8) (c : UInt8) : (Go.Lib.indexByte l c = -1 ∧ l.takeWhile (· != c) = l ∧ c ∉ l) ∨ ∃ i : Nat, Go.Lib.indexByte l c = i ∧ l.takeWhile (· != c) = l.take i ∧ i < l.length := by
  induction l with
  | nil => exact .inl ⟨rfl, rfl, by simp⟩
  | cons b t ih =>
    unfold Go.Lib.indexByte
    by_cases h : b = c
    · subst h
      exact .inr ⟨0, by simp, by simp, by simp⟩
    · rw [if_neg (by simpa using h)]
      have hb : (b != c) = true := by simpa using h
      rcases ih with ⟨h1, h2, h3⟩ | ⟨i, h1, h2, h3⟩
      · exact .inl ⟨by rw [h1]; rfl, by rw [List.takeWhile_cons, hb, if_pos rfl, h2], by simp [h3]; exact fun e => h e.symm⟩
      · refine .inr ⟨i + 1, ?_, ?_, by simp; omega⟩
        · rw [h1, if_neg (by intro e; have := beq_iff_eq.mp e; omega)]
          rfl
        · rw [List.takeWhile_cons, hb, if_pos rfl, h2, List.take_succ_cons]
theorem cut_fst (l : List UInt8) (c : UInt8) : (Go.Lib.cut l [c]).1 = l.takeWhile (· != c) := by
  unfold Go.Lib.cut
  rw [Go.Lib.index_one]
  rcases index_take l c with ⟨h1, h2, h3⟩ | ⟨i, h1, h2, h3⟩
  · rw [h1, if_neg (by decide), h2]
  · rw [h1, if_pos (by omega), h2]
    simp
theorem parts_none {c : UInt8} : ∀ {l : List UInt8}, c ∉ l → parts c l = [l]
  | [], _ => rfl
  | b :: t, h => by
    have h1 : ¬ b = c := fun e => h (by simp [e])
    rw [parts, if_neg h1, parts_none (fun e => h (by simp [e]))]
    rfl
theorem parts_hit {c : UInt8} : ∀ {l : List UInt8} {i : Nat}, Go.Lib.indexByte l c = i → parts c l = l.take i :: parts c (l.drop (i + 1)) ∧ l.count c = 1 + (l.drop (i + 1)).count c
  | [], i, h => by
    have : (-1 : Int) = i := h
    omega
  | b :: t, i, h => by
    unfold Go.Lib.indexByte at h
    by_cases e : b = c
    · subst e
      rw [if_pos (by simp)] at h
      have hi : i = 0 := by omega
      subst hi
      refine ⟨by rw [parts, if_pos rfl]; rfl, ?_⟩
      rw [List.count_cons_self]
      simp
      omega
    · rw [if_neg (by simpa using e)] at h
      by_cases q : (Go.Lib.indexByte t c == -1) = true
      · rw [if_pos q] at h
        omega
      · rw [if_neg q] at h
        have hge := Go.Lib.indexByte_ge t c
        have hne : Go.Lib.indexByte t c ≠ -1 := by simpa using q
        obtain ⟨j, hj⟩ : ∃ j : Nat, Go.Lib.indexByte t c = j := ⟨(Go.Lib.indexByte t c).toNat, by omega⟩
        have hij : i = j + 1 := by omega
        subst hij
        obtain ⟨p1, p2⟩ := parts_hit hj
        refine ⟨?_, ?_⟩
        · rw [parts, if_neg e, p1]
          rfl
        · rw [List.count_cons_of_ne (by simpa using e), p2]
          rfl
theorem splitK_parts (c : UInt8) : ∀ (k : Nat) (l : List UInt8), l.count c ≤ k → Go.Lib.splitK [c] 0 k l = parts c l
  | 0, l, h => by
    rw [parts_none (by rw [← List.count_eq_zero]; omega)]
    rfl
  | k + 1, l, h => by
    unfold Go.Lib.splitK
    rw [Go.Lib.index_one]
    rcases index_take l c with ⟨h1, _, h3⟩ | ⟨i, h1, _, _⟩
    · rw [if_pos (by rw [h1]; rfl), parts_none h3]
    · obtain ⟨p1, p2⟩ := parts_hit h1
      rw [if_neg (by rw [h1]; intro e; have := eq_of_beq e; omega), p1, h1]
      have := splitK_parts c k (l.drop (i + 1)) (by omega)
      simp only [Int.toNat_natCast, Nat.add_zero, List.length_singleton]
      rw [this]
theorem strings_Split.at (s : ByteArray) (c : UInt8) (hs : s.size < 4294967281) : strings_Split.f s ⟨#[c]⟩ = some ((parts c s.data.toList).map ba) := by
  unfold strings_Split.f
  rw [if_pos ⟨hs, show 1 ≤ (⟨#[c]⟩ : ByteArray).size from Nat.le_refl 1⟩]
  have h := Go.Lib.splitB_data ⟨#[c]⟩ 0 (Go.Lib.countB s ⟨#[c]⟩) s
  rw [show (⟨#[c]⟩ : ByteArray).data.toList = [c] from rfl, splitK_parts c _ _ (by rw [show Go.Lib.countB s ⟨#[c]⟩ = Go.Lib.count s.data.toList [c] from rfl, Go.Lib.count_one]; exact Nat.le_refl _)] at h
  rw [← h, List.map_map]
  congr 1
  have e : (ba ∘ fun x : ByteArray => x.data.toList) = id := funext fun x => ba_data x
  rw [e, List.map_id]
theorem parts_length (c : UInt8) : ∀ l : List UInt8, (parts c l).length ≤ l.length + 1
  | [] => by simp [parts]
  | b :: t => by
    have := parts_length c t
    unfold parts
    by_cases h : b = c
    · rw [if_pos h]; simp; omega
    · rw [if_neg h]
      cases hp : parts c t with
      | nil => simp [glue]
      | cons x r =>
        rw [hp] at this
        simp [glue] at this ⊢
        omega
theorem rdOf_get {xs : List ByteArray} {i : Int} {n : Nat} (h : i = n) (hn : n < xs.length) : rdOf ByteArray.empty xs i = xs[n] := by
  subst h
  simp [rdOf, List.getD_eq_getElem?_getD, List.getElem?_eq_getElem hn]
theorem eqS_ev (l : List ByteArray) (hl : l.length ≤ 9223372036854775807) : ∀ (d i : Nat), i + d = l.length → Ev (fun k => laws_eqStringS.l0 k l l i) true := by
  intro d
  induction d with
  | zero =>
    intro i e
    refine Ev.step (fun k => by rw [laws_eqStringS.l0]) ?_
    exact ev_neg (by omega) (ev_some rfl)
  | succ d ih =>
    intro i e
    refine Ev.step (fun k => by rw [laws_eqStringS.l0]) ?_
    refine ev_pos (by omega) ?_
    refine ev_pos (by omega) ?_
    refine ev_pos (by omega) ?_
    refine ev_pos rfl ?_
    rw [w64 (x := (i : Int) + 1) (by omega) (by omega)]
    exact ih (i + 1) (by omega)
theorem laws_eqStringS.ev (l : List ByteArray) (hl : l.length ≤ 9223372036854775807) : Ev (fun k => laws_eqStringS.f k l l) true := by
  unfold laws_eqStringS.f
  exact ev_pos rfl (eqS_ev l hl l.length 0 (by omega))
theorem markLoop_ex : ∀ (x : Nat) (s : ByteArray), s.size + x ≤ 100000000 → ∃ r, Ev (fun k => laws_markText.l0 k x s) r := by
  intro x
  induction x using Nat.strongRecOn with
  | _ x ih =>
    intro s hs
    by_cases h : x = 0
    · subst h
      exact ⟨_, Ev.step (fun k => by rw [laws_markText.l0]) (ev_neg (by omega) (ev_pos (by omega) (ev_some rfl)))⟩
    · have h1 : Int.tdiv (x : Int) 10 = ((x / 10 : Nat) : Int) := by rw [Int.tdiv_eq_ediv_of_nonneg (by omega)]; omega
      have hw : wrap64 ((x / 10 : Nat) : Int) = ((x / 10 : Nat) : Int) := w64 (by omega) (by omega)
      have hz : ∀ z : Int, (strOfNums [z]).size = 1 := fun z => by simp [strOfNums, ByteArray.size]
      obtain ⟨r, hr⟩ := ih (x / 10) (by omega) (strOfNums [(wrap64 (48 + (Int.tmod x 10))) % 256] ++ s) (by rw [ByteArray.size_append, hz]; omega)
      refine ⟨r, Ev.step (fun k => by rw [laws_markText.l0]) (ev_pos (by omega) ?_)⟩
      simp only [Option.bind_some, h1, hw]
      exact ev_pos (by rw [hz]; omega) hr
theorem markText_ex (a : Nat) (h0 : 1 ≤ a) (h1 : a ≤ 100000000) : ∃ r, Ev (fun k => laws_markText.f k a) r := by
  obtain ⟨r, hr⟩ := markLoop_ex a ⟨#[]⟩ (by rw [show (⟨#[]⟩ : ByteArray).size = 0 from rfl]; omega)
  refine ⟨r, ?_⟩
  unfold laws_markText.f
  exact ev_neg (by omega) hr
def Marked (a : Nat) (m : List ByteArray) : Prop := ∀ (i : Nat) (h : i < m.length), Ev (fun k => laws_markText.f k ((a + i : Nat) : Int)) m[i]
theorem laws_markStringS.ev (l : List ByteArray) (a : Nat) (h0 : 1 ≤ a) (h1 : a + l.length ≤ 100000000) : ∃ m, Ev (fun k => laws_markStringS.f k l a) (((a + l.length : Nat) : Int), m) ∧ m.length = l.length ∧ Marked a m := by
  have main : ∀ (d i : Nat) (x : List ByteArray), i + d = l.length → x.length = l.length → (∀ (j : Nat) (h : j < x.length), j < i → Ev (fun k => laws_markText.f k ((a + j : Nat) : Int)) x[j]) →
      ∃ m, Ev (fun k => laws_markStringS.l0 k x ((a + i : Nat) : Int) i) (((a + l.length : Nat) : Int), m) ∧ m.length = l.length ∧ Marked a m := by
    intro d
    induction d with
    | zero =>
      intro i x e hx hj
      refine ⟨x, ?_, hx, fun j h => hj j h (by omega)⟩
      refine Ev.step (fun k => by rw [laws_markStringS.l0]) ?_
      refine ev_neg (by omega) (ev_some ?_)
      rw [show a + i = a + l.length by omega]
    | succ d ih =>
      intro i x e hx hj
      obtain ⟨t, ht⟩ := markText_ex (a + i) (by omega) (by omega)
      obtain ⟨m, hm, h2, h3⟩ := ih (i + 1) (x.set i t) (by omega) (by simpa using hx) (fun j h hj' => by
        by_cases q : j = i
        · subst q
          simpa using ht
        · rw [List.getElem_set_ne (by omega)]
          exact hj j (by simpa using h) (by omega))
      refine ⟨m, ?_, h2, h3⟩
      refine Ev.step (fun k => by rw [laws_markStringS.l0]) ?_
      refine ev_pos (by omega) ?_
      refine Ev.bind ht ?_
      refine ev_pos (by omega) ?_
      rw [w64 (x := (i : Int) + 1) (by omega) (by omega), w64 (x := ((a + i : Nat) : Int) + 1) (by omega) (by omega), Int.toNat_natCast]
      exact hm
  obtain ⟨m, h⟩ := main l.length 0 l (by omega) rfl (fun j h hj => absurd hj (by omega))
  exact ⟨m, h⟩
theorem laws_heldStringS.ev (m : List ByteArray) (a : Nat) (h0 : 1 ≤ a) (h1 : a + m.length ≤ 100000000) (hm : Marked a m) : Ev (fun k => laws_heldStringS.f k m a) ((a + m.length : Nat) : Int) := by
  have main : ∀ (d i : Nat), i + d = m.length → Ev (fun k => laws_heldStringS.l0 k m ((a + i : Nat) : Int) i) ((a + m.length : Nat) : Int) := by
    intro d
    induction d with
    | zero =>
      intro i e
      refine Ev.step (fun k => by rw [laws_heldStringS.l0]) ?_
      refine ev_neg (by omega) (ev_some ?_)
      rw [show a + i = a + m.length by omega]
    | succ d ih =>
      intro i e
      have hi : i < m.length := by omega
      refine Ev.step (fun k => by rw [laws_heldStringS.l0]) ?_
      refine ev_pos (by omega) ?_
      refine ev_pos (by omega) ?_
      refine Ev.bind (hm i hi) ?_
      refine ev_pos (by rw [rdOf_get rfl hi]) ?_
      rw [w64 (x := (i : Int) + 1) (by omega) (by omega), w64 (x := ((a + i : Nat) : Int) + 1) (by omega) (by omega)]
      exact ih (i + 1) (by omega)
  exact main m.length 0 (by omega)
def splitOf (s sep : ByteArray) : List ByteArray × Bool := if h : sep.size = 1 ∧ s.size ≤ 4000 then ((parts (sep[0]'(by omega)) s.data.toList).map ba, true) else ([], false)
theorem splitOf_len (s sep : ByteArray) : (splitOf s sep).1.length ≤ 4001 := by
  unfold splitOf
  by_cases h : sep.size = 1 ∧ s.size ≤ 4000
  · rw [dif_pos h, List.length_map]
    have := parts_length (sep[0]'(by omega)) s.data.toList
    rw [size_data] at this
    omega
  · rw [dif_neg h]
    simp
theorem spec_SplitString.ev (s sep : ByteArray) (hs : s.size ≤ 1048576) : Ev (fun k => spec_SplitString.f k s sep) (splitOf s sep) := by
  unfold spec_SplitString.f splitOf
  by_cases h1 : sep.size = 1
  · obtain ⟨c, rfl⟩ := Go.Lib.one_byte sep h1
    refine ev_pos (by omega) ?_
    by_cases h2 : (s.size : Int) > 4000
    · exact ev_pos h2 (ev_some (by rw [dif_neg (fun e => by have := e.2; omega)]))
    · refine ev_neg h2 ?_
      refine ev_pos (by rw [h1]; decide) ?_
      rw [dif_pos ⟨h1, by omega⟩, show bt (⟨#[c]⟩ : ByteArray) 0 = c.toNat from rfl, show (⟨#[c]⟩ : ByteArray)[0]'(by omega) = c from rfl]
      exact Ev.bind (spec_l1Split.ev s c hs) (ev_some rfl)
  · exact ev_neg (by omega) (ev_some (by rw [dif_neg (fun e => h1 e.1)]))
theorem impl_SplitString.at (s sep : ByteArray) : impl_SplitString.f s sep = some (splitOf s sep) := by
  unfold impl_SplitString.f splitOf
  by_cases h2 : (s.size : Int) > 4000
  · rw [if_pos h2, dif_neg (fun e => by have := e.2; omega)]
  · rw [if_neg h2]
    by_cases h1 : sep.size = 1
    · obtain ⟨c, rfl⟩ := Go.Lib.one_byte sep h1
      rw [if_pos (by omega), strings_Split.at s c (by omega), dif_pos ⟨h1, by omega⟩]
      rfl
    · rw [if_neg (by omega), dif_neg (fun e => h1 e.1)]
theorem FnExactSplitString (s sep : ByteArray) (hs : s.size ≤ 140737488351232) (hp : sep.size ≤ 140737488351232) : ∃ k, laws_FnExactSplitString.f k s sep = some true := by
  refine Ev.rounds (r := true) ?_
  unfold laws_FnExactSplitString.f
  by_cases h : (s.size : Int) > 1048576
  · exact ev_pos h (ev_some rfl)
  refine ev_neg h ?_
  by_cases h' : (sep.size : Int) > 1048576
  · exact ev_pos h' (ev_some rfl)
  refine ev_neg h' ?_
  have hl := splitOf_len s sep
  have hI := impl_SplitString.at s sep
  refine Ev.bind (spec_SplitString.ev s sep (by omega)) ?_
  refine Ev.bind (ev_const hI) ?_
  refine Ev.bind (laws_eqStringS.ev _ (by omega)) ?_
  refine ev_pos rfl ?_
  refine Ev.step (fun k => by rw [laws_FnExactSplitString.j0]) ?_
  refine ev_neg (by simp) ?_
  obtain ⟨m, hm, h1, h2⟩ := laws_markStringS.ev (splitOf s sep).1 1 (by omega) (by omega)
  refine Ev.bind hm ?_
  refine Ev.bind (laws_heldStringS.ev m 1 (by omega) (by omega) h2) ?_
  refine ev_neg (by omega) ?_
  refine ev_pos (by rw [h1]) ?_
  refine Ev.bind (ev_const hI) ?_
  refine Ev.bind (laws_eqStringS.ev _ (by omega)) ?_
  refine ev_pos rfl ?_
  refine Ev.step (fun k => by rw [laws_FnExactSplitString.j1]) ?_
  refine ev_neg (by simp) ?_
  refine Ev.bind (laws_heldStringS.ev m 1 (by omega) (by omega) h2) ?_
  refine ev_neg (by omega) ?_
  exact ev_pos (by rw [h1]) (ev_some rfl)

end Go.Proofs.YthlialpfknefmaaDoor.Pure
