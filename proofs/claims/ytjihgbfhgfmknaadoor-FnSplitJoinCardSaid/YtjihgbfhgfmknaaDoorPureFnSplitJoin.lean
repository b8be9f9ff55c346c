/- The plain side of the law FnSplitJoin: the printed law, whatever its input (within the form's bounds), comes to true. No other condition. -/
import Derived.Test.YtjihgbfhgfmknaaDoorPFnSplitJoinx3
import Derived.Test.YtjihgbfhgfmknaaDoorBase
import Derived.Test.YtjihgbfhgfmknaaDoorMath
namespace Go.Proofs.YtjihgbfhgfmknaaDoor.Pure
open Go.RowKit Go.Proofs.YtjihgbfhgfmknaaDoor.PFnSplitJoin Go.Proofs.YtjihgbfhgfmknaaDoorW.PrintWords Go.Proofs.YtjihgbfhgfmknaaDoorW.PrintLast Go.Proofs.YtjihgbfhgfmknaaDoorW.PrintMore Go.Proofs.YtjihgbfhgfmknaaDoor.Base Go.Proofs.YtjihgbfhgfmknaaDoor.M
set_option linter.unusedVariables false
set_option linter.unusedSimpArgs false

theorem bits_255 (x : Int) : 0 ≤ Go.bits .and .u64 x 255 ∧ Go.bits .and .u64 x 255 ≤ 255 := by
  have h : (BitVec.ofInt 64 x &&& BitVec.ofInt 64 255).toNat ≤ 255 := by
    rw [BitVec.toNat_and]
    exact Nat.le_trans Nat.and_le_right (by decide)
  have e : ∀ m : Nat, m ≤ 255 → 0 ≤ IntKind.u64.wrap (m : Int) ∧ IntKind.u64.wrap (m : Int) ≤ 255 := by
    intro m hm
    have e1 : IntKind.u64.wrap (m : Int) = (m : Int) % 18446744073709551616 := rfl
    rw [e1]
    omega
  exact e _ h
/-- The next byte of a draw: one place on, 0 to 255. -/
theorem next_tot (l : List Int) (hl8 : ∀ x ∈ l, 0 ≤ x ∧ x ≤ 255) (p s : Int) (h : 0 ≤ p ∧ p ≤ 1000000000) : ∃ v s', spec_l1Cur_next.f l p s = some (v, p + 1, s') ∧ 0 ≤ v ∧ v ≤ 255 := by
  unfold spec_l1Cur_next.f
  rw [w64 (x := p + 1) (by omega) (by omega)]
  have hb : ∀ x : Int, 0 ≤ wrap64 (Go.bits .and .u64 x 255) ∧ wrap64 (Go.bits .and .u64 x 255) ≤ 255 := by
    intro x
    have := bits_255 x
    rw [w64 (by omega) (by omega)]
    exact this
  by_cases c : p < (l.length : Int)
  · have hr : 0 ≤ rd l p ∧ rd l p ≤ 255 := by
      rw [rd_get (n := p.toNat) (by omega) (by omega)]
      exact hl8 _ (List.getElem_mem _)
    rw [if_pos c, if_pos h.1]
    by_cases c2 : p + 1 ≤ (l.length : Int)
    · rw [if_pos c2]
      exact ⟨_, _, rfl, by rw [w64 (by omega) (by omega)]; exact hr⟩
    · rw [if_neg c2]
      exact ⟨_, _, rfl, hb _⟩
  · rw [if_neg c]
    by_cases c2 : p + 1 ≤ (l.length : Int)
    · rw [if_pos c2]
      exact ⟨_, _, rfl, by omega⟩
    · rw [if_neg c2]
      exact ⟨_, _, rfl, hb _⟩
theorem pick_tot (l : List Int) (hl8 : ∀ x ∈ l, 0 ≤ x ∧ x ≤ 255) (p s n : Int) (h : 0 ≤ p ∧ p ≤ 900000000) : ∃ v p' s', spec_l1Cur_pick.f l p s n = some (v, p', s') ∧ 0 ≤ v ∧ (1 ≤ n → v < n) ∧ (n < 1 → v = 0) ∧ 0 ≤ p' ∧ p' ≤ p + 2 := by
  unfold spec_l1Cur_pick.f
  by_cases c : n ≤ 1
  · rw [if_pos c]
    exact ⟨_, _, _, rfl, by omega, by omega, fun _ => rfl, by omega, by omega⟩
  · rw [if_neg c]
    obtain ⟨v, s1, e1, v1, v2⟩ := next_tot l hl8 p s (by omega)
    rw [e1]
    simp only [Option.bind_some]
    by_cases c2 : n > 200
    · rw [if_pos c2]
      obtain ⟨u, s2, e2, u1, u2⟩ := next_tot l hl8 (p + 1) s1 (by omega)
      rw [e2]
      simp only [Option.bind_some]
      rw [if_neg (by omega), w64 (x := v * 256) (by omega) (by omega), w64 (x := v * 256 + u) (by omega) (by omega), Int.tmod_eq_emod_of_nonneg (by omega)]
      exact ⟨_, _, _, rfl, Int.emod_nonneg _ (by omega), fun _ => Int.emod_lt_of_pos _ (by omega), by omega, by omega, by omega⟩
    · rw [if_neg c2, if_neg (by omega), Int.tmod_eq_emod_of_nonneg v1]
      exact ⟨_, _, _, rfl, Int.emod_nonneg _ (by omega), fun _ => Int.emod_lt_of_pos _ (by omega), by omega, by omega, by omega⟩
theorem one_tot (l : List Int) (hl8 : ∀ x ∈ l, 0 ≤ x ∧ x ≤ 255) (p s n : Int) (h : 0 ≤ p ∧ p ≤ 900000000) : ∃ b p' s', spec_l1Cur_one.f l p s n = some (b, p', s') ∧ 0 ≤ p' ∧ p' ≤ p + 2 := by
  unfold spec_l1Cur_one.f
  obtain ⟨v, p', s', e, _, _, _, h1, h2⟩ := pick_tot l hl8 p s n h
  rw [e]
  exact ⟨_, _, _, rfl, h1, h2⟩
theorem dig_at (d : Nat) (h : d < 10) : (⟨#[48, 49, 50, 51, 52, 53, 54, 55, 56, 57]⟩ : ByteArray).extract d (d + 1) = ⟨#[UInt8.ofNat (48 + d)]⟩ := by
  have : ∀ q : Fin 10, (⟨#[48, 49, 50, 51, 52, 53, 54, 55, 56, 57]⟩ : ByteArray).extract q.1 (q.1 + 1) = ⟨#[UInt8.ofNat (48 + q.1)]⟩ := by decide +kernel
  exact this ⟨d, h⟩
theorem dec_len (m : Nat) : (Go.Lib.decDigits m).length ≤ m + 1 := by
  induction m using Nat.strongRecOn with
  | _ m ih =>
    unfold Go.Lib.decDigits
    by_cases h : m < 10
    · rw [dif_pos h]
      simp
    · rw [dif_neg h]
      have := ih (m / 10) (by omega)
      simp
      omega
theorem ba_app (a b : List UInt8) : (⟨a.toArray⟩ : ByteArray) ++ (⟨b.toArray⟩ : ByteArray) = ⟨(a ++ b).toArray⟩ := by
  apply ByteArray.ext
  rw [ByteArray.data_append]
  simp
theorem ba_size (a : List UInt8) : (⟨a.toArray⟩ : ByteArray).size = a.length := by simp [ByteArray.size]
/-- Does the byte stand in the text, from place i on? -/
def standsAt (s : ByteArray) (c : UInt8) (i : Nat) : Bool := (s.data.toList.drop i).contains c
theorem bt_eq (s : ByteArray) (i : Nat) (h : i < s.size) : bt s i = (s.data.toList[i]'(by simpa using h)).toNat := by
  unfold bt
  rw [dif_pos (by rw [Int.toNat_natCast]; exact h)]
  simp only [Int.toNat_natCast, Array.getElem_toList]
  rfl
theorem stands_ev (s : ByteArray) (c : UInt8) (hs : s.size ≤ 140737488351232) : ∀ (d i : Nat), i + d = s.size → Ev (fun k => spec_l1Stands.l0 k s c.toNat i) (standsAt s c i) := by
  intro d
  induction d with
  | zero =>
    intro i e
    refine Ev.step (fun k => by rw [spec_l1Stands.l0]) ?_
    refine ev_neg (by omega) ?_
    refine ev_some ?_
    unfold standsAt
    rw [List.drop_eq_nil_of_le (by rw [Array.length_toList]; have : s.size = s.data.size := rfl; omega)]
    rfl
  | succ d ih =>
    intro i e
    refine Ev.step (fun k => by rw [spec_l1Stands.l0]) ?_
    refine ev_pos (by omega) ?_
    refine ev_pos (by omega) ?_
    have hi : i < s.size := by omega
    have hl : i < s.data.toList.length := by simpa using hi
    have ed : standsAt s c i = ((s.data.toList[i] == c) || standsAt s c (i + 1)) := by
      unfold standsAt
      rw [List.drop_eq_getElem_cons hl, List.contains_cons]
      congr 1
      exact Bool.eq_iff_iff.mpr ⟨fun h => by simpa using (beq_iff_eq.mp h).symm, fun h => by simpa using (beq_iff_eq.mp h).symm⟩
    rw [bt_eq s i hi]
    by_cases h : s.data.toList[i] = c
    · refine ev_pos (by rw [h]) (ev_some ?_)
      rw [ed, beq_iff_eq.mpr h]
      rfl
    · refine ev_neg (fun e => h (UInt8.toNat_inj.mp (by omega))) ?_
      rw [w64 (x := (i : Int) + 1) (by omega) (by omega), ed, beq_eq_false_iff_ne.mpr h, Bool.false_or]
      exact ih (i + 1) (by omega)
theorem spec_l1Stands.ev (s : ByteArray) (c : UInt8) (hs : s.size ≤ 140737488351232) : Ev (fun k => spec_l1Stands.f k s c.toNat) (s.data.toList.contains c) := by
  have h := stands_ev s c hs s.size 0 (by omega)
  rw [show standsAt s c 0 = s.data.toList.contains c from by unfold standsAt; rw [List.drop_zero]] at h
  exact h
theorem index_has (l : List UInt8) (c : UInt8) : decide (0 ≤ Go.Lib.indexByte l c) = l.contains c := by
  induction l with
  | nil => rfl
  | cons b t ih =>
    unfold Go.Lib.indexByte
    rw [List.contains_cons]
    by_cases h : b = c
    · subst h
      simp
    · rw [if_neg (by simpa using h), show (c == b) = false from by simpa using fun e => h e.symm, Bool.false_or, ← ih]
      by_cases h2 : Go.Lib.indexByte t c == -1
      · rw [if_pos h2]
        have := beq_iff_eq.mp h2
        rw [this]
      · rw [if_neg h2]
        have h3 : Go.Lib.indexByte t c ≠ -1 := by simpa using h2
        have h4 := Go.Lib.indexByte_ge t c
        exact decide_eq_decide.mpr ⟨fun _ => by omega, fun _ => by omega⟩
theorem strings_Contains.at (s : ByteArray) (c : UInt8) : strings_Contains.f s ⟨#[c]⟩ = some (s.data.toList.contains c) := by
  unfold strings_Contains.f
  rw [if_pos (show (⟨#[c]⟩ : ByteArray).size = 1 from rfl), ← index_has]
  rfl
/-- A piece that is under way, laid ahead of what follows. -/
def glue (p : List UInt8) : List (List UInt8) → List (List UInt8)
  | [] => [p]
  | x :: r => (p ++ x) :: r
/-- The parts of a text between bytes. -/
def parts (c : UInt8) : List UInt8 → List (List UInt8)
  | [] => [[]]
  | b :: t => if b = c then [] :: parts c t else glue [b] (parts c t)
theorem glue_ne (p : List UInt8) (L : List (List UInt8)) : glue p L ≠ [] := by cases L <;> simp [glue]
theorem parts_ne (c : UInt8) (l : List UInt8) : parts c l ≠ [] := by
  cases l with
  | nil => simp [parts]
  | cons b t =>
    unfold parts
    by_cases h : b = c
    · rw [if_pos h]; simp
    · rw [if_neg h]; exact glue_ne _ _
theorem glue_nil {L : List (List UInt8)} (h : L ≠ []) : glue [] L = L := by
  cases L with
  | nil => exact absurd rfl h
  | cons x r => rfl
theorem glue_glue (p : List UInt8) (b : UInt8) {L : List (List UInt8)} (h : L ≠ []) : glue p (glue [b] L) = glue (p ++ [b]) L := by
  cases L with
  | nil => exact absurd rfl h
  | cons x r => simp [glue]
theorem parts_head (c : UInt8) : ∀ l : List UInt8, ∃ r, parts c l = l.takeWhile (· != c) :: r
  | [] => ⟨[], rfl⟩
  | b :: t => by
    obtain ⟨r, hr⟩ := parts_head c t
    unfold parts
    by_cases h : b = c
    · rw [if_pos h]
      exact ⟨parts c t, by rw [List.takeWhile_cons]; simp [h]⟩
    · rw [if_neg h, hr]
      exact ⟨r, by simp [glue, h]⟩
def ba (l : List UInt8) : ByteArray := ⟨l.toArray⟩
theorem ba_data (s : ByteArray) : ba s.data.toList = s := by
  unfold ba
  apply ByteArray.ext
  simp
theorem ba_toList (l : List UInt8) : (ba l).data.toList = l := by simp [ba]
theorem ba_len (l : List UInt8) : (ba l).size = l.length := by simp [ba, ByteArray.size]
theorem extract_ba (s : ByteArray) (a b : Nat) : s.extract a b = ba ((s.data.toList.drop a).take (b - a)) := by
  rw [← Go.Lib.extract_data]
  exact (ba_data _).symm
theorem size_data (s : ByteArray) : s.data.toList.length = s.size := by
  rw [Array.length_toList]
  rfl
theorem index_take (l : List UInt8) (c : UInt8) : (Go.Lib.indexByte l c = -1 ∧ l.takeWhile (· != c) = l ∧ c ∉ l) ∨ ∃ i : Nat, Go.Lib.indexByte l c = i ∧ l.takeWhile (· != c) = l.take i ∧ i < l.length := by
  induction l with
  | nil => exact .inl ⟨rfl, rfl, by simp⟩
  | cons b t ih =>
    unfold Go.Lib.indexByte
    by_cases h : b = c
    · subst h
      exact .inr ⟨0, by simp, by simp, by simp⟩
    · rw [if_neg (by simpa using h)]
      have hb : (b != c) = true := by simpa using h
      rcases ih with ⟨h1, h2, h3⟩ | ⟨i, h1, h2, h3⟩
      · exact .inl ⟨by rw [h1]; rfl, by rw [List.takeWhile_cons, hb, if_pos rfl, h2], by simp [h3]; exact fun e => h e.symm⟩
      · refine .inr ⟨i + 1, ?_, ?_, by simp; omega⟩
        · rw [h1, if_neg (by intro e; have := beq_iff_eq.mp e; omega)]
          rfl
        · rw [List.takeWhile_cons, hb, if_pos rfl, h2, List.take_succ_cons]
theorem cut_fst (l : List UInt8) (c : UInt8) : (Go.Lib.cut l [c]).1 = l.takeWhile (· != c) := by
  unfold Go.Lib.cut
  rw [Go.Lib.index_one]
  rcases index_take l c with ⟨h1, h2, h3⟩ | ⟨i, h1, h2, h3⟩
  · rw [h1, if_neg (by decide), h2]
  · rw [h1, if_pos (by omega), h2]
    simp
theorem parts_none {c : UInt8} : ∀ {l : List UInt8}, c ∉ l → parts c l = [l]
  | [], _ => rfl
  | b :: t, h => by
    have h1 : ¬ b = c := fun e => h (by simp [e])
    rw [parts, if_neg h1, parts_none (fun e => h (by simp [e]))]
    rfl
theorem parts_hit {c : UInt8} : ∀ {l : List UInt8} {i : Nat}, Go.Lib.indexByte l c = i → parts c l = l.take i :: parts c (l.drop (i + 1)) ∧ l.count c = 1 + (l.drop (i + 1)).count c
  | [], i, h => by
    have : (-1 : Int) = i := h
    omega
  | b :: t, i, h => by
    unfold Go.Lib.indexByte at h
    by_cases e : b = c
    · subst e
      rw [if_pos (by simp)] at h
      have hi : i = 0 := by omega
      subst hi
      refine ⟨by rw [parts, if_pos rfl]; rfl, ?_⟩
      rw [List.count_cons_self]
      simp
      omega
    · rw [if_neg (by simpa using e)] at h
      by_cases q : (Go.Lib.indexByte t c == -1) = true
      · rw [if_pos q] at h
        omega
      · rw [if_neg q] at h
        have hge := Go.Lib.indexByte_ge t c
        have hne : Go.Lib.indexByte t c ≠ -1 := by simpa using q
        obtain ⟨j, hj⟩ : ∃ j : Nat, Go.Lib.indexByte t c = j := ⟨(Go.Lib.indexByte t c).toNat, by omega⟩
        have hij : i = j + 1 := by omega
        subst hij
        obtain ⟨p1, p2⟩ := parts_hit hj
        refine ⟨?_, ?_⟩
        · rw [parts, if_neg e, p1]
          rfl
        · rw [List.count_cons_of_ne (by simpa using e), p2]
          rfl
theorem splitK_parts (c : UInt8) : ∀ (k : Nat) (l : List UInt8), l.count c ≤ k → Go.Lib.splitK [c] 0 k l = parts c l
  | 0, l, h => by
    rw [parts_none (by rw [← List.count_eq_zero]; omega)]
    rfl
  | k + 1, l, h => by
    unfold Go.Lib.splitK
    rw [Go.Lib.index_one]
    rcases index_take l c with ⟨h1, _, h3⟩ | ⟨i, h1, _, _⟩
    · rw [if_pos (by rw [h1]; rfl), parts_none h3]
    · obtain ⟨p1, p2⟩ := parts_hit h1
      rw [if_neg (by rw [h1]; intro e; have := eq_of_beq e; omega), p1, h1]
      have := splitK_parts c k (l.drop (i + 1)) (by omega)
      simp only [Int.toNat_natCast, Nat.add_zero, List.length_singleton]
      rw [this]
theorem strings_Split.at (s : ByteArray) (c : UInt8) (hs : s.size < 4294967281) : strings_Split.f s ⟨#[c]⟩ = some ((parts c s.data.toList).map ba) := by
  unfold strings_Split.f
  rw [if_pos ⟨hs, show 1 ≤ (⟨#[c]⟩ : ByteArray).size from Nat.le_refl 1⟩]
  have h := Go.Lib.splitB_data ⟨#[c]⟩ 0 (Go.Lib.countB s ⟨#[c]⟩) s
  rw [show (⟨#[c]⟩ : ByteArray).data.toList = [c] from rfl, splitK_parts c _ _ (by rw [show Go.Lib.countB s ⟨#[c]⟩ = Go.Lib.count s.data.toList [c] from rfl, Go.Lib.count_one]; exact Nat.le_refl _)] at h
  rw [← h, List.map_map]
  congr 1
  have e : (ba ∘ fun x : ByteArray => x.data.toList) = id := funext fun x => ba_data x
  rw [e, List.map_id]
theorem parts_length (c : UInt8) : ∀ l : List UInt8, (parts c l).length ≤ l.length + 1
  | [] => by simp [parts]
  | b :: t => by
    have := parts_length c t
    unfold parts
    by_cases h : b = c
    · rw [if_pos h]; simp; omega
    · rw [if_neg h]
      cases hp : parts c t with
      | nil => simp [glue]
      | cons x r =>
        rw [hp] at this
        simp [glue] at this ⊢
        omega
theorem rdOf_get {xs : List ByteArray} {i : Int} {n : Nat} (h : i = n) (hn : n < xs.length) : rdOf ByteArray.empty xs i = xs[n] := by
  subst h
  simp [rdOf, List.getD_eq_getElem?_getD, List.getElem?_eq_getElem hn]
def dl (l : List ByteArray) : List (List UInt8) := l.map (·.data.toList)
/-- The parts joined, if no one holds the sign and the whole is not too long. -/
def joinOf (l : List ByteArray) (c : UInt8) : ByteArray × Bool :=
  if (l.all fun x => !x.data.toList.contains c) = true ∧ (Go.Lib.join (dl l) [c]).length ≤ 4000 then (ba (Go.Lib.join (dl l) [c]), true) else (⟨#[]⟩, false)
/-- What is behind a beginning. -/
def joinMore (out : ByteArray) (t : List ByteArray) (c : UInt8) : ByteArray × Bool :=
  if (t.all fun x => !x.data.toList.contains c) = true ∧ out.size + (Go.Lib.joinTail [c] (dl t)).length ≤ 4000 then (ba (out.data.toList ++ Go.Lib.joinTail [c] (dl t)), true) else (⟨#[]⟩, false)
theorem jt_cons (c : UInt8) (x : ByteArray) (t : List ByteArray) : Go.Lib.joinTail [c] (dl (x :: t)) = (c :: x.data.toList) ++ Go.Lib.joinTail [c] (dl t) := by simp [Go.Lib.joinTail, dl]
theorem bt_sign (c : UInt8) : bt ⟨#[c]⟩ 0 = c.toNat := rfl
theorem joinSpec_ev (l : List ByteArray) (c : UInt8) (hl : l.length ≤ 1048576) (hx : ∀ x ∈ l, x.size ≤ 1048576) : ∀ (d i : Nat) (out : ByteArray), i + d = l.length → 0 < i → out.size ≤ 4000 →
    Ev (fun k => spec_JoinStrings.l0 k l ⟨#[c]⟩ out i) (joinMore out (l.drop i) c) := by
  intro d
  induction d with
  | zero =>
    intro i out e hp ho
    refine Ev.step (fun k => by rw [spec_JoinStrings.l0]) ?_
    refine ev_neg (by omega) (ev_some ?_)
    rw [List.drop_eq_nil_of_le (by omega)]
    unfold joinMore
    rw [if_pos ⟨rfl, by simp [Go.Lib.joinTail, dl]; omega⟩]
    simp [Go.Lib.joinTail, dl, ba_data]
  | succ d ih =>
    intro i out e hp ho
    have hi : i < l.length := by omega
    have hz := hx l[i] (List.getElem_mem hi)
    refine Ev.step (fun k => by rw [spec_JoinStrings.l0]) ?_
    refine ev_pos (by omega) ?_
    refine ev_pos (by omega) ?_
    refine ev_pos (by rw [show (⟨#[c]⟩ : ByteArray).size = 1 from rfl]; decide) ?_
    rw [rdOf_get rfl hi, bt_sign, List.drop_eq_getElem_cons hi]
    refine Ev.bind (spec_l1Stands.ev l[i] c (by omega)) ?_
    cases hc : l[i].data.toList.contains c with
    | true =>
      refine ev_pos rfl (ev_some ?_)
      unfold joinMore
      rw [if_neg (by simp only [List.all_cons, hc]; simp)]
    | false =>
      refine ev_neg (by simp) ?_
      refine ev_pos (by omega) ?_
      have s1 : (out ++ (⟨#[c]⟩ : ByteArray)).size = out.size + 1 := by rw [ByteArray.size_append]; rfl
      have s2 : ((out ++ (⟨#[c]⟩ : ByteArray)) ++ l[i]).size = out.size + 1 + l[i].size := by rw [ByteArray.size_append, s1]
      refine ev_pos (by rw [show (⟨#[c]⟩ : ByteArray).size = 1 from rfl]; omega) ?_
      refine ev_pos (by rw [s1]; omega) ?_
      have hlen := Go.Lib.joinTail_length [c] (dl (l.drop (i + 1)))
      by_cases h : (((out ++ (⟨#[c]⟩ : ByteArray)) ++ l[i]).size : Int) > 4000
      · refine ev_pos h (ev_some ?_)
        unfold joinMore
        rw [if_neg]
        rintro ⟨-, e2⟩
        rw [jt_cons, List.length_append, List.length_cons, size_data] at e2
        omega
      · refine ev_neg h ?_
        rw [w64 (x := (i : Int) + 1) (by omega) (by omega)]
        have hh := ih (i + 1) ((out ++ (⟨#[c]⟩ : ByteArray)) ++ l[i]) (by omega) (by omega) (by omega)
        have e1 : joinMore out (l[i] :: l.drop (i + 1)) c = joinMore ((out ++ (⟨#[c]⟩ : ByteArray)) ++ l[i]) (l.drop (i + 1)) c := by
          unfold joinMore
          rw [jt_cons, s2, List.all_cons, hc, Bool.not_false, Bool.true_and, List.length_append, List.length_cons, size_data]
          have ed : ((out ++ (⟨#[c]⟩ : ByteArray)) ++ l[i]).data.toList = out.data.toList ++ (c :: l[i].data.toList) := by simp
          rw [ed, List.append_assoc]
          simp only [show out.size + (l[i].size + 1 + (Go.Lib.joinTail [c] (dl (l.drop (i + 1)))).length) = out.size + 1 + l[i].size + (Go.Lib.joinTail [c] (dl (l.drop (i + 1)))).length by omega]
        rw [e1]
        exact hh
theorem spec_JoinStrings.ev (l : List ByteArray) (s : ByteArray) (hl : l.length ≤ 1048576) (hx : ∀ x ∈ l, x.size ≤ 1048576) :
    Ev (fun k => spec_JoinStrings.f k l s) (if h : s.size = 1 ∧ l ≠ [] then joinOf l (s[0]'(by omega)) else (⟨#[]⟩, false)) := by
  unfold spec_JoinStrings.f
  by_cases h1 : s.size = 1
  · refine ev_pos (by omega) ?_
    refine Ev.step (fun k => by rw [spec_JoinStrings.j0]) ?_
    obtain ⟨⟨q⟩⟩ := s
    obtain ⟨c, rfl⟩ := List.length_eq_one_iff.mp (show q.length = 1 from h1)
    cases l with
    | nil => exact ev_pos rfl (ev_some (by rw [dif_neg (by simp)]))
    | cons x t =>
      refine ev_neg (by rw [List.length_cons]; intro e; have := eq_of_beq e; omega) ?_
      rw [dif_pos ⟨h1, by simp⟩]
      refine Ev.step (fun k => by rw [spec_JoinStrings.l0]) ?_
      refine ev_pos (by rw [List.length_cons]; omega) ?_
      refine ev_pos (by omega) ?_
      refine ev_pos (by rw [show (⟨⟨[c]⟩⟩ : ByteArray).size = 1 from rfl]; decide) ?_
      have hz := hx x (by simp)
      have e0 : rdOf ByteArray.empty (x :: t) 0 = x := rfl
      have hbt : bt (⟨⟨[c]⟩⟩ : ByteArray) 0 = c.toNat := rfl
      have hg : (⟨⟨[c]⟩⟩ : ByteArray)[0]'(by omega) = c := rfl
      rw [e0, hbt, hg]
      have hd : dl (x :: t) = x.data.toList :: dl t := rfl
      refine Ev.bind (spec_l1Stands.ev x c (by omega)) ?_
      cases hc : x.data.toList.contains c with
      | true =>
        refine ev_pos rfl (ev_some ?_)
        unfold joinOf
        rw [if_neg (by simp only [List.all_cons, hc]; simp)]
      | false =>
        refine ev_neg (by simp) ?_
        refine ev_neg (by omega) ?_
        have s1 : ((⟨#[]⟩ : ByteArray) ++ x).size = x.size := by rw [ByteArray.size_append, show (⟨#[]⟩ : ByteArray).size = 0 from rfl, Nat.zero_add]
        refine ev_pos (by rw [show (⟨#[]⟩ : ByteArray).size = 0 from rfl]; omega) ?_
        by_cases h : ((((⟨#[]⟩ : ByteArray) ++ x).size : Nat) : Int) > 4000
        · refine ev_pos h (ev_some ?_)
          unfold joinOf
          rw [if_neg]
          rintro ⟨-, e2⟩
          rw [hd, Go.Lib.join_cons, List.length_append, size_data] at e2
          omega
        · refine ev_neg h ?_
          rw [show wrap64 ((0 : Int) + 1) = ((1 : Nat) : Int) from by rw [w64 (by omega) (by omega)]; rfl]
          have hh := joinSpec_ev (x :: t) c hl hx t.length 1 ((⟨#[]⟩ : ByteArray) ++ x) (by simp; omega) (by omega) (by omega)
          have e1 : joinOf (x :: t) c = joinMore ((⟨#[]⟩ : ByteArray) ++ x) t c := by
            unfold joinOf joinMore
            rw [s1, hd, Go.Lib.join_cons, List.all_cons, hc, Bool.not_false, Bool.true_and, List.length_append, size_data]
            have ed : ((⟨#[]⟩ : ByteArray) ++ x).data.toList = x.data.toList := by simp
            rw [ed]
          rw [e1]
          exact hh
  · refine ev_neg (by omega) ?_
    refine Ev.step (fun k => by rw [spec_JoinStrings.j0]) ?_
    exact ev_pos rfl (ev_some (by rw [dif_neg (fun e => h1 e.1)]))
/-- How long the parts are together. -/
def lenOf (l : List ByteArray) : Nat := (l.map (·.size)).sum
theorem lens_dl (l : List ByteArray) : Go.Lib.lens (dl l) = lenOf l := by
  unfold Go.Lib.lens dl lenOf
  rw [List.map_map]
  rfl
theorem join_len (x : ByteArray) (t : List ByteArray) (c : UInt8) : (Go.Lib.join (dl (x :: t)) [c]).length = t.length + lenOf (x :: t) := by
  rw [show dl (x :: t) = x.data.toList :: dl t from rfl, Go.Lib.join_cons, List.length_append, size_data, Go.Lib.joinTail_length, lens_dl]
  simp [dl, lenOf]
  try omega
theorem strings_Join.at' (l : List ByteArray) (c : UInt8) (h1 : l.length ≤ 1048576) (h : (Go.Lib.join (dl l) [c]).length ≤ 4000) : strings_Join.f l ⟨#[c]⟩ = some (ba (Go.Lib.join (dl l) [c])) := by
  unfold strings_Join.f
  have e : (⟨#[c]⟩ : ByteArray).data.toList = [c] := rfl
  rw [e]
  exact if_pos ⟨by omega, Nat.le_trans h (by decide)⟩
theorem joinImpl_ev (x : ByteArray) (t : List ByteArray) (c : UInt8) (hl : (x :: t).length ≤ 1048576) (hx : ∀ y ∈ x :: t, y.size ≤ 1048576) : ∀ (d i : Nat) (T : Int), i + d = (x :: t).length → 0 ≤ T → (i = 0 → T ≤ 1048576) → (0 < i → T ≤ 4000) →
    T + lenOf ((x :: t).drop i) = t.length + lenOf (x :: t) →
    Ev (fun k => impl_JoinStrings.l0 k (x :: t) ⟨#[c]⟩ T (x :: t) ((x :: t).length : Int) i) (if (((x :: t).drop i).all fun y => !y.data.toList.contains c) = true ∧ t.length + lenOf (x :: t) ≤ 4000 then (ba (Go.Lib.join (dl (x :: t)) [c]), true) else (⟨#[]⟩, false)) := by
  intro d
  induction d with
  | zero =>
    intro i T e h0 h1 h2 hT
    refine Ev.step (fun k => by rw [impl_JoinStrings.l0]) ?_
    refine ev_neg (by omega) ?_
    have hp : 0 < i := by simp at e; omega
    have hlen := join_len x t c
    rw [List.drop_eq_nil_of_le (by omega)] at hT ⊢
    have hz : lenOf [] = 0 := rfl
    have hle : t.length + lenOf (x :: t) ≤ 4000 := by have := h2 hp; omega
    rw [strings_Join.at' _ c hl (by omega), if_pos ⟨rfl, hle⟩]
    exact ev_some rfl
  | succ d ih =>
    intro i T e h0 h1 h2 hT
    have hi : i < (x :: t).length := by omega
    have hz := hx (x :: t)[i] (List.getElem_mem hi)
    refine Ev.step (fun k => by rw [impl_JoinStrings.l0]) ?_
    refine ev_pos (by omega) ?_
    refine ev_pos (by omega) ?_
    refine ev_pos (by omega) ?_
    have hTb : T ≤ 1048576 := by
      rcases Nat.eq_zero_or_pos i with q | q
      · exact h1 q
      · have := h2 q; omega
    have hw : wrap64 (T + ((rdOf ByteArray.empty (x :: t) i).size : Int)) = T + ((x :: t)[i].size : Int) := by rw [rdOf_get rfl hi, w64 (by omega) (by omega)]
    rw [hw, rdOf_get rfl hi]
    rw [List.drop_eq_getElem_cons hi] at hT ⊢
    have hl2 : lenOf ((x :: t)[i] :: (x :: t).drop (i + 1)) = (x :: t)[i].size + lenOf ((x :: t).drop (i + 1)) := by simp [lenOf]
    rw [hl2] at hT
    by_cases h : T + ((x :: t)[i].size : Int) > 4000
    · refine ev_pos h (ev_some ?_)
      rw [if_neg (fun q => by have := q.2; omega)]
    · refine ev_neg h ?_
      refine Ev.bind (ev_const (strings_Contains.at _ c)) ?_
      cases hc : (x :: t)[i].data.toList.contains c with
      | true =>
        refine ev_pos rfl (ev_some ?_)
        rw [if_neg (by simp only [List.all_cons, hc]; simp)]
      | false =>
        refine ev_neg (by simp) ?_
        rw [w64 (x := (i : Int) + 1) (by omega) (by omega), List.all_cons, hc, Bool.not_false, Bool.true_and]
        exact ih (i + 1) _ (by omega) (by omega) (fun q => absurd q (by omega)) (fun _ => by omega) (by omega)
theorem impl_JoinStrings.ev (l : List ByteArray) (s : ByteArray) (hl : l.length ≤ 1048576) (hx : ∀ x ∈ l, x.size ≤ 1048576) :
    Ev (fun k => impl_JoinStrings.f k l s) (if h : s.size = 1 ∧ l ≠ [] then joinOf l (s[0]'(by omega)) else (⟨#[]⟩, false)) := by
  unfold impl_JoinStrings.f
  cases l with
  | nil =>
    refine ev_pos rfl ?_
    refine Ev.step (fun k => by rw [impl_JoinStrings.j0]) ?_
    exact ev_pos rfl (ev_some (by rw [dif_neg (by simp)]))
  | cons x t =>
    refine ev_neg (by rw [List.length_cons]; omega) ?_
    refine Ev.step (fun k => by rw [impl_JoinStrings.j0]) ?_
    by_cases h1 : s.size = 1
    · refine ev_neg (by simp [h1]) ?_
      obtain ⟨⟨q⟩⟩ := s
      obtain ⟨c, rfl⟩ := List.length_eq_one_iff.mp (show q.length = 1 from h1)
      have hg : (⟨⟨[c]⟩⟩ : ByteArray)[0]'(by omega) = c := rfl
      rw [dif_pos ⟨h1, by simp⟩, hg]
      have hw : wrap64 (((x :: t).length : Int) - 1) = (t.length : Int) := by rw [w64 (by omega) (by omega)]; simp
      rw [hw]
      have hh := joinImpl_ev x t c hl hx (x :: t).length 0 t.length (by omega) (by omega) (fun _ => by simp at hl; omega) (fun q => absurd q (by omega)) (by simp)
      unfold joinOf
      rw [join_len]
      exact hh
    · refine ev_pos (bne_iff_ne.mpr (by omega)) (ev_some ?_)
      rw [dif_neg (fun e => h1 e.1)]
theorem of_tot (l : List Int) (hl8 : ∀ x ∈ l, 0 ≤ x ∧ x ≤ 255) (p s : Int) (xs : List ByteArray) (hx : 1 ≤ xs.length ∧ xs.length ≤ 1000) (h : 0 ≤ p ∧ p ≤ 900000000) : ∃ v p' s', spec_l1Cur_of.f l p s xs = some (v, p', s') ∧ v ∈ xs ∧ 0 ≤ p' ∧ p' ≤ p + 2 := by
  unfold spec_l1Cur_of.f
  obtain ⟨v, p', s', e, v0, v1, _, h1, h2⟩ := pick_tot l hl8 p s xs.length h
  have hv := v1 (by omega)
  rw [e]
  simp only [Option.bind_some]
  rw [if_pos v0, if_pos hv]
  refine ⟨_, _, _, rfl, ?_, h1, h2⟩
  have hn : v.toNat < xs.length := by omega
  have : rdOf ByteArray.empty xs v = xs[v.toNat] := by
    unfold rdOf
    simp [List.getD_eq_getElem?_getD, List.getElem?_eq_getElem hn]
  rw [this]
  exact List.getElem_mem _
theorem any1_tot (l : List Int) (hl8 : ∀ x ∈ l, 0 ≤ x ∧ x ≤ 255) (p s : Int) (h : 0 ≤ p ∧ p ≤ 900000000) : ∃ v p' s', spec_l1Cur_any1.f l p s = some (v, p', s') ∧ v.size ≤ 10 ∧ 0 ≤ p' ∧ p' ≤ p + 2 := by
  unfold spec_l1Cur_any1.f
  obtain ⟨v, p', s', e, hv, h1, h2⟩ := of_tot l hl8 p s ([(⟨#[]⟩ : ByteArray), (⟨#[97]⟩ : ByteArray), (⟨#[97, 44, 98]⟩ : ByteArray), (⟨#[115, 111, 109, 101, 32, 119, 111, 114, 100, 115]⟩ : ByteArray), (⟨#[120, 35, 121]⟩ : ByteArray), (⟨#[45, 49, 50]⟩ : ByteArray), (⟨#[0, 255]⟩ : ByteArray), (⟨#[44, 44]⟩ : ByteArray), (⟨#[48]⟩ : ByteArray)] : List ByteArray) (by simp) h
  rw [e]
  refine ⟨_, _, _, rfl, ?_, h1, h2⟩
  show v.size ≤ 10
  simp at hv
  rcases hv with rfl | rfl | rfl | rfl | rfl | rfl | rfl | rfl | rfl <;> decide
def splitOf (s sep : ByteArray) : List ByteArray × Bool := if h : sep.size = 1 ∧ s.size ≤ 4000 then ((parts (sep[0]'(by omega)) s.data.toList).map ba, true) else ([], false)
theorem impl_SplitString.at (s sep : ByteArray) : impl_SplitString.f s sep = some (splitOf s sep) := by
  unfold impl_SplitString.f splitOf
  by_cases h2 : (s.size : Int) > 4000
  · rw [if_pos h2, dif_neg (fun e => by have := e.2; omega)]
  · rw [if_neg h2]
    by_cases h1 : sep.size = 1
    · obtain ⟨c, rfl⟩ := Go.Lib.one_byte sep h1
      rw [if_pos (by omega), strings_Split.at s c (by omega), dif_pos ⟨h1, by omega⟩]
      rfl
    · rw [if_neg (by omega), dif_neg (fun e => h1 e.1)]
theorem mem_le_sum : ∀ (L : List Nat) (n : Nat), n ∈ L → n ≤ L.sum
  | [], _, h => by cases h
  | a :: t, n, h => by
    rw [List.sum_cons]
    rcases List.mem_cons.mp h with rfl | h
    · omega
    · have := mem_le_sum t n h
      omega
theorem glue_mem {p : List UInt8} {L : List (List UInt8)} {c : UInt8} (hp : c ∉ p) (h : ∀ x ∈ L, c ∉ x) : ∀ x ∈ glue p L, c ∉ x := by
  cases L with
  | nil =>
    intro x hx
    simp [glue] at hx
    subst hx
    exact hp
  | cons y r =>
    intro x hx
    simp [glue] at hx
    rcases hx with rfl | hx
    · simp only [List.mem_append, not_or]
      exact ⟨hp, h y (by simp)⟩
    · exact h x (by simp [hx])
theorem parts_clean (c : UInt8) : ∀ l : List UInt8, ∀ x ∈ parts c l, c ∉ x
  | [] => by simp [parts]
  | b :: t => by
    unfold parts
    by_cases h : b = c
    · rw [if_pos h]
      intro x hx
      rcases List.mem_cons.mp hx with rfl | hx
      · simp
      · exact parts_clean c t x hx
    · rw [if_neg h]
      exact glue_mem (by simpa using fun e => h e.symm) (parts_clean c t)
theorem parts_join (c : UInt8) : ∀ l : List UInt8, Go.Lib.join (parts c l) [c] = l
  | [] => by rw [parts, Go.Lib.join_one]
  | b :: t => by
    have ih := parts_join c t
    unfold parts
    cases hp : parts c t with
    | nil => exact absurd hp (parts_ne c t)
    | cons y r =>
      rw [hp, Go.Lib.join_cons] at ih
      by_cases h : b = c
      · rw [if_pos h, Go.Lib.join_cons]
        simp [Go.Lib.joinTail] at ih ⊢
        exact ⟨h.symm, ih⟩
      · rw [if_neg h]
        show Go.Lib.join ((([b] : List UInt8) ++ y) :: r) [c] = b :: t
        rw [Go.Lib.join_cons, List.append_assoc, ih]
        rfl
theorem less_asym : ∀ a b : List UInt8, Go.Op.bytesLess a b = true → Go.Op.bytesLess b a = true → False
  | _, [], h, _ => by simp [Go.Op.bytesLess] at h
  | [], _ :: _, _, h => by simp [Go.Op.bytesLess] at h
  | x :: a, y :: b, h1, h2 => by
    simp only [Go.Op.bytesLess, Bool.or_eq_true, decide_eq_true_eq, Bool.and_eq_true, beq_iff_eq] at h1 h2
    rcases h1 with h1 | ⟨rfl, h1⟩
    · rcases h2 with h2 | ⟨rfl, _⟩
      · have e1 : x.toNat < y.toNat := UInt8.lt_iff_toNat_lt.mp h1
        have e2 : y.toNat < x.toNat := UInt8.lt_iff_toNat_lt.mp h2
        omega
      · have e1 := UInt8.lt_iff_toNat_lt.mp h1
        omega
    · rcases h2 with h2 | ⟨_, h2⟩
      · have e1 := UInt8.lt_iff_toNat_lt.mp h2
        omega
      · exact less_asym a b h1 h2
theorem drawSplitString_tot (l : List Int) (hl8 : ∀ x ∈ l, 0 ≤ x ∧ x ≤ 255) : ∃ s q, spec_DrawSplitString.f l = some (s, q) ∧ s.size ≤ 10 := by
  unfold spec_DrawSplitString.f
  obtain ⟨s, p1, s1, e, hs, h1, h2⟩ := any1_tot l hl8 0 0 (by omega)
  rw [e]
  simp only [Option.bind_some]
  obtain ⟨v, p2, s2, e2, hv, h3, h4⟩ := of_tot l hl8 p1 s1 [(⟨#[44]⟩ : ByteArray), (⟨#[44]⟩ : ByteArray), (⟨#[32]⟩ : ByteArray), (⟨#[]⟩ : ByteArray), (⟨#[44, 44]⟩ : ByteArray)] (by simp) (by omega)
  rw [e2]
  exact ⟨s, v, rfl, hs⟩
theorem drawLessString_tot (l : List Int) (hl8 : ∀ x ∈ l, 0 ≤ x ∧ x ≤ 255) : ∃ s q, spec_DrawLessString.f l = some (s, q) := by
  unfold spec_DrawLessString.f
  obtain ⟨s, p1, s1, e, hs, h1, h2⟩ := any1_tot l hl8 0 0 (by omega)
  rw [e]
  simp only [Option.bind_some]
  obtain ⟨v, p2, s2, e2, hv, h3, h4⟩ := any1_tot l hl8 p1 s1 (by omega)
  rw [e2]
  exact ⟨s, v, rfl⟩
theorem drawJoin_loop (l : List Int) (hl8 : ∀ x ∈ l, 0 ≤ x ∧ x ≤ 255) (n : Nat) (hn : n ≤ 4) : ∀ (d i : Nat) (out : List ByteArray) (p s : Int), i + d = n → out.length = i → (∀ x ∈ out, x.size ≤ 5000) → 0 ≤ p → p ≤ 2 + 2 * i →
    ∃ r : List ByteArray × ByteArray × Int × Int, Ev (fun k => spec_DrawJoinStrings.l0 k out n i l p s) r ∧ r.1.length ≤ 10 ∧ ∀ x ∈ r.1, x.size ≤ 5000 := by
  intro d
  induction d with
  | zero =>
    intro i out p s e ho hx hp0 hp1
    obtain ⟨b, p1, s1, e1, h1, h2⟩ := one_tot l hl8 p s 20 (by omega)
    have go : ∀ (q : List ByteArray) (p s : Int), 0 ≤ p → p ≤ 100 → q.length ≤ 10 → (∀ x ∈ q, x.size ≤ 5000) → ∃ r : List ByteArray × ByteArray × Int × Int, ((spec_l1Cur_of.f l p s (([(⟨#[44]⟩ : ByteArray), (⟨#[59]⟩ : ByteArray), (⟨#[59]⟩ : ByteArray), (⟨#[]⟩ : ByteArray), (⟨#[97, 98]⟩ : ByteArray)] : List ByteArray))).bind fun bt => some (q, bt.1, bt.2.1, bt.2.2)) = some r ∧ r.1.length ≤ 10 ∧ ∀ x ∈ r.1, x.size ≤ 5000 := by
      intro q p s h0 h1 hq hx
      obtain ⟨v, p2, s2, e2, hv, h3, h4⟩ := of_tot l hl8 p s [(⟨#[44]⟩ : ByteArray), (⟨#[59]⟩ : ByteArray), (⟨#[59]⟩ : ByteArray), (⟨#[]⟩ : ByteArray), (⟨#[97, 98]⟩ : ByteArray)] (by simp) (by omega)
      rw [e2]
      exact ⟨_, rfl, hq, hx⟩
    cases b with
    | true =>
      obtain ⟨v, p2, s2, e2, v0, v1, _, h3, h4⟩ := pick_tot l hl8 p1 s1 20 (by omega)
      have hv := v1 (by omega)
      have hw : wrap64 (3990 + v) = 3990 + v := w64 (by omega) (by omega)
      obtain ⟨r, er, hr1, hr2⟩ := go (out ++ [strOfNums (List.replicate (3990 + v).toNat 0)]) p2 s2 (by omega) (by omega) (by simp; omega) (by
        intro x hx2
        rcases List.mem_append.mp hx2 with h | h
        · exact hx x h
        · simp at h
          subst h
          unfold strOfNums
          rw [ba_size, List.length_map, List.length_replicate]
          omega)
      refine ⟨r, ?_, hr1, hr2⟩
      refine Ev.step (fun k => by rw [spec_DrawJoinStrings.l0]) ?_
      refine ev_neg (by omega) ?_
      refine Ev.bind (ev_const e1) ?_
      refine ev_pos rfl ?_
      refine Ev.bind (ev_const e2) ?_
      simp only [hw]
      refine ev_pos (by omega) ?_
      refine ev_pos (by omega) ?_
      refine ev_pos (by omega) ?_
      exact ev_const er
    | false =>
      obtain ⟨r, er, hr1, hr2⟩ := go out p1 s1 (by omega) (by omega) (by omega) hx
      refine ⟨r, ?_, hr1, hr2⟩
      refine Ev.step (fun k => by rw [spec_DrawJoinStrings.l0]) ?_
      refine ev_neg (by omega) ?_
      refine Ev.bind (ev_const e1) ?_
      refine ev_neg (by simp) ?_
      exact ev_const er
  | succ d ih =>
    intro i out p s e ho hx hp0 hp1
    obtain ⟨v, p1, s1, e1, hv, h1, h2⟩ := any1_tot l hl8 p s (by omega)
    obtain ⟨r, er, hr1, hr2⟩ := ih (i + 1) (out ++ [v]) p1 s1 (by omega) (by simp; omega) (by
      intro x hx2
      rcases List.mem_append.mp hx2 with h | h
      · exact hx x h
      · simp at h
        subst h
        omega) (by omega) (by omega)
    refine ⟨r, ?_, hr1, hr2⟩
    refine Ev.step (fun k => by rw [spec_DrawJoinStrings.l0]) ?_
    refine ev_pos (by omega) ?_
    refine Ev.bind (ev_const e1) ?_
    refine ev_pos (by omega) ?_
    rw [w64 (x := (i : Int) + 1) (by omega) (by omega)]
    exact er
theorem drawJoinStrings_tot (l : List Int) (hl8 : ∀ x ∈ l, 0 ≤ x ∧ x ≤ 255) : ∃ r : List ByteArray × ByteArray, Ev (fun k => spec_DrawJoinStrings.f k l) r ∧ r.1.length ≤ 10 ∧ ∀ x ∈ r.1, x.size ≤ 5000 := by
  obtain ⟨v, p, s, e, v0, v1, _, h1, h2⟩ := pick_tot l hl8 0 0 4 (by omega)
  have hv := v1 (by omega)
  obtain ⟨r, er, hr1, hr2⟩ := drawJoin_loop l hl8 v.toNat (by omega) v.toNat 0 [] p s (by omega) rfl (by simp) (by omega) (by omega)
  refine ⟨(r.1, r.2.1), ?_, hr1, hr2⟩
  unfold spec_DrawJoinStrings.f spec_DrawJoinStrings.inn
  refine Ev.bind (Ev.bind (ev_const e) ?_) (ev_some rfl)
  have hvn : ((v.toNat : Nat) : Int) = v := by omega
  rw [hvn] at er
  exact er
theorem FnSplitJoin (l : List Int) (hl : l.length * 1 ≤ 140737488351232) (hw : ∀ x ∈ l, (Lit.int .u8 x).wf = true) : ∃ k, laws_FnSplitJoin.f k l = some true := by
  have hl8 : ∀ x ∈ l, 0 ≤ x ∧ x ≤ 255 := by
    intro x hx
    have h2 : IntKind.u8.min ≤ x ∧ x ≤ IntKind.u8.max := by simpa [Lit.wf] using hw x hx
    rw [show IntKind.u8.min = 0 from rfl, show IntKind.u8.max = 255 from rfl] at h2
    exact h2
  refine Ev.rounds (r := true) ?_
  unfold laws_FnSplitJoin.f laws_vBig.f
  simp only [Option.bind_some]
  by_cases hb : (l.length : Int) > 65536
  · exact ev_pos (by simpa using hb) (ev_some rfl)
  refine ev_neg (by simpa using hb) ?_
  obtain ⟨s, sep, es, hs⟩ := drawSplitString_tot l hl8
  obtain ⟨⟨q, m⟩, eq, hq1, hq2⟩ := drawJoinStrings_tot l hl8
  obtain ⟨a, b, eab⟩ := drawLessString_tot l hl8
  refine Ev.bind (ev_const es) ?_
  refine Ev.bind (ev_const (impl_SplitString.at s sep)) ?_
  refine Ev.bind eq ?_
  have hx : ∀ x ∈ q, x.size ≤ 1048576 := fun x h => Nat.le_trans (hq2 x h) (by decide)
  have hql : q.length ≤ 1048576 := Nat.le_trans hq1 (by decide)
  refine Ev.bind (impl_JoinStrings.ev q m hql hx) ?_
  refine Ev.bind (spec_JoinStrings.ev q m hql hx) ?_
  refine Ev.bind (ev_const eab) ?_
  refine ev_pos rfl ?_
  refine ev_neg (by simp) ?_
  unfold impl_LessString.f spec_LessString.f
  simp only [Option.bind_some]
  refine ev_neg (by simp) ?_
  have htail : Ev (fun k => laws_FnSplitJoin.j0 k s sep (splitOf s sep).1 (splitOf s sep).2 false) true := by
    refine Ev.step (fun k => by rw [laws_FnSplitJoin.j0]) ?_
    refine ev_neg (by simp) ?_
    by_cases h1 : sep.size = 1
    · obtain ⟨c, rfl⟩ := Go.Lib.one_byte sep h1
      have e1 : splitOf s ⟨#[c]⟩ = ((parts c s.data.toList).map ba, true) := by
        unfold splitOf
        rw [dif_pos ⟨h1, by omega⟩]
        rfl
      rw [e1]
      refine ev_pos (by omega) ?_
      have hn : (parts c s.data.toList).length ≤ 11 := by
        have := parts_length c s.data.toList
        rw [size_data] at this
        omega
      have hj := parts_join c s.data.toList
      have hdl : dl ((parts c s.data.toList).map ba) = parts c s.data.toList := by
        unfold dl
        rw [List.map_map]
        rw [List.map_congr_left (g := id) (fun x _ => by simp [ba_toList]), List.map_id]
      have hz : ∀ x ∈ (parts c s.data.toList).map ba, x.size ≤ 1048576 := by
        intro x hx2
        have h2 := Go.Lib.joinTail_length [c] (parts c s.data.toList)
        obtain ⟨y, hy, rfl⟩ := List.mem_map.mp hx2
        rw [ba_len]
        have h3 : y.length ≤ s.data.toList.length := by
          rw [← hj]
          cases hp : parts c s.data.toList with
          | nil => rw [hp] at hy; cases hy
          | cons z r =>
            rw [hp] at hy
            rw [Go.Lib.join_cons, List.length_append]
            rcases List.mem_cons.mp hy with rfl | hy
            · omega
            · have : y.length ≤ (Go.Lib.joinTail [c] r).length := by
                unfold Go.Lib.joinTail
                rw [List.length_flatten]
                have h5 : ([c] ++ y).length ∈ (r.map ([c] ++ ·)).map List.length := List.mem_map.mpr ⟨_, List.mem_map.mpr ⟨y, hy, rfl⟩, rfl⟩
                have h6 := mem_le_sum _ _ h5
                simp at h6
                simp
                omega
              omega
        rw [size_data] at h3
        omega
      refine Ev.bind (impl_JoinStrings.ev _ _ (by rw [List.length_map]; omega) hz) ?_
      have hne : (parts c s.data.toList).map ba ≠ [] := by
        intro e
        exact parts_ne c _ (List.map_eq_nil_iff.mp e)
      have e2 : (if h : (⟨#[c]⟩ : ByteArray).size = 1 ∧ (parts c s.data.toList).map ba ≠ [] then joinOf ((parts c s.data.toList).map ba) ((⟨#[c]⟩ : ByteArray)[0]'(by omega)) else (⟨#[]⟩, false)) = (s, true) := by
        rw [dif_pos ⟨h1, hne⟩]
        show joinOf ((parts c s.data.toList).map ba) c = (s, true)
        unfold joinOf
        rw [hdl, hj, if_pos, ba_data]
        refine ⟨?_, by rw [size_data]; omega⟩
        rw [List.all_eq_true]
        intro x hx2
        obtain ⟨y, hy, rfl⟩ := List.mem_map.mp hx2
        have := parts_clean c _ y hy
        rw [ba_toList]
        simpa using this
      rw [e2]
      refine ev_pos rfl ?_
      refine ev_pos rfl ?_
      exact ev_some (by simp)
    · have e1 : splitOf s sep = ([], false) := by
        unfold splitOf
        rw [dif_neg (fun e => h1 e.1)]
      rw [e1]
      refine ev_neg (by omega) ?_
      exact ev_neg (by simp) (ev_some rfl)
  cases hc : Go.Op.bytesLess a.toList b.toList with
  | false => exact ev_neg (by simp) htail
  | true =>
    refine ev_pos rfl ?_
    have h2 : Go.Op.bytesLess b.toList a.toList = false := by
      cases h3 : Go.Op.bytesLess b.toList a.toList with
      | false => rfl
      | true => exact absurd (less_asym _ _ hc h3) id
    rw [h2]
    exact htail

end Go.Proofs.YtjihgbfhgfmknaaDoor.Pure
