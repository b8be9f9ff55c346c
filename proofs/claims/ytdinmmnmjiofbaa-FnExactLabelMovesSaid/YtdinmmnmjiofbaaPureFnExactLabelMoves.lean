/- The plain side of the law FnExactLabelMoves: the printed law, whatever its input (within the form's bounds), comes to true. No other condition. -/
import Derived.Test.YtdinmmnmjiofbaaPFnExactLabelMovesx3
import Derived.Test.YtdinmmnmjiofbaaBase
import Derived.Test.YtdinmmnmjiofbaaMath
namespace Go.Proofs.Ytdinmmnmjiofbaa.Pure
open Go.RowKit Go.Proofs.Ytdinmmnmjiofbaa.PFnExactLabelMoves Go.Proofs.YtdinmmnmjiofbaaW.PrintWords Go.Proofs.YtdinmmnmjiofbaaW.PrintLast Go.Proofs.YtdinmmnmjiofbaaW.PrintMore Go.Proofs.Ytdinmmnmjiofbaa.Base Go.Proofs.Ytdinmmnmjiofbaa.M
set_option linter.unusedVariables false
set_option linter.unusedSimpArgs false

theorem laws_toIntS.ev (l : List Int) (hl : l.length ≤ 35184372088832) : Ev (fun k => laws_toIntS.f k l) l := by
  have main : ∀ (d i : Nat) (x : List Int), i + d = l.length → x.length = l.length → (∀ j, j < i → x[j]? = l[j]?) →
      Ev (fun k => laws_toIntS.l0 k l x i) l := by
    intro d
    induction d with
    | zero =>
      intro i x e hx hj
      refine Ev.step (fun k => by rw [laws_toIntS.l0]) ?_
      refine ev_neg (by omega) ?_
      refine ev_some (List.ext_getElem? fun j => ?_)
      by_cases h : j < l.length
      · exact hj j (by omega)
      · rw [List.getElem?_eq_none (by omega), List.getElem?_eq_none (by omega)]
    | succ d ih =>
      intro i x e hx hj
      refine Ev.step (fun k => by rw [laws_toIntS.l0]) ?_
      refine ev_pos (by omega) ?_
      refine ev_pos (by omega) ?_
      refine ev_pos (by omega) ?_
      rw [w64 (x := (i : Int) + 1) (by omega) (by omega)]
      refine ih (i + 1) _ (by omega) (by simpa using hx) (fun j hj' => ?_)
      rw [Int.toNat_natCast, rd_get rfl (by omega)]
      by_cases h : j = i
      · subst h
        rw [List.getElem?_set_self (by omega), List.getElem?_eq_getElem (by omega)]
      · rw [List.getElem?_set_ne (by omega)]
        exact hj j (by omega)
  unfold laws_toIntS.f
  refine ev_pos (by omega) ?_
  refine ev_pos (by omega) ?_
  exact main l.length 0 _ (by omega) (by simp) (fun j hj => by omega)
theorem laws_eqIntS.ev (a b : List Int) (hl : a.length ≤ 35184372088832) : Ev (fun k => laws_eqIntS.f k a b) (decide (a = b)) := by
  have main : ∀ (d i : Nat), i + d = a.length → a.length = b.length → Ev (fun k => laws_eqIntS.l0 k a b i) (decide (a.drop i = b.drop i)) := by
    intro d
    induction d with
    | zero =>
      intro i e he
      refine Ev.step (fun k => by rw [laws_eqIntS.l0]) ?_
      refine ev_neg (by omega) ?_
      refine ev_some ?_
      rw [List.drop_eq_nil_of_le (by omega), List.drop_eq_nil_of_le (by omega)]
      rfl
    | succ d ih =>
      intro i e he
      refine Ev.step (fun k => by rw [laws_eqIntS.l0]) ?_
      refine ev_pos (by omega) ?_
      refine ev_pos (by omega) ?_
      refine ev_pos (by omega) ?_
      rw [w64 (x := (i : Int) + 1) (by omega) (by omega), rd_get rfl (by omega), rd_get rfl (by omega), List.drop_eq_getElem_cons (by omega), List.drop_eq_getElem_cons (l := b) (by omega)]
      by_cases h : a[i] = b[i]
      · refine ev_pos h ?_
        rw [show decide (a[i] :: a.drop (i + 1) = b[i] :: b.drop (i + 1)) = decide (a.drop (i + 1) = b.drop (i + 1)) from decide_eq_decide.2 ⟨fun e => (List.cons.inj e).2, fun e => by rw [h, e]⟩]
        exact ih (i + 1) (by omega) he
      · refine ev_neg h (ev_some ?_)
        exact (decide_eq_false fun e => h (List.cons.inj e).1).symm
  unfold laws_eqIntS.f
  by_cases h : a.length = b.length
  · refine ev_pos (by omega) ?_
    exact main a.length 0 (by omega) h
  · refine ev_neg (by omega) (ev_some ?_)
    symm
    rw [decide_eq_false_iff_not]
    exact fun e => h (by rw [e])
def marks (n : Nat) (a : Int) : List Int := (List.range n).map fun (j : Nat) => a + (j : Int)
theorem marks_length (n : Nat) (a : Int) : (marks n a).length = n := by simp [marks]
theorem laws_markIntS.ev (l : List Int) (hl : l.length ≤ 35184372088832) (a : Int) (h0 : 0 ≤ a) (h1 : a ≤ 4611686018427387904) :
    Ev (fun k => laws_markIntS.f k l a) (a + l.length, marks l.length a) := by
  have main : ∀ (d i : Nat) (x : List Int), i + d = l.length → x.length = l.length → (∀ j, j < i → x[j]? = (marks l.length a)[j]?) →
      Ev (fun k => laws_markIntS.l0 k x (a + i) i) (a + l.length, marks l.length a) := by
    intro d
    induction d with
    | zero =>
      intro i x e hx hj
      refine Ev.step (fun k => by rw [laws_markIntS.l0]) ?_
      refine ev_neg (by omega) ?_
      have : x = marks l.length a := List.ext_getElem? fun j => by
        by_cases h : j < l.length
        · exact hj j (by omega)
        · rw [List.getElem?_eq_none (by omega), List.getElem?_eq_none (by rw [marks_length]; omega)]
      refine ev_some ?_
      rw [this, show (i : Int) = (l.length : Int) from by omega]
    | succ d ih =>
      intro i x e hx hj
      refine Ev.step (fun k => by rw [laws_markIntS.l0]) ?_
      refine ev_pos (by omega) ?_
      refine ev_pos (by omega) ?_
      rw [w64 (x := (i : Int) + 1) (by omega) (by omega), w64 (x := a + (i : Int) + 1) (by omega) (by omega), Int.add_assoc]
      refine ih (i + 1) _ (by omega) (by simpa using hx) (fun j hj' => ?_)
      rw [Int.toNat_natCast]
      by_cases h : j = i
      · subst h
        rw [List.getElem?_set_self (by omega)]
        simp [marks, List.getElem?_range (show j < l.length by omega)]
      · rw [List.getElem?_set_ne (by omega)]
        exact hj j (by omega)
  unfold laws_markIntS.f
  have := main l.length 0 l (by omega) rfl (fun j hj => by omega)
  simpa using this
theorem laws_heldIntS.ev (n : Nat) (hn : n ≤ 35184372088832) (a : Int) (h0 : 0 ≤ a) (h1 : a ≤ 4611686018427387904) :
    Ev (fun k => laws_heldIntS.f k (marks n a) a) (a + n) := by
  have main : ∀ (d i : Nat), i + d = n → Ev (fun k => laws_heldIntS.l0 k (marks n a) (a + i) i) (a + n) := by
    intro d
    induction d with
    | zero =>
      intro i e
      refine Ev.step (fun k => by rw [laws_heldIntS.l0]) ?_
      refine ev_neg (by rw [marks_length]; omega) ?_
      exact ev_some (by rw [show (i : Int) = (n : Int) from by omega])
    | succ d ih =>
      intro i e
      refine Ev.step (fun k => by rw [laws_heldIntS.l0]) ?_
      refine ev_pos (by rw [marks_length]; omega) ?_
      refine ev_pos (by omega) ?_
      refine ev_pos ?_ ?_
      · rw [rd_get rfl (by rw [marks_length]; omega)]
        simp [marks]
      · rw [w64 (x := (i : Int) + 1) (by omega) (by omega), w64 (x := a + (i : Int) + 1) (by omega) (by omega), Int.add_assoc]
        exact ih (i + 1) (by omega)
  unfold laws_heldIntS.f
  have := main n 0 (by omega)
  simpa using this
theorem spec_l1In.at (a b c : Int) : spec_l1In.f a b c = some (decide (b ≤ a ∧ a ≤ c)) := by
  unfold spec_l1In.f
  by_cases h : a ≥ b
  · rw [if_pos h]
    simp [show b ≤ a from h]
  · rw [if_neg h]
    simp [show ¬ b ≤ a from h]
theorem impl_within.at (a b c : Int) : impl_within.f a b c = some (decide (b ≤ a ∧ a ≤ c)) := by
  unfold impl_within.f
  by_cases h : a ≥ b
  · rw [if_pos h]
    simp [show b ≤ a from h]
  · rw [if_neg h]
    simp [show ¬ b ≤ a from h]
theorem impl_allWithin.ev (l : List Int) (lo hi : Int) (hl : l.length ≤ 35184372088832) : Ev (fun k => impl_allWithin.f k l lo hi) (l.all fun x => decide (lo ≤ x ∧ x ≤ hi)) := by
  have main : ∀ (d i : Nat), i + d = l.length → Ev (fun k => impl_allWithin.l0 k lo hi l l.length i) ((l.drop i).all fun x => decide (lo ≤ x ∧ x ≤ hi)) := by
    intro d
    induction d with
    | zero =>
      intro i e
      refine Ev.step (fun k => by rw [impl_allWithin.l0]) ?_
      refine ev_neg (by omega) (ev_some ?_)
      rw [List.drop_eq_nil_of_le (by omega)]
      rfl
    | succ d ih =>
      intro i e
      refine Ev.step (fun k => by rw [impl_allWithin.l0]) ?_
      refine ev_pos (by omega) ?_
      refine ev_pos (by omega) ?_
      refine ev_pos (by omega) ?_
      rw [w64 (x := (i : Int) + 1) (by omega) (by omega), rd_get rfl (by omega), List.drop_eq_getElem_cons (by omega), List.all_cons, impl_within.at]
      simp only [Option.bind_some]
      by_cases h : lo ≤ l[i] ∧ l[i] ≤ hi
      · refine ev_pos (by simpa using h) ?_
        rw [decide_eq_true h, Bool.true_and]
        exact ih (i + 1) (by omega)
      · refine ev_neg (by simpa using h) (ev_some ?_)
        rw [decide_eq_false h, Bool.false_and]
  unfold impl_allWithin.f
  exact main l.length 0 (by omega)
def isLabel (l : List Int) : Bool := decide (1 ≤ (l.length : Int) ∧ (l.length : Int) ≤ 6) && l.all fun x => decide (0 ≤ x ∧ x ≤ 1)
theorem isLabel_len {l : List Int} (h : isLabel l = true) : l.length ≤ 6 := by
  simp only [isLabel, Bool.and_eq_true, decide_eq_true_eq] at h
  omega
theorem spec_l4Bits.ev (l : List Int) (hl : l.length ≤ 35184372088832) : Ev (fun k => spec_l4Bits.f k l) (isLabel l) := by
  have main : ∀ (d i : Nat), i + d = min l.length 7 → Ev (fun k => spec_l4Bits.l0 k l i) (decide (1 ≤ (l.length : Int) ∧ (l.length : Int) ≤ 6) && (l.drop i).all fun x => decide (0 ≤ x ∧ x ≤ 1)) := by
    intro d
    induction d with
    | zero =>
      intro i e
      have fin : Ev (fun k => spec_l4Bits.j1 k l i false) (decide (1 ≤ (l.length : Int) ∧ (l.length : Int) ≤ 6)) := by
        refine Ev.step (fun k => by rw [spec_l4Bits.j1]) ?_
        refine ev_neg (by simp) ?_
        rw [spec_l1In.at]
        exact ev_some rfl
      refine Ev.step (fun k => by rw [spec_l4Bits.l0]) ?_
      by_cases h : (i : Int) < l.length
      · refine ev_pos h ?_
        rw [decide_eq_false (show ¬ (i : Int) ≤ 6 by omega)]
        have e1 := decide_eq_false (show ¬ (1 ≤ (l.length : Int) ∧ (l.length : Int) ≤ 6) by omega)
        rw [e1] at fin ⊢
        rw [Bool.false_and]
        exact fin
      · refine ev_neg h ?_
        rw [List.drop_eq_nil_of_le (by omega)]
        simpa using fin
    | succ d ih =>
      intro i e
      refine Ev.step (fun k => by rw [spec_l4Bits.l0]) ?_
      refine ev_pos (by omega) ?_
      rw [decide_eq_true (show (i : Int) ≤ 6 by omega)]
      refine Ev.step (fun k => by rw [spec_l4Bits.j1]) ?_
      refine ev_pos rfl ?_
      refine ev_pos (by omega) ?_
      refine ev_pos (by omega) ?_
      rw [w64 (x := (i : Int) + 1) (by omega) (by omega), rd_get rfl (by omega), List.drop_eq_getElem_cons (by omega), List.all_cons, spec_l1In.at]
      simp only [Option.bind_some]
      by_cases h : 0 ≤ l[i] ∧ l[i] ≤ 1
      · refine ev_pos (by simpa using h) ?_
        rw [decide_eq_true h, Bool.true_and]
        exact ih (i + 1) (by omega)
      · refine ev_neg (by simpa using h) (ev_some ?_)
        rw [decide_eq_false h, Bool.false_and, Bool.and_false]
  unfold spec_l4Bits.f isLabel
  exact main (min l.length 7) 0 (by omega)
theorem impl_isLabel.ev (l : List Int) (hl : l.length ≤ 35184372088832) : Ev (fun k => impl_isLabel.f k l) (isLabel l) := by
  unfold impl_isLabel.f isLabel
  rw [impl_within.at]
  simp only [Option.bind_some]
  by_cases h : 1 ≤ (l.length : Int) ∧ (l.length : Int) ≤ 6
  · refine ev_pos (by simpa using h) ?_
    rw [decide_eq_true h, Bool.true_and]
    exact Ev.bind (impl_allWithin.ev l 0 1 hl) (ev_some rfl)
  · refine ev_neg (by simpa using h) (ev_some ?_)
    rw [decide_eq_false h, Bool.false_and]
def told (m : Nat) (l : List Int) : List Int := l.flatMap fun x => List.replicate m x
theorem told_cons (m : Nat) (x : Int) (t : List Int) : told m (x :: t) = List.replicate m x ++ told m t := rfl
theorem told_len (m : Nat) : ∀ l : List Int, (told m l).length = l.length * m
  | [] => by simp [told]
  | x :: t => by rw [told_cons, List.length_append, List.length_replicate, told_len m t, List.length_cons, Nat.add_mul, Nat.one_mul, Nat.add_comm]
theorem spec_told (l : List Int) (hl : l.length ≤ 6) (m : Nat) (hm : m ≤ 24) : ∀ (d i : Nat) (x : List Int), i + d = l.length → x.length ≤ 24 * i → Ev (fun k => spec_l4Told.l0 k l m x i) (x ++ told m (l.drop i)) := by
  intro d
  induction d with
  | zero =>
    intro i x e hx
    refine Ev.step (fun k => by rw [spec_l4Told.l0]) (ev_neg (by omega) (ev_some ?_))
    rw [List.drop_eq_nil_of_le (by omega)]
    simp [told]
  | succ d ih =>
    intro i x e hx
    refine Ev.step (fun k => by rw [spec_l4Told.l0]) (ev_pos (by omega) ?_)
    rw [List.drop_eq_getElem_cons (by omega), told_cons]
    have inner : ∀ (q j : Nat) (y : List Int), j + q = m → y.length ≤ 24 * i + j → Ev (fun k => spec_l4Told.l1 k l m y i j) (y ++ (List.replicate q l[i] ++ told m (l.drop (i + 1)))) := by
      intro q
      induction q with
      | zero =>
        intro j y e2 hy
        refine Ev.step (fun k => by rw [spec_l4Told.l1]) (ev_neg (by omega) ?_)
        rw [w64 (x := (i : Int) + 1) (by omega) (by omega)]
        exact ih (i + 1) y (by omega) (by omega)
      | succ q ihq =>
        intro j y e2 hy
        refine Ev.step (fun k => by rw [spec_l4Told.l1]) (ev_pos (by omega) (ev_pos (by omega) (ev_pos (by omega) (ev_pos (by omega) ?_))))
        rw [w64 (x := (j : Int) + 1) (by omega) (by omega), rd_get rfl (by omega)]
        have := ihq (j + 1) (y ++ [l[i]]) (by omega) (by simp; omega)
        rw [List.replicate_succ]
        rw [List.append_assoc] at this
        exact this
    exact inner m 0 x (by omega) (by omega)
theorem impl_told (l : List Int) (hl : l.length ≤ 6) (m : Nat) (hm : m ≤ 24) : ∀ (d i : Nat) (x : List Int), i + d = l.length → x.length ≤ 24 * i → Ev (fun k => impl_LabelMoves.l0 k m x l l.length i) (x ++ told m (l.drop i), true) := by
  intro d
  induction d with
  | zero =>
    intro i x e hx
    refine Ev.step (fun k => by rw [impl_LabelMoves.l0]) (ev_neg (by omega) (ev_some ?_))
    rw [List.drop_eq_nil_of_le (by omega)]
    simp [told]
  | succ d ih =>
    intro i x e hx
    refine Ev.step (fun k => by rw [impl_LabelMoves.l0]) (ev_pos (by omega) (ev_pos (by omega) (ev_pos (by omega) ?_)))
    rw [List.drop_eq_getElem_cons (by omega), told_cons, rd_get rfl (by omega)]
    have inner : ∀ (q j : Nat) (y : List Int), j + q = m → y.length ≤ 24 * i + j → Ev (fun k => impl_LabelMoves.l1 k m y l[i] l l.length i m j) (y ++ (List.replicate q l[i] ++ told m (l.drop (i + 1))), true) := by
      intro q
      induction q with
      | zero =>
        intro j y e2 hy
        refine Ev.step (fun k => by rw [impl_LabelMoves.l1]) (ev_neg (by omega) ?_)
        rw [w64 (x := (i : Int) + 1) (by omega) (by omega)]
        exact ih (i + 1) y (by omega) (by omega)
      | succ q ihq =>
        intro j y e2 hy
        refine Ev.step (fun k => by rw [impl_LabelMoves.l1]) (ev_pos (by omega) (ev_pos (by omega) ?_))
        rw [w64 (x := (j : Int) + 1) (by omega) (by omega)]
        have := ihq (j + 1) (y ++ [l[i]]) (by omega) (by simp; omega)
        rw [List.replicate_succ]
        rw [List.append_assoc] at this
        exact this
    exact inner m 0 x (by omega) (by omega)
theorem both (l : List Int) (m : Int) (hl : l.length ≤ 1048576) (_ : -9223372036854775808 ≤ m) (_ : m ≤ 9223372036854775807) : ∃ r, Ev (fun k => spec_LabelMoves.f k l m) r ∧ Ev (fun k => impl_LabelMoves.f k l m) r ∧ r.1.length ≤ 1048576 := by
  unfold spec_LabelMoves.f impl_LabelMoves.f
  have bad : Ev (fun k => impl_LabelMoves.j0 k l m true) ([], false) := Ev.step (fun k => by rw [impl_LabelMoves.j0]) (ev_pos rfl (ev_some rfl))
  simp only [spec_l1In.at, impl_within.at, Option.bind_some]
  by_cases h : isLabel l = true
  · have h6 := isLabel_len h
    by_cases hm : 1 ≤ m ∧ m ≤ 24
    · obtain ⟨m, rfl⟩ : ∃ q : Nat, m = q := ⟨m.toNat, by omega⟩
      have hprod : (m : Int) * (l.length : Int) ≤ 144 := by
        have : m * l.length ≤ 24 * 6 := Nat.mul_le_mul (by omega) h6
        have e : ((m * l.length : Nat) : Int) = (m : Int) * (l.length : Int) := by simp
        omega
      have hprod0 : 0 ≤ (m : Int) * (l.length : Int) := Int.mul_nonneg (by omega) (by omega)
      rw [w64 (x := (m : Int) * (l.length : Int)) (by omega) (by omega)]
      by_cases hp : (m : Int) * (l.length : Int) > 24
      · refine ⟨([], false), Ev.bind (spec_l4Bits.ev l (by omega)) (ev_pos h (ev_pos (by simpa using hm) (ev_pos hp (ev_some rfl)))), Ev.bind (impl_isLabel.ev l (by omega)) (ev_pos h (ev_pos (by simpa using hm) ?_)), by simp⟩
        rw [decide_eq_true hp]
        exact bad
      · refine ⟨(told m l, true), Ev.bind (spec_l4Bits.ev l (by omega)) (ev_pos h (ev_pos (by simpa using hm) (ev_neg hp (Ev.bind ?_ (ev_some rfl))))), Ev.bind (impl_isLabel.ev l (by omega)) (ev_pos h (ev_pos (by simpa using hm) ?_)), ?_⟩
        · exact spec_told l h6 m (by omega) l.length 0 [] (by omega) (by simp)
        · rw [decide_eq_false hp]
          refine Ev.step (fun k => by rw [impl_LabelMoves.j0]) (ev_neg (by simp) ?_)
          exact impl_told l h6 m (by omega) l.length 0 [] (by omega) (by simp)
        · simp only [told_len]
          have : l.length * m ≤ 6 * 24 := Nat.mul_le_mul h6 (by omega)
          omega
    · exact ⟨([], false), Ev.bind (spec_l4Bits.ev l (by omega)) (ev_pos h (ev_neg (by simpa using hm) (ev_some rfl))), Ev.bind (impl_isLabel.ev l (by omega)) (ev_pos h (ev_neg (by simpa using hm) bad)), by simp⟩
  · exact ⟨([], false), Ev.bind (spec_l4Bits.ev l (by omega)) (ev_neg h (ev_some rfl)), Ev.bind (impl_isLabel.ev l (by omega)) (ev_neg h bad), by simp⟩
theorem FnExactLabelMoves (l : List Int) (m : Int) (_ : l.length * 8 ≤ 140737488351232) (_ : ∀ x ∈ l, (Lit.int .i64 x).wf = true) (h0m : -9223372036854775808 ≤ m) (h1m : m ≤ 9223372036854775807) : ∃ k, laws_FnExactLabelMoves.f k l m = some true := by
  refine Ev.rounds (r := true) ?_
  unfold laws_FnExactLabelMoves.f
  by_cases hl0 : (l.length : Int) > 1048576
  · exact ev_pos hl0 (ev_some rfl)
  refine ev_neg hl0 ?_
  obtain ⟨r, hs, hi, hd⟩ := both l m (by omega) h0m h1m
  obtain ⟨r, b⟩ := r
  simp only at hd
  repeat' (first
    | with_reducible exact ev_some rfl
    | with_reducible refine Ev.bind hs ?_
    | with_reducible refine Ev.bind hi ?_
    | ((with_reducible refine Ev.bind (laws_toIntS.ev _ ?h1_) ?_); (case h1_ => (first | omega | (simp only []; omega) | (simp only [marks_length]; omega))))
    | ((with_reducible refine Ev.bind (laws_eqIntS.ev _ _ ?h1_) ?_); (case h1_ => (first | omega | (simp only []; omega) | (simp only [marks_length]; omega))))
    | ((with_reducible refine Ev.bind (laws_markIntS.ev _ ?h1_ _ (by first | omega | (simp only []; omega)) (by first | omega | (simp only []; omega))) ?_); (case h1_ => (first | omega | (simp only []; omega) | (simp only [marks_length]; omega))))
    | ((with_reducible refine Ev.bind (laws_heldIntS.ev _ ?h1_ 1 (by omega) (by omega)) ?_); (case h1_ => (first | omega | (simp only []; omega) | (simp only [marks_length]; omega))))
    | ((with_reducible refine ev_pos ?h1_ ?_); (case h1_ => (first | rfl | assumption | (simp; done))))
    | ((with_reducible refine ev_neg ?h1_ ?_); (case h1_ => (first | assumption | (simp; done) | (first | omega | (simp only []; omega) | (simp only [marks_length]; omega)) | (simp; omega))))
    | (with_reducible refine Ev.step (g := fun k => laws_FnExactLabelMoves.j0 k _ _ _ _ _ _ _ _) (fun k => by rw [laws_FnExactLabelMoves.j0]) ?_)
    | (with_reducible refine Ev.step (g := fun k => laws_FnExactLabelMoves.j1 k _ _ _ _ _ _) (fun k => by rw [laws_FnExactLabelMoves.j1]) ?_)
    | (with_reducible refine Ev.step (g := fun k => laws_FnExactLabelMoves.j2 k _ _ _) (fun k => by rw [laws_FnExactLabelMoves.j2]) ?_)
    )

end Go.Proofs.Ytdinmmnmjiofbaa.Pure
