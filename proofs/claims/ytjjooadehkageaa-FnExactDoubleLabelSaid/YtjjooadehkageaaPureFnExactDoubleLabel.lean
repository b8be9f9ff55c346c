/- The plain side of the law FnExactDoubleLabel: the printed law, whatever its input (within the form's bounds), comes to true. No other condition. -/
import Derived.Test.YtjjooadehkageaaPFnExactDoubleLabelx3
import Derived.Test.YtjjooadehkageaaBase
import Derived.Test.YtjjooadehkageaaMath
namespace Go.Proofs.Ytjjooadehkageaa.Pure
open Go.RowKit Go.Proofs.Ytjjooadehkageaa.PFnExactDoubleLabel Go.Proofs.YtjjooadehkageaaW.PrintWords Go.Proofs.YtjjooadehkageaaW.PrintLast Go.Proofs.YtjjooadehkageaaW.PrintMore Go.Proofs.Ytjjooadehkageaa.Base Go.Proofs.Ytjjooadehkageaa.M
set_option linter.unusedVariables false
set_option linter.unusedSimpArgs false

theorem laws_toIntS.ev (l : List Int) (hl : l.length ≤ 35184372088832) : Ev (fun k => laws_toIntS.f k l) l := by
  have main : ∀ (d i : Nat) (x : List Int), i + d = l.length → x.length = l.length → (∀ j, j < i → x[j]? = l[j]?) →
      Ev (fun k => laws_toIntS.l0 k l x i) l := by
    intro d
    induction d with
    | zero =>
      intro i x e hx hj
      refine Ev.step (fun k => by rw [laws_toIntS.l0]) ?_
      refine ev_neg (by omega) ?_
      refine ev_some (List.ext_getElem? fun j => ?_)
      by_cases h : j < l.length
      · exact hj j (by omega)
      · rw [List.getElem?_eq_none (by omega), List.getElem?_eq_none (by omega)]
    | succ d ih =>
      intro i x e hx hj
      refine Ev.step (fun k => by rw [laws_toIntS.l0]) ?_
      refine ev_pos (by omega) ?_
      refine ev_pos (by omega) ?_
      refine ev_pos (by omega) ?_
      rw [w64 (x := (i : Int) + 1) (by omega) (by omega)]
      refine ih (i + 1) _ (by omega) (by simpa using hx) (fun j hj' => ?_)
      rw [Int.toNat_natCast, rd_get rfl (by omega)]
      by_cases h : j = i
      · subst h
        rw [List.getElem?_set_self (by omega), List.getElem?_eq_getElem (by omega)]
      · rw [List.getElem?_set_ne (by omega)]
        exact hj j (by omega)
  unfold laws_toIntS.f
  refine ev_pos (by omega) ?_
  refine ev_pos (by omega) ?_
  exact main l.length 0 _ (by omega) (by simp) (fun j hj => by omega)
theorem laws_eqIntS.ev (a b : List Int) (hl : a.length ≤ 35184372088832) : Ev (fun k => laws_eqIntS.f k a b) (decide (a = b)) := by
  have main : ∀ (d i : Nat), i + d = a.length → a.length = b.length → Ev (fun k => laws_eqIntS.l0 k a b i) (decide (a.drop i = b.drop i)) := by
    intro d
    induction d with
    | zero =>
      intro i e he
      refine Ev.step (fun k => by rw [laws_eqIntS.l0]) ?_
      refine ev_neg (by omega) ?_
      refine ev_some ?_
      rw [List.drop_eq_nil_of_le (by omega), List.drop_eq_nil_of_le (by omega)]
      rfl
    | succ d ih =>
      intro i e he
      refine Ev.step (fun k => by rw [laws_eqIntS.l0]) ?_
      refine ev_pos (by omega) ?_
      refine ev_pos (by omega) ?_
      refine ev_pos (by omega) ?_
      rw [w64 (x := (i : Int) + 1) (by omega) (by omega), rd_get rfl (by omega), rd_get rfl (by omega), List.drop_eq_getElem_cons (by omega), List.drop_eq_getElem_cons (l := b) (by omega)]
      by_cases h : a[i] = b[i]
      · refine ev_pos h ?_
        rw [show decide (a[i] :: a.drop (i + 1) = b[i] :: b.drop (i + 1)) = decide (a.drop (i + 1) = b.drop (i + 1)) from decide_eq_decide.2 ⟨fun e => (List.cons.inj e).2, fun e => by rw [h, e]⟩]
        exact ih (i + 1) (by omega) he
      · refine ev_neg h (ev_some ?_)
        exact (decide_eq_false fun e => h (List.cons.inj e).1).symm
  unfold laws_eqIntS.f
  by_cases h : a.length = b.length
  · refine ev_pos (by omega) ?_
    exact main a.length 0 (by omega) h
  · refine ev_neg (by omega) (ev_some ?_)
    symm
    rw [decide_eq_false_iff_not]
    exact fun e => h (by rw [e])
def marks (n : Nat) (a : Int) : List Int := (List.range n).map fun (j : Nat) => a + (j : Int)
theorem marks_length (n : Nat) (a : Int) : (marks n a).length = n := by simp [marks]
theorem laws_markIntS.ev (l : List Int) (hl : l.length ≤ 35184372088832) (a : Int) (h0 : 0 ≤ a) (h1 : a ≤ 4611686018427387904) :
    Ev (fun k => laws_markIntS.f k l a) (a + l.length, marks l.length a) := by
  have main : ∀ (d i : Nat) (x : List Int), i + d = l.length → x.length = l.length → (∀ j, j < i → x[j]? = (marks l.length a)[j]?) →
      Ev (fun k => laws_markIntS.l0 k x (a + i) i) (a + l.length, marks l.length a) := by
    intro d
    induction d with
    | zero =>
      intro i x e hx hj
      refine Ev.step (fun k => by rw [laws_markIntS.l0]) ?_
      refine ev_neg (by omega) ?_
      have : x = marks l.length a := List.ext_getElem? fun j => by
        by_cases h : j < l.length
        · exact hj j (by omega)
        · rw [List.getElem?_eq_none (by omega), List.getElem?_eq_none (by rw [marks_length]; omega)]
      refine ev_some ?_
      rw [this, show (i : Int) = (l.length : Int) from by omega]
    | succ d ih =>
      intro i x e hx hj
      refine Ev.step (fun k => by rw [laws_markIntS.l0]) ?_
      refine ev_pos (by omega) ?_
      refine ev_pos (by omega) ?_
      rw [w64 (x := (i : Int) + 1) (by omega) (by omega), w64 (x := a + (i : Int) + 1) (by omega) (by omega), Int.add_assoc]
      refine ih (i + 1) _ (by omega) (by simpa using hx) (fun j hj' => ?_)
      rw [Int.toNat_natCast]
      by_cases h : j = i
      · subst h
        rw [List.getElem?_set_self (by omega)]
        simp [marks, List.getElem?_range (show j < l.length by omega)]
      · rw [List.getElem?_set_ne (by omega)]
        exact hj j (by omega)
  unfold laws_markIntS.f
  have := main l.length 0 l (by omega) rfl (fun j hj => by omega)
  simpa using this
theorem laws_heldIntS.ev (n : Nat) (hn : n ≤ 35184372088832) (a : Int) (h0 : 0 ≤ a) (h1 : a ≤ 4611686018427387904) :
    Ev (fun k => laws_heldIntS.f k (marks n a) a) (a + n) := by
  have main : ∀ (d i : Nat), i + d = n → Ev (fun k => laws_heldIntS.l0 k (marks n a) (a + i) i) (a + n) := by
    intro d
    induction d with
    | zero =>
      intro i e
      refine Ev.step (fun k => by rw [laws_heldIntS.l0]) ?_
      refine ev_neg (by rw [marks_length]; omega) ?_
      exact ev_some (by rw [show (i : Int) = (n : Int) from by omega])
    | succ d ih =>
      intro i e
      refine Ev.step (fun k => by rw [laws_heldIntS.l0]) ?_
      refine ev_pos (by rw [marks_length]; omega) ?_
      refine ev_pos (by omega) ?_
      refine ev_pos ?_ ?_
      · rw [rd_get rfl (by rw [marks_length]; omega)]
        simp [marks]
      · rw [w64 (x := (i : Int) + 1) (by omega) (by omega), w64 (x := a + (i : Int) + 1) (by omega) (by omega), Int.add_assoc]
        exact ih (i + 1) (by omega)
  unfold laws_heldIntS.f
  have := main n 0 (by omega)
  simpa using this
theorem spec_l1In.at (a b c : Int) : spec_l1In.f a b c = some (decide (b ≤ a ∧ a ≤ c)) := by
  unfold spec_l1In.f
  by_cases h : a ≥ b
  · rw [if_pos h]
    simp [show b ≤ a from h]
  · rw [if_neg h]
    simp [show ¬ b ≤ a from h]
theorem impl_within.at (a b c : Int) : impl_within.f a b c = some (decide (b ≤ a ∧ a ≤ c)) := by
  unfold impl_within.f
  by_cases h : a ≥ b
  · rw [if_pos h]
    simp [show b ≤ a from h]
  · rw [if_neg h]
    simp [show ¬ b ≤ a from h]
theorem impl_allWithin.ev (l : List Int) (lo hi : Int) (hl : l.length ≤ 35184372088832) : Ev (fun k => impl_allWithin.f k l lo hi) (l.all fun x => decide (lo ≤ x ∧ x ≤ hi)) := by
  have main : ∀ (d i : Nat), i + d = l.length → Ev (fun k => impl_allWithin.l0 k lo hi l l.length i) ((l.drop i).all fun x => decide (lo ≤ x ∧ x ≤ hi)) := by
    intro d
    induction d with
    | zero =>
      intro i e
      refine Ev.step (fun k => by rw [impl_allWithin.l0]) ?_
      refine ev_neg (by omega) (ev_some ?_)
      rw [List.drop_eq_nil_of_le (by omega)]
      rfl
    | succ d ih =>
      intro i e
      refine Ev.step (fun k => by rw [impl_allWithin.l0]) ?_
      refine ev_pos (by omega) ?_
      refine ev_pos (by omega) ?_
      refine ev_pos (by omega) ?_
      rw [w64 (x := (i : Int) + 1) (by omega) (by omega), rd_get rfl (by omega), List.drop_eq_getElem_cons (by omega), List.all_cons, impl_within.at]
      simp only [Option.bind_some]
      by_cases h : lo ≤ l[i] ∧ l[i] ≤ hi
      · refine ev_pos (by simpa using h) ?_
        rw [decide_eq_true h, Bool.true_and]
        exact ih (i + 1) (by omega)
      · refine ev_neg (by simpa using h) (ev_some ?_)
        rw [decide_eq_false h, Bool.false_and]
  unfold impl_allWithin.f
  exact main l.length 0 (by omega)
def isLabel (l : List Int) : Bool := decide (1 ≤ (l.length : Int) ∧ (l.length : Int) ≤ 6) && l.all fun x => decide (0 ≤ x ∧ x ≤ 1)
theorem isLabel_len {l : List Int} (h : isLabel l = true) : l.length ≤ 6 := by
  simp only [isLabel, Bool.and_eq_true, decide_eq_true_eq] at h
  omega
theorem spec_l4Bits.ev (l : List Int) (hl : l.length ≤ 35184372088832) : Ev (fun k => spec_l4Bits.f k l) (isLabel l) := by
  have main : ∀ (d i : Nat), i + d = min l.length 7 → Ev (fun k => spec_l4Bits.l0 k l i) (decide (1 ≤ (l.length : Int) ∧ (l.length : Int) ≤ 6) && (l.drop i).all fun x => decide (0 ≤ x ∧ x ≤ 1)) := by
    intro d
    induction d with
    | zero =>
      intro i e
      have fin : Ev (fun k => spec_l4Bits.j1 k l i false) (decide (1 ≤ (l.length : Int) ∧ (l.length : Int) ≤ 6)) := by
        refine Ev.step (fun k => by rw [spec_l4Bits.j1]) ?_
        refine ev_neg (by simp) ?_
        rw [spec_l1In.at]
        exact ev_some rfl
      refine Ev.step (fun k => by rw [spec_l4Bits.l0]) ?_
      by_cases h : (i : Int) < l.length
      · refine ev_pos h ?_
        rw [decide_eq_false (show ¬ (i : Int) ≤ 6 by omega)]
        have e1 := decide_eq_false (show ¬ (1 ≤ (l.length : Int) ∧ (l.length : Int) ≤ 6) by omega)
        rw [e1] at fin ⊢
        rw [Bool.false_and]
        exact fin
      · refine ev_neg h ?_
        rw [List.drop_eq_nil_of_le (by omega)]
        simpa using fin
    | succ d ih =>
      intro i e
      refine Ev.step (fun k => by rw [spec_l4Bits.l0]) ?_
      refine ev_pos (by omega) ?_
      rw [decide_eq_true (show (i : Int) ≤ 6 by omega)]
      refine Ev.step (fun k => by rw [spec_l4Bits.j1]) ?_
      refine ev_pos rfl ?_
      refine ev_pos (by omega) ?_
      refine ev_pos (by omega) ?_
      rw [w64 (x := (i : Int) + 1) (by omega) (by omega), rd_get rfl (by omega), List.drop_eq_getElem_cons (by omega), List.all_cons, spec_l1In.at]
      simp only [Option.bind_some]
      by_cases h : 0 ≤ l[i] ∧ l[i] ≤ 1
      · refine ev_pos (by simpa using h) ?_
        rw [decide_eq_true h, Bool.true_and]
        exact ih (i + 1) (by omega)
      · refine ev_neg (by simpa using h) (ev_some ?_)
        rw [decide_eq_false h, Bool.false_and, Bool.and_false]
  unfold spec_l4Bits.f isLabel
  exact main (min l.length 7) 0 (by omega)
theorem impl_isLabel.ev (l : List Int) (hl : l.length ≤ 35184372088832) : Ev (fun k => impl_isLabel.f k l) (isLabel l) := by
  unfold impl_isLabel.f isLabel
  rw [impl_within.at]
  simp only [Option.bind_some]
  by_cases h : 1 ≤ (l.length : Int) ∧ (l.length : Int) ≤ 6
  · refine ev_pos (by simpa using h) ?_
    rw [decide_eq_true h, Bool.true_and]
    exact Ev.bind (impl_allWithin.ev l 0 1 hl) (ev_some rfl)
  · refine ev_neg (by simpa using h) (ev_some ?_)
    rw [decide_eq_false h, Bool.false_and]
def twice (l : List Int) : List Int := l.flatMap fun x => [x, x]
def dbl (l : List Int) : List Int × Bool := if isLabel l = true then (if (l.length : Int) ≤ 2 then (twice l ++ [0, 1], true) else ([], false)) else ([], false)
theorem twice_len (l : List Int) : (twice l).length = 2 * l.length := by
  induction l with
  | nil => rfl
  | cons a t ih => simp only [twice, List.flatMap_cons, List.length_append, List.length_cons, List.length_nil] at ih ⊢; omega
theorem dbl_len (l : List Int) : (dbl l).1.length ≤ 100 := by
  unfold dbl
  by_cases h : isLabel l = true
  · rw [if_pos h]
    by_cases h2 : (l.length : Int) ≤ 2
    · rw [if_pos h2, List.length_append, twice_len]
      simp
      omega
    · rw [if_neg h2]
      simp
  · rw [if_neg h]
    simp
theorem spec_DoubleLabel.ev (l : List Int) (hl : l.length ≤ 35184372088832) : Ev (fun k => spec_DoubleLabel.f k l) (dbl l) := by
  have main : ∀ (d i : Nat) (x : List Int), i + d = l.length → l.length ≤ 6 → x.length = 2 * i → Ev (fun k => spec_DoubleLabel.l0 k l x i) (x ++ twice (l.drop i) ++ [0, 1], true) := by
    intro d
    induction d with
    | zero =>
      intro i x e h6 hx
      refine Ev.step (fun k => by rw [spec_DoubleLabel.l0]) ?_
      refine ev_neg (by omega) ?_
      simp only [Option.bind_some]
      refine ev_pos (by simp; omega) (ev_some ?_)
      rw [List.drop_eq_nil_of_le (by omega)]
      simp [twice]
    | succ d ih =>
      intro i x e h6 hx
      refine Ev.step (fun k => by rw [spec_DoubleLabel.l0]) ?_
      refine ev_pos (by omega) ?_
      refine ev_pos (by omega) ?_
      simp only [Option.bind_some]
      refine ev_pos (by simp; omega) ?_
      rw [w64 (x := (i : Int) + 1) (by omega) (by omega), rd_get rfl (by omega)]
      have := ih (i + 1) (x ++ [l[i], l[i]]) (by omega) h6 (by simp; omega)
      rw [List.drop_eq_getElem_cons (show i < l.length by omega)]
      rw [show twice (l[i] :: l.drop (i + 1)) = l[i] :: l[i] :: twice (l.drop (i + 1)) from rfl]
      simpa using this
  unfold spec_DoubleLabel.f dbl
  simp only [Option.bind_some]
  refine Ev.bind (spec_l4Bits.ev l hl) ?_
  by_cases h : isLabel l = true
  · have h6 := isLabel_len h
    refine ev_pos h ?_
    rw [if_pos h, show wrap64 (wrap64 (2 * (l.length : Int)) + 2) = 2 * (l.length : Int) + 2 from by unfold wrap64; omega]
    refine Ev.step (fun k => by rw [spec_DoubleLabel.j0]) ?_
    by_cases h2 : (l.length : Int) ≤ 2
    · rw [if_pos h2]
      refine ev_neg (by simp; omega) ?_
      simpa using main l.length 0 [] (by omega) h6 rfl
    · rw [if_neg h2]
      exact ev_pos (by simp; omega) (ev_some rfl)
  · refine ev_neg h ?_
    rw [if_neg h]
    refine Ev.step (fun k => by rw [spec_DoubleLabel.j0]) ?_
    exact ev_pos rfl (ev_some rfl)
theorem impl_DoubleLabel.ev (l : List Int) (hl : l.length ≤ 35184372088832) : Ev (fun k => impl_DoubleLabel.f k l) (dbl l) := by
  have main : ∀ (d i : Nat) (x : List Int), i + d = l.length → l.length ≤ 6 → x.length = 2 * i → Ev (fun k => impl_DoubleLabel.l0 k x l l.length i) (x ++ twice (l.drop i) ++ [0, 1], true) := by
    intro d
    induction d with
    | zero =>
      intro i x e h6 hx
      refine Ev.step (fun k => by rw [impl_DoubleLabel.l0]) ?_
      refine ev_neg (by omega) ?_
      simp only [Option.bind_some]
      refine ev_pos (by simp; omega) (ev_some ?_)
      rw [List.drop_eq_nil_of_le (by omega)]
      simp [twice]
    | succ d ih =>
      intro i x e h6 hx
      refine Ev.step (fun k => by rw [impl_DoubleLabel.l0]) ?_
      refine ev_pos (by omega) ?_
      refine ev_pos (by omega) ?_
      refine ev_pos (by omega) ?_
      simp only [Option.bind_some]
      refine ev_pos (by simp; omega) ?_
      rw [w64 (x := (i : Int) + 1) (by omega) (by omega), rd_get rfl (by omega)]
      have := ih (i + 1) (x ++ [l[i], l[i]]) (by omega) h6 (by simp; omega)
      rw [List.drop_eq_getElem_cons (show i < l.length by omega)]
      rw [show twice (l[i] :: l.drop (i + 1)) = l[i] :: l[i] :: twice (l.drop (i + 1)) from rfl]
      simpa using this
  unfold impl_DoubleLabel.f dbl
  refine Ev.bind (impl_isLabel.ev l hl) ?_
  by_cases h : isLabel l = true
  · have h6 := isLabel_len h
    refine ev_pos h ?_
    rw [if_pos h, show wrap64 (wrap64 (2 * (l.length : Int)) + 2) = 2 * (l.length : Int) + 2 from by unfold wrap64; omega]
    refine Ev.step (fun k => by rw [impl_DoubleLabel.j0]) ?_
    by_cases h2 : (l.length : Int) ≤ 2
    · rw [if_pos h2]
      refine ev_neg (by simp; omega) ?_
      simpa using main l.length 0 [] (by omega) h6 rfl
    · rw [if_neg h2]
      exact ev_pos (by simp; omega) (ev_some rfl)
  · refine ev_neg h ?_
    rw [if_neg h]
    refine Ev.step (fun k => by rw [impl_DoubleLabel.j0]) ?_
    exact ev_pos rfl (ev_some rfl)
theorem FnExactDoubleLabel (l : List Int) (_ : l.length * 8 ≤ 140737488351232) (_ : ∀ x ∈ l, (Lit.int .i64 x).wf = true) : ∃ k, laws_FnExactDoubleLabel.f k l = some true := by
  refine Ev.rounds (r := true) ?_
  unfold laws_FnExactDoubleLabel.f
  by_cases hl : (l.length : Int) > 1048576
  · exact ev_pos hl (ev_some rfl)
  refine ev_neg hl ?_
  refine Ev.bind (laws_toIntS.ev l (by omega)) ?_
  refine Ev.bind (spec_DoubleLabel.ev l (by omega)) ?_
  refine Ev.bind (laws_toIntS.ev l (by omega)) ?_
  refine Ev.bind (impl_DoubleLabel.ev l (by omega)) ?_
  have hd := dbl_len l
  have hi := impl_DoubleLabel.ev l (by omega)
  generalize dbl l = r at hd hi
  obtain ⟨r, b⟩ := r
  simp only at hd
  refine Ev.bind (laws_eqIntS.ev r r (by omega)) ?_
  refine ev_pos (by simp) ?_
  refine Ev.step (fun k => by rw [laws_FnExactDoubleLabel.j0]) ?_
  refine ev_neg (by simp) ?_
  refine Ev.bind (laws_toIntS.ev l (by omega)) ?_
  refine Ev.bind (laws_eqIntS.ev l l (by omega)) ?_
  refine ev_pos (by simp) ?_
  refine Ev.bind (laws_markIntS.ev l (by omega) 1 (by omega) (by omega)) ?_
  refine ev_neg (by simp only; omega) ?_
  refine Ev.bind (laws_eqIntS.ev r r (by omega)) ?_
  refine ev_pos (by simp) ?_
  refine Ev.step (fun k => by rw [laws_FnExactDoubleLabel.j1]) ?_
  refine ev_neg (by simp) ?_
  refine Ev.bind (laws_markIntS.ev r (by omega) 1 (by omega) (by omega)) ?_
  refine Ev.bind (laws_heldIntS.ev r.length (by omega) 1 (by omega) (by omega)) ?_
  refine ev_neg (by omega) ?_
  refine ev_pos rfl ?_
  refine Ev.bind (laws_toIntS.ev l (by omega)) ?_
  refine Ev.bind hi ?_
  refine Ev.bind (laws_eqIntS.ev r r (by omega)) ?_
  refine ev_pos (by simp) ?_
  refine Ev.step (fun k => by rw [laws_FnExactDoubleLabel.j2]) ?_
  refine ev_neg (by simp) ?_
  refine Ev.bind (laws_heldIntS.ev r.length (by omega) 1 (by omega) (by omega)) ?_
  refine ev_neg (by omega) ?_
  exact ev_pos rfl (ev_some rfl)

end Go.Proofs.Ytjjooadehkageaa.Pure
