/- The plain side of the law FnExactNeighborsOn: the printed law, whatever its input (within the form's bounds), comes to true. No other condition. -/
import Derived.Test.YtdinmmnmjiofbaaPFnExactNeighborsOnx4
import Derived.Test.YtdinmmnmjiofbaaBase
import Derived.Test.YtdinmmnmjiofbaaMath
namespace Go.Proofs.Ytdinmmnmjiofbaa.Pure
open Go.RowKit Go.Proofs.Ytdinmmnmjiofbaa.PFnExactNeighborsOn Go.Proofs.YtdinmmnmjiofbaaW.PrintWords Go.Proofs.YtdinmmnmjiofbaaW.PrintLast Go.Proofs.YtdinmmnmjiofbaaW.PrintMore Go.Proofs.Ytdinmmnmjiofbaa.Base Go.Proofs.Ytdinmmnmjiofbaa.M
set_option linter.unusedVariables false
set_option linter.unusedSimpArgs false

theorem laws_eqIntS.ev (a b : List Int) (hl : a.length ≤ 35184372088832) : Ev (fun k => laws_eqIntS.f k a b) (decide (a = b)) := by
  have main : ∀ (d i : Nat), i + d = a.length → a.length = b.length → Ev (fun k => laws_eqIntS.l0 k a b i) (decide (a.drop i = b.drop i)) := by
    intro d
    induction d with
    | zero =>
      intro i e he
      refine Ev.step (fun k => by rw [laws_eqIntS.l0]) ?_
      refine ev_neg (by omega) ?_
      refine ev_some ?_
      rw [List.drop_eq_nil_of_le (by omega), List.drop_eq_nil_of_le (by omega)]
      rfl
    | succ d ih =>
      intro i e he
      refine Ev.step (fun k => by rw [laws_eqIntS.l0]) ?_
      refine ev_pos (by omega) ?_
      refine ev_pos (by omega) ?_
      refine ev_pos (by omega) ?_
      rw [w64 (x := (i : Int) + 1) (by omega) (by omega), rd_get rfl (by omega), rd_get rfl (by omega), List.drop_eq_getElem_cons (by omega), List.drop_eq_getElem_cons (l := b) (by omega)]
      by_cases h : a[i] = b[i]
      · refine ev_pos h ?_
        rw [show decide (a[i] :: a.drop (i + 1) = b[i] :: b.drop (i + 1)) = decide (a.drop (i + 1) = b.drop (i + 1)) from decide_eq_decide.2 ⟨fun e => (List.cons.inj e).2, fun e => by rw [h, e]⟩]
        exact ih (i + 1) (by omega) he
      · refine ev_neg h (ev_some ?_)
        exact (decide_eq_false fun e => h (List.cons.inj e).1).symm
  unfold laws_eqIntS.f
  by_cases h : a.length = b.length
  · refine ev_pos (by omega) ?_
    exact main a.length 0 (by omega) h
  · refine ev_neg (by omega) (ev_some ?_)
    symm
    rw [decide_eq_false_iff_not]
    exact fun e => h (by rw [e])
def marks (n : Nat) (a : Int) : List Int := (List.range n).map fun (j : Nat) => a + (j : Int)
theorem marks_length (n : Nat) (a : Int) : (marks n a).length = n := by simp [marks]
theorem laws_markIntS.ev (l : List Int) (hl : l.length ≤ 35184372088832) (a : Int) (h0 : 0 ≤ a) (h1 : a ≤ 4611686018427387904) :
    Ev (fun k => laws_markIntS.f k l a) (a + l.length, marks l.length a) := by
  have main : ∀ (d i : Nat) (x : List Int), i + d = l.length → x.length = l.length → (∀ j, j < i → x[j]? = (marks l.length a)[j]?) →
      Ev (fun k => laws_markIntS.l0 k x (a + i) i) (a + l.length, marks l.length a) := by
    intro d
    induction d with
    | zero =>
      intro i x e hx hj
      refine Ev.step (fun k => by rw [laws_markIntS.l0]) ?_
      refine ev_neg (by omega) ?_
      have : x = marks l.length a := List.ext_getElem? fun j => by
        by_cases h : j < l.length
        · exact hj j (by omega)
        · rw [List.getElem?_eq_none (by omega), List.getElem?_eq_none (by rw [marks_length]; omega)]
      refine ev_some ?_
      rw [this, show (i : Int) = (l.length : Int) from by omega]
    | succ d ih =>
      intro i x e hx hj
      refine Ev.step (fun k => by rw [laws_markIntS.l0]) ?_
      refine ev_pos (by omega) ?_
      refine ev_pos (by omega) ?_
      rw [w64 (x := (i : Int) + 1) (by omega) (by omega), w64 (x := a + (i : Int) + 1) (by omega) (by omega), Int.add_assoc]
      refine ih (i + 1) _ (by omega) (by simpa using hx) (fun j hj' => ?_)
      rw [Int.toNat_natCast]
      by_cases h : j = i
      · subst h
        rw [List.getElem?_set_self (by omega)]
        simp [marks, List.getElem?_range (show j < l.length by omega)]
      · rw [List.getElem?_set_ne (by omega)]
        exact hj j (by omega)
  unfold laws_markIntS.f
  have := main l.length 0 l (by omega) rfl (fun j hj => by omega)
  simpa using this
theorem laws_heldIntS.ev (n : Nat) (hn : n ≤ 35184372088832) (a : Int) (h0 : 0 ≤ a) (h1 : a ≤ 4611686018427387904) :
    Ev (fun k => laws_heldIntS.f k (marks n a) a) (a + n) := by
  have main : ∀ (d i : Nat), i + d = n → Ev (fun k => laws_heldIntS.l0 k (marks n a) (a + i) i) (a + n) := by
    intro d
    induction d with
    | zero =>
      intro i e
      refine Ev.step (fun k => by rw [laws_heldIntS.l0]) ?_
      refine ev_neg (by rw [marks_length]; omega) ?_
      exact ev_some (by rw [show (i : Int) = (n : Int) from by omega])
    | succ d ih =>
      intro i e
      refine Ev.step (fun k => by rw [laws_heldIntS.l0]) ?_
      refine ev_pos (by rw [marks_length]; omega) ?_
      refine ev_pos (by omega) ?_
      refine ev_pos ?_ ?_
      · rw [rd_get rfl (by rw [marks_length]; omega)]
        simp [marks]
      · rw [w64 (x := (i : Int) + 1) (by omega) (by omega), w64 (x := a + (i : Int) + 1) (by omega) (by omega), Int.add_assoc]
        exact ih (i + 1) (by omega)
  unfold laws_heldIntS.f
  have := main n 0 (by omega)
  simpa using this
theorem spec_l1In.at (a b c : Int) : spec_l1In.f a b c = some (decide (b ≤ a ∧ a ≤ c)) := by
  unfold spec_l1In.f
  by_cases h : a ≥ b
  · rw [if_pos h]
    simp [show b ≤ a from h]
  · rw [if_neg h]
    simp [show ¬ b ≤ a from h]
theorem impl_within.at (a b c : Int) : impl_within.f a b c = some (decide (b ≤ a ∧ a ≤ c)) := by
  unfold impl_within.f
  by_cases h : a ≥ b
  · rw [if_pos h]
    simp [show b ≤ a from h]
  · rw [if_neg h]
    simp [show ¬ b ≤ a from h]
theorem spec_l2Road.at (n : Int) (g : Bool) : spec_l2Road.f n g = some (okRoad n g) := by
  unfold spec_l2Road.f okRoad
  rw [spec_l1In.at]
  simp only [Option.bind_some]
  by_cases h : 2 ≤ n ∧ n ≤ 24
  · rw [if_pos (by simpa using h)]
    cases g with
    | false => simp [h]
    | true =>
      simp only [if_true, h, true_and, Option.some.injEq]
      exact decide_eq_decide.2 (by simp; omega)
  · rw [if_neg (by simpa using h)]
    simp only [Option.some.injEq]
    exact (decide_eq_false (fun h' => h ⟨h'.1, h'.2.1⟩)).symm
theorem impl_IsRoad.at (n : Int) (g : Bool) : impl_IsRoad.f n g = some (okRoad n g) := by
  unfold impl_IsRoad.f okRoad
  rw [impl_within.at]
  simp only [Option.bind_some]
  by_cases h : 2 ≤ n ∧ n ≤ 24
  · rw [if_pos (by simpa using h)]
    cases g with
    | false => simp [h]
    | true =>
      simp only [if_true, h, true_and, Option.some.injEq]
      exact decide_eq_decide.2 (by simp)
  · rw [if_neg (by simpa using h)]
    simp only [Option.some.injEq]
    exact (decide_eq_false (fun h' => h ⟨h'.1, h'.2.1⟩)).symm
theorem laws_toRoad.at (n : Int) (g : Bool) : laws_toRoad.f n g = some (n, g) := rfl
theorem spec_l2Place.at (n : Int) (g : Bool) (p : Int) : spec_l2Place.f n g p = some (okRoad n g && decide (0 ≤ p ∧ p ≤ n - 1)) := by
  unfold spec_l2Place.f
  rw [spec_l2Road.at]
  simp only [Option.bind_some]
  by_cases h : okRoad n g = true
  · have hb := okRoad_b h
    rw [if_pos h, w64 (x := n - 1) (by omega) (by omega), spec_l1In.at, h]
    rfl
  · rw [if_neg h]
    rw [Bool.not_eq_true] at h
    rw [h]
    rfl
theorem spec_l1Most.at (a b : Int) : spec_l1Most.f a b = some (max a b) := by
  unfold spec_l1Most.f
  by_cases h : a > b
  · rw [if_pos h, Int.max_eq_left (by omega)]
  · rw [if_neg h, Int.max_eq_right (by omega)]
theorem spec_l1Least.at (a b : Int) : spec_l1Least.f a b = some (min a b) := by
  unfold spec_l1Least.f
  by_cases h : a < b
  · rw [if_pos h, Int.min_eq_left (by omega)]
  · rw [if_neg h, Int.min_eq_right (by omega)]
theorem impl_Road_gap.at {n : Int} (g : Bool) {a b : Int} (hn : 2 ≤ n ∧ n ≤ 24) (ha : 0 ≤ a ∧ a ≤ n - 1) (hb : 0 ≤ b ∧ b ≤ n - 1) : impl_Road_gap.f n g a b = some (gap n g a b) := by
  unfold impl_Road_gap.f gap
  rw [w64 (x := a - b) (by omega) (by omega), w64 (x := b - a) (by omega) (by omega)]
  simp only [mx_eq, mn_eq]
  cases g with
  | false => simp
  | true => rw [if_pos rfl, if_pos rfl, w64 (by omega) (by omega)]
theorem impl_allWithin.ev (l : List Int) (lo hi : Int) (hl : l.length ≤ 35184372088832) : Ev (fun k => impl_allWithin.f k l lo hi) (l.all fun x => decide (lo ≤ x ∧ x ≤ hi)) := by
  have main : ∀ (d i : Nat), i + d = l.length → Ev (fun k => impl_allWithin.l0 k lo hi l l.length i) ((l.drop i).all fun x => decide (lo ≤ x ∧ x ≤ hi)) := by
    intro d
    induction d with
    | zero =>
      intro i e
      refine Ev.step (fun k => by rw [impl_allWithin.l0]) ?_
      refine ev_neg (by omega) (ev_some ?_)
      rw [List.drop_eq_nil_of_le (by omega)]
      rfl
    | succ d ih =>
      intro i e
      refine Ev.step (fun k => by rw [impl_allWithin.l0]) ?_
      refine ev_pos (by omega) ?_
      refine ev_pos (by omega) ?_
      refine ev_pos (by omega) ?_
      rw [w64 (x := (i : Int) + 1) (by omega) (by omega), rd_get rfl (by omega), List.drop_eq_getElem_cons (by omega), List.all_cons, impl_within.at]
      simp only [Option.bind_some]
      by_cases h : lo ≤ l[i] ∧ l[i] ≤ hi
      · refine ev_pos (by simpa using h) ?_
        rw [decide_eq_true h, Bool.true_and]
        exact ih (i + 1) (by omega)
      · refine ev_neg (by simpa using h) (ev_some ?_)
        rw [decide_eq_false h, Bool.false_and]
  unfold impl_allWithin.f
  exact main l.length 0 (by omega)
theorem impl_Road_has.ev {n : Int} (g : Bool) (l : List Int) (hn : 2 ≤ n ∧ n ≤ 24) (hl : l.length ≤ 35184372088832) : Ev (fun k => impl_Road_has.f k n g l) (l.all fun x => decide (0 ≤ x ∧ x ≤ n - 1)) := by
  unfold impl_Road_has.f
  rw [w64 (x := n - 1) (by omega) (by omega)]
  exact Ev.bind (impl_allWithin.ev l 0 (n - 1) hl) (ev_some rfl)
/-- Both sides, run for so many rounds, at one road and place. -/
def chk (n : Nat) (g : Bool) (a : Nat) : Bool :=
  match spec_NeighborsOn.f 80 n g a, impl_NeighborsOn.f 80 n g a with
  | some r, some q => decide (r.1 = q.1) && (r.2 == q.2) && decide (r.1.length ≤ 100)
  | _, _ => false
def chk_road (n : Nat) (g : Bool) : Bool := (List.range n).all fun a => chk n g a
theorem chk_line : ((List.range 25).all fun n => decide (n < 2) || chk_road n false) = true := by decide +kernel
theorem chk_ring : ((List.range 25).all fun n => decide (n < 3) || chk_road n true) = true := by decide +kernel
theorem both (n : Int) (g : Bool) (a : Int) (_ : -9223372036854775808 ≤ a) (_ : a ≤ 9223372036854775807) : ∃ r, Ev (fun k => spec_NeighborsOn.f k n g a) r ∧ Ev (fun k => impl_NeighborsOn.f k n g a) r ∧ r.1.length ≤ 1048576 := by
  by_cases h : okRoad n g = true
  · have hb := okRoad_b h
    by_cases ha : 0 ≤ a ∧ a ≤ n - 1
    · obtain ⟨n, rfl⟩ : ∃ m : Nat, n = m := ⟨n.toNat, by omega⟩
      obtain ⟨a, rfl⟩ : ∃ m : Nat, a = m := ⟨a.toNat, by omega⟩
      have hr : chk_road n g = true := by
        cases g with
        | false =>
          have hc := chk_line
          rw [List.all_eq_true] at hc
          have := hc n (List.mem_range.2 (by omega))
          rwa [decide_eq_false (by omega), Bool.false_or] at this
        | true =>
          have h3 := hb.2.2 rfl
          have hc := chk_ring
          rw [List.all_eq_true] at hc
          have := hc n (List.mem_range.2 (by omega))
          rwa [decide_eq_false (by omega), Bool.false_or] at this
      unfold chk_road at hr
      rw [List.all_eq_true] at hr
      have h2 := hr a (List.mem_range.2 (by omega))
      unfold chk at h2
      cases e1 : spec_NeighborsOn.f 80 n g a with
      | none => simp [e1] at h2
      | some r =>
        cases e2 : impl_NeighborsOn.f 80 n g a with
        | none => simp [e1, e2] at h2
        | some q =>
          simp only [e1, e2, Bool.and_eq_true, decide_eq_true_eq, beq_iff_eq] at h2
          have e3 : r = q := Prod.ext h2.1.1 h2.1.2
          subst e3
          exact ⟨r, Ev.of (spec_NeighborsOn.mono _ _ _) e1, Ev.of (impl_NeighborsOn.mono _ _ _) e2, by omega⟩
    · unfold spec_NeighborsOn.f impl_NeighborsOn.f
      rw [spec_l2Place.at, impl_IsRoad.at, h]
      simp only [Option.bind_some, Bool.true_and]
      have hh := impl_Road_has.ev g [a] ⟨hb.1, hb.2.1⟩ (by simp)
      have e : ([a].all fun x => decide (0 ≤ x ∧ x ≤ n - 1)) = false := by
        rw [List.all_cons, List.all_nil, Bool.and_true]
        exact decide_eq_false ha
      rw [e] at hh
      exact ⟨([], false), ev_neg (by simpa using ha) (ev_some rfl), ev_pos (by trivial) (Ev.bind hh (ev_neg (by simp) (ev_some rfl))), by simp⟩
  · unfold spec_NeighborsOn.f impl_NeighborsOn.f
    rw [spec_l2Place.at, impl_IsRoad.at]
    simp only [Option.bind_some]
    exact ⟨([], false), ev_neg (by simp [h]) (ev_some rfl), ev_neg h (ev_some rfl), by simp⟩
theorem FnExactNeighborsOn (n : Int) (g : Bool) (a : Int) (_ : -9223372036854775808 ≤ n) (_ : n ≤ 9223372036854775807) (h0a : -9223372036854775808 ≤ a) (h1a : a ≤ 9223372036854775807) : ∃ k, laws_FnExactNeighborsOn.f k n g a = some true := by
  refine Ev.rounds (r := true) ?_
  unfold laws_FnExactNeighborsOn.f
  obtain ⟨r, hs, hi, hd⟩ := both n g a h0a h1a
  obtain ⟨r, b⟩ := r
  simp only at hd
  simp only [laws_toRoad.at, Option.bind_some]
  repeat' (first
    | with_reducible exact ev_some rfl
    | with_reducible refine Ev.bind hs ?_
    | with_reducible refine Ev.bind hi ?_
    | with_reducible refine Ev.bind (ev_const (laws_toRoad.at _ _)) ?_
    | ((with_reducible refine Ev.bind (laws_eqIntS.ev _ _ ?h1_) ?_); (case h1_ => (first | omega | (simp only []; omega) | (simp only [marks_length]; omega))))
    | ((with_reducible refine Ev.bind (laws_markIntS.ev _ ?h1_ _ (by first | omega | (simp only []; omega)) (by first | omega | (simp only []; omega))) ?_); (case h1_ => (first | omega | (simp only []; omega) | (simp only [marks_length]; omega))))
    | ((with_reducible refine Ev.bind (laws_heldIntS.ev _ ?h1_ 1 (by omega) (by omega)) ?_); (case h1_ => (first | omega | (simp only []; omega) | (simp only [marks_length]; omega))))
    | ((with_reducible refine ev_pos ?h1_ ?_); (case h1_ => (first | rfl | assumption | (simp; done))))
    | ((with_reducible refine ev_neg ?h1_ ?_); (case h1_ => (first | assumption | (simp; done) | (first | omega | (simp only []; omega) | (simp only [marks_length]; omega)) | (simp; omega))))
    | (with_reducible refine Ev.step (g := fun k => laws_FnExactNeighborsOn.j0 k _ _ _ _ _ _ _) (fun k => by rw [laws_FnExactNeighborsOn.j0]) ?_)
    | (with_reducible refine Ev.step (g := fun k => laws_FnExactNeighborsOn.j1 k _ _ _) (fun k => by rw [laws_FnExactNeighborsOn.j1]) ?_)
    )

end Go.Proofs.Ytdinmmnmjiofbaa.Pure
